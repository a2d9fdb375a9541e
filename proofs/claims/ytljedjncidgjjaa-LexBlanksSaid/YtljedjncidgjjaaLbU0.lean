/- Contracts of functions that the law LexBlanks reaches, part 0. -/
import Derived.Test.YtljedjncidgjjaaLbc
open Go Nm Go.Proofs
namespace LX
set_option linter.unusedSimpArgs false
set_option linter.unusedVariables false
noncomputable def S0 : Nat → List NV → Option NV := addS 8 [] (.bool true) noS
abbrev u8 (c : Nat) : NV := .int .u8 (.lit (c : Int))
def isL (c : Nat) : Bool := decide (97 ≤ c ∧ c ≤ 122)
def isD (c : Nat) : Bool := decide (48 ≤ c ∧ c ≤ 57)
def isI (c : Nat) : Bool := isL c || isD c || decide (c = 95)
def isB (c : Nat) : Bool := decide (c = 32 ∨ c = 9 ∨ c = 10 ∨ c = 13)
theorem letter_p (m : NH) (c : Nat) : Ret Try.prog S0 19 [u8 c] m (.bool (isL c)) m := by
  have h : ∃ v m', Ret Try.prog S0 19 [u8 c] m v m' ∧ v = .bool (isL c) ∧ m' = m := by
    refine WF.ex fun K hK => ?_
    refine WF.of_wpG (fun _ => rfl) nf19_eq (L := [(.e, u8 c)]) rfl ?_
    unfold nf19
    by_cases h1 : 97 ≤ c
    · by_cases h2 : c ≤ 122
      · simp (config := { maxSteps := 1000000 }) (disch := (first | assumption | omega | exact Nm.old_n (by omega) | exact Nm.old_hp (by assumption) | (simp only [List.length_set, List.length_cons, List.length_nil, List.length_append, List.length_map, List.length_replicate] <;> omega))) only [nmS0, nmS1, nmS2, nmS3, nmS4, nmS5, nmS6, nmS7, Nat.testBit, Nat.reduceShiftRight, Nat.reduceAnd, Nat.reduceBNe, cond_true, cond_false, NT.get_leaf, Nat.reduceSub, d_true, d_false, clsOf, beq_self_eq_true, Int.reduceToNat, Nat.reduceAdd, Nat.reduceMul, Nat.reduceEqDiff, decide_true, decide_false, if_true, if_false, ite_true, ite_false, reduceIte, reduceCtorEq, eq_self, true_and, and_true, true_implies]
        exact hK _ _ ⟨by simp [isL, h1, h2], hp_nil m⟩
      · simp (config := { maxSteps := 1000000 }) (disch := (first | assumption | omega | exact Nm.old_n (by omega) | exact Nm.old_hp (by assumption) | (simp only [List.length_set, List.length_cons, List.length_nil, List.length_append, List.length_map, List.length_replicate] <;> omega))) only [nmS0, nmS1, nmS2, nmS3, nmS4, nmS5, nmS6, nmS7, Nat.testBit, Nat.reduceShiftRight, Nat.reduceAnd, Nat.reduceBNe, cond_true, cond_false, NT.get_leaf, Nat.reduceSub, d_true, d_false, clsOf, beq_self_eq_true, Int.reduceToNat, Nat.reduceAdd, Nat.reduceMul, Nat.reduceEqDiff, decide_true, decide_false, if_true, if_false, ite_true, ite_false, reduceIte, reduceCtorEq, eq_self, true_and, and_true, true_implies]
        exact hK _ _ ⟨by simp [isL, h2], hp_nil m⟩
    · simp (config := { maxSteps := 1000000 }) (disch := (first | assumption | omega | exact Nm.old_n (by omega) | exact Nm.old_hp (by assumption) | (simp only [List.length_set, List.length_cons, List.length_nil, List.length_append, List.length_map, List.length_replicate] <;> omega))) only [nmS0, nmS1, nmS2, nmS3, nmS4, nmS5, nmS6, nmS7, Nat.testBit, Nat.reduceShiftRight, Nat.reduceAnd, Nat.reduceBNe, cond_true, cond_false, NT.get_leaf, Nat.reduceSub, d_true, d_false, clsOf, beq_self_eq_true, Int.reduceToNat, Nat.reduceAdd, Nat.reduceMul, Nat.reduceEqDiff, decide_true, decide_false, if_true, if_false, ite_true, ite_false, reduceIte, reduceCtorEq, eq_self, true_and, and_true, true_implies]
      exact hK _ _ ⟨by simp [isL, h1], hp_nil m⟩
  obtain ⟨v, m', h, rfl, rfl⟩ := h
  exact h
theorem digit_p (m : NH) (c : Nat) : Ret Try.prog S0 33 [u8 c] m (.bool (isD c)) m := by
  have h : ∃ v m', Ret Try.prog S0 33 [u8 c] m v m' ∧ v = .bool (isD c) ∧ m' = m := by
    refine WF.ex fun K hK => ?_
    refine WF.of_wpG (fun _ => rfl) nf33_eq (L := [(.e, u8 c)]) rfl ?_
    unfold nf33
    by_cases h1 : 48 ≤ c
    · by_cases h2 : c ≤ 57
      · simp (config := { maxSteps := 1000000 }) (disch := (first | assumption | omega | exact Nm.old_n (by omega) | exact Nm.old_hp (by assumption) | (simp only [List.length_set, List.length_cons, List.length_nil, List.length_append, List.length_map, List.length_replicate] <;> omega))) only [nmS0, nmS1, nmS2, nmS3, nmS4, nmS5, nmS6, nmS7, Nat.testBit, Nat.reduceShiftRight, Nat.reduceAnd, Nat.reduceBNe, cond_true, cond_false, NT.get_leaf, Nat.reduceSub, d_true, d_false, clsOf, beq_self_eq_true, Int.reduceToNat, Nat.reduceAdd, Nat.reduceMul, Nat.reduceEqDiff, decide_true, decide_false, if_true, if_false, ite_true, ite_false, reduceIte, reduceCtorEq, eq_self, true_and, and_true, true_implies]
        exact hK _ _ ⟨by simp [isD, h1, h2], hp_nil m⟩
      · simp (config := { maxSteps := 1000000 }) (disch := (first | assumption | omega | exact Nm.old_n (by omega) | exact Nm.old_hp (by assumption) | (simp only [List.length_set, List.length_cons, List.length_nil, List.length_append, List.length_map, List.length_replicate] <;> omega))) only [nmS0, nmS1, nmS2, nmS3, nmS4, nmS5, nmS6, nmS7, Nat.testBit, Nat.reduceShiftRight, Nat.reduceAnd, Nat.reduceBNe, cond_true, cond_false, NT.get_leaf, Nat.reduceSub, d_true, d_false, clsOf, beq_self_eq_true, Int.reduceToNat, Nat.reduceAdd, Nat.reduceMul, Nat.reduceEqDiff, decide_true, decide_false, if_true, if_false, ite_true, ite_false, reduceIte, reduceCtorEq, eq_self, true_and, and_true, true_implies]
        exact hK _ _ ⟨by simp [isD, h2], hp_nil m⟩
    · simp (config := { maxSteps := 1000000 }) (disch := (first | assumption | omega | exact Nm.old_n (by omega) | exact Nm.old_hp (by assumption) | (simp only [List.length_set, List.length_cons, List.length_nil, List.length_append, List.length_map, List.length_replicate] <;> omega))) only [nmS0, nmS1, nmS2, nmS3, nmS4, nmS5, nmS6, nmS7, Nat.testBit, Nat.reduceShiftRight, Nat.reduceAnd, Nat.reduceBNe, cond_true, cond_false, NT.get_leaf, Nat.reduceSub, d_true, d_false, clsOf, beq_self_eq_true, Int.reduceToNat, Nat.reduceAdd, Nat.reduceMul, Nat.reduceEqDiff, decide_true, decide_false, if_true, if_false, ite_true, ite_false, reduceIte, reduceCtorEq, eq_self, true_and, and_true, true_implies]
      exact hK _ _ ⟨by simp [isD, h1], hp_nil m⟩
  obtain ⟨v, m', h, rfl, rfl⟩ := h
  exact h
theorem letter_r (m : NH) (c : Nat) : Ret Try.prog S0 25 [u8 c] m (.bool (isL c)) m := by
  have h : ∃ v m', Ret Try.prog S0 25 [u8 c] m v m' ∧ v = .bool (isL c) ∧ m' = m := by
    refine WF.ex fun K hK => ?_
    refine WF.of_wpG (fun _ => rfl) nf25_eq (L := [(.e, u8 c)]) rfl ?_
    unfold nf25
    by_cases h1 : 97 ≤ c
    · by_cases h2 : c ≤ 122
      · simp (config := { maxSteps := 1000000 }) (disch := (first | assumption | omega | exact Nm.old_n (by omega) | exact Nm.old_hp (by assumption) | (simp only [List.length_set, List.length_cons, List.length_nil, List.length_append, List.length_map, List.length_replicate] <;> omega))) only [nmS0, nmS1, nmS2, nmS3, nmS4, nmS5, nmS6, nmS7, Nat.testBit, Nat.reduceShiftRight, Nat.reduceAnd, Nat.reduceBNe, cond_true, cond_false, NT.get_leaf, Nat.reduceSub, d_true, d_false, clsOf, beq_self_eq_true, Int.reduceToNat, Nat.reduceAdd, Nat.reduceMul, Nat.reduceEqDiff, decide_true, decide_false, if_true, if_false, ite_true, ite_false, reduceIte, reduceCtorEq, eq_self, true_and, and_true, true_implies]
        exact hK _ _ ⟨by simp [isL, h1, h2], hp_nil m⟩
      · simp (config := { maxSteps := 1000000 }) (disch := (first | assumption | omega | exact Nm.old_n (by omega) | exact Nm.old_hp (by assumption) | (simp only [List.length_set, List.length_cons, List.length_nil, List.length_append, List.length_map, List.length_replicate] <;> omega))) only [nmS0, nmS1, nmS2, nmS3, nmS4, nmS5, nmS6, nmS7, Nat.testBit, Nat.reduceShiftRight, Nat.reduceAnd, Nat.reduceBNe, cond_true, cond_false, NT.get_leaf, Nat.reduceSub, d_true, d_false, clsOf, beq_self_eq_true, Int.reduceToNat, Nat.reduceAdd, Nat.reduceMul, Nat.reduceEqDiff, decide_true, decide_false, if_true, if_false, ite_true, ite_false, reduceIte, reduceCtorEq, eq_self, true_and, and_true, true_implies]
        exact hK _ _ ⟨by simp [isL, h2], hp_nil m⟩
    · simp (config := { maxSteps := 1000000 }) (disch := (first | assumption | omega | exact Nm.old_n (by omega) | exact Nm.old_hp (by assumption) | (simp only [List.length_set, List.length_cons, List.length_nil, List.length_append, List.length_map, List.length_replicate] <;> omega))) only [nmS0, nmS1, nmS2, nmS3, nmS4, nmS5, nmS6, nmS7, Nat.testBit, Nat.reduceShiftRight, Nat.reduceAnd, Nat.reduceBNe, cond_true, cond_false, NT.get_leaf, Nat.reduceSub, d_true, d_false, clsOf, beq_self_eq_true, Int.reduceToNat, Nat.reduceAdd, Nat.reduceMul, Nat.reduceEqDiff, decide_true, decide_false, if_true, if_false, ite_true, ite_false, reduceIte, reduceCtorEq, eq_self, true_and, and_true, true_implies]
      exact hK _ _ ⟨by simp [isL, h1], hp_nil m⟩
  obtain ⟨v, m', h, rfl, rfl⟩ := h
  exact h
theorem digit_r (m : NH) (c : Nat) : Ret Try.prog S0 31 [u8 c] m (.bool (isD c)) m := by
  have h : ∃ v m', Ret Try.prog S0 31 [u8 c] m v m' ∧ v = .bool (isD c) ∧ m' = m := by
    refine WF.ex fun K hK => ?_
    refine WF.of_wpG (fun _ => rfl) nf31_eq (L := [(.e, u8 c)]) rfl ?_
    unfold nf31
    by_cases h1 : 48 ≤ c
    · by_cases h2 : c ≤ 57
      · simp (config := { maxSteps := 1000000 }) (disch := (first | assumption | omega | exact Nm.old_n (by omega) | exact Nm.old_hp (by assumption) | (simp only [List.length_set, List.length_cons, List.length_nil, List.length_append, List.length_map, List.length_replicate] <;> omega))) only [nmS0, nmS1, nmS2, nmS3, nmS4, nmS5, nmS6, nmS7, Nat.testBit, Nat.reduceShiftRight, Nat.reduceAnd, Nat.reduceBNe, cond_true, cond_false, NT.get_leaf, Nat.reduceSub, d_true, d_false, clsOf, beq_self_eq_true, Int.reduceToNat, Nat.reduceAdd, Nat.reduceMul, Nat.reduceEqDiff, decide_true, decide_false, if_true, if_false, ite_true, ite_false, reduceIte, reduceCtorEq, eq_self, true_and, and_true, true_implies]
        exact hK _ _ ⟨by simp [isD, h1, h2], hp_nil m⟩
      · simp (config := { maxSteps := 1000000 }) (disch := (first | assumption | omega | exact Nm.old_n (by omega) | exact Nm.old_hp (by assumption) | (simp only [List.length_set, List.length_cons, List.length_nil, List.length_append, List.length_map, List.length_replicate] <;> omega))) only [nmS0, nmS1, nmS2, nmS3, nmS4, nmS5, nmS6, nmS7, Nat.testBit, Nat.reduceShiftRight, Nat.reduceAnd, Nat.reduceBNe, cond_true, cond_false, NT.get_leaf, Nat.reduceSub, d_true, d_false, clsOf, beq_self_eq_true, Int.reduceToNat, Nat.reduceAdd, Nat.reduceMul, Nat.reduceEqDiff, decide_true, decide_false, if_true, if_false, ite_true, ite_false, reduceIte, reduceCtorEq, eq_self, true_and, and_true, true_implies]
        exact hK _ _ ⟨by simp [isD, h2], hp_nil m⟩
    · simp (config := { maxSteps := 1000000 }) (disch := (first | assumption | omega | exact Nm.old_n (by omega) | exact Nm.old_hp (by assumption) | (simp only [List.length_set, List.length_cons, List.length_nil, List.length_append, List.length_map, List.length_replicate] <;> omega))) only [nmS0, nmS1, nmS2, nmS3, nmS4, nmS5, nmS6, nmS7, Nat.testBit, Nat.reduceShiftRight, Nat.reduceAnd, Nat.reduceBNe, cond_true, cond_false, NT.get_leaf, Nat.reduceSub, d_true, d_false, clsOf, beq_self_eq_true, Int.reduceToNat, Nat.reduceAdd, Nat.reduceMul, Nat.reduceEqDiff, decide_true, decide_false, if_true, if_false, ite_true, ite_false, reduceIte, reduceCtorEq, eq_self, true_and, and_true, true_implies]
      exact hK _ _ ⟨by simp [isD, h1], hp_nil m⟩
  obtain ⟨v, m', h, rfl, rfl⟩ := h
  exact h
theorem inside_p (m : NH) (c : Nat) : Ret Try.prog S0 23 [u8 c] m (.bool (isI c)) m := by
  have h : ∃ v m', Ret Try.prog S0 23 [u8 c] m v m' ∧ v = .bool (isI c) ∧ m' = m := by
    refine WF.ex fun K hK => ?_
    refine WF.of_wpG (fun _ => rfl) nf23_eq (L := [(.e, u8 c)]) rfl ?_
    unfold nf23
    have a1 := letter_p m c
    have a2 := digit_p m c
    cases h1 : isL c with
    | true =>
      rw [h1] at a1
      simp (config := { maxSteps := 1000000 }) (disch := (first | assumption | omega | exact Nm.old_n (by omega) | exact Nm.old_hp (by assumption) | (simp only [List.length_set, List.length_cons, List.length_nil, List.length_append, List.length_map, List.length_replicate] <;> omega))) only [nmS0, nmS1, nmS2, nmS3, nmS4, nmS5, nmS6, nmS7, Nat.testBit, Nat.reduceShiftRight, Nat.reduceAnd, Nat.reduceBNe, cond_true, cond_false, NT.get_leaf, Nat.reduceSub, d_true, d_false, clsOf, beq_self_eq_true, Int.reduceToNat, Nat.reduceAdd, Nat.reduceMul, Nat.reduceEqDiff, decide_true, decide_false, if_true, if_false, ite_true, ite_false, reduceIte, reduceCtorEq, eq_self, true_and, and_true, true_implies, hp_nil, a1.wf']
      exact hK _ _ ⟨by simp [isI, h1], rfl⟩
    | false =>
      rw [h1] at a1
      cases h2 : isD c with
      | true =>
        rw [h2] at a2
        simp (config := { maxSteps := 1000000 }) (disch := (first | assumption | omega | exact Nm.old_n (by omega) | exact Nm.old_hp (by assumption) | (simp only [List.length_set, List.length_cons, List.length_nil, List.length_append, List.length_map, List.length_replicate] <;> omega))) only [nmS0, nmS1, nmS2, nmS3, nmS4, nmS5, nmS6, nmS7, Nat.testBit, Nat.reduceShiftRight, Nat.reduceAnd, Nat.reduceBNe, cond_true, cond_false, NT.get_leaf, Nat.reduceSub, d_true, d_false, clsOf, beq_self_eq_true, Int.reduceToNat, Nat.reduceAdd, Nat.reduceMul, Nat.reduceEqDiff, decide_true, decide_false, if_true, if_false, ite_true, ite_false, reduceIte, reduceCtorEq, eq_self, true_and, and_true, true_implies, hp_nil, a1.wf', a2.wf']
        exact hK _ _ ⟨by simp [isI, h2], rfl⟩
      | false =>
        rw [h2] at a2
        by_cases h3 : c = 95
        · simp (config := { maxSteps := 1000000 }) (disch := (first | assumption | omega | exact Nm.old_n (by omega) | exact Nm.old_hp (by assumption) | (simp only [List.length_set, List.length_cons, List.length_nil, List.length_append, List.length_map, List.length_replicate] <;> omega))) only [nmS0, nmS1, nmS2, nmS3, nmS4, nmS5, nmS6, nmS7, Nat.testBit, Nat.reduceShiftRight, Nat.reduceAnd, Nat.reduceBNe, cond_true, cond_false, NT.get_leaf, Nat.reduceSub, d_true, d_false, clsOf, beq_self_eq_true, Int.reduceToNat, Nat.reduceAdd, Nat.reduceMul, Nat.reduceEqDiff, decide_true, decide_false, if_true, if_false, ite_true, ite_false, reduceIte, reduceCtorEq, eq_self, true_and, and_true, true_implies, hp_nil, a1.wf', a2.wf']
          exact hK _ _ ⟨by simp [isI, h3], rfl⟩
        · simp (config := { maxSteps := 1000000 }) (disch := (first | assumption | omega | exact Nm.old_n (by omega) | exact Nm.old_hp (by assumption) | (simp only [List.length_set, List.length_cons, List.length_nil, List.length_append, List.length_map, List.length_replicate] <;> omega))) only [nmS0, nmS1, nmS2, nmS3, nmS4, nmS5, nmS6, nmS7, Nat.testBit, Nat.reduceShiftRight, Nat.reduceAnd, Nat.reduceBNe, cond_true, cond_false, NT.get_leaf, Nat.reduceSub, d_true, d_false, clsOf, beq_self_eq_true, Int.reduceToNat, Nat.reduceAdd, Nat.reduceMul, Nat.reduceEqDiff, decide_true, decide_false, if_true, if_false, ite_true, ite_false, reduceIte, reduceCtorEq, eq_self, true_and, and_true, true_implies, hp_nil, a1.wf', a2.wf']
          exact hK _ _ ⟨by simp [isI, h1, h2, h3], rfl⟩
  obtain ⟨v, m', h, rfl, rfl⟩ := h
  exact h
theorem inside_r (m : NH) (c : Nat) : Ret Try.prog S0 24 [u8 c] m (.bool (isI c)) m := by
  have h : ∃ v m', Ret Try.prog S0 24 [u8 c] m v m' ∧ v = .bool (isI c) ∧ m' = m := by
    refine WF.ex fun K hK => ?_
    refine WF.of_wpG (fun _ => rfl) nf24_eq (L := [(.e, u8 c)]) rfl ?_
    unfold nf24
    have a1 := letter_r m c
    have a2 := digit_r m c
    cases h1 : isL c with
    | true =>
      rw [h1] at a1
      simp (config := { maxSteps := 1000000 }) (disch := (first | assumption | omega | exact Nm.old_n (by omega) | exact Nm.old_hp (by assumption) | (simp only [List.length_set, List.length_cons, List.length_nil, List.length_append, List.length_map, List.length_replicate] <;> omega))) only [nmS0, nmS1, nmS2, nmS3, nmS4, nmS5, nmS6, nmS7, Nat.testBit, Nat.reduceShiftRight, Nat.reduceAnd, Nat.reduceBNe, cond_true, cond_false, NT.get_leaf, Nat.reduceSub, d_true, d_false, clsOf, beq_self_eq_true, Int.reduceToNat, Nat.reduceAdd, Nat.reduceMul, Nat.reduceEqDiff, decide_true, decide_false, if_true, if_false, ite_true, ite_false, reduceIte, reduceCtorEq, eq_self, true_and, and_true, true_implies, hp_nil, a1.wf']
      exact hK _ _ ⟨by simp [isI, h1], rfl⟩
    | false =>
      rw [h1] at a1
      cases h2 : isD c with
      | true =>
        rw [h2] at a2
        simp (config := { maxSteps := 1000000 }) (disch := (first | assumption | omega | exact Nm.old_n (by omega) | exact Nm.old_hp (by assumption) | (simp only [List.length_set, List.length_cons, List.length_nil, List.length_append, List.length_map, List.length_replicate] <;> omega))) only [nmS0, nmS1, nmS2, nmS3, nmS4, nmS5, nmS6, nmS7, Nat.testBit, Nat.reduceShiftRight, Nat.reduceAnd, Nat.reduceBNe, cond_true, cond_false, NT.get_leaf, Nat.reduceSub, d_true, d_false, clsOf, beq_self_eq_true, Int.reduceToNat, Nat.reduceAdd, Nat.reduceMul, Nat.reduceEqDiff, decide_true, decide_false, if_true, if_false, ite_true, ite_false, reduceIte, reduceCtorEq, eq_self, true_and, and_true, true_implies, hp_nil, a1.wf', a2.wf']
        exact hK _ _ ⟨by simp [isI, h2], rfl⟩
      | false =>
        rw [h2] at a2
        by_cases h3 : c = 95
        · simp (config := { maxSteps := 1000000 }) (disch := (first | assumption | omega | exact Nm.old_n (by omega) | exact Nm.old_hp (by assumption) | (simp only [List.length_set, List.length_cons, List.length_nil, List.length_append, List.length_map, List.length_replicate] <;> omega))) only [nmS0, nmS1, nmS2, nmS3, nmS4, nmS5, nmS6, nmS7, Nat.testBit, Nat.reduceShiftRight, Nat.reduceAnd, Nat.reduceBNe, cond_true, cond_false, NT.get_leaf, Nat.reduceSub, d_true, d_false, clsOf, beq_self_eq_true, Int.reduceToNat, Nat.reduceAdd, Nat.reduceMul, Nat.reduceEqDiff, decide_true, decide_false, if_true, if_false, ite_true, ite_false, reduceIte, reduceCtorEq, eq_self, true_and, and_true, true_implies, hp_nil, a1.wf', a2.wf']
          exact hK _ _ ⟨by simp [isI, h3], rfl⟩
        · simp (config := { maxSteps := 1000000 }) (disch := (first | assumption | omega | exact Nm.old_n (by omega) | exact Nm.old_hp (by assumption) | (simp only [List.length_set, List.length_cons, List.length_nil, List.length_append, List.length_map, List.length_replicate] <;> omega))) only [nmS0, nmS1, nmS2, nmS3, nmS4, nmS5, nmS6, nmS7, Nat.testBit, Nat.reduceShiftRight, Nat.reduceAnd, Nat.reduceBNe, cond_true, cond_false, NT.get_leaf, Nat.reduceSub, d_true, d_false, clsOf, beq_self_eq_true, Int.reduceToNat, Nat.reduceAdd, Nat.reduceMul, Nat.reduceEqDiff, decide_true, decide_false, if_true, if_false, ite_true, ite_false, reduceIte, reduceCtorEq, eq_self, true_and, and_true, true_implies, hp_nil, a1.wf', a2.wf']
          exact hK _ _ ⟨by simp [isI, h1, h2, h3], rfl⟩
  obtain ⟨v, m', h, rfl, rfl⟩ := h
  exact h
theorem blank_p (m : NH) (c : Nat) : Ret Try.prog S0 34 [u8 c] m (.bool (isB c)) m := by
  have h : ∃ v m', Ret Try.prog S0 34 [u8 c] m v m' ∧ v = .bool (isB c) ∧ m' = m := by
    refine WF.ex fun K hK => ?_
    refine WF.of_wpG (fun _ => rfl) nf34_eq (L := [(.e, u8 c)]) rfl ?_
    unfold nf34
    by_cases h1 : c = 32
    · simp (config := { maxSteps := 1000000 }) (disch := (first | assumption | omega | exact Nm.old_n (by omega) | exact Nm.old_hp (by assumption) | (simp only [List.length_set, List.length_cons, List.length_nil, List.length_append, List.length_map, List.length_replicate] <;> omega))) only [nmS0, nmS1, nmS2, nmS3, nmS4, nmS5, nmS6, nmS7, Nat.testBit, Nat.reduceShiftRight, Nat.reduceAnd, Nat.reduceBNe, cond_true, cond_false, NT.get_leaf, Nat.reduceSub, d_true, d_false, clsOf, beq_self_eq_true, Int.reduceToNat, Nat.reduceAdd, Nat.reduceMul, Nat.reduceEqDiff, decide_true, decide_false, if_true, if_false, ite_true, ite_false, reduceIte, reduceCtorEq, eq_self, true_and, and_true, true_implies]; exact hK _ _ ⟨by simp [isB, h1], hp_nil m⟩
    · by_cases h2 : c = 9
      · simp (config := { maxSteps := 1000000 }) (disch := (first | assumption | omega | exact Nm.old_n (by omega) | exact Nm.old_hp (by assumption) | (simp only [List.length_set, List.length_cons, List.length_nil, List.length_append, List.length_map, List.length_replicate] <;> omega))) only [nmS0, nmS1, nmS2, nmS3, nmS4, nmS5, nmS6, nmS7, Nat.testBit, Nat.reduceShiftRight, Nat.reduceAnd, Nat.reduceBNe, cond_true, cond_false, NT.get_leaf, Nat.reduceSub, d_true, d_false, clsOf, beq_self_eq_true, Int.reduceToNat, Nat.reduceAdd, Nat.reduceMul, Nat.reduceEqDiff, decide_true, decide_false, if_true, if_false, ite_true, ite_false, reduceIte, reduceCtorEq, eq_self, true_and, and_true, true_implies]; exact hK _ _ ⟨by simp [isB, h2], hp_nil m⟩
      · by_cases h3 : c = 10
        · simp (config := { maxSteps := 1000000 }) (disch := (first | assumption | omega | exact Nm.old_n (by omega) | exact Nm.old_hp (by assumption) | (simp only [List.length_set, List.length_cons, List.length_nil, List.length_append, List.length_map, List.length_replicate] <;> omega))) only [nmS0, nmS1, nmS2, nmS3, nmS4, nmS5, nmS6, nmS7, Nat.testBit, Nat.reduceShiftRight, Nat.reduceAnd, Nat.reduceBNe, cond_true, cond_false, NT.get_leaf, Nat.reduceSub, d_true, d_false, clsOf, beq_self_eq_true, Int.reduceToNat, Nat.reduceAdd, Nat.reduceMul, Nat.reduceEqDiff, decide_true, decide_false, if_true, if_false, ite_true, ite_false, reduceIte, reduceCtorEq, eq_self, true_and, and_true, true_implies]; exact hK _ _ ⟨by simp [isB, h3], hp_nil m⟩
        · by_cases h4 : c = 13
          · simp (config := { maxSteps := 1000000 }) (disch := (first | assumption | omega | exact Nm.old_n (by omega) | exact Nm.old_hp (by assumption) | (simp only [List.length_set, List.length_cons, List.length_nil, List.length_append, List.length_map, List.length_replicate] <;> omega))) only [nmS0, nmS1, nmS2, nmS3, nmS4, nmS5, nmS6, nmS7, Nat.testBit, Nat.reduceShiftRight, Nat.reduceAnd, Nat.reduceBNe, cond_true, cond_false, NT.get_leaf, Nat.reduceSub, d_true, d_false, clsOf, beq_self_eq_true, Int.reduceToNat, Nat.reduceAdd, Nat.reduceMul, Nat.reduceEqDiff, decide_true, decide_false, if_true, if_false, ite_true, ite_false, reduceIte, reduceCtorEq, eq_self, true_and, and_true, true_implies]; exact hK _ _ ⟨by simp [isB, h4], hp_nil m⟩
          · simp (config := { maxSteps := 1000000 }) (disch := (first | assumption | omega | exact Nm.old_n (by omega) | exact Nm.old_hp (by assumption) | (simp only [List.length_set, List.length_cons, List.length_nil, List.length_append, List.length_map, List.length_replicate] <;> omega))) only [nmS0, nmS1, nmS2, nmS3, nmS4, nmS5, nmS6, nmS7, Nat.testBit, Nat.reduceShiftRight, Nat.reduceAnd, Nat.reduceBNe, cond_true, cond_false, NT.get_leaf, Nat.reduceSub, d_true, d_false, clsOf, beq_self_eq_true, Int.reduceToNat, Nat.reduceAdd, Nat.reduceMul, Nat.reduceEqDiff, decide_true, decide_false, if_true, if_false, ite_true, ite_false, reduceIte, reduceCtorEq, eq_self, true_and, and_true, true_implies]; exact hK _ _ ⟨by simp [isB, h1, h2, h3, h4], hp_nil m⟩
  obtain ⟨v, m', h, rfl, rfl⟩ := h
  exact h
theorem notnl_p (m : NH) (c : Nat) : Ret Try.prog S0 35 [u8 c] m (.bool (decide (c ≠ 10))) m := by
  have h : ∃ v m', Ret Try.prog S0 35 [u8 c] m v m' ∧ v = .bool (decide (c ≠ 10)) ∧ m' = m := by
    refine WF.ex fun K hK => ?_
    refine WF.of_wpG (fun _ => rfl) nf35_eq (L := [(.e, u8 c)]) rfl ?_
    unfold nf35
    by_cases h1 : c = 10
    · simp (config := { maxSteps := 1000000 }) (disch := (first | assumption | omega | exact Nm.old_n (by omega) | exact Nm.old_hp (by assumption) | (simp only [List.length_set, List.length_cons, List.length_nil, List.length_append, List.length_map, List.length_replicate] <;> omega))) only [nmS0, nmS1, nmS2, nmS3, nmS4, nmS5, nmS6, nmS7, Nat.testBit, Nat.reduceShiftRight, Nat.reduceAnd, Nat.reduceBNe, cond_true, cond_false, NT.get_leaf, Nat.reduceSub, d_true, d_false, clsOf, beq_self_eq_true, Int.reduceToNat, Nat.reduceAdd, Nat.reduceMul, Nat.reduceEqDiff, decide_true, decide_false, if_true, if_false, ite_true, ite_false, reduceIte, reduceCtorEq, eq_self, true_and, and_true, true_implies]; exact hK _ _ ⟨by simp [h1], hp_nil m⟩
    · simp (config := { maxSteps := 1000000 }) (disch := (first | assumption | omega | exact Nm.old_n (by omega) | exact Nm.old_hp (by assumption) | (simp only [List.length_set, List.length_cons, List.length_nil, List.length_append, List.length_map, List.length_replicate] <;> omega))) only [nmS0, nmS1, nmS2, nmS3, nmS4, nmS5, nmS6, nmS7, Nat.testBit, Nat.reduceShiftRight, Nat.reduceAnd, Nat.reduceBNe, cond_true, cond_false, NT.get_leaf, Nat.reduceSub, d_true, d_false, clsOf, beq_self_eq_true, Int.reduceToNat, Nat.reduceAdd, Nat.reduceMul, Nat.reduceEqDiff, decide_true, decide_false, if_true, if_false, ite_true, ite_false, reduceIte, reduceCtorEq, eq_self, true_and, and_true, true_implies]; exact hK _ _ ⟨by simp [h1], hp_nil m⟩
  obtain ⟨v, m', h, rfl, rfl⟩ := h
  exact h
end LX

open Go Nm Go.Proofs
namespace LX
set_option linter.unusedSimpArgs false
set_option linter.unusedVariables false
/-- the place behind the bytes that are such -/
def rowN (p : Nat → Bool) (s : List Nat) (a : Nat) : Nat := a + ((s.drop a).takeWhile p).length
theorem rowN_yes {p : Nat → Bool} {s : List Nat} {a : Nat} (h : a < s.length) (hp : p s[a] = true) : rowN p s a = rowN p s (a + 1) := by
  unfold rowN
  rw [List.drop_eq_getElem_cons h, List.takeWhile_cons, if_pos hp, List.length_cons]
  omega
theorem rowN_no {p : Nat → Bool} {s : List Nat} {a : Nat} (h : a < s.length) (hp : p s[a] = false) : rowN p s a = a := by
  unfold rowN
  rw [List.drop_eq_getElem_cons h, List.takeWhile_cons, if_neg (by simp [hp])]; rfl
theorem rowN_end {p : Nat → Bool} {s : List Nat} {a : Nat} (h : s.length ≤ a) : rowN p s a = a := by
  unfold rowN
  rw [List.drop_eq_nil_of_le h]; rfl
theorem rowN_ge {p : Nat → Bool} {s : List Nat} {a : Nat} : a ≤ rowN p s a := by unfold rowN; omega
theorem rowN_le {p : Nat → Bool} {s : List Nat} {a : Nat} (h : a ≤ s.length) : rowN p s a ≤ s.length := by
  unfold rowN
  have := (List.takeWhile_sublist (l := s.drop a) p).length_le
  rw [List.length_drop] at this; omega
theorem rowN_in {p : Nat → Bool} {s : List Nat} : ∀ (k a i : Nat), k = s.length - a → a ≤ i → i < rowN p s a → ∃ h : i < s.length, p s[i] = true := by
  intro k
  induction k with
  | zero => intro a i hk h1 h2; rw [rowN_end (by omega)] at h2; omega
  | succ k ih =>
    intro a i hk h1 h2
    have ha : a < s.length := by omega
    cases hp : p s[a] with
    | false => rw [rowN_no ha hp] at h2; omega
    | true =>
      by_cases e : i = a
      · subst e; exact ⟨ha, hp⟩
      · rw [rowN_yes ha hp] at h2; exact ih (a + 1) i (by omega) (by omega) h2
theorem rowN_stop {p : Nat → Bool} {s : List Nat} : ∀ (k a : Nat), k = s.length - a → ∀ h : rowN p s a < s.length, p (s[rowN p s a]) = false := by
  intro k
  induction k with
  | zero => intro a hk h; have := @rowN_ge p s a; omega
  | succ k ih =>
    intro a hk h
    have ha : a < s.length := by omega
    cases hp : p s[a] with
    | false => have e := rowN_no ha hp; simp only [e]; exact hp
    | true => have e := rowN_yes ha hp; simp only [e] at h ⊢; exact ih (a + 1) (by omega) h
theorem row_p {g : Nat} {p : Nat → Bool} (hg : ∀ m c, Ret Try.prog S0 g [u8 c] m (.bool (p c)) m) (m : NH) {s : List Nat} (hs : s.length ≤ 1000000) {a : Nat} (ha : a ≤ s.length) :
    Ret Try.prog S0 22 [.str s, ii a, .fn g []] m (ii (rowN p s a)) m := by
  have h : ∃ v m', Ret Try.prog S0 22 [.str s, ii a, .fn g []] m v m' ∧ v = ii (rowN p s a) ∧ m' = m := by
    refine WF.ex fun K hK => ?_
    refine WF.of_wpG (fun _ => rfl) nf22_eq (L := [(.b .e, .fn g []), (.a .e, ii a), (.e, .str s)]) rfl ?_
    unfold nf22
    simp (config := { maxSteps := 1000000 }) (disch := (first | assumption | omega | exact Nm.old_n (by omega) | exact Nm.old_hp (by assumption) | (simp only [List.length_set, List.length_cons, List.length_nil, List.length_append, List.length_map, List.length_replicate] <;> omega))) only [nmS0, nmS1, nmS2, nmS3, nmS4, nmS5, nmS6, nmS7, Nat.testBit, Nat.reduceShiftRight, Nat.reduceAnd, Nat.reduceBNe, cond_true, cond_false, NT.get_leaf, Nat.reduceSub, d_true, d_false, clsOf, beq_self_eq_true, Int.reduceToNat, Nat.reduceAdd, Nat.reduceMul, Nat.reduceEqDiff, decide_true, decide_false, if_true, if_false, ite_true, ite_false, reduceIte, reduceCtorEq, eq_self, true_and, and_true, true_implies, hp_nil]
    refine W.loop (fun k d => ∃ t i, d = ⟨t, [], none, m⟩ ∧ NT.get D4.e t = some (.str s) ∧ NT.get D4.e.a t = some (ii (i : Nat)) ∧ NT.get D4.e.b t = some (.fn g []) ∧ rowN p s i = rowN p s a ∧ i + k = s.length) ?_ (s.length - a) _ ⟨_, a, rfl, by simp (config := { maxSteps := 1000000 }) (disch := (first | assumption | omega | exact Nm.old_n (by omega) | exact Nm.old_hp (by assumption) | (simp only [List.length_set, List.length_cons, List.length_nil, List.length_append, List.length_map, List.length_replicate] <;> omega))) only [nmS0, nmS1, nmS2, nmS3, nmS4, nmS5, nmS6, nmS7, Nat.testBit, Nat.reduceShiftRight, Nat.reduceAnd, Nat.reduceBNe, cond_true, cond_false, NT.get_leaf, Nat.reduceSub, d_true, d_false, clsOf, beq_self_eq_true, Int.reduceToNat, Nat.reduceAdd, Nat.reduceMul, Nat.reduceEqDiff, decide_true, decide_false, if_true, if_false, ite_true, ite_false, reduceIte, reduceCtorEq, eq_self, true_and, and_true, true_implies], by simp (config := { maxSteps := 1000000 }) (disch := (first | assumption | omega | exact Nm.old_n (by omega) | exact Nm.old_hp (by assumption) | (simp only [List.length_set, List.length_cons, List.length_nil, List.length_append, List.length_map, List.length_replicate] <;> omega))) only [nmS0, nmS1, nmS2, nmS3, nmS4, nmS5, nmS6, nmS7, Nat.testBit, Nat.reduceShiftRight, Nat.reduceAnd, Nat.reduceBNe, cond_true, cond_false, NT.get_leaf, Nat.reduceSub, d_true, d_false, clsOf, beq_self_eq_true, Int.reduceToNat, Nat.reduceAdd, Nat.reduceMul, Nat.reduceEqDiff, decide_true, decide_false, if_true, if_false, ite_true, ite_false, reduceIte, reduceCtorEq, eq_self, true_and, and_true, true_implies], by simp (config := { maxSteps := 1000000 }) (disch := (first | assumption | omega | exact Nm.old_n (by omega) | exact Nm.old_hp (by assumption) | (simp only [List.length_set, List.length_cons, List.length_nil, List.length_append, List.length_map, List.length_replicate] <;> omega))) only [nmS0, nmS1, nmS2, nmS3, nmS4, nmS5, nmS6, nmS7, Nat.testBit, Nat.reduceShiftRight, Nat.reduceAnd, Nat.reduceBNe, cond_true, cond_false, NT.get_leaf, Nat.reduceSub, d_true, d_false, clsOf, beq_self_eq_true, Int.reduceToNat, Nat.reduceAdd, Nat.reduceMul, Nat.reduceEqDiff, decide_true, decide_false, if_true, if_false, ite_true, ite_false, reduceIte, reduceCtorEq, eq_self, true_and, and_true, true_implies], rfl, by omega⟩
    rintro k d ⟨t, i, rfl, g1, g2, g3, hr, hik⟩
    apply wp_sound
    unfold nf22_l1
    change wp _ _ _ _ ⟨puts [] t, [], none, m⟩ _
    by_cases hi : i < s.length
    · have hb : s[i]? = some s[i] := List.getElem?_eq_getElem hi
      have hc := hg m s[i]
      cases hp : p s[i] with
      | true =>
        rw [hp] at hc
        simp (config := { maxSteps := 1000000 }) (disch := (first | assumption | omega | exact Nm.old_n (by omega) | exact Nm.old_hp (by assumption) | (simp only [List.length_set, List.length_cons, List.length_nil, List.length_append, List.length_map, List.length_replicate] <;> omega))) only [nmS0, nmS1, nmS2, nmS3, nmS4, nmS5, nmS6, nmS7, Nat.testBit, Nat.reduceShiftRight, Nat.reduceAnd, Nat.reduceBNe, cond_true, cond_false, NT.get_leaf, Nat.reduceSub, d_true, d_false, clsOf, beq_self_eq_true, Int.reduceToNat, Nat.reduceAdd, Nat.reduceMul, Nat.reduceEqDiff, decide_true, decide_false, if_true, if_false, ite_true, ite_false, reduceIte, reduceCtorEq, eq_self, true_and, and_true, true_implies, g1, g2, g3, hb, hc.wf']
        refine ⟨k - 1, by omega, _, i + 1, rfl, ?_, ?_, ?_, by rw [← hr, rowN_yes hi hp], by omega⟩
        · simp (config := { maxSteps := 1000000 }) (disch := (first | assumption | omega | exact Nm.old_n (by omega) | exact Nm.old_hp (by assumption) | (simp only [List.length_set, List.length_cons, List.length_nil, List.length_append, List.length_map, List.length_replicate] <;> omega))) only [nmS0, nmS1, nmS2, nmS3, nmS4, nmS5, nmS6, nmS7, Nat.testBit, Nat.reduceShiftRight, Nat.reduceAnd, Nat.reduceBNe, cond_true, cond_false, NT.get_leaf, Nat.reduceSub, d_true, d_false, clsOf, beq_self_eq_true, Int.reduceToNat, Nat.reduceAdd, Nat.reduceMul, Nat.reduceEqDiff, decide_true, decide_false, if_true, if_false, ite_true, ite_false, reduceIte, reduceCtorEq, eq_self, true_and, and_true, true_implies, g1]
        · simp (config := { maxSteps := 1000000 }) (disch := (first | assumption | omega | exact Nm.old_n (by omega) | exact Nm.old_hp (by assumption) | (simp only [List.length_set, List.length_cons, List.length_nil, List.length_append, List.length_map, List.length_replicate] <;> omega))) only [nmS0, nmS1, nmS2, nmS3, nmS4, nmS5, nmS6, nmS7, Nat.testBit, Nat.reduceShiftRight, Nat.reduceAnd, Nat.reduceBNe, cond_true, cond_false, NT.get_leaf, Nat.reduceSub, d_true, d_false, clsOf, beq_self_eq_true, Int.reduceToNat, Nat.reduceAdd, Nat.reduceMul, Nat.reduceEqDiff, decide_true, decide_false, if_true, if_false, ite_true, ite_false, reduceIte, reduceCtorEq, eq_self, true_and, and_true, true_implies]; rfl
        · simp (config := { maxSteps := 1000000 }) (disch := (first | assumption | omega | exact Nm.old_n (by omega) | exact Nm.old_hp (by assumption) | (simp only [List.length_set, List.length_cons, List.length_nil, List.length_append, List.length_map, List.length_replicate] <;> omega))) only [nmS0, nmS1, nmS2, nmS3, nmS4, nmS5, nmS6, nmS7, Nat.testBit, Nat.reduceShiftRight, Nat.reduceAnd, Nat.reduceBNe, cond_true, cond_false, NT.get_leaf, Nat.reduceSub, d_true, d_false, clsOf, beq_self_eq_true, Int.reduceToNat, Nat.reduceAdd, Nat.reduceMul, Nat.reduceEqDiff, decide_true, decide_false, if_true, if_false, ite_true, ite_false, reduceIte, reduceCtorEq, eq_self, true_and, and_true, true_implies, g3]
      | false =>
        rw [hp] at hc
        simp (config := { maxSteps := 1000000 }) (disch := (first | assumption | omega | exact Nm.old_n (by omega) | exact Nm.old_hp (by assumption) | (simp only [List.length_set, List.length_cons, List.length_nil, List.length_append, List.length_map, List.length_replicate] <;> omega))) only [nmS0, nmS1, nmS2, nmS3, nmS4, nmS5, nmS6, nmS7, Nat.testBit, Nat.reduceShiftRight, Nat.reduceAnd, Nat.reduceBNe, cond_true, cond_false, NT.get_leaf, Nat.reduceSub, d_true, d_false, clsOf, beq_self_eq_true, Int.reduceToNat, Nat.reduceAdd, Nat.reduceMul, Nat.reduceEqDiff, decide_true, decide_false, if_true, if_false, ite_true, ite_false, reduceIte, reduceCtorEq, eq_self, true_and, and_true, true_implies, g1, g2, g3, hb, hc.wf']
        exact hK _ _ ⟨by rw [← hr, rowN_no hi hp], rfl⟩
    · simp (config := { maxSteps := 1000000 }) (disch := (first | assumption | omega | exact Nm.old_n (by omega) | exact Nm.old_hp (by assumption) | (simp only [List.length_set, List.length_cons, List.length_nil, List.length_append, List.length_map, List.length_replicate] <;> omega))) only [nmS0, nmS1, nmS2, nmS3, nmS4, nmS5, nmS6, nmS7, Nat.testBit, Nat.reduceShiftRight, Nat.reduceAnd, Nat.reduceBNe, cond_true, cond_false, NT.get_leaf, Nat.reduceSub, d_true, d_false, clsOf, beq_self_eq_true, Int.reduceToNat, Nat.reduceAdd, Nat.reduceMul, Nat.reduceEqDiff, decide_true, decide_false, if_true, if_false, ite_true, ite_false, reduceIte, reduceCtorEq, eq_self, true_and, and_true, true_implies, g1, g2, g3]
      exact hK _ _ ⟨by rw [← hr, rowN_end (by omega)], rfl⟩
  obtain ⟨v, m', h, rfl, rfl⟩ := h
  exact h
/-- how many bytes are passed between tokens; within a remark: q -/
def cnt : Bool → List Nat → Nat
  | _, [] => 0
  | false, c :: l => if isB c then 1 + cnt false l else if c = 35 then 1 + cnt true l else 0
  | true, c :: l => if c = 10 then 1 + cnt false l else 1 + cnt true l
def skipN (s : List Nat) (a : Nat) : Nat := a + cnt false (s.drop a)
theorem cnt_le : ∀ (l : List Nat) (q : Bool), cnt q l ≤ l.length := by
  intro l
  induction l with
  | nil => intro q; cases q <;> exact Nat.le_refl 0
  | cons c l ih =>
    intro q
    have h1 := ih false
    have h2 := ih true
    cases q with
    | false =>
      show (if isB c then 1 + cnt false l else if c = 35 then 1 + cnt true l else 0) ≤ l.length + 1
      split
      · omega
      · split <;> omega
    | true =>
      show (if c = 10 then 1 + cnt false l else 1 + cnt true l) ≤ l.length + 1
      split <;> omega
end LX

open Go Nm Go.Proofs
namespace LX
set_option linter.unusedSimpArgs false
set_option linter.unusedVariables false
def skipR (s : List Nat) (a : Nat) : Nat := a + cnt true (s.drop a)
theorem skipN_step {s : List Nat} {a : Nat} (h : a < s.length) : skipN s a = if isB s[a] then skipN s (a + 1) else if s[a] = 35 then skipR s (a + 1) else a := by
  unfold skipN skipR
  rw [List.drop_eq_getElem_cons h]
  show a + (if isB s[a] then 1 + cnt false (s.drop (a + 1)) else if s[a] = 35 then 1 + cnt true (s.drop (a + 1)) else 0) = _
  split
  · omega
  · split <;> omega
theorem skipR_step {s : List Nat} {a : Nat} (h : a < s.length) : skipR s a = if s[a] = 10 then skipN s (a + 1) else skipR s (a + 1) := by
  unfold skipN skipR
  rw [List.drop_eq_getElem_cons h]
  show a + (if s[a] = 10 then 1 + cnt false (s.drop (a + 1)) else 1 + cnt true (s.drop (a + 1))) = _
  split <;> omega
theorem skipN_end {s : List Nat} {a : Nat} (h : s.length ≤ a) : skipN s a = a := by
  unfold skipN; rw [List.drop_eq_nil_of_le h]; rfl
theorem skipR_end {s : List Nat} {a : Nat} (h : s.length ≤ a) : skipR s a = a := by
  unfold skipR; rw [List.drop_eq_nil_of_le h]; rfl
theorem skipN_le {s : List Nat} {a : Nat} (h : a ≤ s.length) : skipN s a ≤ s.length := by
  have := cnt_le (s.drop a) false
  rw [List.length_drop] at this
  unfold skipN; omega
theorem skipN_ge {s : List Nat} {a : Nat} : a ≤ skipN s a := by unfold skipN; omega
theorem skip_row (s : List Nat) : ∀ (k a : Nat), k = s.length - a → skipN s a = skipN s (rowN isB s a) := by
  intro k
  induction k with
  | zero => intro a hk; rw [rowN_end (by omega)]
  | succ k ih =>
    intro a hk
    have ha : a < s.length := by omega
    cases hp : isB s[a] with
    | true => rw [skipN_step ha, if_pos hp, rowN_yes ha hp]; exact ih (a + 1) (by omega)
    | false => rw [rowN_no ha hp]
theorem rem_row (s : List Nat) : ∀ (k a : Nat), k = s.length - a → skipR s a = skipN s (rowN (fun c => decide (c ≠ 10)) s a) := by
  intro k
  induction k with
  | zero => intro a hk; rw [rowN_end (by omega), skipR_end (by omega), skipN_end (by omega)]
  | succ k ih =>
    intro a hk
    have ha : a < s.length := by omega
    by_cases h : s[a] = 10
    · rw [rowN_no ha (by simp [h]), skipR_step ha, if_pos h, skipN_step ha, if_pos (by simp [isB, h])]
    · rw [rowN_yes ha (by simp [h]), skipR_step ha, if_neg h]; exact ih (a + 1) (by omega)
theorem skip_sharp {s : List Nat} {a : Nat} (h : a < s.length) (hs : s[a] = 35) : skipN s a = skipN s (rowN (fun c => decide (c ≠ 10)) s a) := by
  rw [rowN_yes h (by simp [hs]), skipN_step h, if_neg (by simp [isB, hs]), if_pos hs, rem_row s _ _ rfl]
theorem skip_stop {s : List Nat} {a : Nat} (h : a < s.length) (hb : isB s[a] = false) (hs : s[a] ≠ 35) : skipN s a = a := by
  rw [skipN_step h, if_neg (by simp [hb]), if_neg hs]
theorem skip_p (m : NH) {s : List Nat} (hs : s.length ≤ 1000000) {a : Nat} (ha : a ≤ s.length) : Ret Try.prog S0 29 [.str s, ii a] m (ii (skipN s a)) m := by
  have h : ∃ v m', Ret Try.prog S0 29 [.str s, ii a] m v m' ∧ v = ii (skipN s a) ∧ m' = m := by
    refine WF.ex fun K hK => ?_
    refine WF.of_wpG (fun _ => rfl) nf29_eq (L := [(.a .e, ii a), (.e, .str s)]) rfl ?_
    unfold nf29
    simp (config := { maxSteps := 1000000 }) (disch := (first | assumption | omega | exact Nm.old_n (by omega) | exact Nm.old_hp (by assumption) | (simp only [List.length_set, List.length_cons, List.length_nil, List.length_append, List.length_map, List.length_replicate] <;> omega))) only [nmS0, nmS1, nmS2, nmS3, nmS4, nmS5, nmS6, nmS7, Nat.testBit, Nat.reduceShiftRight, Nat.reduceAnd, Nat.reduceBNe, cond_true, cond_false, NT.get_leaf, Nat.reduceSub, d_true, d_false, clsOf, beq_self_eq_true, Int.reduceToNat, Nat.reduceAdd, Nat.reduceMul, Nat.reduceEqDiff, decide_true, decide_false, if_true, if_false, ite_true, ite_false, reduceIte, reduceCtorEq, eq_self, true_and, and_true, true_implies, hp_nil]
    refine W.loop (fun k d => ∃ t i, d = ⟨t, [], none, m⟩ ∧ NT.get D4.e t = some (.str s) ∧ NT.get D4.e.a t = some (ii (i : Nat)) ∧ skipN s i = skipN s a ∧ i + k = s.length) ?_ (s.length - a) _ ⟨_, a, rfl, by simp (config := { maxSteps := 1000000 }) (disch := (first | assumption | omega | exact Nm.old_n (by omega) | exact Nm.old_hp (by assumption) | (simp only [List.length_set, List.length_cons, List.length_nil, List.length_append, List.length_map, List.length_replicate] <;> omega))) only [nmS0, nmS1, nmS2, nmS3, nmS4, nmS5, nmS6, nmS7, Nat.testBit, Nat.reduceShiftRight, Nat.reduceAnd, Nat.reduceBNe, cond_true, cond_false, NT.get_leaf, Nat.reduceSub, d_true, d_false, clsOf, beq_self_eq_true, Int.reduceToNat, Nat.reduceAdd, Nat.reduceMul, Nat.reduceEqDiff, decide_true, decide_false, if_true, if_false, ite_true, ite_false, reduceIte, reduceCtorEq, eq_self, true_and, and_true, true_implies], by simp (config := { maxSteps := 1000000 }) (disch := (first | assumption | omega | exact Nm.old_n (by omega) | exact Nm.old_hp (by assumption) | (simp only [List.length_set, List.length_cons, List.length_nil, List.length_append, List.length_map, List.length_replicate] <;> omega))) only [nmS0, nmS1, nmS2, nmS3, nmS4, nmS5, nmS6, nmS7, Nat.testBit, Nat.reduceShiftRight, Nat.reduceAnd, Nat.reduceBNe, cond_true, cond_false, NT.get_leaf, Nat.reduceSub, d_true, d_false, clsOf, beq_self_eq_true, Int.reduceToNat, Nat.reduceAdd, Nat.reduceMul, Nat.reduceEqDiff, decide_true, decide_false, if_true, if_false, ite_true, ite_false, reduceIte, reduceCtorEq, eq_self, true_and, and_true, true_implies], rfl, by omega⟩
    rintro k d ⟨t, i, rfl, g1, g2, hr, hik⟩
    apply wp_sound
    unfold nf29_l1
    change wp _ _ _ _ ⟨puts [] t, [], none, m⟩ _
    have r1 := row_p blank_p m hs (a := i) (by omega)
    have hle := rowN_le (p := isB) (s := s) (a := i) (by omega)
    have hge := @rowN_ge isB s i
    rw [skip_row s _ _ rfl] at hr
    generalize hj : rowN isB s i = j at *
    by_cases hjl : j < s.length
    · have hb : s[j]? = some s[j] := List.getElem?_eq_getElem hjl
      have hnb : isB s[j] = false := by
        have := rowN_stop (p := isB) (s := s) _ i rfl (by omega)
        simp only [hj] at this; exact this
      by_cases h35 : s[j] = 35
      · have r2 := row_p notnl_p m hs (a := j) (by omega)
        have hle2 := rowN_le (p := fun c => decide (c ≠ 10)) (s := s) (a := j) (by omega)
        have hlt : j + 1 ≤ rowN (fun c => decide (c ≠ 10)) s j := by rw [rowN_yes hjl (by simp [h35])]; exact rowN_ge
        rw [skip_sharp hjl h35] at hr
        generalize rowN (fun c => decide (c ≠ 10)) s j = j2 at *
        simp (config := { maxSteps := 1000000 }) (disch := (first | assumption | omega | exact Nm.old_n (by omega) | exact Nm.old_hp (by assumption) | (simp only [List.length_set, List.length_cons, List.length_nil, List.length_append, List.length_map, List.length_replicate] <;> omega))) only [nmS0, nmS1, nmS2, nmS3, nmS4, nmS5, nmS6, nmS7, Nat.testBit, Nat.reduceShiftRight, Nat.reduceAnd, Nat.reduceBNe, cond_true, cond_false, NT.get_leaf, Nat.reduceSub, d_true, d_false, clsOf, beq_self_eq_true, Int.reduceToNat, Nat.reduceAdd, Nat.reduceMul, Nat.reduceEqDiff, decide_true, decide_false, if_true, if_false, ite_true, ite_false, reduceIte, reduceCtorEq, eq_self, true_and, and_true, true_implies, g1, g2, r1.wf', hb, r2.wf']
        refine ⟨s.length - j2, by omega, _, j2, rfl, ?_, ?_, hr, by omega⟩
        · simp (config := { maxSteps := 1000000 }) (disch := (first | assumption | omega | exact Nm.old_n (by omega) | exact Nm.old_hp (by assumption) | (simp only [List.length_set, List.length_cons, List.length_nil, List.length_append, List.length_map, List.length_replicate] <;> omega))) only [nmS0, nmS1, nmS2, nmS3, nmS4, nmS5, nmS6, nmS7, Nat.testBit, Nat.reduceShiftRight, Nat.reduceAnd, Nat.reduceBNe, cond_true, cond_false, NT.get_leaf, Nat.reduceSub, d_true, d_false, clsOf, beq_self_eq_true, Int.reduceToNat, Nat.reduceAdd, Nat.reduceMul, Nat.reduceEqDiff, decide_true, decide_false, if_true, if_false, ite_true, ite_false, reduceIte, reduceCtorEq, eq_self, true_and, and_true, true_implies, g1]
        · simp (config := { maxSteps := 1000000 }) (disch := (first | assumption | omega | exact Nm.old_n (by omega) | exact Nm.old_hp (by assumption) | (simp only [List.length_set, List.length_cons, List.length_nil, List.length_append, List.length_map, List.length_replicate] <;> omega))) only [nmS0, nmS1, nmS2, nmS3, nmS4, nmS5, nmS6, nmS7, Nat.testBit, Nat.reduceShiftRight, Nat.reduceAnd, Nat.reduceBNe, cond_true, cond_false, NT.get_leaf, Nat.reduceSub, d_true, d_false, clsOf, beq_self_eq_true, Int.reduceToNat, Nat.reduceAdd, Nat.reduceMul, Nat.reduceEqDiff, decide_true, decide_false, if_true, if_false, ite_true, ite_false, reduceIte, reduceCtorEq, eq_self, true_and, and_true, true_implies]
      · simp (config := { maxSteps := 1000000 }) (disch := (first | assumption | omega | exact Nm.old_n (by omega) | exact Nm.old_hp (by assumption) | (simp only [List.length_set, List.length_cons, List.length_nil, List.length_append, List.length_map, List.length_replicate] <;> omega))) only [nmS0, nmS1, nmS2, nmS3, nmS4, nmS5, nmS6, nmS7, Nat.testBit, Nat.reduceShiftRight, Nat.reduceAnd, Nat.reduceBNe, cond_true, cond_false, NT.get_leaf, Nat.reduceSub, d_true, d_false, clsOf, beq_self_eq_true, Int.reduceToNat, Nat.reduceAdd, Nat.reduceMul, Nat.reduceEqDiff, decide_true, decide_false, if_true, if_false, ite_true, ite_false, reduceIte, reduceCtorEq, eq_self, true_and, and_true, true_implies, g1, g2, r1.wf', hb]
        exact hK _ _ ⟨by rw [← hr, skip_stop hjl hnb h35], rfl⟩
    · simp (config := { maxSteps := 1000000 }) (disch := (first | assumption | omega | exact Nm.old_n (by omega) | exact Nm.old_hp (by assumption) | (simp only [List.length_set, List.length_cons, List.length_nil, List.length_append, List.length_map, List.length_replicate] <;> omega))) only [nmS0, nmS1, nmS2, nmS3, nmS4, nmS5, nmS6, nmS7, Nat.testBit, Nat.reduceShiftRight, Nat.reduceAnd, Nat.reduceBNe, cond_true, cond_false, NT.get_leaf, Nat.reduceSub, d_true, d_false, clsOf, beq_self_eq_true, Int.reduceToNat, Nat.reduceAdd, Nat.reduceMul, Nat.reduceEqDiff, decide_true, decide_false, if_true, if_false, ite_true, ite_false, reduceIte, reduceCtorEq, eq_self, true_and, and_true, true_implies, g1, g2, r1.wf']
      exact hK _ _ ⟨by rw [← hr, skipN_end (by omega)], rfl⟩
  obtain ⟨v, m', h, rfl, rfl⟩ := h
  exact h
abbrev ksk : List D4 := [D4.e.a.f.c, D4.e.a.f.f, D4.e.b.a.a, D4.e.b.a.b, D4.e.b.a.c, D4.e.b.a.f, D4.e.b.b.a, D4.e.b.b.b, D4.e.b.b.c, D4.e.b.b.f, D4.e.b.c.a, D4.e.b.c.b, D4.e.b.c.c, D4.e.a]
theorem skip_r1 {m : NH} {vb : NV} {s : List Nat} (hs : s.length ≤ 1000000) (hb : Sl m vb 1 (Byt s)) {a : Nat} (ha : a ≤ s.length) {t : Tm} (g1 : NT.get D4.e t = some vb) (g2 : NT.get D4.e.a t = some (ii a))
    {Q : Out → Dyn → Prop} (hQ : ∀ t', NT.get D4.e t' = some vb → NT.get D4.e.a t' = some (ii (rowN (fun c => decide (c ≠ 10)) s a)) → Q (.exit 3) ⟨puts [] t', [], none, m⟩) : W Try.prog S0 none nf17_l1.loop ⟨t, [], none, m⟩ Q := by
  have hlen := hb.len
  rw [List.length_map] at hlen
  refine W.loop (fun k d => ∃ t i, d = ⟨t, [], none, m⟩ ∧ NT.get D4.e t = some vb ∧ NT.get D4.e.a t = some (ii (i : Nat)) ∧ rowN (fun c => decide (c ≠ 10)) s i = rowN (fun c => decide (c ≠ 10)) s a ∧ i + k = s.length) ?_ (s.length - a) _ ⟨_, a, rfl, g1, g2, rfl, by omega⟩
  rintro k d ⟨t, i, rfl, g1, g2, hr, hik⟩
  have hQ' := fun L t' => hQ (puts L t')
  simp only [puts_nil] at hQ'
  apply wp_sound
  unfold nf17_l1
  change wp _ _ _ _ ⟨puts [] t, [], none, m⟩ _
  by_cases hi : i < s.length
  · obtain ⟨id, off, w, c, a1, a2, a3, a4, a5⟩ := hb.at i (by simpa using hi)
    rw [List.getElem_map] at a5
    have c0 := cell_at a5 0 (by omega)
    rw [Nat.add_zero] at c0
    by_cases h10 : s[i] = 10
    · simp (config := { maxSteps := 1000000 }) (disch := (first | assumption | omega | exact Nm.old_n (by omega) | exact Nm.old_hp (by assumption) | (simp only [List.length_set, List.length_cons, List.length_nil, List.length_append, List.length_map, List.length_replicate] <;> omega))) only [nmS0, nmS1, nmS2, nmS3, nmS4, nmS5, nmS6, nmS7, Nat.testBit, Nat.reduceShiftRight, Nat.reduceAnd, Nat.reduceBNe, cond_true, cond_false, NT.get_leaf, Nat.reduceSub, d_true, d_false, clsOf, beq_self_eq_true, Int.reduceToNat, Nat.reduceAdd, Nat.reduceMul, Nat.reduceEqDiff, decide_true, decide_false, if_true, if_false, ite_true, ite_false, reduceIte, reduceCtorEq, eq_self, true_and, and_true, true_implies, g1, g2, hlen, a1, a2, c0]
      refine hQ' _ _ ?_ ?_
      · simp (config := { maxSteps := 1000000 }) (disch := (first | assumption | omega | exact Nm.old_n (by omega) | exact Nm.old_hp (by assumption) | (simp only [List.length_set, List.length_cons, List.length_nil, List.length_append, List.length_map, List.length_replicate] <;> omega))) only [nmS0, nmS1, nmS2, nmS3, nmS4, nmS5, nmS6, nmS7, Nat.testBit, Nat.reduceShiftRight, Nat.reduceAnd, Nat.reduceBNe, cond_true, cond_false, NT.get_leaf, Nat.reduceSub, d_true, d_false, clsOf, beq_self_eq_true, Int.reduceToNat, Nat.reduceAdd, Nat.reduceMul, Nat.reduceEqDiff, decide_true, decide_false, if_true, if_false, ite_true, ite_false, reduceIte, reduceCtorEq, eq_self, true_and, and_true, true_implies, g1]
      · simp (config := { maxSteps := 1000000 }) (disch := (first | assumption | omega | exact Nm.old_n (by omega) | exact Nm.old_hp (by assumption) | (simp only [List.length_set, List.length_cons, List.length_nil, List.length_append, List.length_map, List.length_replicate] <;> omega))) only [nmS0, nmS1, nmS2, nmS3, nmS4, nmS5, nmS6, nmS7, Nat.testBit, Nat.reduceShiftRight, Nat.reduceAnd, Nat.reduceBNe, cond_true, cond_false, NT.get_leaf, Nat.reduceSub, d_true, d_false, clsOf, beq_self_eq_true, Int.reduceToNat, Nat.reduceAdd, Nat.reduceMul, Nat.reduceEqDiff, decide_true, decide_false, if_true, if_false, ite_true, ite_false, reduceIte, reduceCtorEq, eq_self, true_and, and_true, true_implies, g2]; rw [← hr, rowN_no hi (by simp [h10])]
    · simp (config := { maxSteps := 1000000 }) (disch := (first | assumption | omega | exact Nm.old_n (by omega) | exact Nm.old_hp (by assumption) | (simp only [List.length_set, List.length_cons, List.length_nil, List.length_append, List.length_map, List.length_replicate] <;> omega))) only [nmS0, nmS1, nmS2, nmS3, nmS4, nmS5, nmS6, nmS7, Nat.testBit, Nat.reduceShiftRight, Nat.reduceAnd, Nat.reduceBNe, cond_true, cond_false, NT.get_leaf, Nat.reduceSub, d_true, d_false, clsOf, beq_self_eq_true, Int.reduceToNat, Nat.reduceAdd, Nat.reduceMul, Nat.reduceEqDiff, decide_true, decide_false, if_true, if_false, ite_true, ite_false, reduceIte, reduceCtorEq, eq_self, true_and, and_true, true_implies, g1, g2, hlen, a1, a2, c0]
      refine ⟨k - 1, by omega, _, i + 1, rfl, ?_, ?_, by rw [← hr, rowN_yes hi (by simp [h10])], by omega⟩
      · simp (config := { maxSteps := 1000000 }) (disch := (first | assumption | omega | exact Nm.old_n (by omega) | exact Nm.old_hp (by assumption) | (simp only [List.length_set, List.length_cons, List.length_nil, List.length_append, List.length_map, List.length_replicate] <;> omega))) only [nmS0, nmS1, nmS2, nmS3, nmS4, nmS5, nmS6, nmS7, Nat.testBit, Nat.reduceShiftRight, Nat.reduceAnd, Nat.reduceBNe, cond_true, cond_false, NT.get_leaf, Nat.reduceSub, d_true, d_false, clsOf, beq_self_eq_true, Int.reduceToNat, Nat.reduceAdd, Nat.reduceMul, Nat.reduceEqDiff, decide_true, decide_false, if_true, if_false, ite_true, ite_false, reduceIte, reduceCtorEq, eq_self, true_and, and_true, true_implies, g1]
      · simp (config := { maxSteps := 1000000 }) (disch := (first | assumption | omega | exact Nm.old_n (by omega) | exact Nm.old_hp (by assumption) | (simp only [List.length_set, List.length_cons, List.length_nil, List.length_append, List.length_map, List.length_replicate] <;> omega))) only [nmS0, nmS1, nmS2, nmS3, nmS4, nmS5, nmS6, nmS7, Nat.testBit, Nat.reduceShiftRight, Nat.reduceAnd, Nat.reduceBNe, cond_true, cond_false, NT.get_leaf, Nat.reduceSub, d_true, d_false, clsOf, beq_self_eq_true, Int.reduceToNat, Nat.reduceAdd, Nat.reduceMul, Nat.reduceEqDiff, decide_true, decide_false, if_true, if_false, ite_true, ite_false, reduceIte, reduceCtorEq, eq_self, true_and, and_true, true_implies]; rfl
  · simp (config := { maxSteps := 1000000 }) (disch := (first | assumption | omega | exact Nm.old_n (by omega) | exact Nm.old_hp (by assumption) | (simp only [List.length_set, List.length_cons, List.length_nil, List.length_append, List.length_map, List.length_replicate] <;> omega))) only [nmS0, nmS1, nmS2, nmS3, nmS4, nmS5, nmS6, nmS7, Nat.testBit, Nat.reduceShiftRight, Nat.reduceAnd, Nat.reduceBNe, cond_true, cond_false, NT.get_leaf, Nat.reduceSub, d_true, d_false, clsOf, beq_self_eq_true, Int.reduceToNat, Nat.reduceAdd, Nat.reduceMul, Nat.reduceEqDiff, decide_true, decide_false, if_true, if_false, ite_true, ite_false, reduceIte, reduceCtorEq, eq_self, true_and, and_true, true_implies, g1, g2, hlen]
    refine hQ' _ _ ?_ ?_
    · simp (config := { maxSteps := 1000000 }) (disch := (first | assumption | omega | exact Nm.old_n (by omega) | exact Nm.old_hp (by assumption) | (simp only [List.length_set, List.length_cons, List.length_nil, List.length_append, List.length_map, List.length_replicate] <;> omega))) only [nmS0, nmS1, nmS2, nmS3, nmS4, nmS5, nmS6, nmS7, Nat.testBit, Nat.reduceShiftRight, Nat.reduceAnd, Nat.reduceBNe, cond_true, cond_false, NT.get_leaf, Nat.reduceSub, d_true, d_false, clsOf, beq_self_eq_true, Int.reduceToNat, Nat.reduceAdd, Nat.reduceMul, Nat.reduceEqDiff, decide_true, decide_false, if_true, if_false, ite_true, ite_false, reduceIte, reduceCtorEq, eq_self, true_and, and_true, true_implies, g1]
    · simp (config := { maxSteps := 1000000 }) (disch := (first | assumption | omega | exact Nm.old_n (by omega) | exact Nm.old_hp (by assumption) | (simp only [List.length_set, List.length_cons, List.length_nil, List.length_append, List.length_map, List.length_replicate] <;> omega))) only [nmS0, nmS1, nmS2, nmS3, nmS4, nmS5, nmS6, nmS7, Nat.testBit, Nat.reduceShiftRight, Nat.reduceAnd, Nat.reduceBNe, cond_true, cond_false, NT.get_leaf, Nat.reduceSub, d_true, d_false, clsOf, beq_self_eq_true, Int.reduceToNat, Nat.reduceAdd, Nat.reduceMul, Nat.reduceEqDiff, decide_true, decide_false, if_true, if_false, ite_true, ite_false, reduceIte, reduceCtorEq, eq_self, true_and, and_true, true_implies, g2]; rw [← hr, rowN_end (by omega)]
theorem skip_r (m : NH) {vb : NV} {s : List Nat} (hs : s.length ≤ 1000000) (hb : Sl m vb 1 (Byt s)) {a : Nat} (ha : a ≤ s.length) : Ret Try.prog S0 17 [vb, ii a] m (ii (skipN s a)) m := by
  have h : ∃ v m', Ret Try.prog S0 17 [vb, ii a] m v m' ∧ v = ii (skipN s a) ∧ m' = m := by
    refine WF.ex fun K hK => ?_
    refine WF.of_wpG (fun _ => rfl) nf17_eq (L := [(.a .e, ii a), (.e, vb)]) rfl ?_
    unfold nf17
    have hlen := hb.len
    rw [List.length_map] at hlen
    simp (config := { maxSteps := 1000000 }) (disch := (first | assumption | omega | exact Nm.old_n (by omega) | exact Nm.old_hp (by assumption) | (simp only [List.length_set, List.length_cons, List.length_nil, List.length_append, List.length_map, List.length_replicate] <;> omega))) only [nmS0, nmS1, nmS2, nmS3, nmS4, nmS5, nmS6, nmS7, Nat.testBit, Nat.reduceShiftRight, Nat.reduceAnd, Nat.reduceBNe, cond_true, cond_false, NT.get_leaf, Nat.reduceSub, d_true, d_false, clsOf, beq_self_eq_true, Int.reduceToNat, Nat.reduceAdd, Nat.reduceMul, Nat.reduceEqDiff, decide_true, decide_false, if_true, if_false, ite_true, ite_false, reduceIte, reduceCtorEq, eq_self, true_and, and_true, true_implies, hp_nil]
    refine W.loop (fun k d => ∃ t i, d = ⟨t, [], none, m⟩ ∧ NT.get D4.e t = some vb ∧ NT.get D4.e.a t = some (ii (i : Nat)) ∧ skipN s i = skipN s a ∧ i + k = s.length) ?_ (s.length - a) _ ⟨_, a, rfl, by simp (config := { maxSteps := 1000000 }) (disch := (first | assumption | omega | exact Nm.old_n (by omega) | exact Nm.old_hp (by assumption) | (simp only [List.length_set, List.length_cons, List.length_nil, List.length_append, List.length_map, List.length_replicate] <;> omega))) only [nmS0, nmS1, nmS2, nmS3, nmS4, nmS5, nmS6, nmS7, Nat.testBit, Nat.reduceShiftRight, Nat.reduceAnd, Nat.reduceBNe, cond_true, cond_false, NT.get_leaf, Nat.reduceSub, d_true, d_false, clsOf, beq_self_eq_true, Int.reduceToNat, Nat.reduceAdd, Nat.reduceMul, Nat.reduceEqDiff, decide_true, decide_false, if_true, if_false, ite_true, ite_false, reduceIte, reduceCtorEq, eq_self, true_and, and_true, true_implies], by simp (config := { maxSteps := 1000000 }) (disch := (first | assumption | omega | exact Nm.old_n (by omega) | exact Nm.old_hp (by assumption) | (simp only [List.length_set, List.length_cons, List.length_nil, List.length_append, List.length_map, List.length_replicate] <;> omega))) only [nmS0, nmS1, nmS2, nmS3, nmS4, nmS5, nmS6, nmS7, Nat.testBit, Nat.reduceShiftRight, Nat.reduceAnd, Nat.reduceBNe, cond_true, cond_false, NT.get_leaf, Nat.reduceSub, d_true, d_false, clsOf, beq_self_eq_true, Int.reduceToNat, Nat.reduceAdd, Nat.reduceMul, Nat.reduceEqDiff, decide_true, decide_false, if_true, if_false, ite_true, ite_false, reduceIte, reduceCtorEq, eq_self, true_and, and_true, true_implies], rfl, by omega⟩
    rintro k d ⟨t, i, rfl, g1, g2, hr, hik⟩
    apply wp_sound
    unfold nf17_l2
    change wp _ _ _ _ ⟨puts [] t, [], none, m⟩ _
    by_cases hi : i < s.length
    · obtain ⟨id, off, w, c, a1, a2, a3, a4, a5⟩ := hb.at i (by simpa using hi)
      rw [List.getElem_map] at a5
      have c0 := cell_at a5 0 (by omega)
      rw [Nat.add_zero] at c0
      have blk : ∀ h : isB s[i] = true, skipN s (i + 1) = skipN s a := fun h => by rw [← hr, skipN_step hi, if_pos h]
      by_cases h1 : s[i] = 32
      · simp (config := { maxSteps := 1000000 }) (disch := (first | assumption | omega | exact Nm.old_n (by omega) | exact Nm.old_hp (by assumption) | (simp only [List.length_set, List.length_cons, List.length_nil, List.length_append, List.length_map, List.length_replicate] <;> omega))) only [nmS0, nmS1, nmS2, nmS3, nmS4, nmS5, nmS6, nmS7, Nat.testBit, Nat.reduceShiftRight, Nat.reduceAnd, Nat.reduceBNe, cond_true, cond_false, NT.get_leaf, Nat.reduceSub, d_true, d_false, clsOf, beq_self_eq_true, Int.reduceToNat, Nat.reduceAdd, Nat.reduceMul, Nat.reduceEqDiff, decide_true, decide_false, if_true, if_false, ite_true, ite_false, reduceIte, reduceCtorEq, eq_self, true_and, and_true, true_implies, g1, g2, hlen, a1, a2, c0]
        refine ⟨k - 1, by omega, _, i + 1, rfl, ?_, ?_, blk (by simp [isB, h1]), by omega⟩
        · simp (config := { maxSteps := 1000000 }) (disch := (first | assumption | omega | exact Nm.old_n (by omega) | exact Nm.old_hp (by assumption) | (simp only [List.length_set, List.length_cons, List.length_nil, List.length_append, List.length_map, List.length_replicate] <;> omega))) only [nmS0, nmS1, nmS2, nmS3, nmS4, nmS5, nmS6, nmS7, Nat.testBit, Nat.reduceShiftRight, Nat.reduceAnd, Nat.reduceBNe, cond_true, cond_false, NT.get_leaf, Nat.reduceSub, d_true, d_false, clsOf, beq_self_eq_true, Int.reduceToNat, Nat.reduceAdd, Nat.reduceMul, Nat.reduceEqDiff, decide_true, decide_false, if_true, if_false, ite_true, ite_false, reduceIte, reduceCtorEq, eq_self, true_and, and_true, true_implies, g1]
        · simp (config := { maxSteps := 1000000 }) (disch := (first | assumption | omega | exact Nm.old_n (by omega) | exact Nm.old_hp (by assumption) | (simp only [List.length_set, List.length_cons, List.length_nil, List.length_append, List.length_map, List.length_replicate] <;> omega))) only [nmS0, nmS1, nmS2, nmS3, nmS4, nmS5, nmS6, nmS7, Nat.testBit, Nat.reduceShiftRight, Nat.reduceAnd, Nat.reduceBNe, cond_true, cond_false, NT.get_leaf, Nat.reduceSub, d_true, d_false, clsOf, beq_self_eq_true, Int.reduceToNat, Nat.reduceAdd, Nat.reduceMul, Nat.reduceEqDiff, decide_true, decide_false, if_true, if_false, ite_true, ite_false, reduceIte, reduceCtorEq, eq_self, true_and, and_true, true_implies]; rfl
      · by_cases h2 : s[i] = 9
        · simp (config := { maxSteps := 1000000 }) (disch := (first | assumption | omega | exact Nm.old_n (by omega) | exact Nm.old_hp (by assumption) | (simp only [List.length_set, List.length_cons, List.length_nil, List.length_append, List.length_map, List.length_replicate] <;> omega))) only [nmS0, nmS1, nmS2, nmS3, nmS4, nmS5, nmS6, nmS7, Nat.testBit, Nat.reduceShiftRight, Nat.reduceAnd, Nat.reduceBNe, cond_true, cond_false, NT.get_leaf, Nat.reduceSub, d_true, d_false, clsOf, beq_self_eq_true, Int.reduceToNat, Nat.reduceAdd, Nat.reduceMul, Nat.reduceEqDiff, decide_true, decide_false, if_true, if_false, ite_true, ite_false, reduceIte, reduceCtorEq, eq_self, true_and, and_true, true_implies, g1, g2, hlen, a1, a2, c0]
          refine ⟨k - 1, by omega, _, i + 1, rfl, ?_, ?_, blk (by simp [isB, h2]), by omega⟩
          · simp (config := { maxSteps := 1000000 }) (disch := (first | assumption | omega | exact Nm.old_n (by omega) | exact Nm.old_hp (by assumption) | (simp only [List.length_set, List.length_cons, List.length_nil, List.length_append, List.length_map, List.length_replicate] <;> omega))) only [nmS0, nmS1, nmS2, nmS3, nmS4, nmS5, nmS6, nmS7, Nat.testBit, Nat.reduceShiftRight, Nat.reduceAnd, Nat.reduceBNe, cond_true, cond_false, NT.get_leaf, Nat.reduceSub, d_true, d_false, clsOf, beq_self_eq_true, Int.reduceToNat, Nat.reduceAdd, Nat.reduceMul, Nat.reduceEqDiff, decide_true, decide_false, if_true, if_false, ite_true, ite_false, reduceIte, reduceCtorEq, eq_self, true_and, and_true, true_implies, g1]
          · simp (config := { maxSteps := 1000000 }) (disch := (first | assumption | omega | exact Nm.old_n (by omega) | exact Nm.old_hp (by assumption) | (simp only [List.length_set, List.length_cons, List.length_nil, List.length_append, List.length_map, List.length_replicate] <;> omega))) only [nmS0, nmS1, nmS2, nmS3, nmS4, nmS5, nmS6, nmS7, Nat.testBit, Nat.reduceShiftRight, Nat.reduceAnd, Nat.reduceBNe, cond_true, cond_false, NT.get_leaf, Nat.reduceSub, d_true, d_false, clsOf, beq_self_eq_true, Int.reduceToNat, Nat.reduceAdd, Nat.reduceMul, Nat.reduceEqDiff, decide_true, decide_false, if_true, if_false, ite_true, ite_false, reduceIte, reduceCtorEq, eq_self, true_and, and_true, true_implies]; rfl
        · by_cases h3 : s[i] = 10
          · simp (config := { maxSteps := 1000000 }) (disch := (first | assumption | omega | exact Nm.old_n (by omega) | exact Nm.old_hp (by assumption) | (simp only [List.length_set, List.length_cons, List.length_nil, List.length_append, List.length_map, List.length_replicate] <;> omega))) only [nmS0, nmS1, nmS2, nmS3, nmS4, nmS5, nmS6, nmS7, Nat.testBit, Nat.reduceShiftRight, Nat.reduceAnd, Nat.reduceBNe, cond_true, cond_false, NT.get_leaf, Nat.reduceSub, d_true, d_false, clsOf, beq_self_eq_true, Int.reduceToNat, Nat.reduceAdd, Nat.reduceMul, Nat.reduceEqDiff, decide_true, decide_false, if_true, if_false, ite_true, ite_false, reduceIte, reduceCtorEq, eq_self, true_and, and_true, true_implies, g1, g2, hlen, a1, a2, c0]
            refine ⟨k - 1, by omega, _, i + 1, rfl, ?_, ?_, blk (by simp [isB, h3]), by omega⟩
            · simp (config := { maxSteps := 1000000 }) (disch := (first | assumption | omega | exact Nm.old_n (by omega) | exact Nm.old_hp (by assumption) | (simp only [List.length_set, List.length_cons, List.length_nil, List.length_append, List.length_map, List.length_replicate] <;> omega))) only [nmS0, nmS1, nmS2, nmS3, nmS4, nmS5, nmS6, nmS7, Nat.testBit, Nat.reduceShiftRight, Nat.reduceAnd, Nat.reduceBNe, cond_true, cond_false, NT.get_leaf, Nat.reduceSub, d_true, d_false, clsOf, beq_self_eq_true, Int.reduceToNat, Nat.reduceAdd, Nat.reduceMul, Nat.reduceEqDiff, decide_true, decide_false, if_true, if_false, ite_true, ite_false, reduceIte, reduceCtorEq, eq_self, true_and, and_true, true_implies, g1]
            · simp (config := { maxSteps := 1000000 }) (disch := (first | assumption | omega | exact Nm.old_n (by omega) | exact Nm.old_hp (by assumption) | (simp only [List.length_set, List.length_cons, List.length_nil, List.length_append, List.length_map, List.length_replicate] <;> omega))) only [nmS0, nmS1, nmS2, nmS3, nmS4, nmS5, nmS6, nmS7, Nat.testBit, Nat.reduceShiftRight, Nat.reduceAnd, Nat.reduceBNe, cond_true, cond_false, NT.get_leaf, Nat.reduceSub, d_true, d_false, clsOf, beq_self_eq_true, Int.reduceToNat, Nat.reduceAdd, Nat.reduceMul, Nat.reduceEqDiff, decide_true, decide_false, if_true, if_false, ite_true, ite_false, reduceIte, reduceCtorEq, eq_self, true_and, and_true, true_implies]; rfl
          · by_cases h4 : s[i] = 13
            · simp (config := { maxSteps := 1000000 }) (disch := (first | assumption | omega | exact Nm.old_n (by omega) | exact Nm.old_hp (by assumption) | (simp only [List.length_set, List.length_cons, List.length_nil, List.length_append, List.length_map, List.length_replicate] <;> omega))) only [nmS0, nmS1, nmS2, nmS3, nmS4, nmS5, nmS6, nmS7, Nat.testBit, Nat.reduceShiftRight, Nat.reduceAnd, Nat.reduceBNe, cond_true, cond_false, NT.get_leaf, Nat.reduceSub, d_true, d_false, clsOf, beq_self_eq_true, Int.reduceToNat, Nat.reduceAdd, Nat.reduceMul, Nat.reduceEqDiff, decide_true, decide_false, if_true, if_false, ite_true, ite_false, reduceIte, reduceCtorEq, eq_self, true_and, and_true, true_implies, g1, g2, hlen, a1, a2, c0]
              refine ⟨k - 1, by omega, _, i + 1, rfl, ?_, ?_, blk (by simp [isB, h4]), by omega⟩
              · simp (config := { maxSteps := 1000000 }) (disch := (first | assumption | omega | exact Nm.old_n (by omega) | exact Nm.old_hp (by assumption) | (simp only [List.length_set, List.length_cons, List.length_nil, List.length_append, List.length_map, List.length_replicate] <;> omega))) only [nmS0, nmS1, nmS2, nmS3, nmS4, nmS5, nmS6, nmS7, Nat.testBit, Nat.reduceShiftRight, Nat.reduceAnd, Nat.reduceBNe, cond_true, cond_false, NT.get_leaf, Nat.reduceSub, d_true, d_false, clsOf, beq_self_eq_true, Int.reduceToNat, Nat.reduceAdd, Nat.reduceMul, Nat.reduceEqDiff, decide_true, decide_false, if_true, if_false, ite_true, ite_false, reduceIte, reduceCtorEq, eq_self, true_and, and_true, true_implies, g1]
              · simp (config := { maxSteps := 1000000 }) (disch := (first | assumption | omega | exact Nm.old_n (by omega) | exact Nm.old_hp (by assumption) | (simp only [List.length_set, List.length_cons, List.length_nil, List.length_append, List.length_map, List.length_replicate] <;> omega))) only [nmS0, nmS1, nmS2, nmS3, nmS4, nmS5, nmS6, nmS7, Nat.testBit, Nat.reduceShiftRight, Nat.reduceAnd, Nat.reduceBNe, cond_true, cond_false, NT.get_leaf, Nat.reduceSub, d_true, d_false, clsOf, beq_self_eq_true, Int.reduceToNat, Nat.reduceAdd, Nat.reduceMul, Nat.reduceEqDiff, decide_true, decide_false, if_true, if_false, ite_true, ite_false, reduceIte, reduceCtorEq, eq_self, true_and, and_true, true_implies]; rfl
            · have hnb : isB s[i] = false := by simp [isB, h1, h2, h3, h4]
              by_cases h5 : s[i] = 35
              · simp (config := { maxSteps := 1000000 }) (disch := (first | assumption | omega | exact Nm.old_n (by omega) | exact Nm.old_hp (by assumption) | (simp only [List.length_set, List.length_cons, List.length_nil, List.length_append, List.length_map, List.length_replicate] <;> omega))) only [nmS0, nmS1, nmS2, nmS3, nmS4, nmS5, nmS6, nmS7, Nat.testBit, Nat.reduceShiftRight, Nat.reduceAnd, Nat.reduceBNe, cond_true, cond_false, NT.get_leaf, Nat.reduceSub, d_true, d_false, clsOf, beq_self_eq_true, Int.reduceToNat, Nat.reduceAdd, Nat.reduceMul, Nat.reduceEqDiff, decide_true, decide_false, if_true, if_false, ite_true, ite_false, reduceIte, reduceCtorEq, eq_self, true_and, and_true, true_implies, g1, g2, hlen, a1, a2, c0]
                refine skip_r1 hs hb (a := i) (by omega) ?_ ?_ ?_
                · simp (config := { maxSteps := 1000000 }) (disch := (first | assumption | omega | exact Nm.old_n (by omega) | exact Nm.old_hp (by assumption) | (simp only [List.length_set, List.length_cons, List.length_nil, List.length_append, List.length_map, List.length_replicate] <;> omega))) only [nmS0, nmS1, nmS2, nmS3, nmS4, nmS5, nmS6, nmS7, Nat.testBit, Nat.reduceShiftRight, Nat.reduceAnd, Nat.reduceBNe, cond_true, cond_false, NT.get_leaf, Nat.reduceSub, d_true, d_false, clsOf, beq_self_eq_true, Int.reduceToNat, Nat.reduceAdd, Nat.reduceMul, Nat.reduceEqDiff, decide_true, decide_false, if_true, if_false, ite_true, ite_false, reduceIte, reduceCtorEq, eq_self, true_and, and_true, true_implies, g1]
                · simp (config := { maxSteps := 1000000 }) (disch := (first | assumption | omega | exact Nm.old_n (by omega) | exact Nm.old_hp (by assumption) | (simp only [List.length_set, List.length_cons, List.length_nil, List.length_append, List.length_map, List.length_replicate] <;> omega))) only [nmS0, nmS1, nmS2, nmS3, nmS4, nmS5, nmS6, nmS7, Nat.testBit, Nat.reduceShiftRight, Nat.reduceAnd, Nat.reduceBNe, cond_true, cond_false, NT.get_leaf, Nat.reduceSub, d_true, d_false, clsOf, beq_self_eq_true, Int.reduceToNat, Nat.reduceAdd, Nat.reduceMul, Nat.reduceEqDiff, decide_true, decide_false, if_true, if_false, ite_true, ite_false, reduceIte, reduceCtorEq, eq_self, true_and, and_true, true_implies, g2]
                intro t' g1 g2
                simp (config := { maxSteps := 1000000 }) (disch := (first | assumption | omega | exact Nm.old_n (by omega) | exact Nm.old_hp (by assumption) | (simp only [List.length_set, List.length_cons, List.length_nil, List.length_append, List.length_map, List.length_replicate] <;> omega))) only [nmS0, nmS1, nmS2, nmS3, nmS4, nmS5, nmS6, nmS7, Nat.testBit, Nat.reduceShiftRight, Nat.reduceAnd, Nat.reduceBNe, cond_true, cond_false, NT.get_leaf, Nat.reduceSub, d_true, d_false, clsOf, beq_self_eq_true, Int.reduceToNat, Nat.reduceAdd, Nat.reduceMul, Nat.reduceEqDiff, decide_true, decide_false, if_true, if_false, ite_true, ite_false, reduceIte, reduceCtorEq, eq_self, true_and, and_true, true_implies]
                have hle := rowN_le (p := fun c => decide (c ≠ 10)) (s := s) (a := i) (by omega)
                have hlt : i + 1 ≤ rowN (fun c => decide (c ≠ 10)) s i := by rw [rowN_yes hi (by simp [h5])]; exact rowN_ge
                exact ⟨s.length - rowN (fun c => decide (c ≠ 10)) s i, by omega, t', _, rfl, g1, g2, by rw [← skip_sharp hi h5]; exact hr, by omega⟩
              · simp (config := { maxSteps := 1000000 }) (disch := (first | assumption | omega | exact Nm.old_n (by omega) | exact Nm.old_hp (by assumption) | (simp only [List.length_set, List.length_cons, List.length_nil, List.length_append, List.length_map, List.length_replicate] <;> omega))) only [nmS0, nmS1, nmS2, nmS3, nmS4, nmS5, nmS6, nmS7, Nat.testBit, Nat.reduceShiftRight, Nat.reduceAnd, Nat.reduceBNe, cond_true, cond_false, NT.get_leaf, Nat.reduceSub, d_true, d_false, clsOf, beq_self_eq_true, Int.reduceToNat, Nat.reduceAdd, Nat.reduceMul, Nat.reduceEqDiff, decide_true, decide_false, if_true, if_false, ite_true, ite_false, reduceIte, reduceCtorEq, eq_self, true_and, and_true, true_implies, g1, g2, hlen, a1, a2, c0]
                exact hK _ _ ⟨by rw [← hr, skip_stop hi hnb h5], rfl⟩
    · simp (config := { maxSteps := 1000000 }) (disch := (first | assumption | omega | exact Nm.old_n (by omega) | exact Nm.old_hp (by assumption) | (simp only [List.length_set, List.length_cons, List.length_nil, List.length_append, List.length_map, List.length_replicate] <;> omega))) only [nmS0, nmS1, nmS2, nmS3, nmS4, nmS5, nmS6, nmS7, Nat.testBit, Nat.reduceShiftRight, Nat.reduceAnd, Nat.reduceBNe, cond_true, cond_false, NT.get_leaf, Nat.reduceSub, d_true, d_false, clsOf, beq_self_eq_true, Int.reduceToNat, Nat.reduceAdd, Nat.reduceMul, Nat.reduceEqDiff, decide_true, decide_false, if_true, if_false, ite_true, ite_false, reduceIte, reduceCtorEq, eq_self, true_and, and_true, true_implies, g1, g2, hlen]
      exact hK _ _ ⟨by rw [← hr, skipN_end (by omega)], rfl⟩
  obtain ⟨v, m', h, rfl, rfl⟩ := h
  exact h
end LX

open Go Nm Go.Proofs
namespace LX
set_option linter.unusedSimpArgs false
set_option linter.unusedVariables false
abbrev Strs (l : List (List Nat)) : List (List NV) := l.map fun s => [NV.str s]
theorem index_p {m : NH} {v : NV} {l : List (List Nat)} (hv : Sl m v 1 (Strs l)) (hl : l.length ≤ 1000000) (t : List Nat) : ∃ z, Ret Try.prog S0 32 [v, .str t] m (ii z) m ∧ (0 ≤ z ↔ t ∈ l) := by
  have h : ∃ u m', Ret Try.prog S0 32 [v, .str t] m u m' ∧ m' = m ∧ ∃ z, u = ii z ∧ (0 ≤ z ↔ t ∈ l) := by
    refine WF.ex fun K hK => ?_
    refine WF.of_wpG (fun _ => rfl) nf32_eq (L := [(.a .e, .str t), (.e, v)]) rfl ?_
    unfold nf32
    have hlen := hv.len
    rw [List.length_map] at hlen
    simp (config := { maxSteps := 1000000 }) (disch := (first | assumption | omega | exact Nm.old_n (by omega) | exact Nm.old_hp (by assumption) | (simp only [List.length_set, List.length_cons, List.length_nil, List.length_append, List.length_map, List.length_replicate] <;> omega))) only [nmS0, nmS1, nmS2, nmS3, nmS4, nmS5, nmS6, nmS7, Nat.testBit, Nat.reduceShiftRight, Nat.reduceAnd, Nat.reduceBNe, cond_true, cond_false, NT.get_leaf, Nat.reduceSub, d_true, d_false, clsOf, beq_self_eq_true, Int.reduceToNat, Nat.reduceAdd, Nat.reduceMul, Nat.reduceEqDiff, decide_true, decide_false, if_true, if_false, ite_true, ite_false, reduceIte, reduceCtorEq, eq_self, true_and, and_true, true_implies, hp_nil, hlen]
    refine W.loop (fun k d => ∃ t' i, d = ⟨t', [], none, m⟩ ∧ NT.get D4.e t' = some v ∧ NT.get D4.e.a t' = some (.str t) ∧ NT.get D4.e.a.c t' = some (ii l.length) ∧ NT.get D4.e.a.f t' = some (ii (i : Nat)) ∧ t ∉ l.take i ∧ i + k = l.length) ?_ l.length _ ⟨_, 0, rfl, by simp (config := { maxSteps := 1000000 }) (disch := (first | assumption | omega | exact Nm.old_n (by omega) | exact Nm.old_hp (by assumption) | (simp only [List.length_set, List.length_cons, List.length_nil, List.length_append, List.length_map, List.length_replicate] <;> omega))) only [nmS0, nmS1, nmS2, nmS3, nmS4, nmS5, nmS6, nmS7, Nat.testBit, Nat.reduceShiftRight, Nat.reduceAnd, Nat.reduceBNe, cond_true, cond_false, NT.get_leaf, Nat.reduceSub, d_true, d_false, clsOf, beq_self_eq_true, Int.reduceToNat, Nat.reduceAdd, Nat.reduceMul, Nat.reduceEqDiff, decide_true, decide_false, if_true, if_false, ite_true, ite_false, reduceIte, reduceCtorEq, eq_self, true_and, and_true, true_implies], by simp (config := { maxSteps := 1000000 }) (disch := (first | assumption | omega | exact Nm.old_n (by omega) | exact Nm.old_hp (by assumption) | (simp only [List.length_set, List.length_cons, List.length_nil, List.length_append, List.length_map, List.length_replicate] <;> omega))) only [nmS0, nmS1, nmS2, nmS3, nmS4, nmS5, nmS6, nmS7, Nat.testBit, Nat.reduceShiftRight, Nat.reduceAnd, Nat.reduceBNe, cond_true, cond_false, NT.get_leaf, Nat.reduceSub, d_true, d_false, clsOf, beq_self_eq_true, Int.reduceToNat, Nat.reduceAdd, Nat.reduceMul, Nat.reduceEqDiff, decide_true, decide_false, if_true, if_false, ite_true, ite_false, reduceIte, reduceCtorEq, eq_self, true_and, and_true, true_implies], by simp (config := { maxSteps := 1000000 }) (disch := (first | assumption | omega | exact Nm.old_n (by omega) | exact Nm.old_hp (by assumption) | (simp only [List.length_set, List.length_cons, List.length_nil, List.length_append, List.length_map, List.length_replicate] <;> omega))) only [nmS0, nmS1, nmS2, nmS3, nmS4, nmS5, nmS6, nmS7, Nat.testBit, Nat.reduceShiftRight, Nat.reduceAnd, Nat.reduceBNe, cond_true, cond_false, NT.get_leaf, Nat.reduceSub, d_true, d_false, clsOf, beq_self_eq_true, Int.reduceToNat, Nat.reduceAdd, Nat.reduceMul, Nat.reduceEqDiff, decide_true, decide_false, if_true, if_false, ite_true, ite_false, reduceIte, reduceCtorEq, eq_self, true_and, and_true, true_implies], by simp (config := { maxSteps := 1000000 }) (disch := (first | assumption | omega | exact Nm.old_n (by omega) | exact Nm.old_hp (by assumption) | (simp only [List.length_set, List.length_cons, List.length_nil, List.length_append, List.length_map, List.length_replicate] <;> omega))) only [nmS0, nmS1, nmS2, nmS3, nmS4, nmS5, nmS6, nmS7, Nat.testBit, Nat.reduceShiftRight, Nat.reduceAnd, Nat.reduceBNe, cond_true, cond_false, NT.get_leaf, Nat.reduceSub, d_true, d_false, clsOf, beq_self_eq_true, Int.reduceToNat, Nat.reduceAdd, Nat.reduceMul, Nat.reduceEqDiff, decide_true, decide_false, if_true, if_false, ite_true, ite_false, reduceIte, reduceCtorEq, eq_self, true_and, and_true, true_implies]; rfl, by simp, by omega⟩
    rintro k d ⟨t', i, rfl, g1, g2, g3, g4, hno, hik⟩
    apply wp_sound
    unfold nf32_l1
    change wp _ _ _ _ ⟨puts [] t', [], none, m⟩ _
    by_cases hi : i < l.length
    · obtain ⟨id, off, w, c, a1, a2, a3, a4, a5⟩ := hv.at i (by simpa using hi)
      rw [List.getElem_map] at a5
      have c0 := cell_at a5 0 (by omega)
      rw [Nat.add_zero] at c0
      by_cases he : t = l[i]
      · simp (config := { maxSteps := 1000000 }) (disch := (first | assumption | omega | exact Nm.old_n (by omega) | exact Nm.old_hp (by assumption) | (simp only [List.length_set, List.length_cons, List.length_nil, List.length_append, List.length_map, List.length_replicate] <;> omega))) only [nmS0, nmS1, nmS2, nmS3, nmS4, nmS5, nmS6, nmS7, Nat.testBit, Nat.reduceShiftRight, Nat.reduceAnd, Nat.reduceBNe, cond_true, cond_false, NT.get_leaf, Nat.reduceSub, d_true, d_false, clsOf, beq_self_eq_true, Int.reduceToNat, Nat.reduceAdd, Nat.reduceMul, Nat.reduceEqDiff, decide_true, decide_false, if_true, if_false, ite_true, ite_false, reduceIte, reduceCtorEq, eq_self, true_and, and_true, true_implies, g1, g2, g3, g4, a1, a2, c0, he]
        exact hK _ _ ⟨rfl, _, rfl, fun _ => by rw [he]; exact List.getElem_mem hi, fun _ => by omega⟩
      · simp (config := { maxSteps := 1000000 }) (disch := (first | assumption | omega | exact Nm.old_n (by omega) | exact Nm.old_hp (by assumption) | (simp only [List.length_set, List.length_cons, List.length_nil, List.length_append, List.length_map, List.length_replicate] <;> omega))) only [nmS0, nmS1, nmS2, nmS3, nmS4, nmS5, nmS6, nmS7, Nat.testBit, Nat.reduceShiftRight, Nat.reduceAnd, Nat.reduceBNe, cond_true, cond_false, NT.get_leaf, Nat.reduceSub, d_true, d_false, clsOf, beq_self_eq_true, Int.reduceToNat, Nat.reduceAdd, Nat.reduceMul, Nat.reduceEqDiff, decide_true, decide_false, if_true, if_false, ite_true, ite_false, reduceIte, reduceCtorEq, eq_self, true_and, and_true, true_implies, g1, g2, g3, g4, a1, a2, c0, he]
        refine ⟨k - 1, by omega, _, i + 1, rfl, ?_, ?_, ?_, ?_, ?_, by omega⟩
        · simp (config := { maxSteps := 1000000 }) (disch := (first | assumption | omega | exact Nm.old_n (by omega) | exact Nm.old_hp (by assumption) | (simp only [List.length_set, List.length_cons, List.length_nil, List.length_append, List.length_map, List.length_replicate] <;> omega))) only [nmS0, nmS1, nmS2, nmS3, nmS4, nmS5, nmS6, nmS7, Nat.testBit, Nat.reduceShiftRight, Nat.reduceAnd, Nat.reduceBNe, cond_true, cond_false, NT.get_leaf, Nat.reduceSub, d_true, d_false, clsOf, beq_self_eq_true, Int.reduceToNat, Nat.reduceAdd, Nat.reduceMul, Nat.reduceEqDiff, decide_true, decide_false, if_true, if_false, ite_true, ite_false, reduceIte, reduceCtorEq, eq_self, true_and, and_true, true_implies, g1]
        · simp (config := { maxSteps := 1000000 }) (disch := (first | assumption | omega | exact Nm.old_n (by omega) | exact Nm.old_hp (by assumption) | (simp only [List.length_set, List.length_cons, List.length_nil, List.length_append, List.length_map, List.length_replicate] <;> omega))) only [nmS0, nmS1, nmS2, nmS3, nmS4, nmS5, nmS6, nmS7, Nat.testBit, Nat.reduceShiftRight, Nat.reduceAnd, Nat.reduceBNe, cond_true, cond_false, NT.get_leaf, Nat.reduceSub, d_true, d_false, clsOf, beq_self_eq_true, Int.reduceToNat, Nat.reduceAdd, Nat.reduceMul, Nat.reduceEqDiff, decide_true, decide_false, if_true, if_false, ite_true, ite_false, reduceIte, reduceCtorEq, eq_self, true_and, and_true, true_implies, g2]
        · simp (config := { maxSteps := 1000000 }) (disch := (first | assumption | omega | exact Nm.old_n (by omega) | exact Nm.old_hp (by assumption) | (simp only [List.length_set, List.length_cons, List.length_nil, List.length_append, List.length_map, List.length_replicate] <;> omega))) only [nmS0, nmS1, nmS2, nmS3, nmS4, nmS5, nmS6, nmS7, Nat.testBit, Nat.reduceShiftRight, Nat.reduceAnd, Nat.reduceBNe, cond_true, cond_false, NT.get_leaf, Nat.reduceSub, d_true, d_false, clsOf, beq_self_eq_true, Int.reduceToNat, Nat.reduceAdd, Nat.reduceMul, Nat.reduceEqDiff, decide_true, decide_false, if_true, if_false, ite_true, ite_false, reduceIte, reduceCtorEq, eq_self, true_and, and_true, true_implies, g3]
        · simp (config := { maxSteps := 1000000 }) (disch := (first | assumption | omega | exact Nm.old_n (by omega) | exact Nm.old_hp (by assumption) | (simp only [List.length_set, List.length_cons, List.length_nil, List.length_append, List.length_map, List.length_replicate] <;> omega))) only [nmS0, nmS1, nmS2, nmS3, nmS4, nmS5, nmS6, nmS7, Nat.testBit, Nat.reduceShiftRight, Nat.reduceAnd, Nat.reduceBNe, cond_true, cond_false, NT.get_leaf, Nat.reduceSub, d_true, d_false, clsOf, beq_self_eq_true, Int.reduceToNat, Nat.reduceAdd, Nat.reduceMul, Nat.reduceEqDiff, decide_true, decide_false, if_true, if_false, ite_true, ite_false, reduceIte, reduceCtorEq, eq_self, true_and, and_true, true_implies]; rfl
        · rw [List.take_add_one, List.getElem?_eq_getElem hi]
          simp only [Option.toList_some, List.mem_append, List.mem_singleton, not_or]
          exact ⟨hno, he⟩
    · simp (config := { maxSteps := 1000000 }) (disch := (first | assumption | omega | exact Nm.old_n (by omega) | exact Nm.old_hp (by assumption) | (simp only [List.length_set, List.length_cons, List.length_nil, List.length_append, List.length_map, List.length_replicate] <;> omega))) only [nmS0, nmS1, nmS2, nmS3, nmS4, nmS5, nmS6, nmS7, Nat.testBit, Nat.reduceShiftRight, Nat.reduceAnd, Nat.reduceBNe, cond_true, cond_false, NT.get_leaf, Nat.reduceSub, d_true, d_false, clsOf, beq_self_eq_true, Int.reduceToNat, Nat.reduceAdd, Nat.reduceMul, Nat.reduceEqDiff, decide_true, decide_false, if_true, if_false, ite_true, ite_false, reduceIte, reduceCtorEq, eq_self, true_and, and_true, true_implies, g1, g2, g3, g4]
      have e : i = l.length := by omega
      subst e
      rw [List.take_length] at hno
      exact hK _ _ ⟨rfl, _, rfl, fun h => by omega, fun h => absurd h hno⟩
  obtain ⟨v, m', h, rfl, z, rfl, hz⟩ := h
  exact ⟨z, h, hz⟩
theorem contains_p {m : NH} {v : NV} {l : List (List Nat)} (hv : Sl m v 1 (Strs l)) (hl : l.length ≤ 1000000) (t : List Nat) : Ret Try.prog S0 20 [v, .str t] m (.bool (decide (t ∈ l))) m := by
  have h : ∃ u m', Ret Try.prog S0 20 [v, .str t] m u m' ∧ u = .bool (decide (t ∈ l)) ∧ m' = m := by
    refine WF.ex fun K hK => ?_
    refine WF.of_wpG (fun _ => rfl) nf20_eq (L := [(.a .e, .str t), (.e, v)]) rfl ?_
    unfold nf20
    obtain ⟨z, hz, hzi⟩ := index_p hv hl t
    by_cases h : t ∈ l
    · have := hzi.mpr h
      simp (config := { maxSteps := 1000000 }) (disch := (first | assumption | omega | exact Nm.old_n (by omega) | exact Nm.old_hp (by assumption) | (simp only [List.length_set, List.length_cons, List.length_nil, List.length_append, List.length_map, List.length_replicate] <;> omega))) only [nmS0, nmS1, nmS2, nmS3, nmS4, nmS5, nmS6, nmS7, Nat.testBit, Nat.reduceShiftRight, Nat.reduceAnd, Nat.reduceBNe, cond_true, cond_false, NT.get_leaf, Nat.reduceSub, d_true, d_false, clsOf, beq_self_eq_true, Int.reduceToNat, Nat.reduceAdd, Nat.reduceMul, Nat.reduceEqDiff, decide_true, decide_false, if_true, if_false, ite_true, ite_false, reduceIte, reduceCtorEq, eq_self, true_and, and_true, true_implies, hp_nil, hz.wf']
      exact hK _ _ ⟨by simp [h], rfl⟩
    · have : ¬ 0 ≤ z := fun q => h (hzi.mp q)
      simp (config := { maxSteps := 1000000 }) (disch := (first | assumption | omega | exact Nm.old_n (by omega) | exact Nm.old_hp (by assumption) | (simp only [List.length_set, List.length_cons, List.length_nil, List.length_append, List.length_map, List.length_replicate] <;> omega))) only [nmS0, nmS1, nmS2, nmS3, nmS4, nmS5, nmS6, nmS7, Nat.testBit, Nat.reduceShiftRight, Nat.reduceAnd, Nat.reduceBNe, cond_true, cond_false, NT.get_leaf, Nat.reduceSub, d_true, d_false, clsOf, beq_self_eq_true, Int.reduceToNat, Nat.reduceAdd, Nat.reduceMul, Nat.reduceEqDiff, decide_true, decide_false, if_true, if_false, ite_true, ite_false, reduceIte, reduceCtorEq, eq_self, true_and, and_true, true_implies, hp_nil, hz.wf']
      exact hK _ _ ⟨by simp [h], rfl⟩
  obtain ⟨v, m', h, rfl, rfl⟩ := h
  exact h
def wordsL : List (List Nat) := [[99, 101, 108, 108], [116, 104, 114, 101, 97, 100], [114, 101, 99, 111, 118, 101, 114], [115, 101, 116], [108, 111, 97, 100], [115, 116, 111, 114, 101], [99, 97, 115], [102, 101, 110, 99, 101], [111, 117, 116], [105, 102], [101, 108, 115, 101], [119, 104, 105, 108, 101]]
theorem words_p (m : NH) : ∃ v m', Ret Try.prog S0 21 [] m v m' ∧ Own m m' v 1 (Strs wordsL) ∧ Chg [] m m' := by
  refine WF.ex fun K hK => ?_
  refine WF.of_wpG (fun _ => rfl) nf21_eq (L := []) rfl ?_
  unfold nf21
  simp (config := { maxSteps := 1000000 }) (disch := (first | assumption | omega | exact Nm.old_n (by omega) | exact Nm.old_hp (by assumption) | (simp only [List.length_set, List.length_cons, List.length_nil, List.length_append, List.length_map, List.length_replicate] <;> omega))) only [nmS0, nmS1, nmS2, nmS3, nmS4, nmS5, nmS6, nmS7, Nat.testBit, Nat.reduceShiftRight, Nat.reduceAnd, Nat.reduceBNe, cond_true, cond_false, NT.get_leaf, Nat.reduceSub, d_true, d_false, clsOf, beq_self_eq_true, Int.reduceToNat, Nat.reduceAdd, Nat.reduceMul, Nat.reduceEqDiff, decide_true, decide_false, if_true, if_false, ite_true, ite_false, reduceIte, reduceCtorEq, eq_self, true_and, and_true, true_implies]
  exact hK _ _ ⟨Own.of (by simp) na_old h_getN (old_n (by omega)) rfl rfl rfl, hp_of rfl⟩
theorem word_r (m : NH) (t : List Nat) : ∃ v m', Ret Try.prog S0 26 [.str t] m v m' ∧ v = .bool (decide (t ∈ wordsL)) ∧ Chg [] m m' := by
  refine WF.ex fun K hK => ?_
  refine WF.of_wpG (fun _ => rfl) nf26_eq (L := [(.e, .str t)]) rfl ?_
  unfold nf26
  simp (config := { maxSteps := 1000000 }) (disch := (first | assumption | omega | exact Nm.old_n (by omega) | exact Nm.old_hp (by assumption) | (simp only [List.length_set, List.length_cons, List.length_nil, List.length_append, List.length_map, List.length_replicate] <;> omega))) only [nmS0, nmS1, nmS2, nmS3, nmS4, nmS5, nmS6, nmS7, Nat.testBit, Nat.reduceShiftRight, Nat.reduceAnd, Nat.reduceBNe, cond_true, cond_false, NT.get_leaf, Nat.reduceSub, d_true, d_false, clsOf, beq_self_eq_true, Int.reduceToNat, Nat.reduceAdd, Nat.reduceMul, Nat.reduceEqDiff, decide_true, decide_false, if_true, if_false, ite_true, ite_false, reduceIte, reduceCtorEq, eq_self, true_and, and_true, true_implies]
  generalize hM : hp _ 1 m = M
  have hC : Chg [] m M := by rw [← hM]; exact hp_of rfl
  have hv : Sl M (.slc (na m 0) 0 12 1 12) 1 (Strs wordsL) := by
    rw [← hM]
    exact (Own.of (B := m) (C := Strs wordsL) (by simp) na_old h_getN (old_n (by omega)) rfl rfl rfl).sl
  have hwl : wordsL.length = 12 := rfl
  refine W.loop (fun k d => ∃ t' i, d = ⟨t', [], none, M⟩ ∧ NT.get D4.e t' = some (.str t) ∧ NT.get D4.e.c t' = some (.slc (na m 0) 0 12 1 12) ∧ NT.get D4.e.f t' = some (ii (i : Nat)) ∧ t ∉ wordsL.take i ∧ i + k = 12) ?_ 12 _ ⟨_, 0, rfl, by simp (config := { maxSteps := 1000000 }) (disch := (first | assumption | omega | exact Nm.old_n (by omega) | exact Nm.old_hp (by assumption) | (simp only [List.length_set, List.length_cons, List.length_nil, List.length_append, List.length_map, List.length_replicate] <;> omega))) only [nmS0, nmS1, nmS2, nmS3, nmS4, nmS5, nmS6, nmS7, Nat.testBit, Nat.reduceShiftRight, Nat.reduceAnd, Nat.reduceBNe, cond_true, cond_false, NT.get_leaf, Nat.reduceSub, d_true, d_false, clsOf, beq_self_eq_true, Int.reduceToNat, Nat.reduceAdd, Nat.reduceMul, Nat.reduceEqDiff, decide_true, decide_false, if_true, if_false, ite_true, ite_false, reduceIte, reduceCtorEq, eq_self, true_and, and_true, true_implies], by simp (config := { maxSteps := 1000000 }) (disch := (first | assumption | omega | exact Nm.old_n (by omega) | exact Nm.old_hp (by assumption) | (simp only [List.length_set, List.length_cons, List.length_nil, List.length_append, List.length_map, List.length_replicate] <;> omega))) only [nmS0, nmS1, nmS2, nmS3, nmS4, nmS5, nmS6, nmS7, Nat.testBit, Nat.reduceShiftRight, Nat.reduceAnd, Nat.reduceBNe, cond_true, cond_false, NT.get_leaf, Nat.reduceSub, d_true, d_false, clsOf, beq_self_eq_true, Int.reduceToNat, Nat.reduceAdd, Nat.reduceMul, Nat.reduceEqDiff, decide_true, decide_false, if_true, if_false, ite_true, ite_false, reduceIte, reduceCtorEq, eq_self, true_and, and_true, true_implies], by simp (config := { maxSteps := 1000000 }) (disch := (first | assumption | omega | exact Nm.old_n (by omega) | exact Nm.old_hp (by assumption) | (simp only [List.length_set, List.length_cons, List.length_nil, List.length_append, List.length_map, List.length_replicate] <;> omega))) only [nmS0, nmS1, nmS2, nmS3, nmS4, nmS5, nmS6, nmS7, Nat.testBit, Nat.reduceShiftRight, Nat.reduceAnd, Nat.reduceBNe, cond_true, cond_false, NT.get_leaf, Nat.reduceSub, d_true, d_false, clsOf, beq_self_eq_true, Int.reduceToNat, Nat.reduceAdd, Nat.reduceMul, Nat.reduceEqDiff, decide_true, decide_false, if_true, if_false, ite_true, ite_false, reduceIte, reduceCtorEq, eq_self, true_and, and_true, true_implies]; rfl, by simp, by omega⟩
  rintro k d ⟨t', i, rfl, g1, g2, g3, hno, hik⟩
  apply wp_sound
  unfold nf26_l1
  change wp _ _ _ _ ⟨puts [] t', [], none, M⟩ _
  by_cases hi : i < 12
  · obtain ⟨id, off, w, c, a1, a2, a3, a4, a5⟩ := hv.at i (by simpa [hwl] using hi)
    rw [List.getElem_map] at a5
    have c0 := cell_at a5 0 (by omega)
    rw [Nat.add_zero] at c0
    by_cases he : wordsL[i] = t
    · simp (config := { maxSteps := 1000000 }) (disch := (first | assumption | omega | exact Nm.old_n (by omega) | exact Nm.old_hp (by assumption) | (simp only [List.length_set, List.length_cons, List.length_nil, List.length_append, List.length_map, List.length_replicate] <;> omega))) only [nmS0, nmS1, nmS2, nmS3, nmS4, nmS5, nmS6, nmS7, Nat.testBit, Nat.reduceShiftRight, Nat.reduceAnd, Nat.reduceBNe, cond_true, cond_false, NT.get_leaf, Nat.reduceSub, d_true, d_false, clsOf, beq_self_eq_true, Int.reduceToNat, Nat.reduceAdd, Nat.reduceMul, Nat.reduceEqDiff, decide_true, decide_false, if_true, if_false, ite_true, ite_false, reduceIte, reduceCtorEq, eq_self, true_and, and_true, true_implies, g1, g2, g3, a1, a2, c0, he]
      exact hK _ _ ⟨by rw [decide_eq_true (show t ∈ wordsL by rw [← he]; exact List.getElem_mem _)], hC⟩
    · simp (config := { maxSteps := 1000000 }) (disch := (first | assumption | omega | exact Nm.old_n (by omega) | exact Nm.old_hp (by assumption) | (simp only [List.length_set, List.length_cons, List.length_nil, List.length_append, List.length_map, List.length_replicate] <;> omega))) only [nmS0, nmS1, nmS2, nmS3, nmS4, nmS5, nmS6, nmS7, Nat.testBit, Nat.reduceShiftRight, Nat.reduceAnd, Nat.reduceBNe, cond_true, cond_false, NT.get_leaf, Nat.reduceSub, d_true, d_false, clsOf, beq_self_eq_true, Int.reduceToNat, Nat.reduceAdd, Nat.reduceMul, Nat.reduceEqDiff, decide_true, decide_false, if_true, if_false, ite_true, ite_false, reduceIte, reduceCtorEq, eq_self, true_and, and_true, true_implies, g1, g2, g3, a1, a2, c0, he]
      refine ⟨k - 1, by omega, _, i + 1, rfl, ?_, ?_, ?_, ?_, by omega⟩
      · simp (config := { maxSteps := 1000000 }) (disch := (first | assumption | omega | exact Nm.old_n (by omega) | exact Nm.old_hp (by assumption) | (simp only [List.length_set, List.length_cons, List.length_nil, List.length_append, List.length_map, List.length_replicate] <;> omega))) only [nmS0, nmS1, nmS2, nmS3, nmS4, nmS5, nmS6, nmS7, Nat.testBit, Nat.reduceShiftRight, Nat.reduceAnd, Nat.reduceBNe, cond_true, cond_false, NT.get_leaf, Nat.reduceSub, d_true, d_false, clsOf, beq_self_eq_true, Int.reduceToNat, Nat.reduceAdd, Nat.reduceMul, Nat.reduceEqDiff, decide_true, decide_false, if_true, if_false, ite_true, ite_false, reduceIte, reduceCtorEq, eq_self, true_and, and_true, true_implies, g1]
      · simp (config := { maxSteps := 1000000 }) (disch := (first | assumption | omega | exact Nm.old_n (by omega) | exact Nm.old_hp (by assumption) | (simp only [List.length_set, List.length_cons, List.length_nil, List.length_append, List.length_map, List.length_replicate] <;> omega))) only [nmS0, nmS1, nmS2, nmS3, nmS4, nmS5, nmS6, nmS7, Nat.testBit, Nat.reduceShiftRight, Nat.reduceAnd, Nat.reduceBNe, cond_true, cond_false, NT.get_leaf, Nat.reduceSub, d_true, d_false, clsOf, beq_self_eq_true, Int.reduceToNat, Nat.reduceAdd, Nat.reduceMul, Nat.reduceEqDiff, decide_true, decide_false, if_true, if_false, ite_true, ite_false, reduceIte, reduceCtorEq, eq_self, true_and, and_true, true_implies, g2]
      · simp (config := { maxSteps := 1000000 }) (disch := (first | assumption | omega | exact Nm.old_n (by omega) | exact Nm.old_hp (by assumption) | (simp only [List.length_set, List.length_cons, List.length_nil, List.length_append, List.length_map, List.length_replicate] <;> omega))) only [nmS0, nmS1, nmS2, nmS3, nmS4, nmS5, nmS6, nmS7, Nat.testBit, Nat.reduceShiftRight, Nat.reduceAnd, Nat.reduceBNe, cond_true, cond_false, NT.get_leaf, Nat.reduceSub, d_true, d_false, clsOf, beq_self_eq_true, Int.reduceToNat, Nat.reduceAdd, Nat.reduceMul, Nat.reduceEqDiff, decide_true, decide_false, if_true, if_false, ite_true, ite_false, reduceIte, reduceCtorEq, eq_self, true_and, and_true, true_implies]; rfl
      · rw [List.take_add_one, List.getElem?_eq_getElem (by omega)]
        simp only [Option.toList_some, List.mem_append, List.mem_singleton, not_or]
        exact ⟨hno, fun q => he q.symm⟩
  · simp (config := { maxSteps := 1000000 }) (disch := (first | assumption | omega | exact Nm.old_n (by omega) | exact Nm.old_hp (by assumption) | (simp only [List.length_set, List.length_cons, List.length_nil, List.length_append, List.length_map, List.length_replicate] <;> omega))) only [nmS0, nmS1, nmS2, nmS3, nmS4, nmS5, nmS6, nmS7, Nat.testBit, Nat.reduceShiftRight, Nat.reduceAnd, Nat.reduceBNe, cond_true, cond_false, NT.get_leaf, Nat.reduceSub, d_true, d_false, clsOf, beq_self_eq_true, Int.reduceToNat, Nat.reduceAdd, Nat.reduceMul, Nat.reduceEqDiff, decide_true, decide_false, if_true, if_false, ite_true, ite_false, reduceIte, reduceCtorEq, eq_self, true_and, and_true, true_implies, g1, g2, g3]
    have e : i = 12 := by omega
    subst e
    rw [List.take_of_length_le (by rw [hwl]; omega)] at hno
    exact hK _ _ ⟨by simp [hno], hC⟩
end LX

open Go Nm Go.Proofs
namespace LX
set_option linter.unusedSimpArgs false
set_option linter.unusedVariables false
theorem idx_is : compF Try.prog 46 = some (.ext .idxByte) := by kernel_rfl
theorem add_is : compF Try.prog 39 = some (.ext .add64) := by kernel_rfl
/-- is a sign among others? -/
theorem has_p (m : NH) (s : List Nat) (hs : s.length ≤ 1000000) {c : Nat} (hc : c < 256) : Ret Try.prog S0 37 [.str s, .str [c]] m (.bool (decide (c ∈ s))) m := by
  obtain ⟨z, hz, hzi⟩ := ext_idx s hc
  have h1 : ∀ m, Ret Try.prog S0 46 [.str s, u8 c] m (ii z) m := fun m => Ret.ext rfl idx_is hz
  have h2 : ∀ m, Ret Try.prog S0 42 [.str s, u8 c] m (ii z) m := fun m => by
    have h : ∃ u m', Ret Try.prog S0 42 [.str s, u8 c] m u m' ∧ u = ii z ∧ m' = m := by
      refine WF.ex fun K hK => ?_
      refine WF.of_wpG (fun _ => rfl) nf42_eq (L := [(.a .e, u8 c), (.e, .str s)]) rfl ?_
      unfold nf42
      simp (config := { maxSteps := 1000000 }) (disch := (first | assumption | omega | exact Nm.old_n (by omega) | exact Nm.old_hp (by assumption) | (simp only [List.length_set, List.length_cons, List.length_nil, List.length_append, List.length_map, List.length_replicate] <;> omega))) only [nmS0, nmS1, nmS2, nmS3, nmS4, nmS5, nmS6, nmS7, Nat.testBit, Nat.reduceShiftRight, Nat.reduceAnd, Nat.reduceBNe, cond_true, cond_false, NT.get_leaf, Nat.reduceSub, d_true, d_false, clsOf, beq_self_eq_true, Int.reduceToNat, Nat.reduceAdd, Nat.reduceMul, Nat.reduceEqDiff, decide_true, decide_false, if_true, if_false, ite_true, ite_false, reduceIte, reduceCtorEq, eq_self, true_and, and_true, true_implies, hp_nil, (h1 _).wf']
      exact hK _ _ ⟨rfl, rfl⟩
    obtain ⟨v, m', h, rfl, rfl⟩ := h
    exact h
  have h3 : ∀ m, Ret Try.prog S0 41 [.str s, .str [c]] m (ii z) m := fun m => by
    have h : ∃ u m', Ret Try.prog S0 41 [.str s, .str [c]] m u m' ∧ u = ii z ∧ m' = m := by
      refine WF.ex fun K hK => ?_
      refine WF.of_wpG (fun _ => rfl) nf41_eq (L := [(.a .e, .str [c]), (.e, .str s)]) rfl ?_
      unfold nf41
      have hb : [c][0]? = some c := rfl
      have hl1 : [c].length = 1 := rfl
      by_cases hcs : [c] = s
      · have : z = 0 := by
          subst hcs
          have e : extRun .idxByte [.str [c], .int .u8 (.lit (c : Int))] = cond (Nat.ble c 255) (match cond (Nat.beq c c) (some 0) none with | some i => some (.int .i64 (.lit (.ofNat i))) | none => some (.int .i64 (.lit (.negSucc 0)))) none := rfl
          rw [e, Nat.ble_eq_true_of_le (by omega), Nat.beq_refl] at hz
          simp only [cond_true, Option.some.injEq, NV.int.injEq, SI.lit.injEq, true_and] at hz
          exact hz.symm
        subst this
        simp (config := { maxSteps := 1000000 }) (disch := (first | assumption | omega | exact Nm.old_n (by omega) | exact Nm.old_hp (by assumption) | (simp only [List.length_set, List.length_cons, List.length_nil, List.length_append, List.length_map, List.length_replicate] <;> omega))) only [nmS0, nmS1, nmS2, nmS3, nmS4, nmS5, nmS6, nmS7, Nat.testBit, Nat.reduceShiftRight, Nat.reduceAnd, Nat.reduceBNe, cond_true, cond_false, NT.get_leaf, Nat.reduceSub, d_true, d_false, clsOf, beq_self_eq_true, Int.reduceToNat, Nat.reduceAdd, Nat.reduceMul, Nat.reduceEqDiff, decide_true, decide_false, if_true, if_false, ite_true, ite_false, reduceIte, reduceCtorEq, eq_self, true_and, and_true, true_implies, hp_nil, (h2 _).wf', hb, hl1, decide_eq_true hcs]
        exact hK _ _ ⟨rfl, rfl⟩
      have hd := decide_eq_false hcs
      simp (config := { maxSteps := 1000000 }) (disch := (first | assumption | omega | exact Nm.old_n (by omega) | exact Nm.old_hp (by assumption) | (simp only [List.length_set, List.length_cons, List.length_nil, List.length_append, List.length_map, List.length_replicate] <;> omega))) only [nmS0, nmS1, nmS2, nmS3, nmS4, nmS5, nmS6, nmS7, Nat.testBit, Nat.reduceShiftRight, Nat.reduceAnd, Nat.reduceBNe, cond_true, cond_false, NT.get_leaf, Nat.reduceSub, d_true, d_false, clsOf, beq_self_eq_true, Int.reduceToNat, Nat.reduceAdd, Nat.reduceMul, Nat.reduceEqDiff, decide_true, decide_false, if_true, if_false, ite_true, ite_false, reduceIte, reduceCtorEq, eq_self, true_and, and_true, true_implies, hp_nil, (h2 _).wf', hb, hl1, hd]
      exact hK _ _ ⟨rfl, rfl⟩
    obtain ⟨v, m', h, rfl, rfl⟩ := h
    exact h
  have h4 : ∀ m, Ret Try.prog S0 40 [.str s, .str [c]] m (ii z) m := fun m => by
    have h : ∃ u m', Ret Try.prog S0 40 [.str s, .str [c]] m u m' ∧ u = ii z ∧ m' = m := by
      refine WF.ex fun K hK => ?_
      refine WF.of_wpG (fun _ => rfl) nf40_eq (L := [(.a .e, .str [c]), (.e, .str s)]) rfl ?_
      unfold nf40
      simp (config := { maxSteps := 1000000 }) (disch := (first | assumption | omega | exact Nm.old_n (by omega) | exact Nm.old_hp (by assumption) | (simp only [List.length_set, List.length_cons, List.length_nil, List.length_append, List.length_map, List.length_replicate] <;> omega))) only [nmS0, nmS1, nmS2, nmS3, nmS4, nmS5, nmS6, nmS7, Nat.testBit, Nat.reduceShiftRight, Nat.reduceAnd, Nat.reduceBNe, cond_true, cond_false, NT.get_leaf, Nat.reduceSub, d_true, d_false, clsOf, beq_self_eq_true, Int.reduceToNat, Nat.reduceAdd, Nat.reduceMul, Nat.reduceEqDiff, decide_true, decide_false, if_true, if_false, ite_true, ite_false, reduceIte, reduceCtorEq, eq_self, true_and, and_true, true_implies, hp_nil, (h3 _).wf']
      exact hK _ _ ⟨rfl, rfl⟩
    obtain ⟨v, m', h, rfl, rfl⟩ := h
    exact h
  have h : ∃ u m', Ret Try.prog S0 37 [.str s, .str [c]] m u m' ∧ u = .bool (decide (c ∈ s)) ∧ m' = m := by
    refine WF.ex fun K hK => ?_
    refine WF.of_wpG (fun _ => rfl) nf37_eq (L := [(.a .e, .str [c]), (.e, .str s)]) rfl ?_
    unfold nf37
    by_cases h : c ∈ s
    · have := hzi.mpr h
      simp (config := { maxSteps := 1000000 }) (disch := (first | assumption | omega | exact Nm.old_n (by omega) | exact Nm.old_hp (by assumption) | (simp only [List.length_set, List.length_cons, List.length_nil, List.length_append, List.length_map, List.length_replicate] <;> omega))) only [nmS0, nmS1, nmS2, nmS3, nmS4, nmS5, nmS6, nmS7, Nat.testBit, Nat.reduceShiftRight, Nat.reduceAnd, Nat.reduceBNe, cond_true, cond_false, NT.get_leaf, Nat.reduceSub, d_true, d_false, clsOf, beq_self_eq_true, Int.reduceToNat, Nat.reduceAdd, Nat.reduceMul, Nat.reduceEqDiff, decide_true, decide_false, if_true, if_false, ite_true, ite_false, reduceIte, reduceCtorEq, eq_self, true_and, and_true, true_implies, hp_nil, (h4 _).wf']
      exact hK _ _ ⟨by simp [h], rfl⟩
    · have : ¬ 0 ≤ z := fun q => h (hzi.mp q)
      simp (config := { maxSteps := 1000000 }) (disch := (first | assumption | omega | exact Nm.old_n (by omega) | exact Nm.old_hp (by assumption) | (simp only [List.length_set, List.length_cons, List.length_nil, List.length_append, List.length_map, List.length_replicate] <;> omega))) only [nmS0, nmS1, nmS2, nmS3, nmS4, nmS5, nmS6, nmS7, Nat.testBit, Nat.reduceShiftRight, Nat.reduceAnd, Nat.reduceBNe, cond_true, cond_false, NT.get_leaf, Nat.reduceSub, d_true, d_false, clsOf, beq_self_eq_true, Int.reduceToNat, Nat.reduceAdd, Nat.reduceMul, Nat.reduceEqDiff, decide_true, decide_false, if_true, if_false, ite_true, ite_false, reduceIte, reduceCtorEq, eq_self, true_and, and_true, true_implies, hp_nil, (h4 _).wf']
      exact hK _ _ ⟨by simp [h], rfl⟩
  obtain ⟨v, m', h, rfl, rfl⟩ := h
  exact h
/-- is it a name? -/
def nameB (s : List Nat) : Bool := decide (1 ≤ s.length) && decide (s.length ≤ 16) && (match s with | c :: _ => isL c | [] => false) && !(decide (s ∈ wordsL)) && s.all isI
theorem take_all (p : Nat → Bool) (s : List Nat) : ((s.takeWhile p).length = s.length) ↔ s.all p = true := by
  induction s with
  | nil => simp
  | cons c s ih =>
    cases hc : p c with
    | true =>
      have e1 : (c :: s).takeWhile p = c :: s.takeWhile p := by simp [List.takeWhile_cons, hc]
      have e2 : (c :: s).all p = s.all p := by simp [List.all_cons, hc]
      rw [e1, e2, ← ih]; simp
    | false =>
      have e1 : (c :: s).takeWhile p = [] := by simp [List.takeWhile_cons, hc]
      have e2 : (c :: s).all p = false := by simp [List.all_cons, hc]
      rw [e1, e2]; simp
theorem row_all (p : Nat → Bool) (s : List Nat) : (rowN p s 0 = s.length) ↔ s.all p = true := by
  have e : rowN p s 0 = (s.takeWhile p).length := by unfold rowN; simp
  rw [e]; exact take_all p s
theorem name_p (m : NH) {s : List Nat} (hs : s.length ≤ 1000000) : ∃ v m', Ret Try.prog S0 13 [.str s] m v m' ∧ v = .bool (nameB s) ∧ Chg [] m m' := by
  refine WF.ex fun K hK => ?_
  refine WF.of_wpG (fun _ => rfl) nf13_eq (L := [(.e, .str s)]) rfl ?_
  unfold nf13
  cases s with
  | nil => simp (config := { maxSteps := 1000000 }) (disch := (first | assumption | omega | exact Nm.old_n (by omega) | exact Nm.old_hp (by assumption) | (simp only [List.length_set, List.length_cons, List.length_nil, List.length_append, List.length_map, List.length_replicate] <;> omega))) only [nmS0, nmS1, nmS2, nmS3, nmS4, nmS5, nmS6, nmS7, Nat.testBit, Nat.reduceShiftRight, Nat.reduceAnd, Nat.reduceBNe, cond_true, cond_false, NT.get_leaf, Nat.reduceSub, d_true, d_false, clsOf, beq_self_eq_true, Int.reduceToNat, Nat.reduceAdd, Nat.reduceMul, Nat.reduceEqDiff, decide_true, decide_false, if_true, if_false, ite_true, ite_false, reduceIte, reduceCtorEq, eq_self, true_and, and_true, true_implies]; exact hK _ _ ⟨rfl, hp_of rfl⟩
  | cons c s =>
    have hne : ¬ (c :: s = []) := by simp
    have hlen : (c :: s).length = s.length + 1 := rfl
    by_cases h1 : (c :: s).length ≤ 16
    · have h0 : (c :: s)[0]? = some c := rfl
      have hl := letter_p m c
      cases h2 : isL c with
      | false =>
        rw [h2] at hl
        simp (config := { maxSteps := 1000000 }) (disch := (first | assumption | omega | exact Nm.old_n (by omega) | exact Nm.old_hp (by assumption) | (simp only [List.length_set, List.length_cons, List.length_nil, List.length_append, List.length_map, List.length_replicate] <;> omega))) only [nmS0, nmS1, nmS2, nmS3, nmS4, nmS5, nmS6, nmS7, Nat.testBit, Nat.reduceShiftRight, Nat.reduceAnd, Nat.reduceBNe, cond_true, cond_false, NT.get_leaf, Nat.reduceSub, d_true, d_false, clsOf, beq_self_eq_true, Int.reduceToNat, Nat.reduceAdd, Nat.reduceMul, Nat.reduceEqDiff, decide_true, decide_false, if_true, if_false, ite_true, ite_false, reduceIte, reduceCtorEq, eq_self, true_and, and_true, true_implies, hne, h0, hp_nil, hl.wf', hlen]
        exact hK _ _ ⟨by simp [nameB, h2], Chg.refl m⟩
      | true =>
        rw [h2] at hl
        obtain ⟨w, m1, hw, how, hC1⟩ := words_p m
        have hc := contains_p how.sl (by decide) (c :: s)
        by_cases h3 : (c :: s) ∈ wordsL
        · rw [decide_eq_true h3] at hc
          simp (config := { maxSteps := 1000000 }) (disch := (first | assumption | omega | exact Nm.old_n (by omega) | exact Nm.old_hp (by assumption) | (simp only [List.length_set, List.length_cons, List.length_nil, List.length_append, List.length_map, List.length_replicate] <;> omega))) only [nmS0, nmS1, nmS2, nmS3, nmS4, nmS5, nmS6, nmS7, Nat.testBit, Nat.reduceShiftRight, Nat.reduceAnd, Nat.reduceBNe, cond_true, cond_false, NT.get_leaf, Nat.reduceSub, d_true, d_false, clsOf, beq_self_eq_true, Int.reduceToNat, Nat.reduceAdd, Nat.reduceMul, Nat.reduceEqDiff, decide_true, decide_false, if_true, if_false, ite_true, ite_false, reduceIte, reduceCtorEq, eq_self, true_and, and_true, true_implies, hne, h0, hp_nil, hl.wf', hw.wf', hc.wf', hlen]
          exact hK _ _ ⟨by unfold nameB; rw [decide_eq_true h3]; simp, hC1⟩
        · rw [decide_eq_false h3] at hc
          have hr : Ret Try.prog S0 22 [.str (c :: s), ii 0, .fn 23 []] m1 (ii ((rowN isI (c :: s) 0 : Nat) : Int)) m1 := row_p inside_p m1 hs (a := 0) (Nat.zero_le _)
          simp (config := { maxSteps := 1000000 }) (disch := (first | assumption | omega | exact Nm.old_n (by omega) | exact Nm.old_hp (by assumption) | (simp only [List.length_set, List.length_cons, List.length_nil, List.length_append, List.length_map, List.length_replicate] <;> omega))) only [nmS0, nmS1, nmS2, nmS3, nmS4, nmS5, nmS6, nmS7, Nat.testBit, Nat.reduceShiftRight, Nat.reduceAnd, Nat.reduceBNe, cond_true, cond_false, NT.get_leaf, Nat.reduceSub, d_true, d_false, clsOf, beq_self_eq_true, Int.reduceToNat, Nat.reduceAdd, Nat.reduceMul, Nat.reduceEqDiff, decide_true, decide_false, if_true, if_false, ite_true, ite_false, reduceIte, reduceCtorEq, eq_self, true_and, and_true, true_implies, hne, h0, hp_nil, hl.wf', hw.wf', hc.wf', hlen, hr.wf']
          have hr2 := row_all isI (c :: s)
          refine hK _ _ ⟨?_, hC1⟩
          unfold nameB
          rw [decide_eq_false h3]
          congr 1
          rw [Bool.eq_iff_iff, decide_eq_true_eq]
          simp only [h2, Bool.not_false, Bool.and_true, Bool.and_eq_true, decide_eq_true_eq]
          constructor
          · intro q; exact ⟨⟨by simp, h1⟩, hr2.mp (by omega)⟩
          · intro q; have := hr2.mpr q.2; omega
    · simp (config := { maxSteps := 1000000 }) (disch := (first | assumption | omega | exact Nm.old_n (by omega) | exact Nm.old_hp (by assumption) | (simp only [List.length_set, List.length_cons, List.length_nil, List.length_append, List.length_map, List.length_replicate] <;> omega))) only [nmS0, nmS1, nmS2, nmS3, nmS4, nmS5, nmS6, nmS7, Nat.testBit, Nat.reduceShiftRight, Nat.reduceAnd, Nat.reduceBNe, cond_true, cond_false, NT.get_leaf, Nat.reduceSub, d_true, d_false, clsOf, beq_self_eq_true, Int.reduceToNat, Nat.reduceAdd, Nat.reduceMul, Nat.reduceEqDiff, decide_true, decide_false, if_true, if_false, ite_true, ite_false, reduceIte, reduceCtorEq, eq_self, true_and, and_true, true_implies, hne, hp_nil, hlen]
      exact hK _ _ ⟨by unfold nameB; rw [decide_eq_false h1]; simp, Chg.refl m⟩
end LX

open Go Nm Go.Proofs
namespace LX
set_option linter.unusedSimpArgs false
set_option linter.unusedVariables false
theorem b_and32 {a : Int} (h : 0 ≤ a) (h' : a < 18446744073709551616) : binV .num .and (.int .u64 (.lit a)) (.int .u64 (.lit 4294967295)) = some (.int .u64 (.lit (a % 4294967296))) := by
  obtain ⟨n, rfl⟩ := Int.eq_ofNat_of_zero_le h
  have := b_andU (a := n) (b := 4294967295) (by omega) (by omega)
  rw [Nat.and_two_pow_sub_one_eq_mod n 32] at this
  exact this
theorem b_shr32 {a : Int} (h : 0 ≤ a) : binV .num .shr (.int .u64 (.lit a)) (.int .u64 (.lit 32)) = some (.int .u64 (.lit (a / 4294967296))) := by
  obtain ⟨n, rfl⟩ := Int.eq_ofNat_of_zero_le h
  exact b_shrU (a := n) (n := 32) (by omega)
theorem mul_hi {A B n : Int} (hA : 0 ≤ A) (hA' : A < 4294967296) (hB : 0 ≤ B) (hB' : B < 4294967296) (hn : n = 4294967296 * A + B) :
    ((A * 10 % 18446744073709551616 + B * 10 % 18446744073709551616 / 4294967296) % 18446744073709551616 / 4294967296 % 18446744073709551616 + (A * 10 % 18446744073709551616 + B * 10 % 18446744073709551616 / 4294967296) % 18446744073709551616 % 4294967296 % 18446744073709551616 / 4294967296) % 18446744073709551616 = 10 * n / 18446744073709551616 := by
  rw [Int.emod_eq_of_lt (a := A * 10) (by omega) (by omega), Int.emod_eq_of_lt (a := B * 10) (by omega) (by omega)]
  generalize hu : B * 10 / 4294967296 = u
  rw [Int.emod_eq_of_lt (a := A * 10 + u) (by omega) (by omega)]
  generalize hq : (A * 10 + u) / 4294967296 = q
  generalize hs : (A * 10 + u) % 4294967296 = s
  rw [Int.emod_eq_of_lt (a := q) (by omega) (by omega), Int.emod_eq_of_lt (a := s) (by omega) (by omega)]
  rw [Int.emod_eq_of_lt (by omega) (by omega)]
  omega
/-- ten times a number, in two words -/
theorem mul_p (m : NH) {n : Nat} (hn : n < 18446744073709551616) : Ret Try.prog S0 38 [.int .u64 (.lit (n : Int)), .int .u64 (.lit 10)] m (.tup [.int .u64 (.lit ((10 * n / 18446744073709551616 : Nat) : Int)), .int .u64 (.lit ((10 * n % 18446744073709551616 : Nat) : Int))]) m := by
  have h : ∃ v m', Ret Try.prog S0 38 [.int .u64 (.lit (n : Int)), .int .u64 (.lit 10)] m v m' ∧ v = (.tup [.int .u64 (.lit ((10 * n / 18446744073709551616 : Nat) : Int)), .int .u64 (.lit ((10 * n % 18446744073709551616 : Nat) : Int))]) ∧ m' = m := by
    refine WF.ex fun K hK => ?_
    refine WF.of_wpG (fun _ => rfl) nf38_eq (L := [(.a .e, .int .u64 (.lit 10)), (.e, .int .u64 (.lit (n : Int)))]) rfl ?_
    unfold nf38
    have e1 : (10 : Int) % 4294967296 = 10 := rfl
    have e2 : (10 : Int) / 4294967296 = 0 := rfl
    have e3 : (0 : Int) % 18446744073709551616 = 0 := rfl
    simp (config := { maxSteps := 1000000 }) (disch := (first | assumption | omega | exact Nm.old_n (by omega) | exact Nm.old_hp (by assumption) | (simp only [List.length_set, List.length_cons, List.length_nil, List.length_append, List.length_map, List.length_replicate] <;> omega))) only [nmS0, nmS1, nmS2, nmS3, nmS4, nmS5, nmS6, nmS7, Nat.testBit, Nat.reduceShiftRight, Nat.reduceAnd, Nat.reduceBNe, cond_true, cond_false, NT.get_leaf, Nat.reduceSub, d_true, d_false, clsOf, beq_self_eq_true, Int.reduceToNat, Nat.reduceAdd, Nat.reduceMul, Nat.reduceEqDiff, decide_true, decide_false, if_true, if_false, ite_true, ite_false, reduceIte, reduceCtorEq, eq_self, true_and, and_true, true_implies, hp_nil, b_and32, b_shr32, e1, e2, e3, Int.mul_zero, Int.zero_mul, Int.add_zero, Int.zero_add]
    refine hK _ _ ⟨?_, rfl⟩
    congr 4
    · have := mul_hi (A := (n : Int) / 4294967296) (B := (n : Int) % 4294967296) (n := n) (by omega) (by omega) (by omega) (by omega) (by omega)
      rw [this]; omega
    · congr 2; omega
  obtain ⟨v, m', h, rfl, rfl⟩ := h
  exact h
def valL : List Nat → Nat → Option Nat
  | [], n => some n
  | c :: l, n => if 10 * n + (c - 48) < 18446744073709551616 then valL l (10 * n + (c - 48)) else none
def numV (s : List Nat) : Option Nat := if 1 < s.length ∧ s[0]? = some 48 then none else valL s 0
abbrev u64 (n : Nat) : NV := .int .u64 (.lit (n : Int))
theorem valL_lt : ∀ (l : List Nat) {n r : Nat}, n < 18446744073709551616 → valL l n = some r → r < 18446744073709551616 := by
  intro l
  induction l with
  | nil => intro n r hn h; cases h; exact hn
  | cons c l ih =>
    intro n r hn h
    unfold valL at h
    split at h
    · exact ih (by assumption) h
    · cases h
theorem put_puts {k : D4} {v : NV} {L : List (D4 × NV)} {t : Tm} : NT.put k v (puts L t) = puts ((k, v) :: L) t := _root_.id rfl
theorem number_l (m : NH) {s : List Nat} (hs : s.length ≤ 1000000) (hd : ∀ c ∈ s, isD c = true) {t : Tm} {Q : Out → Dyn → Prop}
    (g1 : NT.get D4.e t = some (.str s)) (g2 : NT.get D4.e.f t = some (u64 0)) (g3 : NT.get D4.e.f.c t = some (ii s.length)) (g4 : NT.get D4.e.f.f t = some (ii 0))
    (hbad : valL s 0 = none → ∀ t', NT.get D4.e.b t' = some (u64 0) → NT.get D4.e.c t' = some (.bool false) → Q .ret ⟨puts [] t', [], none, m⟩)
    (hok : ∀ n t', valL s 0 = some n → NT.get D4.e.f t' = some (u64 n) → Q (.exit 0) ⟨puts [] t', [], none, m⟩) :
    W Try.prog S0 none nf36_l1.loop ⟨t, [], none, m⟩ Q := by
  refine W.loop (fun k d => ∃ t i n, d = ⟨t, [], none, m⟩ ∧ NT.get D4.e t = some (.str s) ∧ NT.get D4.e.f t = some (u64 n) ∧ NT.get D4.e.f.c t = some (ii s.length) ∧ NT.get D4.e.f.f t = some (ii (i : Nat)) ∧ n < 18446744073709551616 ∧ valL (s.drop i) n = valL s 0 ∧ i + k = s.length) ?_ s.length _ ⟨_, 0, 0, rfl, g1, g2, g3, g4, by omega, rfl, by omega⟩
  rintro k d ⟨t, i, n, rfl, g1, g2, g3, g4, hn, hv, hik⟩
  apply wp_sound
  unfold nf36_l1
  change wp _ _ _ _ ⟨puts [] t, [], none, m⟩ _
  by_cases hi : i < s.length
  · have hb : s[i]? = some s[i] := List.getElem?_eq_getElem hi
    have hdi := hd s[i] (List.getElem_mem hi)
    unfold isD at hdi
    rw [decide_eq_true_eq] at hdi
    rw [List.drop_eq_getElem_cons hi] at hv
    generalize hc : s[i] = c at hb hdi hv
    have e1 : ((c : Int) - 48) % 256 = ((c - 48 : Nat) : Int) := by omega
    have e2 : ((c - 48 : Nat) : Int) % 18446744073709551616 = ((c - 48 : Nat) : Int) := by omega
    have hm := mul_p m hn
    have ha : Ret Try.prog S0 39 [.int .u64 (.lit ((10 * n % 18446744073709551616 : Nat) : Int)), .int .u64 (.lit ((c - 48 : Nat) : Int)), .int .u64 (.lit 0)] m (.tup [.int .u64 (.lit (((10 * n % 18446744073709551616 + (c - 48) + 0) % 18446744073709551616 : Nat) : Int)), .int .u64 (.lit (((10 * n % 18446744073709551616 + (c - 48) + 0) / 18446744073709551616 : Nat) : Int))]) m := Ret.ext rfl add_is (ext_add (c := 0) (by omega))
    by_cases hlt : 10 * n + (c - 48) < 18446744073709551616
    · have q4 : 10 * n % 18446744073709551616 = 10 * n := by omega
      have q1 : 10 * n / 18446744073709551616 = 0 := by omega
      have q2 : (10 * n + (c - 48) + 0) / 18446744073709551616 = 0 := by omega
      have q3 : (10 * n + (c - 48) + 0) % 18446744073709551616 = 10 * n + (c - 48) := by omega
      rw [q4] at hm ha
      rw [q2, q3] at ha
      rw [q1] at hm
      simp (config := { maxSteps := 1000000 }) (disch := (first | assumption | omega | exact Nm.old_n (by omega) | exact Nm.old_hp (by assumption) | (simp only [List.length_set, List.length_cons, List.length_nil, List.length_append, List.length_map, List.length_replicate] <;> omega))) only [nmS0, nmS1, nmS2, nmS3, nmS4, nmS5, nmS6, nmS7, Nat.testBit, Nat.reduceShiftRight, Nat.reduceAnd, Nat.reduceBNe, cond_true, cond_false, NT.get_leaf, Nat.reduceSub, d_true, d_false, clsOf, beq_self_eq_true, Int.reduceToNat, Nat.reduceAdd, Nat.reduceMul, Nat.reduceEqDiff, decide_true, decide_false, if_true, if_false, ite_true, ite_false, reduceIte, reduceCtorEq, eq_self, true_and, and_true, true_implies, g1, g2, g3, g4, hb, e1, e2, hm.wf', ha.wf']
      refine ⟨k - 1, by omega, _, i + 1, 10 * n + (c - 48), rfl, ?_, ?_, ?_, ?_, hlt, ?_, by omega⟩
      · simp (config := { maxSteps := 1000000 }) (disch := (first | assumption | omega | exact Nm.old_n (by omega) | exact Nm.old_hp (by assumption) | (simp only [List.length_set, List.length_cons, List.length_nil, List.length_append, List.length_map, List.length_replicate] <;> omega))) only [nmS0, nmS1, nmS2, nmS3, nmS4, nmS5, nmS6, nmS7, Nat.testBit, Nat.reduceShiftRight, Nat.reduceAnd, Nat.reduceBNe, cond_true, cond_false, NT.get_leaf, Nat.reduceSub, d_true, d_false, clsOf, beq_self_eq_true, Int.reduceToNat, Nat.reduceAdd, Nat.reduceMul, Nat.reduceEqDiff, decide_true, decide_false, if_true, if_false, ite_true, ite_false, reduceIte, reduceCtorEq, eq_self, true_and, and_true, true_implies, g1]
      · simp (config := { maxSteps := 1000000 }) (disch := (first | assumption | omega | exact Nm.old_n (by omega) | exact Nm.old_hp (by assumption) | (simp only [List.length_set, List.length_cons, List.length_nil, List.length_append, List.length_map, List.length_replicate] <;> omega))) only [nmS0, nmS1, nmS2, nmS3, nmS4, nmS5, nmS6, nmS7, Nat.testBit, Nat.reduceShiftRight, Nat.reduceAnd, Nat.reduceBNe, cond_true, cond_false, NT.get_leaf, Nat.reduceSub, d_true, d_false, clsOf, beq_self_eq_true, Int.reduceToNat, Nat.reduceAdd, Nat.reduceMul, Nat.reduceEqDiff, decide_true, decide_false, if_true, if_false, ite_true, ite_false, reduceIte, reduceCtorEq, eq_self, true_and, and_true, true_implies]
      · simp (config := { maxSteps := 1000000 }) (disch := (first | assumption | omega | exact Nm.old_n (by omega) | exact Nm.old_hp (by assumption) | (simp only [List.length_set, List.length_cons, List.length_nil, List.length_append, List.length_map, List.length_replicate] <;> omega))) only [nmS0, nmS1, nmS2, nmS3, nmS4, nmS5, nmS6, nmS7, Nat.testBit, Nat.reduceShiftRight, Nat.reduceAnd, Nat.reduceBNe, cond_true, cond_false, NT.get_leaf, Nat.reduceSub, d_true, d_false, clsOf, beq_self_eq_true, Int.reduceToNat, Nat.reduceAdd, Nat.reduceMul, Nat.reduceEqDiff, decide_true, decide_false, if_true, if_false, ite_true, ite_false, reduceIte, reduceCtorEq, eq_self, true_and, and_true, true_implies, g3]
      · simp (config := { maxSteps := 1000000 }) (disch := (first | assumption | omega | exact Nm.old_n (by omega) | exact Nm.old_hp (by assumption) | (simp only [List.length_set, List.length_cons, List.length_nil, List.length_append, List.length_map, List.length_replicate] <;> omega))) only [nmS0, nmS1, nmS2, nmS3, nmS4, nmS5, nmS6, nmS7, Nat.testBit, Nat.reduceShiftRight, Nat.reduceAnd, Nat.reduceBNe, cond_true, cond_false, NT.get_leaf, Nat.reduceSub, d_true, d_false, clsOf, beq_self_eq_true, Int.reduceToNat, Nat.reduceAdd, Nat.reduceMul, Nat.reduceEqDiff, decide_true, decide_false, if_true, if_false, ite_true, ite_false, reduceIte, reduceCtorEq, eq_self, true_and, and_true, true_implies]; rfl
      · rw [← hv]; show _ = ite _ _ _; rw [if_pos hlt]
    · have q1 : 1 ≤ 10 * n / 18446744073709551616 + (10 * n % 18446744073709551616 + (c - 48) + 0) / 18446744073709551616 := by omega
      have q2 : 10 * n / 18446744073709551616 < 20 := by omega
      have q3 : (10 * n % 18446744073709551616 + (c - 48) + 0) / 18446744073709551616 < 20 := by omega
      generalize (10 * n % 18446744073709551616 + (c - 48) + 0) / 18446744073709551616 = ca at ha q1 q3
      generalize 10 * n / 18446744073709551616 = hi' at hm q1 q2
      simp (config := { maxSteps := 1000000 }) (disch := (first | assumption | omega | exact Nm.old_n (by omega) | exact Nm.old_hp (by assumption) | (simp only [List.length_set, List.length_cons, List.length_nil, List.length_append, List.length_map, List.length_replicate] <;> omega))) only [nmS0, nmS1, nmS2, nmS3, nmS4, nmS5, nmS6, nmS7, Nat.testBit, Nat.reduceShiftRight, Nat.reduceAnd, Nat.reduceBNe, cond_true, cond_false, NT.get_leaf, Nat.reduceSub, d_true, d_false, clsOf, beq_self_eq_true, Int.reduceToNat, Nat.reduceAdd, Nat.reduceMul, Nat.reduceEqDiff, decide_true, decide_false, if_true, if_false, ite_true, ite_false, reduceIte, reduceCtorEq, eq_self, true_and, and_true, true_implies, g1, g2, g3, g4, hb, e1, e2, hm.wf', ha.wf']
      refine hbad ?_ _ ?_ ?_
      · rw [← hv]; show ite _ _ _ = _; rw [if_neg hlt]
      · simp (config := { maxSteps := 1000000 }) (disch := (first | assumption | omega | exact Nm.old_n (by omega) | exact Nm.old_hp (by assumption) | (simp only [List.length_set, List.length_cons, List.length_nil, List.length_append, List.length_map, List.length_replicate] <;> omega))) only [nmS0, nmS1, nmS2, nmS3, nmS4, nmS5, nmS6, nmS7, Nat.testBit, Nat.reduceShiftRight, Nat.reduceAnd, Nat.reduceBNe, cond_true, cond_false, NT.get_leaf, Nat.reduceSub, d_true, d_false, clsOf, beq_self_eq_true, Int.reduceToNat, Nat.reduceAdd, Nat.reduceMul, Nat.reduceEqDiff, decide_true, decide_false, if_true, if_false, ite_true, ite_false, reduceIte, reduceCtorEq, eq_self, true_and, and_true, true_implies, put_puts]; rfl
      · simp (config := { maxSteps := 1000000 }) (disch := (first | assumption | omega | exact Nm.old_n (by omega) | exact Nm.old_hp (by assumption) | (simp only [List.length_set, List.length_cons, List.length_nil, List.length_append, List.length_map, List.length_replicate] <;> omega))) only [nmS0, nmS1, nmS2, nmS3, nmS4, nmS5, nmS6, nmS7, Nat.testBit, Nat.reduceShiftRight, Nat.reduceAnd, Nat.reduceBNe, cond_true, cond_false, NT.get_leaf, Nat.reduceSub, d_true, d_false, clsOf, beq_self_eq_true, Int.reduceToNat, Nat.reduceAdd, Nat.reduceMul, Nat.reduceEqDiff, decide_true, decide_false, if_true, if_false, ite_true, ite_false, reduceIte, reduceCtorEq, eq_self, true_and, and_true, true_implies, put_puts]
  · simp (config := { maxSteps := 1000000 }) (disch := (first | assumption | omega | exact Nm.old_n (by omega) | exact Nm.old_hp (by assumption) | (simp only [List.length_set, List.length_cons, List.length_nil, List.length_append, List.length_map, List.length_replicate] <;> omega))) only [nmS0, nmS1, nmS2, nmS3, nmS4, nmS5, nmS6, nmS7, Nat.testBit, Nat.reduceShiftRight, Nat.reduceAnd, Nat.reduceBNe, cond_true, cond_false, NT.get_leaf, Nat.reduceSub, d_true, d_false, clsOf, beq_self_eq_true, Int.reduceToNat, Nat.reduceAdd, Nat.reduceMul, Nat.reduceEqDiff, decide_true, decide_false, if_true, if_false, ite_true, ite_false, reduceIte, reduceCtorEq, eq_self, true_and, and_true, true_implies, g1, g2, g3, g4]
    refine hok n _ ?_ ?_
    · rw [← hv, List.drop_eq_nil_of_le (by omega)]; rfl
    · simp (config := { maxSteps := 1000000 }) (disch := (first | assumption | omega | exact Nm.old_n (by omega) | exact Nm.old_hp (by assumption) | (simp only [List.length_set, List.length_cons, List.length_nil, List.length_append, List.length_map, List.length_replicate] <;> omega))) only [nmS0, nmS1, nmS2, nmS3, nmS4, nmS5, nmS6, nmS7, Nat.testBit, Nat.reduceShiftRight, Nat.reduceAnd, Nat.reduceBNe, cond_true, cond_false, NT.get_leaf, Nat.reduceSub, d_true, d_false, clsOf, beq_self_eq_true, Int.reduceToNat, Nat.reduceAdd, Nat.reduceMul, Nat.reduceEqDiff, decide_true, decide_false, if_true, if_false, ite_true, ite_false, reduceIte, reduceCtorEq, eq_self, true_and, and_true, true_implies, put_puts, g2]
/-- a number of digits -/
theorem number_p (m : NH) {s : List Nat} (hs : s.length ≤ 1000000) (hd : ∀ c ∈ s, isD c = true) :
    ∃ v m', Ret Try.prog S0 36 [.str s] m v m' ∧ v = (match numV s with | some n => .tup [u64 n, .bool true] | none => .tup [u64 0, .bool false]) ∧ m' = m := by
  refine WF.ex fun K hK => ?_
  refine WF.of_wpG (fun _ => rfl) nf36_eq (L := [(.e, .str s)]) rfl ?_
  unfold nf36
  by_cases h1 : 1 < s.length
  · have h0 : s[0]? = some s[0] := List.getElem?_eq_getElem (by omega)
    by_cases h2 : s[0] = 48
    · simp (config := { maxSteps := 1000000 }) (disch := (first | assumption | omega | exact Nm.old_n (by omega) | exact Nm.old_hp (by assumption) | (simp only [List.length_set, List.length_cons, List.length_nil, List.length_append, List.length_map, List.length_replicate] <;> omega))) only [nmS0, nmS1, nmS2, nmS3, nmS4, nmS5, nmS6, nmS7, Nat.testBit, Nat.reduceShiftRight, Nat.reduceAnd, Nat.reduceBNe, cond_true, cond_false, NT.get_leaf, Nat.reduceSub, d_true, d_false, clsOf, beq_self_eq_true, Int.reduceToNat, Nat.reduceAdd, Nat.reduceMul, Nat.reduceEqDiff, decide_true, decide_false, if_true, if_false, ite_true, ite_false, reduceIte, reduceCtorEq, eq_self, true_and, and_true, true_implies, hp_nil, h0, h2]
      exact hK _ _ ⟨by unfold numV; rw [if_pos ⟨h1, by rw [h0, h2]⟩]; rfl, rfl⟩
    · have hN : numV s = valL s 0 := by unfold numV; rw [if_neg (by rw [h0]; simp [h2])]
      simp (config := { maxSteps := 1000000 }) (disch := (first | assumption | omega | exact Nm.old_n (by omega) | exact Nm.old_hp (by assumption) | (simp only [List.length_set, List.length_cons, List.length_nil, List.length_append, List.length_map, List.length_replicate] <;> omega))) only [nmS0, nmS1, nmS2, nmS3, nmS4, nmS5, nmS6, nmS7, Nat.testBit, Nat.reduceShiftRight, Nat.reduceAnd, Nat.reduceBNe, cond_true, cond_false, NT.get_leaf, Nat.reduceSub, d_true, d_false, clsOf, beq_self_eq_true, Int.reduceToNat, Nat.reduceAdd, Nat.reduceMul, Nat.reduceEqDiff, decide_true, decide_false, if_true, if_false, ite_true, ite_false, reduceIte, reduceCtorEq, eq_self, true_and, and_true, true_implies, hp_nil, h0, h2]
      refine number_l m hs hd ?_ ?_ ?_ ?_ ?_ ?_
      · simp (config := { maxSteps := 1000000 }) (disch := (first | assumption | omega | exact Nm.old_n (by omega) | exact Nm.old_hp (by assumption) | (simp only [List.length_set, List.length_cons, List.length_nil, List.length_append, List.length_map, List.length_replicate] <;> omega))) only [nmS0, nmS1, nmS2, nmS3, nmS4, nmS5, nmS6, nmS7, Nat.testBit, Nat.reduceShiftRight, Nat.reduceAnd, Nat.reduceBNe, cond_true, cond_false, NT.get_leaf, Nat.reduceSub, d_true, d_false, clsOf, beq_self_eq_true, Int.reduceToNat, Nat.reduceAdd, Nat.reduceMul, Nat.reduceEqDiff, decide_true, decide_false, if_true, if_false, ite_true, ite_false, reduceIte, reduceCtorEq, eq_self, true_and, and_true, true_implies]
      · simp (config := { maxSteps := 1000000 }) (disch := (first | assumption | omega | exact Nm.old_n (by omega) | exact Nm.old_hp (by assumption) | (simp only [List.length_set, List.length_cons, List.length_nil, List.length_append, List.length_map, List.length_replicate] <;> omega))) only [nmS0, nmS1, nmS2, nmS3, nmS4, nmS5, nmS6, nmS7, Nat.testBit, Nat.reduceShiftRight, Nat.reduceAnd, Nat.reduceBNe, cond_true, cond_false, NT.get_leaf, Nat.reduceSub, d_true, d_false, clsOf, beq_self_eq_true, Int.reduceToNat, Nat.reduceAdd, Nat.reduceMul, Nat.reduceEqDiff, decide_true, decide_false, if_true, if_false, ite_true, ite_false, reduceIte, reduceCtorEq, eq_self, true_and, and_true, true_implies]; rfl
      · simp (config := { maxSteps := 1000000 }) (disch := (first | assumption | omega | exact Nm.old_n (by omega) | exact Nm.old_hp (by assumption) | (simp only [List.length_set, List.length_cons, List.length_nil, List.length_append, List.length_map, List.length_replicate] <;> omega))) only [nmS0, nmS1, nmS2, nmS3, nmS4, nmS5, nmS6, nmS7, Nat.testBit, Nat.reduceShiftRight, Nat.reduceAnd, Nat.reduceBNe, cond_true, cond_false, NT.get_leaf, Nat.reduceSub, d_true, d_false, clsOf, beq_self_eq_true, Int.reduceToNat, Nat.reduceAdd, Nat.reduceMul, Nat.reduceEqDiff, decide_true, decide_false, if_true, if_false, ite_true, ite_false, reduceIte, reduceCtorEq, eq_self, true_and, and_true, true_implies]
      · simp (config := { maxSteps := 1000000 }) (disch := (first | assumption | omega | exact Nm.old_n (by omega) | exact Nm.old_hp (by assumption) | (simp only [List.length_set, List.length_cons, List.length_nil, List.length_append, List.length_map, List.length_replicate] <;> omega))) only [nmS0, nmS1, nmS2, nmS3, nmS4, nmS5, nmS6, nmS7, Nat.testBit, Nat.reduceShiftRight, Nat.reduceAnd, Nat.reduceBNe, cond_true, cond_false, NT.get_leaf, Nat.reduceSub, d_true, d_false, clsOf, beq_self_eq_true, Int.reduceToNat, Nat.reduceAdd, Nat.reduceMul, Nat.reduceEqDiff, decide_true, decide_false, if_true, if_false, ite_true, ite_false, reduceIte, reduceCtorEq, eq_self, true_and, and_true, true_implies]
      · intro hv t' g1 g2
        simp (config := { maxSteps := 1000000 }) (disch := (first | assumption | omega | exact Nm.old_n (by omega) | exact Nm.old_hp (by assumption) | (simp only [List.length_set, List.length_cons, List.length_nil, List.length_append, List.length_map, List.length_replicate] <;> omega))) only [nmS0, nmS1, nmS2, nmS3, nmS4, nmS5, nmS6, nmS7, Nat.testBit, Nat.reduceShiftRight, Nat.reduceAnd, Nat.reduceBNe, cond_true, cond_false, NT.get_leaf, Nat.reduceSub, d_true, d_false, clsOf, beq_self_eq_true, Int.reduceToNat, Nat.reduceAdd, Nat.reduceMul, Nat.reduceEqDiff, decide_true, decide_false, if_true, if_false, ite_true, ite_false, reduceIte, reduceCtorEq, eq_self, true_and, and_true, true_implies, g1, g2]
        exact hK _ _ ⟨by rw [hN, hv], rfl⟩
      · intro n t' hv g1
        simp (config := { maxSteps := 1000000 }) (disch := (first | assumption | omega | exact Nm.old_n (by omega) | exact Nm.old_hp (by assumption) | (simp only [List.length_set, List.length_cons, List.length_nil, List.length_append, List.length_map, List.length_replicate] <;> omega))) only [nmS0, nmS1, nmS2, nmS3, nmS4, nmS5, nmS6, nmS7, Nat.testBit, Nat.reduceShiftRight, Nat.reduceAnd, Nat.reduceBNe, cond_true, cond_false, NT.get_leaf, Nat.reduceSub, d_true, d_false, clsOf, beq_self_eq_true, Int.reduceToNat, Nat.reduceAdd, Nat.reduceMul, Nat.reduceEqDiff, decide_true, decide_false, if_true, if_false, ite_true, ite_false, reduceIte, reduceCtorEq, eq_self, true_and, and_true, true_implies, g1]
        exact hK _ _ ⟨by rw [hN, hv], rfl⟩
  · have hN : numV s = valL s 0 := by unfold numV; rw [if_neg (fun q => h1 q.1)]
    simp (config := { maxSteps := 1000000 }) (disch := (first | assumption | omega | exact Nm.old_n (by omega) | exact Nm.old_hp (by assumption) | (simp only [List.length_set, List.length_cons, List.length_nil, List.length_append, List.length_map, List.length_replicate] <;> omega))) only [nmS0, nmS1, nmS2, nmS3, nmS4, nmS5, nmS6, nmS7, Nat.testBit, Nat.reduceShiftRight, Nat.reduceAnd, Nat.reduceBNe, cond_true, cond_false, NT.get_leaf, Nat.reduceSub, d_true, d_false, clsOf, beq_self_eq_true, Int.reduceToNat, Nat.reduceAdd, Nat.reduceMul, Nat.reduceEqDiff, decide_true, decide_false, if_true, if_false, ite_true, ite_false, reduceIte, reduceCtorEq, eq_self, true_and, and_true, true_implies, hp_nil]
    refine number_l m hs hd ?_ ?_ ?_ ?_ ?_ ?_
    · simp (config := { maxSteps := 1000000 }) (disch := (first | assumption | omega | exact Nm.old_n (by omega) | exact Nm.old_hp (by assumption) | (simp only [List.length_set, List.length_cons, List.length_nil, List.length_append, List.length_map, List.length_replicate] <;> omega))) only [nmS0, nmS1, nmS2, nmS3, nmS4, nmS5, nmS6, nmS7, Nat.testBit, Nat.reduceShiftRight, Nat.reduceAnd, Nat.reduceBNe, cond_true, cond_false, NT.get_leaf, Nat.reduceSub, d_true, d_false, clsOf, beq_self_eq_true, Int.reduceToNat, Nat.reduceAdd, Nat.reduceMul, Nat.reduceEqDiff, decide_true, decide_false, if_true, if_false, ite_true, ite_false, reduceIte, reduceCtorEq, eq_self, true_and, and_true, true_implies]
    · simp (config := { maxSteps := 1000000 }) (disch := (first | assumption | omega | exact Nm.old_n (by omega) | exact Nm.old_hp (by assumption) | (simp only [List.length_set, List.length_cons, List.length_nil, List.length_append, List.length_map, List.length_replicate] <;> omega))) only [nmS0, nmS1, nmS2, nmS3, nmS4, nmS5, nmS6, nmS7, Nat.testBit, Nat.reduceShiftRight, Nat.reduceAnd, Nat.reduceBNe, cond_true, cond_false, NT.get_leaf, Nat.reduceSub, d_true, d_false, clsOf, beq_self_eq_true, Int.reduceToNat, Nat.reduceAdd, Nat.reduceMul, Nat.reduceEqDiff, decide_true, decide_false, if_true, if_false, ite_true, ite_false, reduceIte, reduceCtorEq, eq_self, true_and, and_true, true_implies]; rfl
    · simp (config := { maxSteps := 1000000 }) (disch := (first | assumption | omega | exact Nm.old_n (by omega) | exact Nm.old_hp (by assumption) | (simp only [List.length_set, List.length_cons, List.length_nil, List.length_append, List.length_map, List.length_replicate] <;> omega))) only [nmS0, nmS1, nmS2, nmS3, nmS4, nmS5, nmS6, nmS7, Nat.testBit, Nat.reduceShiftRight, Nat.reduceAnd, Nat.reduceBNe, cond_true, cond_false, NT.get_leaf, Nat.reduceSub, d_true, d_false, clsOf, beq_self_eq_true, Int.reduceToNat, Nat.reduceAdd, Nat.reduceMul, Nat.reduceEqDiff, decide_true, decide_false, if_true, if_false, ite_true, ite_false, reduceIte, reduceCtorEq, eq_self, true_and, and_true, true_implies]
    · simp (config := { maxSteps := 1000000 }) (disch := (first | assumption | omega | exact Nm.old_n (by omega) | exact Nm.old_hp (by assumption) | (simp only [List.length_set, List.length_cons, List.length_nil, List.length_append, List.length_map, List.length_replicate] <;> omega))) only [nmS0, nmS1, nmS2, nmS3, nmS4, nmS5, nmS6, nmS7, Nat.testBit, Nat.reduceShiftRight, Nat.reduceAnd, Nat.reduceBNe, cond_true, cond_false, NT.get_leaf, Nat.reduceSub, d_true, d_false, clsOf, beq_self_eq_true, Int.reduceToNat, Nat.reduceAdd, Nat.reduceMul, Nat.reduceEqDiff, decide_true, decide_false, if_true, if_false, ite_true, ite_false, reduceIte, reduceCtorEq, eq_self, true_and, and_true, true_implies]
    · intro hv t' g1 g2
      simp (config := { maxSteps := 1000000 }) (disch := (first | assumption | omega | exact Nm.old_n (by omega) | exact Nm.old_hp (by assumption) | (simp only [List.length_set, List.length_cons, List.length_nil, List.length_append, List.length_map, List.length_replicate] <;> omega))) only [nmS0, nmS1, nmS2, nmS3, nmS4, nmS5, nmS6, nmS7, Nat.testBit, Nat.reduceShiftRight, Nat.reduceAnd, Nat.reduceBNe, cond_true, cond_false, NT.get_leaf, Nat.reduceSub, d_true, d_false, clsOf, beq_self_eq_true, Int.reduceToNat, Nat.reduceAdd, Nat.reduceMul, Nat.reduceEqDiff, decide_true, decide_false, if_true, if_false, ite_true, ite_false, reduceIte, reduceCtorEq, eq_self, true_and, and_true, true_implies, g1, g2]
      exact hK _ _ ⟨by rw [hN, hv], rfl⟩
    · intro n t' hv g1
      simp (config := { maxSteps := 1000000 }) (disch := (first | assumption | omega | exact Nm.old_n (by omega) | exact Nm.old_hp (by assumption) | (simp only [List.length_set, List.length_cons, List.length_nil, List.length_append, List.length_map, List.length_replicate] <;> omega))) only [nmS0, nmS1, nmS2, nmS3, nmS4, nmS5, nmS6, nmS7, Nat.testBit, Nat.reduceShiftRight, Nat.reduceAnd, Nat.reduceBNe, cond_true, cond_false, NT.get_leaf, Nat.reduceSub, d_true, d_false, clsOf, beq_self_eq_true, Int.reduceToNat, Nat.reduceAdd, Nat.reduceMul, Nat.reduceEqDiff, decide_true, decide_false, if_true, if_false, ite_true, ite_false, reduceIte, reduceCtorEq, eq_self, true_and, and_true, true_implies, g1]
      exact hK _ _ ⟨by rw [hN, hv], rfl⟩
end LX

open Go Nm Go.Proofs
namespace LX
set_option linter.unusedSimpArgs false
set_option linter.unusedVariables false
def signsL : List Nat := [123, 125, 40, 41, 91, 93, 59, 43, 45, 42, 38, 61, 60]
def cut (s : List Nat) (a e : Nat) : List Nat := (s.take e).drop a
/-- the token at a place: its kind, text, number and the place behind it -/
def tokS (s : List Nat) (a : Nat) : Option (Nat × List Nat × Nat × Nat) :=
  match s[a]? with
  | none => none
  | some c =>
    if isL c then (if cut s a (rowN isI s a) ∈ wordsL then some (4, cut s a (rowN isI s a), 0, rowN isI s a) else if (cut s a (rowN isI s a)).length ≤ 16 then some (1, cut s a (rowN isI s a), 0, rowN isI s a) else none)
    else if isD c then (match numV (cut s a (rowN isD s a)) with | some n => if rowN isI s a = rowN isD s a then some (2, [], n, rowN isD s a) else none | none => none)
    else if c ∈ signsL then some (3, [c], 0, a + 1) else none
theorem same_tok {a n d : Int} {t : List Nat} : sameV 4 (.agg [.int .i64 (.lit a), .str t, .int .u64 (.lit n), .int .i64 (.lit d)]) (.agg [.int .i64 (.lit a), .str t, .int .u64 (.lit n), .int .i64 (.lit d)]) = true := by
  refine same_agg ?_
  intro v hv
  simp only [List.mem_cons, List.not_mem_nil, or_false] at hv
  rcases hv with rfl | rfl | rfl | rfl <;> trivial
theorem cut_row (p : Nat → Bool) (s : List Nat) (a : Nat) : cut s a (rowN p s a) = (s.drop a).takeWhile p := by
  unfold cut rowN
  rw [List.drop_take, Nat.add_sub_cancel_left]
  exact (List.prefix_iff_eq_take.mp (List.takeWhile_prefix p)).symm
theorem cut_hd {p : Nat → Bool} {s : List Nat} {a c : Nat} (hb : s[a]? = some c) (hp : p c = true) : ∃ l, cut s a (rowN p s a) = c :: l := by
  rw [cut_row]
  obtain ⟨ha, hc⟩ := List.getElem?_eq_some_iff.mp hb
  rw [List.drop_eq_getElem_cons ha, hc, List.takeWhile_cons, hp]
  exact ⟨_, rfl⟩
theorem take_every (p : Nat → Bool) (l : List Nat) : ∀ c ∈ l.takeWhile p, p c = true := by
  induction l with
  | nil => intro c h; simp at h
  | cons x l ih =>
    intro c h
    rw [List.takeWhile_cons] at h
    split at h
    · rcases List.mem_cons.mp h with rfl | h
      · assumption
      · exact ih c h
    · simp at h
theorem cut_every (p : Nat → Bool) (s : List Nat) (a : Nat) : ∀ c ∈ cut s a (rowN p s a), p c = true := by rw [cut_row]; exact take_every p _
theorem nameB_cut {s : List Nat} {a c : Nat} (hb : s[a]? = some c) (hL : isL c = true) (hw : cut s a (rowN isI s a) ∉ wordsL) : nameB (cut s a (rowN isI s a)) = decide ((cut s a (rowN isI s a)).length ≤ 16) := by
  have hI : isI c = true := by unfold isI; rw [hL]; rfl
  have hall : (cut s a (rowN isI s a)).all isI = true := by rw [List.all_eq_true]; exact cut_every isI s a
  obtain ⟨l, hl⟩ := cut_hd (p := isI) hb hI
  unfold nameB
  rw [decide_eq_false hw, hall, hl]
  simp [hL]
theorem row_row {p q : Nat → Bool} (hpq : ∀ c, q c = true → p c = true) (s : List Nat) : ∀ (k a : Nat), k = s.length - a → rowN p s a = rowN p s (rowN q s a) := by
  intro k
  induction k with
  | zero => intro a hk; rw [rowN_end (p := q) (by omega)]
  | succ k ih =>
    intro a hk
    have ha : a < s.length := by omega
    cases hp : q s[a] with
    | true => rw [rowN_yes (p := q) ha hp, rowN_yes (p := p) ha (hpq _ hp)]; exact ih (a + 1) (by omega)
    | false => rw [rowN_no (p := q) ha hp]
theorem isD_isI (c : Nat) (h : isD c = true) : isI c = true := by unfold isI; rw [h]; simp
theorem token_p (m : NH) {s : List Nat} (hs : s.length ≤ 1000000) (h256 : ∀ c ∈ s, c < 256) {a : Nat} (ha : a < s.length) :
    ∃ v m', Ret Try.prog S0 30 [.str s, ii a] m v m' ∧ (∃ (k0 : Int) (t0 : List Nat) (n0 z : Int), v = .tup [.agg [ii k0, .str t0, .int .u64 (.lit n0), ii a], ii z, .bool (tokS s a).isSome] ∧ ∀ k t n e, tokS s a = some (k, t, n, e) → k0 = k ∧ t0 = t ∧ n0 = n ∧ z = (e : Int) - a) ∧ Chg [] m m' := by
  refine WF.ex fun K hK => ?_
  refine WF.of_wpG (fun _ => rfl) nf30_eq (L := [(.a .e, ii a), (.e, .str s)]) rfl ?_
  unfold nf30
  have hb : s[a]? = some s[a] := List.getElem?_eq_getElem ha
  generalize hc : s[a] = c at hb
  have hd : ∀ m, Ret Try.prog S0 33 [u8 c] m (.bool (isD c)) m := fun m => digit_p m c
  have hl : ∀ m, Ret Try.prog S0 19 [u8 c] m (.bool (isL c)) m := fun m => letter_p m c
  cases hL : isL c with
  | true =>
    rw [hL] at hl
    have hr : ∀ m, Ret Try.prog S0 22 [.str s, ii a, .fn 23 []] m (ii ((rowN isI s a : Nat) : Int)) m := fun m => row_p inside_p m hs (Nat.le_of_lt ha)
    have ha' : a ≤ rowN isI s a := by unfold rowN; omega
    have hz' : rowN isI s a ≤ s.length := rowN_le (Nat.le_of_lt ha)
    simp (config := { maxSteps := 1000000 }) (disch := (first | assumption | omega | exact Nm.old_n (by omega) | exact Nm.old_hp (by assumption) | (simp only [List.length_set, List.length_cons, List.length_nil, List.length_append, List.length_map, List.length_replicate] <;> omega))) only [nmS0, nmS1, nmS2, nmS3, nmS4, nmS5, nmS6, nmS7, Nat.testBit, Nat.reduceShiftRight, Nat.reduceAnd, Nat.reduceBNe, cond_true, cond_false, NT.get_leaf, Nat.reduceSub, d_true, d_false, clsOf, beq_self_eq_true, Int.reduceToNat, Nat.reduceAdd, Nat.reduceMul, Nat.reduceEqDiff, decide_true, decide_false, if_true, if_false, ite_true, ite_false, reduceIte, reduceCtorEq, eq_self, true_and, and_true, true_implies, hb, (hl _).wf', (hr _).wf']
    generalize hM : hp _ 2 m = M
    have hCM : Chg [] m M := by rw [← hM]; exact hp_of rfl
    have o0 : Old M (na m 0) := by rw [← hM]; exact old_n (by omega)
    have o1 : Old M (na m 1) := by rw [← hM]; exact old_n (by omega)
    have q0 : M.get (na m 0) = some (.cells true [.int .i64 (.lit 0), .str [], .int .u64 (.lit 0), .int .i64 (.lit 0)]) := by rw [← hM]; simp (config := { maxSteps := 1000000 }) (disch := (first | assumption | omega | exact Nm.old_n (by omega) | exact Nm.old_hp (by assumption) | (simp only [List.length_set, List.length_cons, List.length_nil, List.length_append, List.length_map, List.length_replicate] <;> omega))) only [nmS0, nmS1, nmS2, nmS3, nmS4, nmS5, nmS6, nmS7, Nat.testBit, Nat.reduceShiftRight, Nat.reduceAnd, Nat.reduceBNe, cond_true, cond_false, NT.get_leaf, Nat.reduceSub, d_true, d_false, clsOf, beq_self_eq_true, Int.reduceToNat, Nat.reduceAdd, Nat.reduceMul, Nat.reduceEqDiff, decide_true, decide_false, if_true, if_false, ite_true, ite_false, reduceIte, reduceCtorEq, eq_self, true_and, and_true, true_implies]
    have q1 : M.get (na m 1) = some (.cells true [.int .i64 (.lit 1), .str (cut s a (rowN isI s a)), .int .u64 (.lit 0), ii a]) := by rw [← hM]; simp (config := { maxSteps := 1000000 }) (disch := (first | assumption | omega | exact Nm.old_n (by omega) | exact Nm.old_hp (by assumption) | (simp only [List.length_set, List.length_cons, List.length_nil, List.length_append, List.length_map, List.length_replicate] <;> omega))) only [nmS0, nmS1, nmS2, nmS3, nmS4, nmS5, nmS6, nmS7, Nat.testBit, Nat.reduceShiftRight, Nat.reduceAnd, Nat.reduceBNe, cond_true, cond_false, NT.get_leaf, Nat.reduceSub, d_true, d_false, clsOf, beq_self_eq_true, Int.reduceToNat, Nat.reduceAdd, Nat.reduceMul, Nat.reduceEqDiff, decide_true, decide_false, if_true, if_false, ite_true, ite_false, reduceIte, reduceCtorEq, eq_self, true_and, and_true, true_implies]; rfl
    obtain ⟨w, m1, hw, how, hC1⟩ := words_p M
    have p0 := (hC1.get o0 (by simp)).trans q0
    have p1 := (hC1.get o1 (by simp)).trans q1
    have ne01 : na m 0 ≠ na m 1 := fun h => absurd (na_inj h) (by omega)
    have ne10 : na m 1 ≠ na m 0 := fun h => absurd (na_inj h) (by omega)
    have O0 := hC1.old o0
    have O1 := hC1.old o1
    have hlc : (cut s a (rowN isI s a)).length ≤ 1000000 := by unfold cut; rw [List.length_drop, List.length_take]; omega
    have hct : ∀ t, Ret Try.prog S0 20 [w, .str t] m1 (.bool (decide (t ∈ wordsL))) m1 := fun t => contains_p how.sl (by decide) t
    have hct := hct (cut s a (rowN isI s a))
    have e1 : List.drop a (List.take (rowN isI s a) s) = cut s a (rowN isI s a) := rfl
    by_cases hwd : cut s a (rowN isI s a) ∈ wordsL
    · rw [decide_eq_true hwd] at hct
      have T : tokS s a = some (4, cut s a (rowN isI s a), 0, rowN isI s a) := by unfold tokS; rw [hb]; simp [hL, hwd]
      simp (config := { maxSteps := 1000000 }) (disch := (first | assumption | omega | exact Nm.old_n (by omega) | exact Nm.old_hp (by assumption) | (simp only [List.length_set, List.length_cons, List.length_nil, List.length_append, List.length_map, List.length_replicate] <;> omega))) only [nmS0, nmS1, nmS2, nmS3, nmS4, nmS5, nmS6, nmS7, Nat.testBit, Nat.reduceShiftRight, Nat.reduceAnd, Nat.reduceBNe, cond_true, cond_false, NT.get_leaf, Nat.reduceSub, d_true, d_false, clsOf, beq_self_eq_true, Int.reduceToNat, Nat.reduceAdd, Nat.reduceMul, Nat.reduceEqDiff, decide_true, decide_false, if_true, if_false, ite_true, ite_false, reduceIte, reduceCtorEq, eq_self, true_and, and_true, true_implies, e1, hw.wf', hct.wf, p0, p1, q0, q1, same_tok]
      refine hK _ _ ⟨⟨_, _, _, _, by rw [T]; rfl, ?_⟩, ?_⟩
      · intro k t n e he
        rw [T] at he; cases he
        exact ⟨rfl, rfl, rfl, rfl⟩
      · refine hCM.trans ((hC1.weak (T := [na m 1, na m 0]) (by simp)).trans (hp_of rfl) (by simp [oldK])) ?_
        simp [na_old]
    · rw [decide_eq_false hwd] at hct
      obtain ⟨nv, m2, hn, rfl, hC2⟩ := name_p (hp [] 0 m1) hlc
      have hC2' : Chg [] m1 m2 := by rw [hp_nil] at hC2; exact hC2
      have r0 := (hC2'.get O0 (by simp)).trans p0
      have r1 := (hC2'.get O1 (by simp)).trans p1
      have P0 := hC2'.old O0
      have P1 := hC2'.old O1
      simp (config := { maxSteps := 1000000 }) (disch := (first | assumption | omega | exact Nm.old_n (by omega) | exact Nm.old_hp (by assumption) | (simp only [List.length_set, List.length_cons, List.length_nil, List.length_append, List.length_map, List.length_replicate] <;> omega))) only [nmS0, nmS1, nmS2, nmS3, nmS4, nmS5, nmS6, nmS7, Nat.testBit, Nat.reduceShiftRight, Nat.reduceAnd, Nat.reduceBNe, cond_true, cond_false, NT.get_leaf, Nat.reduceSub, d_true, d_false, clsOf, beq_self_eq_true, Int.reduceToNat, Nat.reduceAdd, Nat.reduceMul, Nat.reduceEqDiff, decide_true, decide_false, if_true, if_false, ite_true, ite_false, reduceIte, reduceCtorEq, eq_self, true_and, and_true, true_implies, e1, hw.wf', hct.wf, hn.wf, p0, p1, q0, q1, r0, r1, same_tok]
      have hnb := nameB_cut hb hL hwd
      have T : tokS s a = if (cut s a (rowN isI s a)).length ≤ 16 then some (1, cut s a (rowN isI s a), 0, rowN isI s a) else none := by unfold tokS; rw [hb]; simp [hL, hwd]
      have E : (tokS s a).isSome = nameB (cut s a (rowN isI s a)) := by rw [T, hnb]; by_cases h16 : (cut s a (rowN isI s a)).length ≤ 16 <;> simp [h16]
      refine hK _ _ ⟨⟨_, _, _, _, by rw [E], ?_⟩, ?_⟩
      · intro k t n e he
        rw [T] at he
        split at he
        · cases he; exact ⟨rfl, rfl, rfl, rfl⟩
        · cases he
      · refine hCM.trans ((hC1.weak (T := [na m 0]) (by simp)).trans ((hC2'.weak (T := [na m 0]) (by simp)).trans (hp_of rfl) (by simp [oldK])) (by simp)) ?_
        simp [na_old]
  | false =>
    rw [hL] at hl
    cases hD : isD c with
    | true =>
      rw [hD] at hd
      have hr : ∀ m, Ret Try.prog S0 22 [.str s, ii a, .fn 33 []] m (ii ((rowN isD s a : Nat) : Int)) m := fun m => row_p digit_p m hs (Nat.le_of_lt ha)
      have hi := @inside_p
      have ha' : a ≤ rowN isD s a := by unfold rowN; omega
      have hz' : rowN isD s a ≤ s.length := rowN_le (Nat.le_of_lt ha)
      have e1 : List.drop a (List.take (rowN isD s a) s) = cut s a (rowN isD s a) := rfl
      have hlc : (cut s a (rowN isD s a)).length ≤ 1000000 := by unfold cut; rw [List.length_drop, List.length_take]; omega
      have hnum : ∀ m, ∃ v, Ret Try.prog S0 36 [.str (cut s a (rowN isD s a))] m v m ∧ v = (match numV (cut s a (rowN isD s a)) with | some n => .tup [u64 n, .bool true] | none => .tup [u64 0, .bool false]) := fun m => by
        obtain ⟨v, m', h, hv, rfl⟩ := number_p m hlc (cut_every isD s a)
        exact ⟨v, h, hv⟩
      have hrr := row_row isD_isI s _ a rfl
      cases hn : numV (cut s a (rowN isD s a)) with
      | none =>
        rw [hn] at hnum
        have hnum : ∀ m, Ret Try.prog S0 36 [.str (cut s a (rowN isD s a))] m (.tup [u64 0, .bool false]) m := fun m => by
          obtain ⟨v, h, rfl⟩ := hnum m; exact h
        have T : tokS s a = none := by unfold tokS; rw [hb]; simp [hL, hD, hn]
        simp (config := { maxSteps := 1000000 }) (disch := (first | assumption | omega | exact Nm.old_n (by omega) | exact Nm.old_hp (by assumption) | (simp only [List.length_set, List.length_cons, List.length_nil, List.length_append, List.length_map, List.length_replicate] <;> omega))) only [nmS0, nmS1, nmS2, nmS3, nmS4, nmS5, nmS6, nmS7, Nat.testBit, Nat.reduceShiftRight, Nat.reduceAnd, Nat.reduceBNe, cond_true, cond_false, NT.get_leaf, Nat.reduceSub, d_true, d_false, clsOf, beq_self_eq_true, Int.reduceToNat, Nat.reduceAdd, Nat.reduceMul, Nat.reduceEqDiff, decide_true, decide_false, if_true, if_false, ite_true, ite_false, reduceIte, reduceCtorEq, eq_self, true_and, and_true, true_implies, hb, e1, (hl _).wf', (hd _).wf', (hr _).wf', (hnum _).wf', same_tok]
        refine hK _ _ ⟨⟨_, _, _, _, by rw [T]; rfl, ?_⟩, ?_⟩
        · intro k t n e he; rw [T] at he; cases he
        · exact hp_of rfl
      | some n =>
        rw [hn] at hnum
        have hnum : ∀ m, Ret Try.prog S0 36 [.str (cut s a (rowN isD s a))] m (.tup [u64 n, .bool true]) m := fun m => by
          obtain ⟨v, h, rfl⟩ := hnum m; exact h
        by_cases he : rowN isD s a = s.length
        · have T : tokS s a = some (2, [], n, rowN isD s a) := by unfold tokS; rw [hb]; simp only [hL, hD, hn]; rw [hrr, rowN_end (p := isI) (by omega)]; simp
          simp (config := { maxSteps := 1000000 }) (disch := (first | assumption | omega | exact Nm.old_n (by omega) | exact Nm.old_hp (by assumption) | (simp only [List.length_set, List.length_cons, List.length_nil, List.length_append, List.length_map, List.length_replicate] <;> omega))) only [nmS0, nmS1, nmS2, nmS3, nmS4, nmS5, nmS6, nmS7, Nat.testBit, Nat.reduceShiftRight, Nat.reduceAnd, Nat.reduceBNe, cond_true, cond_false, NT.get_leaf, Nat.reduceSub, d_true, d_false, clsOf, beq_self_eq_true, Int.reduceToNat, Nat.reduceAdd, Nat.reduceMul, Nat.reduceEqDiff, decide_true, decide_false, if_true, if_false, ite_true, ite_false, reduceIte, reduceCtorEq, eq_self, true_and, and_true, true_implies, hb, e1, (hl _).wf', (hd _).wf', (hr _).wf', (hnum _).wf', same_tok]
          refine hK _ _ ⟨⟨_, _, _, _, by rw [T]; rfl, ?_⟩, ?_⟩
          · intro k t n e he'; rw [T] at he'; cases he'
            exact ⟨rfl, rfl, rfl, rfl⟩
          · exact hp_of rfl
        · have hlt : rowN isD s a < s.length := by omega
          have hbe : s[rowN isD s a]? = some s[rowN isD s a] := List.getElem?_eq_getElem hlt
          have hin : ∀ m, Ret Try.prog S0 23 [u8 s[rowN isD s a]] m (.bool (isI s[rowN isD s a])) m := fun m => inside_p m _
          cases hI : isI s[rowN isD s a] with
          | true =>
            rw [hI] at hin
            have hne : rowN isI s a ≠ rowN isD s a := by
              rw [hrr, rowN_yes (p := isI) hlt hI]
              have := @rowN_ge isI s (rowN isD s a + 1)
              omega
            have T : tokS s a = none := by
              unfold tokS; rw [hb]; simp [hL, hD, hn, hne]
            simp (config := { maxSteps := 1000000 }) (disch := (first | assumption | omega | exact Nm.old_n (by omega) | exact Nm.old_hp (by assumption) | (simp only [List.length_set, List.length_cons, List.length_nil, List.length_append, List.length_map, List.length_replicate] <;> omega))) only [nmS0, nmS1, nmS2, nmS3, nmS4, nmS5, nmS6, nmS7, Nat.testBit, Nat.reduceShiftRight, Nat.reduceAnd, Nat.reduceBNe, cond_true, cond_false, NT.get_leaf, Nat.reduceSub, d_true, d_false, clsOf, beq_self_eq_true, Int.reduceToNat, Nat.reduceAdd, Nat.reduceMul, Nat.reduceEqDiff, decide_true, decide_false, if_true, if_false, ite_true, ite_false, reduceIte, reduceCtorEq, eq_self, true_and, and_true, true_implies, hb, hbe, e1, (hl _).wf', (hd _).wf', (hr _).wf', (hnum _).wf', (hin _).wf', same_tok, he]
            refine hK _ _ ⟨⟨_, _, _, _, by rw [T]; rfl, ?_⟩, ?_⟩
            · intro k t n e he'; rw [T] at he'; cases he'
            · exact hp_of rfl
          | false =>
            rw [hI] at hin
            have T : tokS s a = some (2, [], n, rowN isD s a) := by unfold tokS; rw [hb]; simp only [hL, hD, hn]; rw [hrr, rowN_no (p := isI) hlt hI]; simp
            simp (config := { maxSteps := 1000000 }) (disch := (first | assumption | omega | exact Nm.old_n (by omega) | exact Nm.old_hp (by assumption) | (simp only [List.length_set, List.length_cons, List.length_nil, List.length_append, List.length_map, List.length_replicate] <;> omega))) only [nmS0, nmS1, nmS2, nmS3, nmS4, nmS5, nmS6, nmS7, Nat.testBit, Nat.reduceShiftRight, Nat.reduceAnd, Nat.reduceBNe, cond_true, cond_false, NT.get_leaf, Nat.reduceSub, d_true, d_false, clsOf, beq_self_eq_true, Int.reduceToNat, Nat.reduceAdd, Nat.reduceMul, Nat.reduceEqDiff, decide_true, decide_false, if_true, if_false, ite_true, ite_false, reduceIte, reduceCtorEq, eq_self, true_and, and_true, true_implies, hb, hbe, e1, (hl _).wf', (hd _).wf', (hr _).wf', (hnum _).wf', (hin _).wf', same_tok, he]
            refine hK _ _ ⟨⟨_, _, _, _, by rw [T]; rfl, ?_⟩, ?_⟩
            · intro k t n e he'; rw [T] at he'; cases he'
              exact ⟨rfl, rfl, rfl, rfl⟩
            · exact hp_of rfl
    | false =>
      rw [hD] at hd
      have e1 : List.drop a (List.take ((a : Int) + 1).toNat s) = [c] := by
        rw [show ((a : Int) + 1).toNat = a + 1 by omega, List.take_add_one, hb]
        simp only [Option.toList_some]
        rw [List.drop_append_of_le_length (by rw [List.length_take]; omega), List.drop_take_self]; rfl
      have h5 : c < 256 := h256 c (by rw [← hc]; exact List.getElem_mem _)
      have hh : ∀ m, Ret Try.prog S0 37 [.str signsL, .str [c]] m (.bool (decide (c ∈ signsL))) m := fun m => has_p m signsL (by decide) h5
      have hsl : [123, 125, 40, 41, 91, 93, 59, 43, 45, 42, 38, 61, 60] = signsL := rfl
      have T : tokS s a = if c ∈ signsL then some (3, [c], 0, a + 1) else none := by unfold tokS; rw [hb]; simp [hL, hD]
      have E : (tokS s a).isSome = decide (c ∈ signsL) := by rw [T]; by_cases h : c ∈ signsL <;> simp [h]
      simp (config := { maxSteps := 1000000 }) (disch := (first | assumption | omega | exact Nm.old_n (by omega) | exact Nm.old_hp (by assumption) | (simp only [List.length_set, List.length_cons, List.length_nil, List.length_append, List.length_map, List.length_replicate] <;> omega))) only [nmS0, nmS1, nmS2, nmS3, nmS4, nmS5, nmS6, nmS7, Nat.testBit, Nat.reduceShiftRight, Nat.reduceAnd, Nat.reduceBNe, cond_true, cond_false, NT.get_leaf, Nat.reduceSub, d_true, d_false, clsOf, beq_self_eq_true, Int.reduceToNat, Nat.reduceAdd, Nat.reduceMul, Nat.reduceEqDiff, decide_true, decide_false, if_true, if_false, ite_true, ite_false, reduceIte, reduceCtorEq, eq_self, true_and, and_true, true_implies, hb, e1, (hl _).wf', (hd _).wf', hsl, (hh _).wf', same_tok]
      refine hK _ _ ⟨⟨_, _, _, _, by rw [E], ?_⟩, ?_⟩
      · intro k t n e he
        rw [T] at he
        split at he
        · cases he; exact ⟨rfl, rfl, rfl, by omega⟩
        · cases he
      · exact hp_of rfl
end LX

open Go Nm Go.Proofs
namespace LX
set_option linter.unusedSimpArgs false
set_option linter.unusedVariables false
structure Tok where
  k : Nat
  t : List Nat
  n : Nat
  p : Nat
def Tok.l (x : Tok) : List NV := [ii x.k, .str x.t, u64 x.n, ii x.p]
/-- the tokens from a place on, and where there is none -/
def toksL (s : List Nat) : Nat → Nat → List Tok × Option Nat
  | 0, _ => ([], none)
  | k + 1, a => if a < s.length then (match tokS s a with
      | none => ([], some a)
      | some (kd, t, n, e) => (⟨kd, t, n, a⟩ :: (toksL s k (skipN s e)).1, (toksL s k (skipN s e)).2)) else ([⟨5, [], 0, s.length⟩], none)
def toks (s : List Nat) : List Tok × Option Nat := toksL s (s.length + 1) (skipN s 0)
def placeOf (s : List Nat) (o : Option Nat) : Nat := match o with | some a => a | none => s.length
theorem row_gt {p : Nat → Bool} {s : List Nat} {a c : Nat} (hb : s[a]? = some c) (hp : p c = true) : a < rowN p s a := by
  obtain ⟨ha, hc⟩ := List.getElem?_eq_some_iff.mp hb
  rw [rowN_yes ha (by rw [hc]; exact hp)]
  exact rowN_ge
theorem tokS_e {s : List Nat} {a kd n e : Nat} {t : List Nat} (h : tokS s a = some (kd, t, n, e)) : a < e ∧ e ≤ s.length := by
  unfold tokS at h
  cases hb : s[a]? with
  | none => rw [hb] at h; cases h
  | some c =>
    rw [hb] at h
    obtain ⟨ha, hc⟩ := List.getElem?_eq_some_iff.mp hb
    dsimp only at h
    have g1 : isL c = true → a < rowN isI s a := fun q => row_gt hb (by unfold isI; rw [q]; rfl)
    have g2 : isD c = true → a < rowN isD s a := fun q => row_gt hb q
    have l1 := rowN_le (p := isI) (s := s) (a := a) (by omega)
    have l2 := rowN_le (p := isD) (s := s) (a := a) (by omega)
    split at h
    · rename_i hL
      split at h
      · cases h; exact ⟨g1 hL, l1⟩
      · split at h
        · cases h; exact ⟨g1 hL, l1⟩
        · cases h
    · split at h
      · rename_i hD
        split at h
        · split at h
          · cases h; exact ⟨g2 hD, l2⟩
          · cases h
        · cases h
      · split at h
        · cases h; exact ⟨by omega, by omega⟩
        · cases h
theorem toksL_len (s : List Nat) : ∀ (k a : Nat), (toksL s k a).1.length ≤ k := by
  intro k
  induction k with
  | zero => intro a; simp [toksL]
  | succ k ih =>
    intro a
    unfold toksL
    split
    · split
      · simp
      · rename_i kd t n e _
        have := ih (skipN s e)
        simp only [List.length_cons]; omega
    · simp
theorem tokens1 {m : NH} {s : List Nat} (hs : s.length ≤ 1000000) (h256 : ∀ c ∈ s, c < 256) {q bs bw bx wh wr : D4} {w1 w2 w3 : Bool} {z0 : NV} {T : List D4}
    (hbs : m.get bs = some (.cells w1 [.str s])) (hbw : m.get bw = some (.cells w2 [.ptr wh 0])) (hbx : m.get bx = some (.cells w3 [.ptr wr 0]))
    (hwh : m.get wh = some (.cells true [z0])) (hwr : m.get wr = some (.cells true [.bool false]))
    (obs : Old m bs) (obw : Old m bw) (obx : Old m bx) (owh : Old m wh) (owr : Old m wr)
    (nbs : bs ∉ wh :: wr :: T) (nbw : bw ∉ wh :: wr :: T) (nbx : bx ∉ wh :: wr :: T) (nwr : wr ∉ wh :: T) (nwh : wh ∉ wr :: T)
    (I : List Tok → NH → Prop) (hI0 : I [] m) (hI : ∀ L M M', I L M → Chg (wh :: wr :: T) m M → Chg [wh, wr] M M' → I L M')
    (hY : ∀ L (x : Tok) M, L.length ≤ s.length + 1 → Chg (wh :: wr :: T) m M → I L M → ∃ M', RetY Try.prog S0 q [.agg x.l] M (.bool true) M' ∧ Chg (wh :: wr :: T) m M' ∧ M'.get wh = M.get wh ∧ M'.get wr = M.get wr ∧ I (L ++ [x]) M') :
    ∃ v m', Ret Try.prog S0 28 [.yld q, .ptr bs 0, .ptr bw 0, .ptr bx 0] m v m' ∧ Chg (wh :: wr :: T) m m' ∧ I (toks s).1 m' ∧ m'.get wh = some (.cells true [ii (placeOf s (toks s).2)]) ∧ m'.get wr = some (.cells true [.bool (toks s).2.isSome]) := by
  refine WF.ex fun K hK => ?_
  refine WF.of_wpG (fun _ => rfl) nf28_eq (L := [(.c .e, .ptr bx 0), (.b .e, .ptr bw 0), (.a .e, .ptr bs 0), (.e, .yld q)]) rfl ?_
  unfold nf28
  have hsk : ∀ m, ∀ a, a ≤ s.length → Ret Try.prog S0 29 [.str s, ii a] m (ii ((skipN s a : Nat) : Int)) m := fun m a ha => skip_p m hs ha
  have hs0 : ∀ m, Ret Try.prog S0 29 [.str s, ii 0] m (ii ((skipN s 0 : Nat) : Int)) m := fun m => hsk m 0 (by omega)
  rw [hp_nil]
  simp (config := { maxSteps := 1000000 }) (disch := (first | assumption | omega | exact Nm.old_n (by omega) | exact Nm.old_hp (by assumption) | (simp only [List.length_set, List.length_cons, List.length_nil, List.length_append, List.length_map, List.length_replicate] <;> omega))) only [nmS0, nmS1, nmS2, nmS3, nmS4, nmS5, nmS6, nmS7, Nat.testBit, Nat.reduceShiftRight, Nat.reduceAnd, Nat.reduceBNe, cond_true, cond_false, NT.get_leaf, Nat.reduceSub, d_true, d_false, clsOf, beq_self_eq_true, Int.reduceToNat, Nat.reduceAdd, Nat.reduceMul, Nat.reduceEqDiff, decide_true, decide_false, if_true, if_false, ite_true, ite_false, reduceIte, reduceCtorEq, eq_self, true_and, and_true, true_implies, hbs, (hs0 _).wf']
  have hsk0 : skipN s 0 ≤ s.length := skipN_le (Nat.zero_le _)
  refine W.loop (fun k d => ∃ t M i L, d = ⟨t, [], none, M⟩ ∧ NT.get D4.e t = some (.yld q) ∧ NT.get D4.e.a t = some (.ptr bs 0) ∧ NT.get D4.e.b t = some (.ptr bw 0) ∧ NT.get D4.e.c t = some (.ptr bx 0) ∧ NT.get D4.e.a.a t = some (ii (i : Nat)) ∧ i ≤ s.length ∧ s.length ≤ i + k ∧ Chg (wh :: wr :: T) m M ∧ I L M ∧ M.get wr = some (.cells true [.bool false]) ∧ (∃ z, M.get wh = some (.cells true [z])) ∧ toks s = (L ++ (toksL s (k + 1) i).1, (toksL s (k + 1) i).2)) ?_ s.length _
    ⟨_, m, skipN s 0, [], rfl, by simp (config := { maxSteps := 1000000 }) (disch := (first | assumption | omega | exact Nm.old_n (by omega) | exact Nm.old_hp (by assumption) | (simp only [List.length_set, List.length_cons, List.length_nil, List.length_append, List.length_map, List.length_replicate] <;> omega))) only [nmS0, nmS1, nmS2, nmS3, nmS4, nmS5, nmS6, nmS7, Nat.testBit, Nat.reduceShiftRight, Nat.reduceAnd, Nat.reduceBNe, cond_true, cond_false, NT.get_leaf, Nat.reduceSub, d_true, d_false, clsOf, beq_self_eq_true, Int.reduceToNat, Nat.reduceAdd, Nat.reduceMul, Nat.reduceEqDiff, decide_true, decide_false, if_true, if_false, ite_true, ite_false, reduceIte, reduceCtorEq, eq_self, true_and, and_true, true_implies], by simp (config := { maxSteps := 1000000 }) (disch := (first | assumption | omega | exact Nm.old_n (by omega) | exact Nm.old_hp (by assumption) | (simp only [List.length_set, List.length_cons, List.length_nil, List.length_append, List.length_map, List.length_replicate] <;> omega))) only [nmS0, nmS1, nmS2, nmS3, nmS4, nmS5, nmS6, nmS7, Nat.testBit, Nat.reduceShiftRight, Nat.reduceAnd, Nat.reduceBNe, cond_true, cond_false, NT.get_leaf, Nat.reduceSub, d_true, d_false, clsOf, beq_self_eq_true, Int.reduceToNat, Nat.reduceAdd, Nat.reduceMul, Nat.reduceEqDiff, decide_true, decide_false, if_true, if_false, ite_true, ite_false, reduceIte, reduceCtorEq, eq_self, true_and, and_true, true_implies], by simp (config := { maxSteps := 1000000 }) (disch := (first | assumption | omega | exact Nm.old_n (by omega) | exact Nm.old_hp (by assumption) | (simp only [List.length_set, List.length_cons, List.length_nil, List.length_append, List.length_map, List.length_replicate] <;> omega))) only [nmS0, nmS1, nmS2, nmS3, nmS4, nmS5, nmS6, nmS7, Nat.testBit, Nat.reduceShiftRight, Nat.reduceAnd, Nat.reduceBNe, cond_true, cond_false, NT.get_leaf, Nat.reduceSub, d_true, d_false, clsOf, beq_self_eq_true, Int.reduceToNat, Nat.reduceAdd, Nat.reduceMul, Nat.reduceEqDiff, decide_true, decide_false, if_true, if_false, ite_true, ite_false, reduceIte, reduceCtorEq, eq_self, true_and, and_true, true_implies], by simp (config := { maxSteps := 1000000 }) (disch := (first | assumption | omega | exact Nm.old_n (by omega) | exact Nm.old_hp (by assumption) | (simp only [List.length_set, List.length_cons, List.length_nil, List.length_append, List.length_map, List.length_replicate] <;> omega))) only [nmS0, nmS1, nmS2, nmS3, nmS4, nmS5, nmS6, nmS7, Nat.testBit, Nat.reduceShiftRight, Nat.reduceAnd, Nat.reduceBNe, cond_true, cond_false, NT.get_leaf, Nat.reduceSub, d_true, d_false, clsOf, beq_self_eq_true, Int.reduceToNat, Nat.reduceAdd, Nat.reduceMul, Nat.reduceEqDiff, decide_true, decide_false, if_true, if_false, ite_true, ite_false, reduceIte, reduceCtorEq, eq_self, true_and, and_true, true_implies], by simp (config := { maxSteps := 1000000 }) (disch := (first | assumption | omega | exact Nm.old_n (by omega) | exact Nm.old_hp (by assumption) | (simp only [List.length_set, List.length_cons, List.length_nil, List.length_append, List.length_map, List.length_replicate] <;> omega))) only [nmS0, nmS1, nmS2, nmS3, nmS4, nmS5, nmS6, nmS7, Nat.testBit, Nat.reduceShiftRight, Nat.reduceAnd, Nat.reduceBNe, cond_true, cond_false, NT.get_leaf, Nat.reduceSub, d_true, d_false, clsOf, beq_self_eq_true, Int.reduceToNat, Nat.reduceAdd, Nat.reduceMul, Nat.reduceEqDiff, decide_true, decide_false, if_true, if_false, ite_true, ite_false, reduceIte, reduceCtorEq, eq_self, true_and, and_true, true_implies], hsk0, by omega, (Chg.refl m).weak (by simp), hI0, hwr, ⟨_, hwh⟩, rfl⟩
  rintro k d ⟨t, M, i, L, rfl, g1, g2, g3, g4, g5, hi, hik, hC, hL, mr, ⟨z, mh⟩, hT⟩
  apply wp_sound
  unfold nf28_l1
  change wp _ _ _ _ ⟨puts [] t, [], none, M⟩ _
  rw [← hp_nil M]
  have Obs := hC.old obs
  have Obw := hC.old obw
  have Obx := hC.old obx
  have Owh := hC.old owh
  have Owr := hC.old owr
  have Gbs := (hC.get obs nbs).trans hbs
  have Gbw := (hC.get obw nbw).trans hbw
  have Gbx := (hC.get obx nbx).trans hbx
  simp only [List.mem_cons, not_or] at nbs nbw nbx nwr nwh
  obtain ⟨n1, n2, n3⟩ := nbs
  obtain ⟨n4, n5, n6⟩ := nbw
  obtain ⟨n7, n8, n9⟩ := nbx
  obtain ⟨n10, n11⟩ := nwr
  obtain ⟨n12, n13⟩ := nwh
  have hLl : L.length ≤ s.length + 1 := by
    have h := toksL_len s (s.length + 1) (skipN s 0)
    have h2 : (toks s).1.length = _ := congrArg (fun x => x.1.length) hT
    rw [List.length_append] at h2
    have h3 : (toks s).1.length ≤ s.length + 1 := h
    omega
  by_cases hlt : i < s.length
  · obtain ⟨k, rfl⟩ : ∃ k', k = k' + 1 := ⟨k - 1, by omega⟩
    have hTs : toksL s (k + 1 + 1) i = (match tokS s i with
      | none => ([], some i)
      | some (kd, t, n, e) => (⟨kd, t, n, i⟩ :: (toksL s (k + 1) (skipN s e)).1, (toksL s (k + 1) (skipN s e)).2)) := by
      rw [toksL, if_pos hlt]
    obtain ⟨v, M2, hr, ⟨k0, t0, n0, zz, rfl, htk⟩, hC2⟩ := token_p (hp [(.o wh, .cells true [ii i])] 0 M) hs h256 hlt
    have hM1 : Chg [wh] M (hp [(.o wh, .cells true [ii i])] 0 M) := hp_of rfl
    have gwh : (hp [(AK.o wh, NO.cells true [ii i])] 0 M).get wh = some (.cells true [ii i]) := (h_getO Owh).trans h_lookOs
    have bs2 := (hC2.get (hM1.old Obs) (by simp)).trans ((hM1.get Obs (by simpa using n1)).trans Gbs)
    have bw2 := (hC2.get (hM1.old Obw) (by simp)).trans ((hM1.get Obw (by simpa using n4)).trans Gbw)
    have bx2 := (hC2.get (hM1.old Obx) (by simp)).trans ((hM1.get Obx (by simpa using n7)).trans Gbx)
    have wr2 := (hC2.get (hM1.old Owr) (by simp)).trans ((hM1.get Owr (by simpa using n10)).trans mr)
    have wh2 := (hC2.get (hM1.old Owh) (by simp)).trans gwh
    have obs2 := hC2.old (hM1.old Obs)
    have obw2 := hC2.old (hM1.old Obw)
    have obx2 := hC2.old (hM1.old Obx)
    have owr2 := hC2.old (hM1.old Owr)
    have owh2 := hC2.old (hM1.old Owh)
    have hC3 : Chg [wh, wr] M M2 := (hM1.weak (T := [wh, wr]) (by simp)).trans (hC2.weak (T := [wh, wr]) (by simp)) fun _ h _ => h
    cases hk : tokS s i with
    | none =>
      rw [hk] at hr
      have hr : Ret Try.prog S0 30 [.str s, ii i] (hp [(.o wh, .cells true [ii i])] 0 M) (.tup [.agg [ii k0, .str t0, .int .u64 (.lit n0), ii i], ii zz, .bool false]) M2 := hr
      simp (config := { maxSteps := 1000000 }) (disch := (first | assumption | omega | exact Nm.old_n (by omega) | exact Nm.old_hp (by assumption) | (simp only [List.length_set, List.length_cons, List.length_nil, List.length_append, List.length_map, List.length_replicate] <;> omega))) only [nmS0, nmS1, nmS2, nmS3, nmS4, nmS5, nmS6, nmS7, Nat.testBit, Nat.reduceShiftRight, Nat.reduceAnd, Nat.reduceBNe, cond_true, cond_false, NT.get_leaf, Nat.reduceSub, d_true, d_false, clsOf, beq_self_eq_true, Int.reduceToNat, Nat.reduceAdd, Nat.reduceMul, Nat.reduceEqDiff, decide_true, decide_false, if_true, if_false, ite_true, ite_false, reduceIte, reduceCtorEq, eq_self, true_and, and_true, true_implies, g1, g2, g3, g4, g5, Gbs, Gbw, Gbx, mh, hr.wf, bs2, bw2, bx2, wr2, wh2]
      rw [hTs, hk] at hT
      generalize hMF : hp _ 1 M2 = MF
      have hF : Chg [wh, wr] M MF := hC3.trans (T := [wr]) (by rw [← hMF]; exact hp_of rfl) (by simp)
      refine hK _ _ ⟨hC.trans hF (by simp), ?_, ?_, ?_⟩
      · rw [hT]; show I (L ++ []) _; rw [List.append_nil]; exact hI _ _ _ hL hC hF
      · rw [hT, ← hMF]; simp (config := { maxSteps := 1000000 }) (disch := (first | assumption | omega | exact Nm.old_n (by omega) | exact Nm.old_hp (by assumption) | (simp only [List.length_set, List.length_cons, List.length_nil, List.length_append, List.length_map, List.length_replicate] <;> omega))) only [nmS0, nmS1, nmS2, nmS3, nmS4, nmS5, nmS6, nmS7, Nat.testBit, Nat.reduceShiftRight, Nat.reduceAnd, Nat.reduceBNe, cond_true, cond_false, NT.get_leaf, Nat.reduceSub, d_true, d_false, clsOf, beq_self_eq_true, Int.reduceToNat, Nat.reduceAdd, Nat.reduceMul, Nat.reduceEqDiff, decide_true, decide_false, if_true, if_false, ite_true, ite_false, reduceIte, reduceCtorEq, eq_self, true_and, and_true, true_implies, wh2]; rfl
      · rw [hT, ← hMF]; simp (config := { maxSteps := 1000000 }) (disch := (first | assumption | omega | exact Nm.old_n (by omega) | exact Nm.old_hp (by assumption) | (simp only [List.length_set, List.length_cons, List.length_nil, List.length_append, List.length_map, List.length_replicate] <;> omega))) only [nmS0, nmS1, nmS2, nmS3, nmS4, nmS5, nmS6, nmS7, Nat.testBit, Nat.reduceShiftRight, Nat.reduceAnd, Nat.reduceBNe, cond_true, cond_false, NT.get_leaf, Nat.reduceSub, d_true, d_false, clsOf, beq_self_eq_true, Int.reduceToNat, Nat.reduceAdd, Nat.reduceMul, Nat.reduceEqDiff, decide_true, decide_false, if_true, if_false, ite_true, ite_false, reduceIte, reduceCtorEq, eq_self, true_and, and_true, true_implies, wr2]; rfl
    | some x =>
      obtain ⟨kd, tx, n, e⟩ := x
      rw [hk] at hr
      obtain ⟨e0, e1, e2, e3⟩ := htk kd tx n e hk
      rw [e0, e1, e2, e3] at hr
      have hr : Ret Try.prog S0 30 [.str s, ii i] (hp [(.o wh, .cells true [ii i])] 0 M) (.tup [.agg [ii kd, .str tx, .int .u64 (.lit (n : Int)), ii i], ii ((e : Int) - i), .bool true]) M2 := hr
      simp (config := { maxSteps := 1000000 }) (disch := (first | assumption | omega | exact Nm.old_n (by omega) | exact Nm.old_hp (by assumption) | (simp only [List.length_set, List.length_cons, List.length_nil, List.length_append, List.length_map, List.length_replicate] <;> omega))) only [nmS0, nmS1, nmS2, nmS3, nmS4, nmS5, nmS6, nmS7, Nat.testBit, Nat.reduceShiftRight, Nat.reduceAnd, Nat.reduceBNe, cond_true, cond_false, NT.get_leaf, Nat.reduceSub, d_true, d_false, clsOf, beq_self_eq_true, Int.reduceToNat, Nat.reduceAdd, Nat.reduceMul, Nat.reduceEqDiff, decide_true, decide_false, if_true, if_false, ite_true, ite_false, reduceIte, reduceCtorEq, eq_self, true_and, and_true, true_implies, g1, g2, g3, g4, g5, Gbs, Gbw, Gbx, mh, hr.wf, bs2, bw2, bx2, wr2, wh2]
      generalize hM3 : hp _ 1 M2 = M3
      have hC4 : Chg [] M2 M3 := by rw [← hM3]; exact hp_of rfl
      have hC5 : Chg [wh, wr] M M3 := hC3.trans hC4 (by simp)
      obtain ⟨M4, hy, hC6, yh, yr, hI6⟩ := hY L ⟨kd, tx, n, i⟩ M3 hLl (hC.trans hC5 (by simp)) (hI _ _ _ hL hC hC5)
      have hy : RetY Try.prog S0 q [.agg [ii kd, .str tx, .int .u64 (.lit (n : Int)), ii i]] M3 (.bool true) M4 := hy
      have bs4 := (hC6.get obs (by simp only [List.mem_cons, not_or]; exact ⟨n1, n2, n3⟩)).trans hbs
      have obs4 := hC6.old obs
      obtain ⟨l1, l2⟩ := tokS_e hk
      have e4 : (i : Int) + ((e : Int) - i) = e := by omega
      simp (config := { maxSteps := 1000000 }) (disch := (first | assumption | omega | exact Nm.old_n (by omega) | exact Nm.old_hp (by assumption) | (simp only [List.length_set, List.length_cons, List.length_nil, List.length_append, List.length_map, List.length_replicate] <;> omega))) only [nmS0, nmS1, nmS2, nmS3, nmS4, nmS5, nmS6, nmS7, Nat.testBit, Nat.reduceShiftRight, Nat.reduceAnd, Nat.reduceBNe, cond_true, cond_false, NT.get_leaf, Nat.reduceSub, d_true, d_false, clsOf, beq_self_eq_true, Int.reduceToNat, Nat.reduceAdd, Nat.reduceMul, Nat.reduceEqDiff, decide_true, decide_false, if_true, if_false, ite_true, ite_false, reduceIte, reduceCtorEq, eq_self, true_and, and_true, true_implies, hy.wy, g1, g2, g3, g4, g5, bs4, e4, (hsk _ e l2).wf']
      have wh4 := yh.trans ((hC4.get owh2 (by simp)).trans wh2)
      have wr4 := yr.trans ((hC4.get owr2 (by simp)).trans wr2)
      have hge : e ≤ skipN s e := skipN_ge
      refine ⟨k, by omega, _, M4, skipN s e, L ++ [⟨kd, tx, n, i⟩], by rw [hp_nil], ?_, ?_, ?_, ?_, ?_, skipN_le l2, by omega, ?_, hI6, wr4, ⟨_, wh4⟩, ?_⟩
      · simp (config := { maxSteps := 1000000 }) (disch := (first | assumption | omega | exact Nm.old_n (by omega) | exact Nm.old_hp (by assumption) | (simp only [List.length_set, List.length_cons, List.length_nil, List.length_append, List.length_map, List.length_replicate] <;> omega))) only [nmS0, nmS1, nmS2, nmS3, nmS4, nmS5, nmS6, nmS7, Nat.testBit, Nat.reduceShiftRight, Nat.reduceAnd, Nat.reduceBNe, cond_true, cond_false, NT.get_leaf, Nat.reduceSub, d_true, d_false, clsOf, beq_self_eq_true, Int.reduceToNat, Nat.reduceAdd, Nat.reduceMul, Nat.reduceEqDiff, decide_true, decide_false, if_true, if_false, ite_true, ite_false, reduceIte, reduceCtorEq, eq_self, true_and, and_true, true_implies, g1]
      · simp (config := { maxSteps := 1000000 }) (disch := (first | assumption | omega | exact Nm.old_n (by omega) | exact Nm.old_hp (by assumption) | (simp only [List.length_set, List.length_cons, List.length_nil, List.length_append, List.length_map, List.length_replicate] <;> omega))) only [nmS0, nmS1, nmS2, nmS3, nmS4, nmS5, nmS6, nmS7, Nat.testBit, Nat.reduceShiftRight, Nat.reduceAnd, Nat.reduceBNe, cond_true, cond_false, NT.get_leaf, Nat.reduceSub, d_true, d_false, clsOf, beq_self_eq_true, Int.reduceToNat, Nat.reduceAdd, Nat.reduceMul, Nat.reduceEqDiff, decide_true, decide_false, if_true, if_false, ite_true, ite_false, reduceIte, reduceCtorEq, eq_self, true_and, and_true, true_implies, g2]
      · simp (config := { maxSteps := 1000000 }) (disch := (first | assumption | omega | exact Nm.old_n (by omega) | exact Nm.old_hp (by assumption) | (simp only [List.length_set, List.length_cons, List.length_nil, List.length_append, List.length_map, List.length_replicate] <;> omega))) only [nmS0, nmS1, nmS2, nmS3, nmS4, nmS5, nmS6, nmS7, Nat.testBit, Nat.reduceShiftRight, Nat.reduceAnd, Nat.reduceBNe, cond_true, cond_false, NT.get_leaf, Nat.reduceSub, d_true, d_false, clsOf, beq_self_eq_true, Int.reduceToNat, Nat.reduceAdd, Nat.reduceMul, Nat.reduceEqDiff, decide_true, decide_false, if_true, if_false, ite_true, ite_false, reduceIte, reduceCtorEq, eq_self, true_and, and_true, true_implies, g3]
      · simp (config := { maxSteps := 1000000 }) (disch := (first | assumption | omega | exact Nm.old_n (by omega) | exact Nm.old_hp (by assumption) | (simp only [List.length_set, List.length_cons, List.length_nil, List.length_append, List.length_map, List.length_replicate] <;> omega))) only [nmS0, nmS1, nmS2, nmS3, nmS4, nmS5, nmS6, nmS7, Nat.testBit, Nat.reduceShiftRight, Nat.reduceAnd, Nat.reduceBNe, cond_true, cond_false, NT.get_leaf, Nat.reduceSub, d_true, d_false, clsOf, beq_self_eq_true, Int.reduceToNat, Nat.reduceAdd, Nat.reduceMul, Nat.reduceEqDiff, decide_true, decide_false, if_true, if_false, ite_true, ite_false, reduceIte, reduceCtorEq, eq_self, true_and, and_true, true_implies, g4]
      · simp (config := { maxSteps := 1000000 }) (disch := (first | assumption | omega | exact Nm.old_n (by omega) | exact Nm.old_hp (by assumption) | (simp only [List.length_set, List.length_cons, List.length_nil, List.length_append, List.length_map, List.length_replicate] <;> omega))) only [nmS0, nmS1, nmS2, nmS3, nmS4, nmS5, nmS6, nmS7, Nat.testBit, Nat.reduceShiftRight, Nat.reduceAnd, Nat.reduceBNe, cond_true, cond_false, NT.get_leaf, Nat.reduceSub, d_true, d_false, clsOf, beq_self_eq_true, Int.reduceToNat, Nat.reduceAdd, Nat.reduceMul, Nat.reduceEqDiff, decide_true, decide_false, if_true, if_false, ite_true, ite_false, reduceIte, reduceCtorEq, eq_self, true_and, and_true, true_implies]
      · exact hC6
      · rw [hT, hTs, hk]; simp
  · have hTs : toksL s (k + 1) i = ([⟨5, [], 0, s.length⟩], none) := by rw [toksL, if_neg hlt]
    rw [hTs] at hT
    simp (config := { maxSteps := 1000000 }) (disch := (first | assumption | omega | exact Nm.old_n (by omega) | exact Nm.old_hp (by assumption) | (simp only [List.length_set, List.length_cons, List.length_nil, List.length_append, List.length_map, List.length_replicate] <;> omega))) only [nmS0, nmS1, nmS2, nmS3, nmS4, nmS5, nmS6, nmS7, Nat.testBit, Nat.reduceShiftRight, Nat.reduceAnd, Nat.reduceBNe, cond_true, cond_false, NT.get_leaf, Nat.reduceSub, d_true, d_false, clsOf, beq_self_eq_true, Int.reduceToNat, Nat.reduceAdd, Nat.reduceMul, Nat.reduceEqDiff, decide_true, decide_false, if_true, if_false, ite_true, ite_false, reduceIte, reduceCtorEq, eq_self, true_and, and_true, true_implies, g1, g2, g3, g4, g5, Gbs, Gbw, Gbx, mh]
    generalize hM3 : hp _ 0 M = M3
    have hF : Chg [wh, wr] M M3 := by rw [← hM3]; exact (hp_of rfl).weak (by simp [oldK])
    have wh3 : M3.get wh = some (.cells true [ii s.length]) := by rw [← hM3]; simp (config := { maxSteps := 1000000 }) (disch := (first | assumption | omega | exact Nm.old_n (by omega) | exact Nm.old_hp (by assumption) | (simp only [List.length_set, List.length_cons, List.length_nil, List.length_append, List.length_map, List.length_replicate] <;> omega))) only [nmS0, nmS1, nmS2, nmS3, nmS4, nmS5, nmS6, nmS7, Nat.testBit, Nat.reduceShiftRight, Nat.reduceAnd, Nat.reduceBNe, cond_true, cond_false, NT.get_leaf, Nat.reduceSub, d_true, d_false, clsOf, beq_self_eq_true, Int.reduceToNat, Nat.reduceAdd, Nat.reduceMul, Nat.reduceEqDiff, decide_true, decide_false, if_true, if_false, ite_true, ite_false, reduceIte, reduceCtorEq, eq_self, true_and, and_true, true_implies]
    have wr3 : M3.get wr = some (.cells true [.bool false]) := by rw [← hM3]; simp (config := { maxSteps := 1000000 }) (disch := (first | assumption | omega | exact Nm.old_n (by omega) | exact Nm.old_hp (by assumption) | (simp only [List.length_set, List.length_cons, List.length_nil, List.length_append, List.length_map, List.length_replicate] <;> omega))) only [nmS0, nmS1, nmS2, nmS3, nmS4, nmS5, nmS6, nmS7, Nat.testBit, Nat.reduceShiftRight, Nat.reduceAnd, Nat.reduceBNe, cond_true, cond_false, NT.get_leaf, Nat.reduceSub, d_true, d_false, clsOf, beq_self_eq_true, Int.reduceToNat, Nat.reduceAdd, Nat.reduceMul, Nat.reduceEqDiff, decide_true, decide_false, if_true, if_false, ite_true, ite_false, reduceIte, reduceCtorEq, eq_self, true_and, and_true, true_implies, mr]
    obtain ⟨M4, hy, hC6, yh, yr, hI6⟩ := hY L ⟨5, [], 0, s.length⟩ M3 hLl (hC.trans hF (by simp)) (hI _ _ _ hL hC hF)
    have hy : RetY Try.prog S0 q [.agg [.int .i64 (.lit 5), .str [], .int .u64 (.lit 0), ii s.length]] M3 (.bool true) M4 := hy
    simp (config := { maxSteps := 1000000 }) (disch := (first | assumption | omega | exact Nm.old_n (by omega) | exact Nm.old_hp (by assumption) | (simp only [List.length_set, List.length_cons, List.length_nil, List.length_append, List.length_map, List.length_replicate] <;> omega))) only [nmS0, nmS1, nmS2, nmS3, nmS4, nmS5, nmS6, nmS7, Nat.testBit, Nat.reduceShiftRight, Nat.reduceAnd, Nat.reduceBNe, cond_true, cond_false, NT.get_leaf, Nat.reduceSub, d_true, d_false, clsOf, beq_self_eq_true, Int.reduceToNat, Nat.reduceAdd, Nat.reduceMul, Nat.reduceEqDiff, decide_true, decide_false, if_true, if_false, ite_true, ite_false, reduceIte, reduceCtorEq, eq_self, true_and, and_true, true_implies, hy.wy]
    rw [hp_nil]
    refine hK _ _ ⟨hC6, ?_, ?_, ?_⟩
    · rw [hT]; exact hI6
    · rw [hT]; exact yh.trans wh3
    · rw [hT]; exact yr.trans wr3
end LX

open Go Nm Go.Proofs
namespace LX
set_option linter.unusedSimpArgs false
set_option linter.unusedVariables false
/-- a round of the range of Tokens -/
theorem toks_round {m M : NH} {q o : D4} {t : Tm} {u : NV} {L : List Tok} (x : Tok) (h1 : NT.get D4.e.a.c t = some (.ptr o 0)) (hq : M.get q = some (.loop 0 .none t [D4.e.c.c] nf9_a1 nf9_r2)) (ho : M.get o = some (.cells true [u]))
    (hu : Own m M u 4 (L.map Tok.l)) (hoq : o ≠ q) (hqo : Old M q) (hoo : Old M o) (hqm : Old m q) (hom : Old m o) (hmM : ∀ i, Old m i → Old M i) (hl : L.length ≤ 1000000) :
    ∃ w M', RetY Try.prog S0 q [.agg x.l] M w M' ∧ w = .bool true ∧ Chg (q :: o :: ids u) M M' ∧ M'.get q = some (.loop 0 .none t [D4.e.c.c] nf9_a1 nf9_r2) ∧ ∃ u', M'.get o = some (.cells true [u']) ∧ Own m M' u' 4 ((L ++ [x]).map Tok.l) := by
  refine WY.ex fun K hK => ?_
  refine WY.of_wp hq rfl nf9_a1.eq_1 nf9_r2.eq_1 ?_
  change wp _ _ _ _ ⟨puts [(D4.e.c.c, .agg [ii x.k, .str x.t, u64 x.n, ii x.p])] t, [], none, hp [] 0 M⟩ _
  simp (config := { maxSteps := 1000000 }) (disch := (first | assumption | omega | exact Nm.old_n (by omega) | exact Nm.old_hp (by assumption) | (simp only [List.length_set, List.length_cons, List.length_nil, List.length_append, List.length_map, List.length_replicate] <;> omega))) only [nmS0, nmS1, nmS2, nmS3, nmS4, nmS5, nmS6, nmS7, Nat.testBit, Nat.reduceShiftRight, Nat.reduceAnd, Nat.reduceBNe, cond_true, cond_false, NT.get_leaf, Nat.reduceSub, d_true, d_false, clsOf, beq_self_eq_true, Int.reduceToNat, Nat.reduceAdd, Nat.reduceMul, Nat.reduceEqDiff, decide_true, decide_false, if_true, if_false, ite_true, ite_false, reduceIte, reduceCtorEq, eq_self, true_and, and_true, true_implies, h1, hq, ho]
  have hnq : q ∉ ids u := fun hi => hu.new _ hi hqm
  have hno : o ∉ ids u := fun hi => hu.new _ hi hom
  generalize hM1 : hp _ 2 M = M1
  have hC1 : Chg [q] M M1 := by rw [← hM1]; exact hp_of rfl
  have hn1 : M1.get (na M 1) = some (.cells true x.l) := by rw [← hM1]; exact h_getN
  have on1 : Old M1 (na M 1) := by rw [← hM1]; exact old_n (by omega)
  have hq1 : M1.get q = some (.loop 1 .none t [D4.e.c.c] nf9_a1 nf9_r2) := by rw [← hM1]; exact (h_getO hqo).trans h_lookOs
  have ho1 := (hC1.get hoo (by simpa using hoq)).trans ho
  refine wNT_app1 (hu.chg hC1 (fun i hi => by simp; rintro rfl; exact hnq hi)) hn1 on1 rfl (fun i hi => hC1.old (hmM i hi)) (by simp; omega) (by simp; omega) ?_
  intro u' M2 hu' hC2
  have hq2 := (hC2.get (hC1.old hqo) hnq).trans hq1
  have ho2 := (hC2.get (hC1.old hoo) hno).trans ho1
  have oq := hC2.old (hC1.old hqo)
  have oo := hC2.old (hC1.old hoo)
  have hqo' : q ≠ o := fun e => hoq e.symm
  simp (config := { maxSteps := 1000000 }) (disch := (first | assumption | omega | exact Nm.old_n (by omega) | exact Nm.old_hp (by assumption) | (simp only [List.length_set, List.length_cons, List.length_nil, List.length_append, List.length_map, List.length_replicate] <;> omega))) only [nmS0, nmS1, nmS2, nmS3, nmS4, nmS5, nmS6, nmS7, Nat.testBit, Nat.reduceShiftRight, Nat.reduceAnd, Nat.reduceBNe, cond_true, cond_false, NT.get_leaf, Nat.reduceSub, d_true, d_false, clsOf, beq_self_eq_true, Int.reduceToNat, Nat.reduceAdd, Nat.reduceMul, Nat.reduceEqDiff, decide_true, decide_false, if_true, if_false, ite_true, ite_false, reduceIte, reduceCtorEq, eq_self, true_and, and_true, true_implies, h1, hq2, ho2, hu'.sl.one]
  have hC3 : Chg [q, o] M2 (hp [(.o q, .loop 0 .none t [D4.e.c.c] nf9_a1 nf9_r2), (.o o, .cells true [u'])] 0 M2) := hp_of rfl
  have nq' : q ∉ ids u' := fun hi => hu'.new _ hi hqm
  have no' : o ∉ ids u' := fun hi => hu'.new _ hi hom
  refine hK _ _ ⟨rfl, ((hC1.weak (by simp)).trans hC2 ?_).trans hC3 ?_, (h_getO oq).trans h_lookOs, u', (h_getO oo).trans ((h_lookOo hoq).trans h_lookOs), ?_⟩
  · intro i hi _; exact List.mem_cons_of_mem _ (List.mem_cons_of_mem _ hi)
  · intro i hi _; simp at hi ⊢; rcases hi with rfl | rfl <;> simp
  · rw [show (L ++ [x]).map Tok.l = L.map Tok.l ++ [x.l] by simp]
    refine hu'.chg hC3 fun i hi => ?_
    simp
    exact ⟨fun e => nq' (e ▸ hi), fun e => no' (e ▸ hi)⟩
/-- the range of Tokens -/
theorem toks_range {m M : NH} {s : List Nat} (hs : s.length ≤ 16384) (h256 : ∀ c ∈ s, c < 256) {t : Tm} {dfs : List Dfr} {o bs bw bx wh wr : D4} {w1 w2 w3 : Bool} {z0 : NV}
    (h1 : NT.get D4.e.a.c t = some (.ptr o 0)) (h2 : NT.get D4.e.c.b t = some (.fn 28 [.ptr bs 0, .ptr bw 0, .ptr bx 0])) (ho : M.get o = some (.cells true [.nils])) (hoo : Old M o)
    (hbs : M.get bs = some (.cells w1 [.str s])) (hbw : M.get bw = some (.cells w2 [.ptr wh 0])) (hbx : M.get bx = some (.cells w3 [.ptr wr 0]))
    (hwh : M.get wh = some (.cells true [z0])) (hwr : M.get wr = some (.cells true [.bool false]))
    (obs : Old M bs) (obw : Old M bw) (obx : Old M bx) (owh : Old M wh) (owr : Old M wr)
    (nbs : bs ∉ [wh, wr, o]) (nbw : bw ∉ [wh, wr, o]) (nbx : bx ∉ [wh, wr, o]) (nwr : wr ∉ [wh, o]) (nwh : wh ∉ [wr, o])
    (hmM : ∀ i, Old m i → Old M i)
    {Q : Out → Dyn → Prop} (hQ : ∀ M' u, Own m M' u 4 ((toks s).1.map Tok.l) → M'.get o = some (.cells true [u]) → M'.get wh = some (.cells true [ii (placeOf s (toks s).2)]) → M'.get wr = some (.cells true [.bool (toks s).2.isSome]) →
      M'.get (na M 0) = some (.defd true) → Old M' (na M 0) → Chg [o, wh, wr] M M' → (∀ i ∈ ids u, i ≠ na M 0) → Q .norm ⟨t, .mark (na M 0) :: dfs, none, hp [] 0 M'⟩) :
    W Try.prog S0 none (.rangeFunc (.tmp D4.e.c.b) [D4.e.c.c] nf9_a1 nf9_r2) ⟨t, dfs, none, M⟩ Q := by
  have key : ∀ M1, M1 = hp [(.n 1, .loop 0 .none t [D4.e.c.c] nf9_a1 nf9_r2), (.n 0, .defd true)] 2 M → W Try.prog S0 none (.rangeFunc (.tmp D4.e.c.b) [D4.e.c.c] nf9_a1 nf9_r2) ⟨t, dfs, none, M⟩ Q := by
    intro M1 hM1
    have hG : Chg [] M M1 := by rw [hM1]; exact hp_of rfl
    have oq : Old M1 (na M 1) := by rw [hM1]; exact old_n (by omega)
    have om : Old M1 (na M 0) := by rw [hM1]; exact old_n (by omega)
    have gq : M1.get (na M 1) = some (.loop 0 .none t [D4.e.c.c] nf9_a1 nf9_r2) := by rw [hM1]; exact h_getN
    have gm : M1.get (na M 0) = some (.defd true) := by rw [hM1]; exact h_getN
    have g : ∀ {id x}, Old M id → M.get id = some x → M1.get id = some x := fun h q => (hG.get h (by simp)).trans q
    simp only [List.mem_cons, List.not_mem_nil, or_false, not_or] at nbs nbw nbx nwr nwh
    have hqw : ∀ {id}, Old M id → id ≠ na M 1 := fun h => h.ne 1
    have hqw' : ∀ {id}, Old M id → na M 1 ≠ id := fun h e => h.ne 1 e.symm
    obtain ⟨v, m', hr, hC, ⟨hq, u, hou, hown⟩, hwh', hwr'⟩ := tokens1 (m := M1) (q := na M 1) (T := [o, na M 1]) (by omega) h256 (g obs hbs) (g obw hbw) (g obx hbx) (g owh hwh) (g owr hwr) (hG.old obs) (hG.old obw) (hG.old obx) (hG.old owh) (hG.old owr)
      (by simp only [List.mem_cons, List.not_mem_nil, or_false, not_or]; exact ⟨nbs.1, nbs.2.1, nbs.2.2, hqw obs⟩)
      (by simp only [List.mem_cons, List.not_mem_nil, or_false, not_or]; exact ⟨nbw.1, nbw.2.1, nbw.2.2, hqw obw⟩)
      (by simp only [List.mem_cons, List.not_mem_nil, or_false, not_or]; exact ⟨nbx.1, nbx.2.1, nbx.2.2, hqw obx⟩)
      (by simp only [List.mem_cons, List.not_mem_nil, or_false, not_or]; exact ⟨nwr.1, nwr.2, hqw owr⟩)
      (by simp only [List.mem_cons, List.not_mem_nil, or_false, not_or]; exact ⟨nwh.1, nwh.2, hqw owh⟩)
      (fun L N => N.get (na M 1) = some (.loop 0 .none t [D4.e.c.c] nf9_a1 nf9_r2) ∧ ∃ u, N.get o = some (.cells true [u]) ∧ Own M1 N u 4 (L.map Tok.l))
      ⟨gq, .nils, g hoo ho, Own.nil⟩
      (by
        rintro L N N' ⟨hq, u, hou, hown⟩ hC hC'
        refine ⟨(hC'.get (hC.old oq) ?_).trans hq, u, (hC'.get (hC.old (hG.old hoo)) ?_).trans hou, hown.chg hC' ?_⟩
        · simp only [List.mem_cons, List.not_mem_nil, or_false, not_or]; exact ⟨hqw' owh, hqw' owr⟩
        · simp only [List.mem_cons, List.not_mem_nil, or_false, not_or]; exact ⟨fun e => nwh.2 e.symm, fun e => nwr.2 e.symm⟩
        · intro j hj
          simp only [List.mem_cons, List.not_mem_nil, or_false, not_or]
          exact ⟨fun e => hown.new j hj (e ▸ hG.old owh), fun e => hown.new j hj (e ▸ hG.old owr)⟩)
      (by
        rintro L x N hL hC ⟨hq, u, hou, hown⟩
        obtain ⟨w, M', h3, rfl, h4, h5, u', h6, h7⟩ := toks_round x h1 hq hou hown (hqw hoo) (hC.old oq) (hC.old (hG.old hoo)) oq (hG.old hoo) (fun i hi => hC.old hi) (by omega)
        refine ⟨M', h3, hC.trans h4 ?_, ?_, ?_, h5, u', h6, h7⟩
        · intro i hi hio
          simp only [List.mem_cons, List.not_mem_nil, or_false] at hi ⊢
          rcases hi with rfl | rfl | hi
          · simp
          · simp
          · exact absurd hio (hown.new i hi)
        · refine h4.get (hC.old (hG.old owh)) ?_
          simp only [List.mem_cons, not_or]; exact ⟨hqw owh, nwh.2, fun hi => hown.new _ hi (hG.old owh)⟩
        · refine h4.get (hC.old (hG.old owr)) ?_
          simp only [List.mem_cons, not_or]; exact ⟨hqw owr, nwr.2, fun hi => hown.new _ hi (hG.old owr)⟩)
    have hnm : na M 0 ∉ wh :: wr :: [o, na M 1] := by
      simp only [List.mem_cons, List.not_mem_nil, or_false, not_or]
      exact ⟨fun e => owh.ne 0 e.symm, fun e => owr.ne 0 e.symm, fun e => hoo.ne 0 e.symm, fun e => by have := na_inj e; omega⟩
    refine W.rangeN h2 (hM1 ▸ hr) hq ?_ (hC.old oq)
    have hC2 : Chg [na M 1] m' (hp [(AK.o (na M 1), NO.loop 3 Jump.none t [D4.e.c.c] nf9_a1 nf9_r2)] 0 m') := hp_of rfl
    rw [← hp_nil (hp [(AK.o (na M 1), NO.loop 3 Jump.none t [D4.e.c.c] nf9_a1 nf9_r2)] 0 m')]
    have g2 : ∀ {id x}, Old M id → m'.get id = some x → (hp [(AK.o (na M 1), NO.loop 3 Jump.none t [D4.e.c.c] nf9_a1 nf9_r2)] 0 m').get id = some x := fun h q => (hC2.get (hC.old (hG.old h)) (by simpa using hqw h)).trans q
    refine hQ _ u ?_ (g2 hoo hou) (g2 owh hwh') (g2 owr hwr') ((hC2.get (hC.old om) (by simp [na_eq])).trans ((hC.get om hnm).trans gm)) (hC2.old (hC.old om)) ?_ ?_
    · exact (hown.chg hC2 fun i hi => by simp; rintro rfl; exact hown.new _ hi oq).back fun i hi => hG.old (hmM i hi)
    · refine ((hG.weak (T := [o, wh, wr]) (by simp)).trans hC ?_).trans hC2 ?_
      · intro i hi hio; simp only [List.mem_cons, List.not_mem_nil, or_false] at hi ⊢; rcases hi with rfl | rfl | rfl | rfl
        · simp
        · simp
        · simp
        · exact absurd hio na_old
      · intro i hi hio; simp at hi; subst hi; exact absurd hio na_old
    · rintro i hi rfl; exact hown.new _ hi om
  exact key _ rfl
end LX

open Go Nm Go.Proofs
namespace LX
set_option linter.unusedSimpArgs false
set_option linter.unusedVariables false
theorem seq_p (m : NH) (s : List Nat) (p1 p2 : NV) (h1 : ∃ i, p1 = .ptr i 0) (h2 : ∃ i, p2 = .ptr i 0) : Ret Try.prog S0 16 [.str s, p1, p2] m (.fn 28 [.ptr (na m 0) 0, .ptr (na m 1) 0, .ptr (na m 2) 0]) (hp [(.n 2, .cells true [p2]), (.n 1, .cells true [p1]), (.n 0, .cells true [.str s])] 3 m) := by
  obtain ⟨i, rfl⟩ := h1
  obtain ⟨j, rfl⟩ := h2
  have h : WF Try.prog S0 16 [.str s, .ptr i 0, .ptr j 0] m fun v m' => v = (.fn 28 [.ptr (na m 0) 0, .ptr (na m 1) 0, .ptr (na m 2) 0]) ∧ m' = (hp [(.n 2, .cells true [.ptr j 0]), (.n 1, .cells true [.ptr i 0]), (.n 0, .cells true [.str s])] 3 m) := by
    refine WF.of_wpG (fun _ => rfl) nf16_eq (L := [(.b .e, .ptr j 0), (.a .e, .ptr i 0), (.e, .str s)]) rfl ?_
    unfold nf16
    simp (config := { maxSteps := 1000000 }) (disch := (first | assumption | omega | exact Nm.old_n (by omega) | exact Nm.old_hp (by assumption) | (simp only [List.length_set, List.length_cons, List.length_nil, List.length_append, List.length_map, List.length_replicate] <;> omega))) only [nmS0, nmS1, nmS2, nmS3, nmS4, nmS5, nmS6, nmS7, Nat.testBit, Nat.reduceShiftRight, Nat.reduceAnd, Nat.reduceBNe, cond_true, cond_false, NT.get_leaf, Nat.reduceSub, d_true, d_false, clsOf, beq_self_eq_true, Int.reduceToNat, Nat.reduceAdd, Nat.reduceMul, Nat.reduceEqDiff, decide_true, decide_false, if_true, if_false, ite_true, ite_false, reduceIte, reduceCtorEq, eq_self, true_and, and_true, true_implies]
  obtain ⟨v, m', h1, rfl, rfl⟩ := h.ret
  exact h1
/-- lex.Tokens -/
theorem tokens_p (m : NH) {v : NV} {b : List Nat} (hv : Sl m v 1 (Byt b)) (hl : b.length ≤ 1000000) (hb : ∀ c ∈ b, c < 256) :
    ∃ r m', Ret Try.prog S0 9 [v] m r m' ∧ (if 16384 < b.length then r = .tup [.nils, ii 0, ii 3] else (match (toks b).2 with | some a => r = .tup [.nils, ii a, ii 2] | none => ∃ u, r = .tup [u, ii b.length, ii 0] ∧ Own m m' u 4 ((toks b).1.map Tok.l))) ∧ Chg [] m m' := by
  refine WF.ex fun K hK => ?_
  refine WF.of_wpM (fun _ => rfl) nf9_eq (L := [(.e, v)]) rfl ?_
  unfold nf9
  have hlen := hv.len
  rw [show (Byt b).length = b.length by simp] at hlen
  by_cases h1 : 16384 < b.length
  · simp (config := { maxSteps := 1000000 }) (disch := (first | assumption | omega | exact Nm.old_n (by omega) | exact Nm.old_hp (by assumption) | (simp only [List.length_set, List.length_cons, List.length_nil, List.length_append, List.length_map, List.length_replicate] <;> omega))) only [nmS0, nmS1, nmS2, nmS3, nmS4, nmS5, nmS6, nmS7, Nat.testBit, Nat.reduceShiftRight, Nat.reduceAnd, Nat.reduceBNe, cond_true, cond_false, NT.get_leaf, Nat.reduceSub, d_true, d_false, clsOf, beq_self_eq_true, Int.reduceToNat, Nat.reduceAdd, Nat.reduceMul, Nat.reduceEqDiff, decide_true, decide_false, if_true, if_false, ite_true, ite_false, reduceIte, reduceCtorEq, eq_self, true_and, and_true, true_implies, hlen, hp_nil]
    apply retG_K
    simp (config := { maxSteps := 1000000 }) (disch := (first | assumption | omega | exact Nm.old_n (by omega) | exact Nm.old_hp (by assumption) | (simp only [List.length_set, List.length_cons, List.length_nil, List.length_append, List.length_map, List.length_replicate] <;> omega))) only [nmS0, nmS1, nmS2, nmS3, nmS4, nmS5, nmS6, nmS7, Nat.testBit, Nat.reduceShiftRight, Nat.reduceAnd, Nat.reduceBNe, cond_true, cond_false, NT.get_leaf, Nat.reduceSub, d_true, d_false, clsOf, beq_self_eq_true, Int.reduceToNat, Nat.reduceAdd, Nat.reduceMul, Nat.reduceEqDiff, decide_true, decide_false, if_true, if_false, ite_true, ite_false, reduceIte, reduceCtorEq, eq_self, true_and, and_true, true_implies]
    refine hK _ _ ⟨by rw [if_pos h1], Chg.refl m⟩
  · simp (config := { maxSteps := 1000000 }) (disch := (first | assumption | omega | exact Nm.old_n (by omega) | exact Nm.old_hp (by assumption) | (simp only [List.length_set, List.length_cons, List.length_nil, List.length_append, List.length_map, List.length_replicate] <;> omega))) only [nmS0, nmS1, nmS2, nmS3, nmS4, nmS5, nmS6, nmS7, Nat.testBit, Nat.reduceShiftRight, Nat.reduceAnd, Nat.reduceBNe, cond_true, cond_false, NT.get_leaf, Nat.reduceSub, d_true, d_false, clsOf, beq_self_eq_true, Int.reduceToNat, Nat.reduceAdd, Nat.reduceMul, Nat.reduceEqDiff, decide_true, decide_false, if_true, if_false, ite_true, ite_false, reduceIte, reduceCtorEq, eq_self, true_and, and_true, true_implies, hlen]
    generalize hM : hp _ 3 m = M
    have hC : Chg [] m M := by rw [← hM]; exact hp_of rfl
    have g0 : M.get (na m 0) = some (.cells true [ii 0]) := by rw [← hM]; exact h_getN
    have g1 : M.get (na m 1) = some (.cells true [.bool false]) := by rw [← hM]; exact h_getN
    have g2 : M.get (na m 2) = some (.cells true [.nils]) := by rw [← hM]; exact h_getN
    have o0 : Old M (na m 0) := by rw [← hM]; exact old_n (by omega)
    have o1 : Old M (na m 1) := by rw [← hM]; exact old_n (by omega)
    have o2 : Old M (na m 2) := by rw [← hM]; exact old_n (by omega)
    have hbt : btsV M v = .val (.str b) := (hv.chg hC fun _ _ => by simp).bts hb
    simp (config := { maxSteps := 1000000 }) (disch := (first | assumption | omega | exact Nm.old_n (by omega) | exact Nm.old_hp (by assumption) | (simp only [List.length_set, List.length_cons, List.length_nil, List.length_append, List.length_map, List.length_replicate] <;> omega))) only [nmS0, nmS1, nmS2, nmS3, nmS4, nmS5, nmS6, nmS7, Nat.testBit, Nat.reduceShiftRight, Nat.reduceAnd, Nat.reduceBNe, cond_true, cond_false, NT.get_leaf, Nat.reduceSub, d_true, d_false, clsOf, beq_self_eq_true, Int.reduceToNat, Nat.reduceAdd, Nat.reduceMul, Nat.reduceEqDiff, decide_true, decide_false, if_true, if_false, ite_true, ite_false, reduceIte, reduceCtorEq, eq_self, true_and, and_true, true_implies, hbt, (seq_p M b _ _ ⟨_, rfl⟩ ⟨_, rfl⟩).wf']
    generalize hM2 : hp _ 3 M = M2
    have hC2 : Chg [] M M2 := by rw [← hM2]; exact hp_of rfl
    have k0 : M2.get (na M 0) = some (.cells true [.str b]) := by rw [← hM2]; exact h_getN
    have k1 : M2.get (na M 1) = some (.cells true [.ptr (na m 0) 0]) := by rw [← hM2]; exact h_getN
    have k2 : M2.get (na M 2) = some (.cells true [.ptr (na m 1) 0]) := by rw [← hM2]; exact h_getN
    have q0 : Old M2 (na M 0) := by rw [← hM2]; exact old_n (by omega)
    have q1 : Old M2 (na M 1) := by rw [← hM2]; exact old_n (by omega)
    have q2 : Old M2 (na M 2) := by rw [← hM2]; exact old_n (by omega)
    have nn : ∀ {i j}, Old M (na m i) → na M j ≠ na m i := fun h e => h.ne _ e.symm
    refine toks_range (m := m) (s := b) (o := na m 2) (bs := na M 0) (bw := na M 1) (bx := na M 2) (wh := na m 0) (wr := na m 1) (by omega) hb ?_ ?_ ((hC2.get o2 (by simp)).trans g2) (hC2.old o2) k0 k1 k2 ((hC2.get o0 (by simp)).trans g0) ((hC2.get o1 (by simp)).trans g1) q0 q1 q2 (hC2.old o0) (hC2.old o1) ?_ ?_ ?_ ?_ ?_ (fun i hi => hC2.old (hC.old hi)) ?_
    · simp (config := { maxSteps := 1000000 }) (disch := (first | assumption | omega | exact Nm.old_n (by omega) | exact Nm.old_hp (by assumption) | (simp only [List.length_set, List.length_cons, List.length_nil, List.length_append, List.length_map, List.length_replicate] <;> omega))) only [nmS0, nmS1, nmS2, nmS3, nmS4, nmS5, nmS6, nmS7, Nat.testBit, Nat.reduceShiftRight, Nat.reduceAnd, Nat.reduceBNe, cond_true, cond_false, NT.get_leaf, Nat.reduceSub, d_true, d_false, clsOf, beq_self_eq_true, Int.reduceToNat, Nat.reduceAdd, Nat.reduceMul, Nat.reduceEqDiff, decide_true, decide_false, if_true, if_false, ite_true, ite_false, reduceIte, reduceCtorEq, eq_self, true_and, and_true, true_implies]
    · simp (config := { maxSteps := 1000000 }) (disch := (first | assumption | omega | exact Nm.old_n (by omega) | exact Nm.old_hp (by assumption) | (simp only [List.length_set, List.length_cons, List.length_nil, List.length_append, List.length_map, List.length_replicate] <;> omega))) only [nmS0, nmS1, nmS2, nmS3, nmS4, nmS5, nmS6, nmS7, Nat.testBit, Nat.reduceShiftRight, Nat.reduceAnd, Nat.reduceBNe, cond_true, cond_false, NT.get_leaf, Nat.reduceSub, d_true, d_false, clsOf, beq_self_eq_true, Int.reduceToNat, Nat.reduceAdd, Nat.reduceMul, Nat.reduceEqDiff, decide_true, decide_false, if_true, if_false, ite_true, ite_false, reduceIte, reduceCtorEq, eq_self, true_and, and_true, true_implies]
    · simp only [List.mem_cons, List.not_mem_nil, or_false, not_or]; exact ⟨nn o0, nn o1, nn o2⟩
    · simp only [List.mem_cons, List.not_mem_nil, or_false, not_or]; exact ⟨nn o0, nn o1, nn o2⟩
    · simp only [List.mem_cons, List.not_mem_nil, or_false, not_or]; exact ⟨nn o0, nn o1, nn o2⟩
    · simp [na_eq]
    · simp [na_eq]
    intro M' u hown ho hwh hwr hmk omk hC3 hu
    have p0 := hC3.old (hC2.old o0)
    have p1 := hC3.old (hC2.old o1)
    have p2 := hC3.old (hC2.old o2)
    have hCm : Chg [] m M' := ((hC.trans hC2 fun _ h _ => h).weak (T := [na m 2, na m 0, na m 1]) (by simp)).trans hC3 (fun _ h _ => h) |>.weak (by
      intro i hi ho; simp only [List.mem_cons, List.not_mem_nil, or_false] at hi; rcases hi with rfl | rfl | rfl <;> exact absurd ho na_old)
    have hCf : ∀ x, Chg [] m (hp [(.o (na M2 0), x)] 0 M') := fun x => hCm.trans (T := [na M2 0]) (hp_of rfl) (by
      intro i hi ho; simp only [List.mem_cons, List.not_mem_nil, or_false] at hi; subst hi; exact absurd (hC2.old (hC.old ho)) na_old)
    cases he : (toks b).2 with
    | some a =>
      rw [he] at hwh hwr
      have hwh : M'.get (na m 0) = some (.cells true [ii a]) := hwh
      have hwr : M'.get (na m 1) = some (.cells true [.bool true]) := hwr
      simp (config := { maxSteps := 1000000 }) (disch := (first | assumption | omega | exact Nm.old_n (by omega) | exact Nm.old_hp (by assumption) | (simp only [List.length_set, List.length_cons, List.length_nil, List.length_append, List.length_map, List.length_replicate] <;> omega))) only [nmS0, nmS1, nmS2, nmS3, nmS4, nmS5, nmS6, nmS7, Nat.testBit, Nat.reduceShiftRight, Nat.reduceAnd, Nat.reduceBNe, cond_true, cond_false, NT.get_leaf, Nat.reduceSub, d_true, d_false, clsOf, beq_self_eq_true, Int.reduceToNat, Nat.reduceAdd, Nat.reduceMul, Nat.reduceEqDiff, decide_true, decide_false, if_true, if_false, ite_true, ite_false, reduceIte, reduceCtorEq, eq_self, true_and, and_true, true_implies, ho, hwh, hwr, hmk]
      apply retG_K
      simp (config := { maxSteps := 1000000 }) (disch := (first | assumption | omega | exact Nm.old_n (by omega) | exact Nm.old_hp (by assumption) | (simp only [List.length_set, List.length_cons, List.length_nil, List.length_append, List.length_map, List.length_replicate] <;> omega))) only [nmS0, nmS1, nmS2, nmS3, nmS4, nmS5, nmS6, nmS7, Nat.testBit, Nat.reduceShiftRight, Nat.reduceAnd, Nat.reduceBNe, cond_true, cond_false, NT.get_leaf, Nat.reduceSub, d_true, d_false, clsOf, beq_self_eq_true, Int.reduceToNat, Nat.reduceAdd, Nat.reduceMul, Nat.reduceEqDiff, decide_true, decide_false, if_true, if_false, ite_true, ite_false, reduceIte, reduceCtorEq, eq_self, true_and, and_true, true_implies]
      refine hK _ _ ⟨by rw [if_neg h1, he], hCf _⟩
    | none =>
      rw [he] at hwh hwr
      have hwh : M'.get (na m 0) = some (.cells true [ii b.length]) := hwh
      have hwr : M'.get (na m 1) = some (.cells true [.bool false]) := hwr
      simp (config := { maxSteps := 1000000 }) (disch := (first | assumption | omega | exact Nm.old_n (by omega) | exact Nm.old_hp (by assumption) | (simp only [List.length_set, List.length_cons, List.length_nil, List.length_append, List.length_map, List.length_replicate] <;> omega))) only [nmS0, nmS1, nmS2, nmS3, nmS4, nmS5, nmS6, nmS7, Nat.testBit, Nat.reduceShiftRight, Nat.reduceAnd, Nat.reduceBNe, cond_true, cond_false, NT.get_leaf, Nat.reduceSub, d_true, d_false, clsOf, beq_self_eq_true, Int.reduceToNat, Nat.reduceAdd, Nat.reduceMul, Nat.reduceEqDiff, decide_true, decide_false, if_true, if_false, ite_true, ite_false, reduceIte, reduceCtorEq, eq_self, true_and, and_true, true_implies, ho, hwh, hwr, hmk, hown.sl.one]
      apply retG_K
      simp (config := { maxSteps := 1000000 }) (disch := (first | assumption | omega | exact Nm.old_n (by omega) | exact Nm.old_hp (by assumption) | (simp only [List.length_set, List.length_cons, List.length_nil, List.length_append, List.length_map, List.length_replicate] <;> omega))) only [nmS0, nmS1, nmS2, nmS3, nmS4, nmS5, nmS6, nmS7, Nat.testBit, Nat.reduceShiftRight, Nat.reduceAnd, Nat.reduceBNe, cond_true, cond_false, NT.get_leaf, Nat.reduceSub, d_true, d_false, clsOf, beq_self_eq_true, Int.reduceToNat, Nat.reduceAdd, Nat.reduceMul, Nat.reduceEqDiff, decide_true, decide_false, if_true, if_false, ite_true, ite_false, reduceIte, reduceCtorEq, eq_self, true_and, and_true, true_implies]
      refine hK _ _ ⟨?_, hCf _⟩
      rw [if_neg h1, he]
      exact ⟨u, rfl, hown.chg (hp_of rfl) fun i hi => by simpa [oldK] using hu i hi⟩
end LX

open Go Nm Go.Proofs
namespace LX
set_option linter.unusedSimpArgs false
set_option linter.unusedVariables false
theorem ty_bytes {m : NH} {l : List NV} (h : Ty Try.prog m 22 l) : ∃ v b, l = [v] ∧ Sl m v 1 (Byt b) ∧ b.length ≤ maxLen ∧ ∀ x ∈ b, x < 256 := by
  obtain ⟨v, C, rfl, hS, hm, hall⟩ := h.inv_slc Try.underlying22
  have key : ∀ C : List (List NV), (∀ c ∈ C, Ty Try.prog m 5 c) → ∃ b : List Nat, C = Byt b ∧ ∀ x ∈ b, x < 256 := by
    intro C
    induction C with
    | nil => intro _; exact ⟨[], rfl, by simp⟩
    | cons c C ih =>
      intro h
      obtain ⟨n, rfl, hw⟩ := (h c (List.mem_cons_self ..)).inv_int Try.underlying5
      obtain ⟨l, rfl, g⟩ := ih fun x hx => h x (List.mem_cons_of_mem _ hx)
      have hn : 0 ≤ n ∧ n < 256 := by
        simp [Lit.wf] at hw
        have e1 : IntKind.u8.min = 0 := by decide
        have e2 : IntKind.u8.max = 255 := by decide
        rw [e1, e2] at hw; omega
      obtain ⟨k, rfl⟩ := Int.eq_ofNat_of_zero_le hn.1
      exact ⟨k :: l, rfl, by intro x hx; rcases List.mem_cons.mp hx with rfl | hx; omega; exact g x hx⟩
  obtain ⟨b, rfl, hf⟩ := key C hall
  exact ⟨v, b, rfl, hS, by simpa using hm, hf⟩
theorem num_p (m : NH) (e : Int) : Ret Try.prog S0 12 [ii e] m (ii e) m := by
  have h : ∃ v m', Ret Try.prog S0 12 [ii e] m v m' ∧ v = ii e ∧ m' = m := by
    refine WF.ex fun K hK => ?_
    refine WF.of_wpG (fun _ => rfl) nf12_eq (L := [(.e, ii e)]) rfl ?_
    unfold nf12
    simp (config := { maxSteps := 1000000 }) (disch := (first | assumption | omega | exact Nm.old_n (by omega) | exact Nm.old_hp (by assumption) | (simp only [List.length_set, List.length_cons, List.length_nil, List.length_append, List.length_map, List.length_replicate] <;> omega))) only [nmS0, nmS1, nmS2, nmS3, nmS4, nmS5, nmS6, nmS7, Nat.testBit, Nat.reduceShiftRight, Nat.reduceAnd, Nat.reduceBNe, cond_true, cond_false, NT.get_leaf, Nat.reduceSub, d_true, d_false, clsOf, beq_self_eq_true, Int.reduceToNat, Nat.reduceAdd, Nat.reduceMul, Nat.reduceEqDiff, decide_true, decide_false, if_true, if_false, ite_true, ite_false, reduceIte, reduceCtorEq, eq_self, true_and, and_true, true_implies, hp_nil]
    exact hK _ _ ⟨rfl, rfl⟩
  obtain ⟨v, m', h1, rfl, rfl⟩ := h
  exact h1
/-- each token stands where it says -/
def okL (s : List Nat) : Int → List Tok → Prop
  | _, [] => True
  | w, x :: l => w < x.p ∧ x.p ≤ s.length ∧ x.t.length ≤ s.length - x.p ∧ cut s x.p (x.p + x.t.length) = x.t ∧ (x.k = 5 ↔ l = []) ∧ okL s x.p l
theorem cut_len {s : List Nat} {a e : Nat} (h : e ≤ s.length) : (cut s a e).length = e - a := by unfold cut; rw [List.length_drop, List.length_take]; omega
theorem cut_nil (s : List Nat) (a : Nat) : cut s a a = [] := by unfold cut; exact List.drop_take_self
theorem cut_cut {s : List Nat} {a e : Nat} (h : e ≤ s.length) (h' : a ≤ e) : cut s a (a + (cut s a e).length) = cut s a e := by rw [cut_len h, Nat.add_sub_cancel' h']
theorem cut_one {s : List Nat} {a c : Nat} (hb : s[a]? = some c) : cut s a (a + 1) = [c] := by
  obtain ⟨ha, hc⟩ := List.getElem?_eq_some_iff.mp hb
  unfold cut
  rw [List.take_add_one, hb]
  simp only [Option.toList_some]
  rw [List.drop_append_of_le_length (by rw [List.length_take]; omega), List.drop_take_self]; rfl
theorem tokS_t {s : List Nat} {a kd n e : Nat} {t : List Nat} (h : tokS s a = some (kd, t, n, e)) : kd ≠ 5 ∧ t.length ≤ s.length - a ∧ cut s a (a + t.length) = t := by
  unfold tokS at h
  cases hb : s[a]? with
  | none => rw [hb] at h; cases h
  | some c =>
    rw [hb] at h
    obtain ⟨ha, hc⟩ := List.getElem?_eq_some_iff.mp hb
    dsimp only at h
    have l1 := rowN_le (p := isI) (s := s) (a := a) (by omega)
    have l2 := rowN_ge (p := isI) (s := s) (a := a)
    have c1 := cut_cut l1 l2
    have c2 := cut_len (a := a) l1
    split at h
    · split at h
      · cases h; exact ⟨by omega, by omega, c1⟩
      · split at h
        · cases h; exact ⟨by omega, by omega, c1⟩
        · cases h
    · split at h
      · split at h
        · split at h
          · cases h; exact ⟨by omega, by simp, cut_nil s a⟩
          · cases h
        · cases h
      · split at h
        · cases h; exact ⟨by omega, by simp; omega, cut_one hb⟩
        · cases h
theorem toksL_ok (s : List Nat) : ∀ (k a : Nat) (w : Int), s.length ≤ a + k → a ≤ s.length → w < a → (toksL s (k + 1) a).2 = none → okL s w (toksL s (k + 1) a).1 ∧ (toksL s (k + 1) a).1 ≠ [] := by
  intro k
  induction k with
  | zero =>
    intro a w h1 h2 h3 h4
    rw [toksL, if_neg (by omega)]
    exact ⟨⟨by simp; omega, Nat.le_refl _, by simp, cut_nil s _, by simp, trivial⟩, by simp⟩
  | succ k ih =>
    intro a w h1 h2 h3 h4
    by_cases ha : a < s.length
    · rw [toksL, if_pos ha] at h4 ⊢
      cases hk : tokS s a with
      | none => rw [hk] at h4; cases h4
      | some x =>
        obtain ⟨kd, t, n, e⟩ := x
        rw [hk] at h4
        obtain ⟨e1, e2⟩ := tokS_e hk
        obtain ⟨t1, t2, t3⟩ := tokS_t hk
        have g1 : e ≤ skipN s e := skipN_ge
        obtain ⟨i1, i2⟩ := ih (skipN s e) a (by omega) (skipN_le e2) (by omega) h4
        exact ⟨⟨h3, by simp; omega, t2, t3, ⟨fun q => absurd q t1, fun q => absurd q i2⟩, i1⟩, by simp⟩
    · rw [toksL, if_neg ha]
      exact ⟨⟨by simp; omega, Nat.le_refl _, by simp, cut_nil s _, by simp, trivial⟩, by simp⟩
theorem toks_ok {s : List Nat} (h : (toks s).2 = none) : okL s (-1) (toks s).1 ∧ (toks s).1 ≠ [] := by
  have := skipN_le (s := s) (a := 0) (Nat.zero_le _)
  exact toksL_ok s s.length (skipN s 0) (-1) (by omega) this (by omega) h
theorem toksL_err (s : List Nat) : ∀ (k a x : Nat), (toksL s k a).2 = some x → x < s.length := by
  intro k
  induction k with
  | zero => intro a x h; simp [toksL] at h
  | succ k ih =>
    intro a x h
    unfold toksL at h
    split at h
    · split at h
      · cases h; assumption
      · exact ih _ x h
    · cases h
theorem wX_ssl {P : Program} {S : Nat → List NV → Option NV} {m : NH} {v : NV} {C : List (List NV)} {t0 : Tm} {lo hi : Option NOpd} {e a b : Nat} {cl : Cls} {f : NH → NR} {dst : Option D4} {pre idx : Nat} {l : List NOper} {hs : List (Nat × NH)} {rs : List (Nat × (NH → NR) × NV)} {d : Dyn} {K : Dyn → Prop}
    (h : Sl m v e C) (hab : a ≤ b) (hb : b ≤ C.length) (hlo : ∀ K : Nat → NR, optV t0 lo 0 K = K a) (hhi : ∀ (d : Nat) (K : Nat → NR), d = C.length → optV t0 hi d K = K b)
    (hK : ∀ v', Sl m v' e ((C.drop a).take (b - a)) → wX cl (.val v') P S f dst pre idx l hs rs d K) : wX cl (sslG e t0 lo hi v) P S f dst pre idx l hs rs d K := by
  obtain ⟨v', h1, h2, h3⟩ := h.ssl hab hb hlo hhi
  rw [h1]; exact hK v' h2
theorem byt_cut (s : List Nat) (a n : Nat) : ((Byt s).drop a).take (a + n - a) = Byt (cut s a (a + n)) := by
  unfold cut
  rw [List.drop_take]
  simp [List.map_take, List.map_drop]
theorem places_loop {m : NH} {b : List Nat} {u v : NV} {L : List Tok} (hl : b.length ≤ 2000) (hb : ∀ c ∈ b, c < 256) (hv : Sl m v 1 (Byt b)) (hu : Sl m u 4 (L.map Tok.l)) (hok : okL b (-1) L) (hL : L.length ≤ 1000000) {t : Tm}
    (g1 : NT.get D4.e t = some v) (g2 : NT.get D4.e.f t = some u) (g3 : NT.get D4.e.a.a t = some (ii b.length)) (g4 : NT.get D4.e.a.c t = some (ii (-1))) (g5 : NT.get D4.e.a.f t = some (ii 0)) {Q : Out → Dyn → Prop}
    (hQ : ∀ t' M', NT.get D4.e t' = some v → NT.get D4.e.f t' = some u → NT.get D4.e.a.a t' = some (ii b.length) → Chg [] m M' → Q (.exit 0) ⟨puts [] t', [], none, M'⟩) :
    W Try.prog S0 none nf5_l1.loop ⟨t, [], none, m⟩ Q := by
  refine W.loop (fun k d => ∃ t M i w, d = ⟨t, [], none, M⟩ ∧ NT.get D4.e t = some v ∧ NT.get D4.e.f t = some u ∧ NT.get D4.e.a.a t = some (ii b.length) ∧ NT.get D4.e.a.c t = some (ii w) ∧ NT.get D4.e.a.f t = some (ii (i : Nat)) ∧ Chg [] m M ∧ okL b w (L.drop i) ∧ i + k = L.length) ?_ L.length _ ⟨t, m, 0, -1, rfl, g1, g2, g3, g4, g5, Chg.refl m, hok, by omega⟩
  rintro k d ⟨t, M, i, w, rfl, g1, g2, g3, g4, g5, hC, hok, hik⟩
  apply wp_sound
  unfold nf5_l1
  change wp _ _ _ _ ⟨puts [] t, [], none, M⟩ _
  rw [← hp_nil M]
  have hvM := hv.chg hC fun _ _ => by simp
  have huM := hu.chg hC fun _ _ => by simp
  have hlen := hvM.len
  have hlu := huM.len
  rw [show (Byt b).length = b.length by simp] at hlen
  rw [List.length_map] at hlu
  by_cases hi : i < L.length
  · obtain ⟨id, off, wr, c, a1, a2, a3, a4, a5⟩ := huM.at i (by simpa using hi)
    rw [List.getElem_map] at a5
    rw [List.drop_eq_getElem_cons hi] at hok
    generalize hx : L[i] = x at a5 hok
    obtain ⟨ok1, ok2, ok3, ok4, ok5, ok6⟩ := hok
    simp (config := { maxSteps := 1000000 }) (disch := (first | assumption | omega | exact Nm.old_n (by omega) | exact Nm.old_hp (by assumption) | (simp only [List.length_set, List.length_cons, List.length_nil, List.length_append, List.length_map, List.length_replicate] <;> omega))) only [nmS0, nmS1, nmS2, nmS3, nmS4, nmS5, nmS6, nmS7, Nat.testBit, Nat.reduceShiftRight, Nat.reduceAnd, Nat.reduceBNe, cond_true, cond_false, NT.get_leaf, Nat.reduceSub, d_true, d_false, clsOf, beq_self_eq_true, Int.reduceToNat, Nat.reduceAdd, Nat.reduceMul, Nat.reduceEqDiff, decide_true, decide_false, if_true, if_false, ite_true, ite_false, reduceIte, reduceCtorEq, eq_self, true_and, and_true, true_implies, g1, g2, g3, g4, g5, hlen, hlu, a1, a2, a5, Tok.l]
    generalize hM1 : hp _ 1 M = M1
    have hC1 : Chg [] M M1 := by rw [← hM1]; exact hp_of rfl
    have n0 : M1.get (na M 0) = some (.cells true [ii x.k, .str x.t, u64 x.n, ii x.p]) := by rw [← hM1]; exact h_getN
    have q0 : Old M1 (na M 0) := by rw [← hM1]; exact old_n (by omega)
    have hv1 := hvM.chg hC1 fun _ _ => by simp
    have e0 : ((x.p : Int) + x.t.length).toNat = x.p + x.t.length := by omega
    have hne : decide (x.t ≠ x.t) = false := by simp
    refine wX_ssl (a := x.p) (b := x.p + x.t.length) hv1 (by omega) (by simp; omega) ?_ ?_ ?_
    · intro K; simp (config := { maxSteps := 1000000 }) (disch := (first | assumption | omega | exact Nm.old_n (by omega) | exact Nm.old_hp (by assumption) | (simp only [List.length_set, List.length_cons, List.length_nil, List.length_append, List.length_map, List.length_replicate] <;> omega))) only [nmS0, nmS1, nmS2, nmS3, nmS4, nmS5, nmS6, nmS7, Nat.testBit, Nat.reduceShiftRight, Nat.reduceAnd, Nat.reduceBNe, cond_true, cond_false, NT.get_leaf, Nat.reduceSub, d_true, d_false, clsOf, beq_self_eq_true, Int.reduceToNat, Nat.reduceAdd, Nat.reduceMul, Nat.reduceEqDiff, decide_true, decide_false, if_true, if_false, ite_true, ite_false, reduceIte, reduceCtorEq, eq_self, true_and, and_true, true_implies]
    · intro d K hd; simp (config := { maxSteps := 1000000 }) (disch := (first | assumption | omega | exact Nm.old_n (by omega) | exact Nm.old_hp (by assumption) | (simp only [List.length_set, List.length_cons, List.length_nil, List.length_append, List.length_map, List.length_replicate] <;> omega))) only [nmS0, nmS1, nmS2, nmS3, nmS4, nmS5, nmS6, nmS7, Nat.testBit, Nat.reduceShiftRight, Nat.reduceAnd, Nat.reduceBNe, cond_true, cond_false, NT.get_leaf, Nat.reduceSub, d_true, d_false, clsOf, beq_self_eq_true, Int.reduceToNat, Nat.reduceAdd, Nat.reduceMul, Nat.reduceEqDiff, decide_true, decide_false, if_true, if_false, ite_true, ite_false, reduceIte, reduceCtorEq, eq_self, true_and, and_true, true_implies, e0]
    intro v' hv'
    rw [byt_cut, ok4] at hv'
    have hbt := hv'.bts (by rw [← ok4]; exact fun c hc => hb c (List.mem_of_mem_take (List.mem_of_mem_drop hc)))
    by_cases h5 : x.k = 5
    · have hil : i = L.length - 1 := by
        have := List.drop_eq_nil_iff.mp (ok5.mp h5); omega
      simp (config := { maxSteps := 1000000 }) (disch := (first | assumption | omega | exact Nm.old_n (by omega) | exact Nm.old_hp (by assumption) | (simp only [List.length_set, List.length_cons, List.length_nil, List.length_append, List.length_map, List.length_replicate] <;> omega))) only [nmS0, nmS1, nmS2, nmS3, nmS4, nmS5, nmS6, nmS7, Nat.testBit, Nat.reduceShiftRight, Nat.reduceAnd, Nat.reduceBNe, cond_true, cond_false, NT.get_leaf, Nat.reduceSub, d_true, d_false, clsOf, beq_self_eq_true, Int.reduceToNat, Nat.reduceAdd, Nat.reduceMul, Nat.reduceEqDiff, decide_true, decide_false, if_true, if_false, ite_true, ite_false, reduceIte, reduceCtorEq, eq_self, true_and, and_true, true_implies, g1, g2, g3, g4, g5, hbt, n0, q0, hlu, hne]
      refine ⟨k - 1, by omega, _, M1, i + 1, x.p, by rfl, ?_, ?_, ?_, ?_, ?_, hC.trans hC1 (by simp), ok6, by omega⟩
      · simp (config := { maxSteps := 1000000 }) (disch := (first | assumption | omega | exact Nm.old_n (by omega) | exact Nm.old_hp (by assumption) | (simp only [List.length_set, List.length_cons, List.length_nil, List.length_append, List.length_map, List.length_replicate] <;> omega))) only [nmS0, nmS1, nmS2, nmS3, nmS4, nmS5, nmS6, nmS7, Nat.testBit, Nat.reduceShiftRight, Nat.reduceAnd, Nat.reduceBNe, cond_true, cond_false, NT.get_leaf, Nat.reduceSub, d_true, d_false, clsOf, beq_self_eq_true, Int.reduceToNat, Nat.reduceAdd, Nat.reduceMul, Nat.reduceEqDiff, decide_true, decide_false, if_true, if_false, ite_true, ite_false, reduceIte, reduceCtorEq, eq_self, true_and, and_true, true_implies, g1]
      · simp (config := { maxSteps := 1000000 }) (disch := (first | assumption | omega | exact Nm.old_n (by omega) | exact Nm.old_hp (by assumption) | (simp only [List.length_set, List.length_cons, List.length_nil, List.length_append, List.length_map, List.length_replicate] <;> omega))) only [nmS0, nmS1, nmS2, nmS3, nmS4, nmS5, nmS6, nmS7, Nat.testBit, Nat.reduceShiftRight, Nat.reduceAnd, Nat.reduceBNe, cond_true, cond_false, NT.get_leaf, Nat.reduceSub, d_true, d_false, clsOf, beq_self_eq_true, Int.reduceToNat, Nat.reduceAdd, Nat.reduceMul, Nat.reduceEqDiff, decide_true, decide_false, if_true, if_false, ite_true, ite_false, reduceIte, reduceCtorEq, eq_self, true_and, and_true, true_implies, g2]
      · simp (config := { maxSteps := 1000000 }) (disch := (first | assumption | omega | exact Nm.old_n (by omega) | exact Nm.old_hp (by assumption) | (simp only [List.length_set, List.length_cons, List.length_nil, List.length_append, List.length_map, List.length_replicate] <;> omega))) only [nmS0, nmS1, nmS2, nmS3, nmS4, nmS5, nmS6, nmS7, Nat.testBit, Nat.reduceShiftRight, Nat.reduceAnd, Nat.reduceBNe, cond_true, cond_false, NT.get_leaf, Nat.reduceSub, d_true, d_false, clsOf, beq_self_eq_true, Int.reduceToNat, Nat.reduceAdd, Nat.reduceMul, Nat.reduceEqDiff, decide_true, decide_false, if_true, if_false, ite_true, ite_false, reduceIte, reduceCtorEq, eq_self, true_and, and_true, true_implies, g3]
      · simp (config := { maxSteps := 1000000 }) (disch := (first | assumption | omega | exact Nm.old_n (by omega) | exact Nm.old_hp (by assumption) | (simp only [List.length_set, List.length_cons, List.length_nil, List.length_append, List.length_map, List.length_replicate] <;> omega))) only [nmS0, nmS1, nmS2, nmS3, nmS4, nmS5, nmS6, nmS7, Nat.testBit, Nat.reduceShiftRight, Nat.reduceAnd, Nat.reduceBNe, cond_true, cond_false, NT.get_leaf, Nat.reduceSub, d_true, d_false, clsOf, beq_self_eq_true, Int.reduceToNat, Nat.reduceAdd, Nat.reduceMul, Nat.reduceEqDiff, decide_true, decide_false, if_true, if_false, ite_true, ite_false, reduceIte, reduceCtorEq, eq_self, true_and, and_true, true_implies]
      · simp (config := { maxSteps := 1000000 }) (disch := (first | assumption | omega | exact Nm.old_n (by omega) | exact Nm.old_hp (by assumption) | (simp only [List.length_set, List.length_cons, List.length_nil, List.length_append, List.length_map, List.length_replicate] <;> omega))) only [nmS0, nmS1, nmS2, nmS3, nmS4, nmS5, nmS6, nmS7, Nat.testBit, Nat.reduceShiftRight, Nat.reduceAnd, Nat.reduceBNe, cond_true, cond_false, NT.get_leaf, Nat.reduceSub, d_true, d_false, clsOf, beq_self_eq_true, Int.reduceToNat, Nat.reduceAdd, Nat.reduceMul, Nat.reduceEqDiff, decide_true, decide_false, if_true, if_false, ite_true, ite_false, reduceIte, reduceCtorEq, eq_self, true_and, and_true, true_implies]; rfl
    · have hil : i ≠ L.length - 1 := by
        intro q
        exact h5 (ok5.mpr (List.drop_eq_nil_iff.mpr (by omega)))
      simp (config := { maxSteps := 1000000 }) (disch := (first | assumption | omega | exact Nm.old_n (by omega) | exact Nm.old_hp (by assumption) | (simp only [List.length_set, List.length_cons, List.length_nil, List.length_append, List.length_map, List.length_replicate] <;> omega))) only [nmS0, nmS1, nmS2, nmS3, nmS4, nmS5, nmS6, nmS7, Nat.testBit, Nat.reduceShiftRight, Nat.reduceAnd, Nat.reduceBNe, cond_true, cond_false, NT.get_leaf, Nat.reduceSub, d_true, d_false, clsOf, beq_self_eq_true, Int.reduceToNat, Nat.reduceAdd, Nat.reduceMul, Nat.reduceEqDiff, decide_true, decide_false, if_true, if_false, ite_true, ite_false, reduceIte, reduceCtorEq, eq_self, true_and, and_true, true_implies, g1, g2, g3, g4, g5, hbt, n0, q0, hlu, hne]
      refine ⟨k - 1, by omega, _, M1, i + 1, x.p, by rfl, ?_, ?_, ?_, ?_, ?_, hC.trans hC1 (by simp), ok6, by omega⟩
      · simp (config := { maxSteps := 1000000 }) (disch := (first | assumption | omega | exact Nm.old_n (by omega) | exact Nm.old_hp (by assumption) | (simp only [List.length_set, List.length_cons, List.length_nil, List.length_append, List.length_map, List.length_replicate] <;> omega))) only [nmS0, nmS1, nmS2, nmS3, nmS4, nmS5, nmS6, nmS7, Nat.testBit, Nat.reduceShiftRight, Nat.reduceAnd, Nat.reduceBNe, cond_true, cond_false, NT.get_leaf, Nat.reduceSub, d_true, d_false, clsOf, beq_self_eq_true, Int.reduceToNat, Nat.reduceAdd, Nat.reduceMul, Nat.reduceEqDiff, decide_true, decide_false, if_true, if_false, ite_true, ite_false, reduceIte, reduceCtorEq, eq_self, true_and, and_true, true_implies, g1]
      · simp (config := { maxSteps := 1000000 }) (disch := (first | assumption | omega | exact Nm.old_n (by omega) | exact Nm.old_hp (by assumption) | (simp only [List.length_set, List.length_cons, List.length_nil, List.length_append, List.length_map, List.length_replicate] <;> omega))) only [nmS0, nmS1, nmS2, nmS3, nmS4, nmS5, nmS6, nmS7, Nat.testBit, Nat.reduceShiftRight, Nat.reduceAnd, Nat.reduceBNe, cond_true, cond_false, NT.get_leaf, Nat.reduceSub, d_true, d_false, clsOf, beq_self_eq_true, Int.reduceToNat, Nat.reduceAdd, Nat.reduceMul, Nat.reduceEqDiff, decide_true, decide_false, if_true, if_false, ite_true, ite_false, reduceIte, reduceCtorEq, eq_self, true_and, and_true, true_implies, g2]
      · simp (config := { maxSteps := 1000000 }) (disch := (first | assumption | omega | exact Nm.old_n (by omega) | exact Nm.old_hp (by assumption) | (simp only [List.length_set, List.length_cons, List.length_nil, List.length_append, List.length_map, List.length_replicate] <;> omega))) only [nmS0, nmS1, nmS2, nmS3, nmS4, nmS5, nmS6, nmS7, Nat.testBit, Nat.reduceShiftRight, Nat.reduceAnd, Nat.reduceBNe, cond_true, cond_false, NT.get_leaf, Nat.reduceSub, d_true, d_false, clsOf, beq_self_eq_true, Int.reduceToNat, Nat.reduceAdd, Nat.reduceMul, Nat.reduceEqDiff, decide_true, decide_false, if_true, if_false, ite_true, ite_false, reduceIte, reduceCtorEq, eq_self, true_and, and_true, true_implies, g3]
      · simp (config := { maxSteps := 1000000 }) (disch := (first | assumption | omega | exact Nm.old_n (by omega) | exact Nm.old_hp (by assumption) | (simp only [List.length_set, List.length_cons, List.length_nil, List.length_append, List.length_map, List.length_replicate] <;> omega))) only [nmS0, nmS1, nmS2, nmS3, nmS4, nmS5, nmS6, nmS7, Nat.testBit, Nat.reduceShiftRight, Nat.reduceAnd, Nat.reduceBNe, cond_true, cond_false, NT.get_leaf, Nat.reduceSub, d_true, d_false, clsOf, beq_self_eq_true, Int.reduceToNat, Nat.reduceAdd, Nat.reduceMul, Nat.reduceEqDiff, decide_true, decide_false, if_true, if_false, ite_true, ite_false, reduceIte, reduceCtorEq, eq_self, true_and, and_true, true_implies]
      · simp (config := { maxSteps := 1000000 }) (disch := (first | assumption | omega | exact Nm.old_n (by omega) | exact Nm.old_hp (by assumption) | (simp only [List.length_set, List.length_cons, List.length_nil, List.length_append, List.length_map, List.length_replicate] <;> omega))) only [nmS0, nmS1, nmS2, nmS3, nmS4, nmS5, nmS6, nmS7, Nat.testBit, Nat.reduceShiftRight, Nat.reduceAnd, Nat.reduceBNe, cond_true, cond_false, NT.get_leaf, Nat.reduceSub, d_true, d_false, clsOf, beq_self_eq_true, Int.reduceToNat, Nat.reduceAdd, Nat.reduceMul, Nat.reduceEqDiff, decide_true, decide_false, if_true, if_false, ite_true, ite_false, reduceIte, reduceCtorEq, eq_self, true_and, and_true, true_implies]; rfl
  · simp (config := { maxSteps := 1000000 }) (disch := (first | assumption | omega | exact Nm.old_n (by omega) | exact Nm.old_hp (by assumption) | (simp only [List.length_set, List.length_cons, List.length_nil, List.length_append, List.length_map, List.length_replicate] <;> omega))) only [nmS0, nmS1, nmS2, nmS3, nmS4, nmS5, nmS6, nmS7, Nat.testBit, Nat.reduceShiftRight, Nat.reduceAnd, Nat.reduceBNe, cond_true, cond_false, NT.get_leaf, Nat.reduceSub, d_true, d_false, clsOf, beq_self_eq_true, Int.reduceToNat, Nat.reduceAdd, Nat.reduceMul, Nat.reduceEqDiff, decide_true, decide_false, if_true, if_false, ite_true, ite_false, reduceIte, reduceCtorEq, eq_self, true_and, and_true, true_implies, g1, g2, g3, g4, g5, hlu]
    rw [hp_nil]
    refine hQ _ _ ?_ ?_ ?_ hC
    · simp (config := { maxSteps := 1000000 }) (disch := (first | assumption | omega | exact Nm.old_n (by omega) | exact Nm.old_hp (by assumption) | (simp only [List.length_set, List.length_cons, List.length_nil, List.length_append, List.length_map, List.length_replicate] <;> omega))) only [nmS0, nmS1, nmS2, nmS3, nmS4, nmS5, nmS6, nmS7, Nat.testBit, Nat.reduceShiftRight, Nat.reduceAnd, Nat.reduceBNe, cond_true, cond_false, NT.get_leaf, Nat.reduceSub, d_true, d_false, clsOf, beq_self_eq_true, Int.reduceToNat, Nat.reduceAdd, Nat.reduceMul, Nat.reduceEqDiff, decide_true, decide_false, if_true, if_false, ite_true, ite_false, reduceIte, reduceCtorEq, eq_self, true_and, and_true, true_implies, put_puts, g1]
    · simp (config := { maxSteps := 1000000 }) (disch := (first | assumption | omega | exact Nm.old_n (by omega) | exact Nm.old_hp (by assumption) | (simp only [List.length_set, List.length_cons, List.length_nil, List.length_append, List.length_map, List.length_replicate] <;> omega))) only [nmS0, nmS1, nmS2, nmS3, nmS4, nmS5, nmS6, nmS7, Nat.testBit, Nat.reduceShiftRight, Nat.reduceAnd, Nat.reduceBNe, cond_true, cond_false, NT.get_leaf, Nat.reduceSub, d_true, d_false, clsOf, beq_self_eq_true, Int.reduceToNat, Nat.reduceAdd, Nat.reduceMul, Nat.reduceEqDiff, decide_true, decide_false, if_true, if_false, ite_true, ite_false, reduceIte, reduceCtorEq, eq_self, true_and, and_true, true_implies, put_puts, g2]
    · simp (config := { maxSteps := 1000000 }) (disch := (first | assumption | omega | exact Nm.old_n (by omega) | exact Nm.old_hp (by assumption) | (simp only [List.length_set, List.length_cons, List.length_nil, List.length_append, List.length_map, List.length_replicate] <;> omega))) only [nmS0, nmS1, nmS2, nmS3, nmS4, nmS5, nmS6, nmS7, Nat.testBit, Nat.reduceShiftRight, Nat.reduceAnd, Nat.reduceBNe, cond_true, cond_false, NT.get_leaf, Nat.reduceSub, d_true, d_false, clsOf, beq_self_eq_true, Int.reduceToNat, Nat.reduceAdd, Nat.reduceMul, Nat.reduceEqDiff, decide_true, decide_false, if_true, if_false, ite_true, ite_false, reduceIte, reduceCtorEq, eq_self, true_and, and_true, true_implies, put_puts, g3]
theorem lexPlaces (m : NH) (l : List NV) (h : TyA Try.prog m [22] l) : ∃ m', Ret Try.prog S0 5 l m (.bool true) m' := by
  obtain ⟨x, r, rfl, h1, h⟩ := h.inv1 (by intro fs q; rw [Try.underlying22] at q; simp at q)
  obtain rfl := h.inv0
  obtain ⟨v, b, hx, hv, -, hb⟩ := ty_bytes h1
  have hxv : v = x := by simpa using hx.symm
  subst hxv
  have hlen := hv.len
  rw [show (Byt b).length = b.length by simp] at hlen
  have hal : ∀ m, Ret Try.prog S0 8 [] m (.bool true) m := fun m => Ret.kept rfl m
  have h : ∃ v' m', Ret Try.prog S0 5 [v] m v' m' ∧ v' = .bool true := by
    refine WF.ex fun K hK => ?_
    refine WF.of_wpG (fun _ => rfl) nf5_eq (L := [(.e, v)]) rfl ?_
    unfold nf5
    by_cases h2 : b.length ≤ 2000
    · obtain ⟨r, m1, hr, hR, hC⟩ := tokens_p m hv (by omega) hb
      rw [if_neg (by omega)] at hR
      have hnum : ∀ e, Ret Try.prog S0 12 [ii e] m1 (ii e) m1 := num_p m1
      have hv1 := hv.chg hC fun _ _ => by simp
      cases he : (toks b).2 with
      | some a =>
        rw [he] at hR
        obtain rfl := hR
        have ha := toksL_err _ _ _ _ he
        simp (config := { maxSteps := 1000000 }) (disch := (first | assumption | omega | exact Nm.old_n (by omega) | exact Nm.old_hp (by assumption) | (simp only [List.length_set, List.length_cons, List.length_nil, List.length_append, List.length_map, List.length_replicate] <;> omega))) only [nmS0, nmS1, nmS2, nmS3, nmS4, nmS5, nmS6, nmS7, Nat.testBit, Nat.reduceShiftRight, Nat.reduceAnd, Nat.reduceBNe, cond_true, cond_false, NT.get_leaf, Nat.reduceSub, d_true, d_false, clsOf, beq_self_eq_true, Int.reduceToNat, Nat.reduceAdd, Nat.reduceMul, Nat.reduceEqDiff, decide_true, decide_false, if_true, if_false, ite_true, ite_false, reduceIte, reduceCtorEq, eq_self, true_and, and_true, true_implies, hp_nil, (hal _).wf', hlen, hr.wf', (hnum _).wf']
        exact hK _ _ rfl
      | none =>
        rw [he] at hR
        obtain ⟨u, rfl, hu⟩ := hR
        simp (config := { maxSteps := 1000000 }) (disch := (first | assumption | omega | exact Nm.old_n (by omega) | exact Nm.old_hp (by assumption) | (simp only [List.length_set, List.length_cons, List.length_nil, List.length_append, List.length_map, List.length_replicate] <;> omega))) only [nmS0, nmS1, nmS2, nmS3, nmS4, nmS5, nmS6, nmS7, Nat.testBit, Nat.reduceShiftRight, Nat.reduceAnd, Nat.reduceBNe, cond_true, cond_false, NT.get_leaf, Nat.reduceSub, d_true, d_false, clsOf, beq_self_eq_true, Int.reduceToNat, Nat.reduceAdd, Nat.reduceMul, Nat.reduceEqDiff, decide_true, decide_false, if_true, if_false, ite_true, ite_false, reduceIte, reduceCtorEq, eq_self, true_and, and_true, true_implies, hp_nil, (hal _).wf', hlen, hr.wf', (hnum _).wf']
        obtain ⟨hok, hne⟩ := toks_ok he
        have hll : (toks b).1.length ≤ b.length + 1 := toksL_len b (b.length + 1) (skipN b 0)
        refine places_loop (b := b) (u := u) (v := v) (L := (toks b).1) (by omega) hb hv1 hu.sl hok (by omega) (by simp (config := { maxSteps := 1000000 }) (disch := (first | assumption | omega | exact Nm.old_n (by omega) | exact Nm.old_hp (by assumption) | (simp only [List.length_set, List.length_cons, List.length_nil, List.length_append, List.length_map, List.length_replicate] <;> omega))) only [nmS0, nmS1, nmS2, nmS3, nmS4, nmS5, nmS6, nmS7, Nat.testBit, Nat.reduceShiftRight, Nat.reduceAnd, Nat.reduceBNe, cond_true, cond_false, NT.get_leaf, Nat.reduceSub, d_true, d_false, clsOf, beq_self_eq_true, Int.reduceToNat, Nat.reduceAdd, Nat.reduceMul, Nat.reduceEqDiff, decide_true, decide_false, if_true, if_false, ite_true, ite_false, reduceIte, reduceCtorEq, eq_self, true_and, and_true, true_implies]) (by simp (config := { maxSteps := 1000000 }) (disch := (first | assumption | omega | exact Nm.old_n (by omega) | exact Nm.old_hp (by assumption) | (simp only [List.length_set, List.length_cons, List.length_nil, List.length_append, List.length_map, List.length_replicate] <;> omega))) only [nmS0, nmS1, nmS2, nmS3, nmS4, nmS5, nmS6, nmS7, Nat.testBit, Nat.reduceShiftRight, Nat.reduceAnd, Nat.reduceBNe, cond_true, cond_false, NT.get_leaf, Nat.reduceSub, d_true, d_false, clsOf, beq_self_eq_true, Int.reduceToNat, Nat.reduceAdd, Nat.reduceMul, Nat.reduceEqDiff, decide_true, decide_false, if_true, if_false, ite_true, ite_false, reduceIte, reduceCtorEq, eq_self, true_and, and_true, true_implies]) (by simp (config := { maxSteps := 1000000 }) (disch := (first | assumption | omega | exact Nm.old_n (by omega) | exact Nm.old_hp (by assumption) | (simp only [List.length_set, List.length_cons, List.length_nil, List.length_append, List.length_map, List.length_replicate] <;> omega))) only [nmS0, nmS1, nmS2, nmS3, nmS4, nmS5, nmS6, nmS7, Nat.testBit, Nat.reduceShiftRight, Nat.reduceAnd, Nat.reduceBNe, cond_true, cond_false, NT.get_leaf, Nat.reduceSub, d_true, d_false, clsOf, beq_self_eq_true, Int.reduceToNat, Nat.reduceAdd, Nat.reduceMul, Nat.reduceEqDiff, decide_true, decide_false, if_true, if_false, ite_true, ite_false, reduceIte, reduceCtorEq, eq_self, true_and, and_true, true_implies]) (by simp (config := { maxSteps := 1000000 }) (disch := (first | assumption | omega | exact Nm.old_n (by omega) | exact Nm.old_hp (by assumption) | (simp only [List.length_set, List.length_cons, List.length_nil, List.length_append, List.length_map, List.length_replicate] <;> omega))) only [nmS0, nmS1, nmS2, nmS3, nmS4, nmS5, nmS6, nmS7, Nat.testBit, Nat.reduceShiftRight, Nat.reduceAnd, Nat.reduceBNe, cond_true, cond_false, NT.get_leaf, Nat.reduceSub, d_true, d_false, clsOf, beq_self_eq_true, Int.reduceToNat, Nat.reduceAdd, Nat.reduceMul, Nat.reduceEqDiff, decide_true, decide_false, if_true, if_false, ite_true, ite_false, reduceIte, reduceCtorEq, eq_self, true_and, and_true, true_implies]) (by simp (config := { maxSteps := 1000000 }) (disch := (first | assumption | omega | exact Nm.old_n (by omega) | exact Nm.old_hp (by assumption) | (simp only [List.length_set, List.length_cons, List.length_nil, List.length_append, List.length_map, List.length_replicate] <;> omega))) only [nmS0, nmS1, nmS2, nmS3, nmS4, nmS5, nmS6, nmS7, Nat.testBit, Nat.reduceShiftRight, Nat.reduceAnd, Nat.reduceBNe, cond_true, cond_false, NT.get_leaf, Nat.reduceSub, d_true, d_false, clsOf, beq_self_eq_true, Int.reduceToNat, Nat.reduceAdd, Nat.reduceMul, Nat.reduceEqDiff, decide_true, decide_false, if_true, if_false, ite_true, ite_false, reduceIte, reduceCtorEq, eq_self, true_and, and_true, true_implies]) ?_
        intro t' M' g1 g2 g3 hC'
        have hlen' := (hv1.chg hC' fun _ _ => by simp).len
        have hlu := (hu.sl.chg hC' fun _ _ => by simp).len
        rw [show (Byt b).length = b.length by simp] at hlen'
        rw [List.length_map] at hlu
        have : 0 < (toks b).1.length := List.length_pos_iff.mpr hne
        simp (config := { maxSteps := 1000000 }) (disch := (first | assumption | omega | exact Nm.old_n (by omega) | exact Nm.old_hp (by assumption) | (simp only [List.length_set, List.length_cons, List.length_nil, List.length_append, List.length_map, List.length_replicate] <;> omega))) only [nmS0, nmS1, nmS2, nmS3, nmS4, nmS5, nmS6, nmS7, Nat.testBit, Nat.reduceShiftRight, Nat.reduceAnd, Nat.reduceBNe, cond_true, cond_false, NT.get_leaf, Nat.reduceSub, d_true, d_false, clsOf, beq_self_eq_true, Int.reduceToNat, Nat.reduceAdd, Nat.reduceMul, Nat.reduceEqDiff, decide_true, decide_false, if_true, if_false, ite_true, ite_false, reduceIte, reduceCtorEq, eq_self, true_and, and_true, true_implies, g1, g2, g3, hlen', hlu]
        exact hK _ _ rfl
    · simp (config := { maxSteps := 1000000 }) (disch := (first | assumption | omega | exact Nm.old_n (by omega) | exact Nm.old_hp (by assumption) | (simp only [List.length_set, List.length_cons, List.length_nil, List.length_append, List.length_map, List.length_replicate] <;> omega))) only [nmS0, nmS1, nmS2, nmS3, nmS4, nmS5, nmS6, nmS7, Nat.testBit, Nat.reduceShiftRight, Nat.reduceAnd, Nat.reduceBNe, cond_true, cond_false, NT.get_leaf, Nat.reduceSub, d_true, d_false, clsOf, beq_self_eq_true, Int.reduceToNat, Nat.reduceAdd, Nat.reduceMul, Nat.reduceEqDiff, decide_true, decide_false, if_true, if_false, ite_true, ite_false, reduceIte, reduceCtorEq, eq_self, true_and, and_true, true_implies, hp_nil, (hal _).wf', hlen]
      exact hK _ _ rfl
  obtain ⟨v', m', h, rfl⟩ := h
  exact ⟨m', h⟩
end LX

open Go Nm Go.Proofs
namespace LX
set_option linter.unusedSimpArgs false
set_option linter.unusedVariables false
theorem tk_r1 {m : NH} {vb f : NV} {s : List Nat} (hs : s.length ≤ 1000000) (hb : Sl m vb 1 (Byt s)) {a : Nat} (ha : a ≤ s.length) {t : Tm} (g1 : NT.get D4.e t = some vb) (g2 : NT.get D4.e.a.c t = some (ii a)) (g3 : NT.get D4.e.a t = some (ii a)) (g4 : NT.get D4.e.f t = some f)
    {Q : Out → Dyn → Prop} (hQ : ∀ L t', NT.get D4.e (puts L t') = some vb → NT.get D4.e.a (puts L t') = some (ii a) → NT.get D4.e.f (puts L t') = some f → NT.get D4.e.a.c (puts L t') = some (ii ((rowN isI s a : Nat) : Int)) → Q (.exit 0) ⟨puts L t', [], none, m⟩) : W Try.prog S0 none nf18_l1.loop ⟨t, [], none, m⟩ Q := by
  have hlen := hb.len
  rw [List.length_map] at hlen
  refine W.loop (fun k d => ∃ t i, d = ⟨t, [], none, m⟩ ∧ NT.get D4.e t = some vb ∧ NT.get D4.e.a t = some (ii a) ∧ NT.get D4.e.f t = some f ∧ NT.get D4.e.a.c t = some (ii (i : Nat)) ∧ rowN isI s i = rowN isI s a ∧ i + k = s.length) ?_ (s.length - a) _ ⟨_, a, rfl, g1, g3, g4, g2, rfl, by omega⟩
  rintro k d ⟨t, i, rfl, g1, g3, g4, g2, hr, hik⟩
  apply wp_sound
  unfold nf18_l1
  change wp _ _ _ _ ⟨puts [] t, [], none, m⟩ _
  by_cases hi : i < s.length
  · obtain ⟨id, off, w, c, a1, a2, a3, a4, a5⟩ := hb.at i (by simpa using hi)
    rw [List.getElem_map] at a5
    have c0 := cell_at a5 0 (by omega)
    rw [Nat.add_zero] at c0
    have hI := inside_r m s[i]
    cases h1 : isI s[i] with
    | false =>
      rw [h1] at hI
      simp (config := { maxSteps := 1000000 }) (disch := (first | assumption | omega | exact Nm.old_n (by omega) | exact Nm.old_hp (by assumption) | (simp only [List.length_set, List.length_cons, List.length_nil, List.length_append, List.length_map, List.length_replicate] <;> omega))) only [nmS0, nmS1, nmS2, nmS3, nmS4, nmS5, nmS6, nmS7, Nat.testBit, Nat.reduceShiftRight, Nat.reduceAnd, Nat.reduceBNe, cond_true, cond_false, NT.get_leaf, Nat.reduceSub, d_true, d_false, clsOf, beq_self_eq_true, Int.reduceToNat, Nat.reduceAdd, Nat.reduceMul, Nat.reduceEqDiff, decide_true, decide_false, if_true, if_false, ite_true, ite_false, reduceIte, reduceCtorEq, eq_self, true_and, and_true, true_implies, g1, g2, hlen, a1, a2, c0, hI.wf']
      refine hQ _ _ ?_ ?_ ?_ ?_
      · simp (config := { maxSteps := 1000000 }) (disch := (first | assumption | omega | exact Nm.old_n (by omega) | exact Nm.old_hp (by assumption) | (simp only [List.length_set, List.length_cons, List.length_nil, List.length_append, List.length_map, List.length_replicate] <;> omega))) only [nmS0, nmS1, nmS2, nmS3, nmS4, nmS5, nmS6, nmS7, Nat.testBit, Nat.reduceShiftRight, Nat.reduceAnd, Nat.reduceBNe, cond_true, cond_false, NT.get_leaf, Nat.reduceSub, d_true, d_false, clsOf, beq_self_eq_true, Int.reduceToNat, Nat.reduceAdd, Nat.reduceMul, Nat.reduceEqDiff, decide_true, decide_false, if_true, if_false, ite_true, ite_false, reduceIte, reduceCtorEq, eq_self, true_and, and_true, true_implies, g1]
      · simp (config := { maxSteps := 1000000 }) (disch := (first | assumption | omega | exact Nm.old_n (by omega) | exact Nm.old_hp (by assumption) | (simp only [List.length_set, List.length_cons, List.length_nil, List.length_append, List.length_map, List.length_replicate] <;> omega))) only [nmS0, nmS1, nmS2, nmS3, nmS4, nmS5, nmS6, nmS7, Nat.testBit, Nat.reduceShiftRight, Nat.reduceAnd, Nat.reduceBNe, cond_true, cond_false, NT.get_leaf, Nat.reduceSub, d_true, d_false, clsOf, beq_self_eq_true, Int.reduceToNat, Nat.reduceAdd, Nat.reduceMul, Nat.reduceEqDiff, decide_true, decide_false, if_true, if_false, ite_true, ite_false, reduceIte, reduceCtorEq, eq_self, true_and, and_true, true_implies, g3]
      · simp (config := { maxSteps := 1000000 }) (disch := (first | assumption | omega | exact Nm.old_n (by omega) | exact Nm.old_hp (by assumption) | (simp only [List.length_set, List.length_cons, List.length_nil, List.length_append, List.length_map, List.length_replicate] <;> omega))) only [nmS0, nmS1, nmS2, nmS3, nmS4, nmS5, nmS6, nmS7, Nat.testBit, Nat.reduceShiftRight, Nat.reduceAnd, Nat.reduceBNe, cond_true, cond_false, NT.get_leaf, Nat.reduceSub, d_true, d_false, clsOf, beq_self_eq_true, Int.reduceToNat, Nat.reduceAdd, Nat.reduceMul, Nat.reduceEqDiff, decide_true, decide_false, if_true, if_false, ite_true, ite_false, reduceIte, reduceCtorEq, eq_self, true_and, and_true, true_implies, g4]
      · simp (config := { maxSteps := 1000000 }) (disch := (first | assumption | omega | exact Nm.old_n (by omega) | exact Nm.old_hp (by assumption) | (simp only [List.length_set, List.length_cons, List.length_nil, List.length_append, List.length_map, List.length_replicate] <;> omega))) only [nmS0, nmS1, nmS2, nmS3, nmS4, nmS5, nmS6, nmS7, Nat.testBit, Nat.reduceShiftRight, Nat.reduceAnd, Nat.reduceBNe, cond_true, cond_false, NT.get_leaf, Nat.reduceSub, d_true, d_false, clsOf, beq_self_eq_true, Int.reduceToNat, Nat.reduceAdd, Nat.reduceMul, Nat.reduceEqDiff, decide_true, decide_false, if_true, if_false, ite_true, ite_false, reduceIte, reduceCtorEq, eq_self, true_and, and_true, true_implies, g2]; rw [← hr, rowN_no hi h1]
    | true =>
      rw [h1] at hI
      simp (config := { maxSteps := 1000000 }) (disch := (first | assumption | omega | exact Nm.old_n (by omega) | exact Nm.old_hp (by assumption) | (simp only [List.length_set, List.length_cons, List.length_nil, List.length_append, List.length_map, List.length_replicate] <;> omega))) only [nmS0, nmS1, nmS2, nmS3, nmS4, nmS5, nmS6, nmS7, Nat.testBit, Nat.reduceShiftRight, Nat.reduceAnd, Nat.reduceBNe, cond_true, cond_false, NT.get_leaf, Nat.reduceSub, d_true, d_false, clsOf, beq_self_eq_true, Int.reduceToNat, Nat.reduceAdd, Nat.reduceMul, Nat.reduceEqDiff, decide_true, decide_false, if_true, if_false, ite_true, ite_false, reduceIte, reduceCtorEq, eq_self, true_and, and_true, true_implies, g1, g2, hlen, a1, a2, c0, hI.wf']
      refine ⟨k - 1, by omega, _, i + 1, rfl, ?_, ?_, ?_, ?_, by rw [← hr, rowN_yes hi h1], by omega⟩
      · simp (config := { maxSteps := 1000000 }) (disch := (first | assumption | omega | exact Nm.old_n (by omega) | exact Nm.old_hp (by assumption) | (simp only [List.length_set, List.length_cons, List.length_nil, List.length_append, List.length_map, List.length_replicate] <;> omega))) only [nmS0, nmS1, nmS2, nmS3, nmS4, nmS5, nmS6, nmS7, Nat.testBit, Nat.reduceShiftRight, Nat.reduceAnd, Nat.reduceBNe, cond_true, cond_false, NT.get_leaf, Nat.reduceSub, d_true, d_false, clsOf, beq_self_eq_true, Int.reduceToNat, Nat.reduceAdd, Nat.reduceMul, Nat.reduceEqDiff, decide_true, decide_false, if_true, if_false, ite_true, ite_false, reduceIte, reduceCtorEq, eq_self, true_and, and_true, true_implies, g1]
      · simp (config := { maxSteps := 1000000 }) (disch := (first | assumption | omega | exact Nm.old_n (by omega) | exact Nm.old_hp (by assumption) | (simp only [List.length_set, List.length_cons, List.length_nil, List.length_append, List.length_map, List.length_replicate] <;> omega))) only [nmS0, nmS1, nmS2, nmS3, nmS4, nmS5, nmS6, nmS7, Nat.testBit, Nat.reduceShiftRight, Nat.reduceAnd, Nat.reduceBNe, cond_true, cond_false, NT.get_leaf, Nat.reduceSub, d_true, d_false, clsOf, beq_self_eq_true, Int.reduceToNat, Nat.reduceAdd, Nat.reduceMul, Nat.reduceEqDiff, decide_true, decide_false, if_true, if_false, ite_true, ite_false, reduceIte, reduceCtorEq, eq_self, true_and, and_true, true_implies, g3]
      · simp (config := { maxSteps := 1000000 }) (disch := (first | assumption | omega | exact Nm.old_n (by omega) | exact Nm.old_hp (by assumption) | (simp only [List.length_set, List.length_cons, List.length_nil, List.length_append, List.length_map, List.length_replicate] <;> omega))) only [nmS0, nmS1, nmS2, nmS3, nmS4, nmS5, nmS6, nmS7, Nat.testBit, Nat.reduceShiftRight, Nat.reduceAnd, Nat.reduceBNe, cond_true, cond_false, NT.get_leaf, Nat.reduceSub, d_true, d_false, clsOf, beq_self_eq_true, Int.reduceToNat, Nat.reduceAdd, Nat.reduceMul, Nat.reduceEqDiff, decide_true, decide_false, if_true, if_false, ite_true, ite_false, reduceIte, reduceCtorEq, eq_self, true_and, and_true, true_implies, g4]
      · simp (config := { maxSteps := 1000000 }) (disch := (first | assumption | omega | exact Nm.old_n (by omega) | exact Nm.old_hp (by assumption) | (simp only [List.length_set, List.length_cons, List.length_nil, List.length_append, List.length_map, List.length_replicate] <;> omega))) only [nmS0, nmS1, nmS2, nmS3, nmS4, nmS5, nmS6, nmS7, Nat.testBit, Nat.reduceShiftRight, Nat.reduceAnd, Nat.reduceBNe, cond_true, cond_false, NT.get_leaf, Nat.reduceSub, d_true, d_false, clsOf, beq_self_eq_true, Int.reduceToNat, Nat.reduceAdd, Nat.reduceMul, Nat.reduceEqDiff, decide_true, decide_false, if_true, if_false, ite_true, ite_false, reduceIte, reduceCtorEq, eq_self, true_and, and_true, true_implies]; rfl
  · simp (config := { maxSteps := 1000000 }) (disch := (first | assumption | omega | exact Nm.old_n (by omega) | exact Nm.old_hp (by assumption) | (simp only [List.length_set, List.length_cons, List.length_nil, List.length_append, List.length_map, List.length_replicate] <;> omega))) only [nmS0, nmS1, nmS2, nmS3, nmS4, nmS5, nmS6, nmS7, Nat.testBit, Nat.reduceShiftRight, Nat.reduceAnd, Nat.reduceBNe, cond_true, cond_false, NT.get_leaf, Nat.reduceSub, d_true, d_false, clsOf, beq_self_eq_true, Int.reduceToNat, Nat.reduceAdd, Nat.reduceMul, Nat.reduceEqDiff, decide_true, decide_false, if_true, if_false, ite_true, ite_false, reduceIte, reduceCtorEq, eq_self, true_and, and_true, true_implies, g1, g2, hlen]
    refine hQ _ _ ?_ ?_ ?_ ?_
    · simp (config := { maxSteps := 1000000 }) (disch := (first | assumption | omega | exact Nm.old_n (by omega) | exact Nm.old_hp (by assumption) | (simp only [List.length_set, List.length_cons, List.length_nil, List.length_append, List.length_map, List.length_replicate] <;> omega))) only [nmS0, nmS1, nmS2, nmS3, nmS4, nmS5, nmS6, nmS7, Nat.testBit, Nat.reduceShiftRight, Nat.reduceAnd, Nat.reduceBNe, cond_true, cond_false, NT.get_leaf, Nat.reduceSub, d_true, d_false, clsOf, beq_self_eq_true, Int.reduceToNat, Nat.reduceAdd, Nat.reduceMul, Nat.reduceEqDiff, decide_true, decide_false, if_true, if_false, ite_true, ite_false, reduceIte, reduceCtorEq, eq_self, true_and, and_true, true_implies, g1]
    · simp (config := { maxSteps := 1000000 }) (disch := (first | assumption | omega | exact Nm.old_n (by omega) | exact Nm.old_hp (by assumption) | (simp only [List.length_set, List.length_cons, List.length_nil, List.length_append, List.length_map, List.length_replicate] <;> omega))) only [nmS0, nmS1, nmS2, nmS3, nmS4, nmS5, nmS6, nmS7, Nat.testBit, Nat.reduceShiftRight, Nat.reduceAnd, Nat.reduceBNe, cond_true, cond_false, NT.get_leaf, Nat.reduceSub, d_true, d_false, clsOf, beq_self_eq_true, Int.reduceToNat, Nat.reduceAdd, Nat.reduceMul, Nat.reduceEqDiff, decide_true, decide_false, if_true, if_false, ite_true, ite_false, reduceIte, reduceCtorEq, eq_self, true_and, and_true, true_implies, g3]
    · simp (config := { maxSteps := 1000000 }) (disch := (first | assumption | omega | exact Nm.old_n (by omega) | exact Nm.old_hp (by assumption) | (simp only [List.length_set, List.length_cons, List.length_nil, List.length_append, List.length_map, List.length_replicate] <;> omega))) only [nmS0, nmS1, nmS2, nmS3, nmS4, nmS5, nmS6, nmS7, Nat.testBit, Nat.reduceShiftRight, Nat.reduceAnd, Nat.reduceBNe, cond_true, cond_false, NT.get_leaf, Nat.reduceSub, d_true, d_false, clsOf, beq_self_eq_true, Int.reduceToNat, Nat.reduceAdd, Nat.reduceMul, Nat.reduceEqDiff, decide_true, decide_false, if_true, if_false, ite_true, ite_false, reduceIte, reduceCtorEq, eq_self, true_and, and_true, true_implies, g4]
    · simp (config := { maxSteps := 1000000 }) (disch := (first | assumption | omega | exact Nm.old_n (by omega) | exact Nm.old_hp (by assumption) | (simp only [List.length_set, List.length_cons, List.length_nil, List.length_append, List.length_map, List.length_replicate] <;> omega))) only [nmS0, nmS1, nmS2, nmS3, nmS4, nmS5, nmS6, nmS7, Nat.testBit, Nat.reduceShiftRight, Nat.reduceAnd, Nat.reduceBNe, cond_true, cond_false, NT.get_leaf, Nat.reduceSub, d_true, d_false, clsOf, beq_self_eq_true, Int.reduceToNat, Nat.reduceAdd, Nat.reduceMul, Nat.reduceEqDiff, decide_true, decide_false, if_true, if_false, ite_true, ite_false, reduceIte, reduceCtorEq, eq_self, true_and, and_true, true_implies, g2]; rw [← hr, rowN_end (by omega)]
theorem allD_row {s : List Nat} {a : Nat} (h : ∀ c ∈ cut s a (rowN isI s a), isD c = true) : rowN isD s a = rowN isI s a := by
  rw [cut_row] at h
  unfold rowN
  congr 1
  generalize s.drop a = l at h ⊢
  induction l with
  | nil => rfl
  | cons x l ih =>
    rw [List.takeWhile_cons] at h
    rw [List.takeWhile_cons, List.takeWhile_cons]
    cases hx : isI x with
    | false =>
      have : isD x = false := by cases hd : isD x with
        | false => rfl
        | true => rw [isD_isI x hd] at hx; cases hx
      simp [hx, this]
    | true =>
      rw [hx] at h
      have h0 := h x (by simp)
      rw [h0]
      simp only [if_true, List.length_cons]
      rw [ih fun c hc => h c (by simp [hc])]
/-- there is no number -/
def badNum (s : List Nat) (a : Nat) : Prop := rowN isI s a ≠ rowN isD s a ∨ valL (cut s a (rowN isD s a)) 0 = none
theorem cut_get {s : List Nat} {a e i : Nat} (h1 : a ≤ i) (h2 : i < e) (h3 : e ≤ s.length) : (cut s a e).drop (i - a) = s[i] :: (cut s a e).drop (i + 1 - a) := by
  have hlt : i - a < (cut s a e).length := by rw [cut_len h3]; omega
  have hg : (cut s a e)[i - a]? = s[i]? := by
    unfold cut
    rw [List.getElem?_drop, show a + (i - a) = i by omega, List.getElem?_take_of_lt h2]
  rw [List.getElem?_eq_getElem hlt, List.getElem?_eq_getElem (by omega), Option.some.injEq] at hg
  rw [List.drop_eq_getElem_cons hlt, show i - a + 1 = i + 1 - a by omega, hg]
theorem tk_r3 {m : NH} {vb : NV} {s : List Nat} (hs : s.length ≤ 1000000) (hb : Sl m vb 1 (Byt s)) {a : Nat} (ha : a ≤ s.length) {t : Tm} {r tk : D4} {b0 b1 b2 b3 a0 a1 a2 a3 cc : NV}
    (hr : m.get r = some (.cells true [b0, b1, b2, b3])) (htk : m.get tk = some (.cells true [a0, a1, a2, a3])) (orr : Old m r) (otk : Old m tk)
    (g1 : NT.get D4.e t = some vb) (g2 : NT.get D4.e.a.c t = some (ii ((rowN isI s a : Nat) : Int))) (g3 : NT.get D4.e.a t = some (ii a)) (g4 : NT.get D4.e.f t = some (.ptr r 0)) (g5 : NT.get D4.e.b.a t = some (.ptr tk 0)) (g6 : NT.get D4.e.b.b t = some (u64 0)) (g7 : NT.get D4.e.b.c t = some (ii a)) (g8 : NT.get D4.e.a.f t = some cc)
    {Q : Out → Dyn → Prop}
    (hbad : badNum s a → ∀ L t', NT.get D4.e.f (puts L t') = some (.ptr r 0) → NT.get D4.e.a.a (puts L t') = some (ii a) → NT.get D4.e.a.b (puts L t') = some (ii 2) → Q .ret ⟨puts L t', [], none, m.put r (.cells true [a0, a1, a2, a3])⟩)
    (hok : ∀ n, rowN isI s a = rowN isD s a → valL (cut s a (rowN isD s a)) 0 = some n → ∀ L t', NT.get D4.e.b.a (puts L t') = some (.ptr tk 0) → NT.get D4.e.a.c (puts L t') = some (ii ((rowN isI s a : Nat) : Int)) → NT.get D4.e.a (puts L t') = some (ii a) → NT.get D4.e.f (puts L t') = some (.ptr r 0) → NT.get D4.e.b.b (puts L t') = some (u64 n) → NT.get D4.e.a.f (puts L t') = some cc → Q (.exit 3) ⟨puts L t', [], none, m⟩) :
    W Try.prog S0 none nf18_l3.loop ⟨t, [], none, m⟩ Q := by
  have hlen := hb.len
  rw [List.length_map] at hlen
  have hle : rowN isI s a ≤ s.length := rowN_le ha
  have hge : a ≤ rowN isI s a := rowN_ge
  generalize hto : rowN isI s a = to at hle hge g2 hok
  refine W.loop (fun k d => ∃ t i n, d = ⟨t, [], none, m⟩ ∧ NT.get D4.e t = some vb ∧ NT.get D4.e.a.c t = some (ii (to : Nat)) ∧ NT.get D4.e.a t = some (ii a) ∧ NT.get D4.e.f t = some (.ptr r 0) ∧ NT.get D4.e.b.a t = some (.ptr tk 0) ∧ NT.get D4.e.b.b t = some (u64 n) ∧ NT.get D4.e.b.c t = some (ii (i : Nat)) ∧ NT.get D4.e.a.f t = some cc ∧ n < 18446744073709551616 ∧ a ≤ i ∧ (∀ c ∈ (cut s a to).take (i - a), isD c = true) ∧ valL ((cut s a to).drop (i - a)) n = valL (cut s a to) 0 ∧ i + k = to) ?_ (to - a) _
    ⟨_, a, 0, rfl, g1, g2, g3, g4, g5, g6, g7, g8, by omega, Nat.le_refl _, by simp, by simp, by omega⟩
  rintro k d ⟨t, i, n, rfl, g1, g2, g3, g4, g5, g6, g7, g8, hn, hai, hall, hv, hik⟩
  apply wp_sound
  unfold nf18_l3
  change wp _ _ _ _ ⟨puts [] t, [], none, m⟩ _
  by_cases hi : i < to
  · obtain ⟨id, off, w, c', x1, x2, x3, x4, x5⟩ := hb.at i (by simp; omega)
    rw [List.getElem_map] at x5
    have c0 := cell_at x5 0 (by omega)
    rw [Nat.add_zero] at c0
    have hcg := cut_get (s := s) hai hi hle
    have hD := digit_r m s[i]
    generalize hc : s[i] = c at c0 hcg hD
    rw [hcg] at hv
    have hmem : c ∈ cut s a to := by
      have : c ∈ (cut s a to).drop (i - a) := by rw [hcg]; simp
      exact List.mem_of_mem_drop this
    cases h1 : isD c with
    | false =>
      rw [h1] at hD
      simp (config := { maxSteps := 1000000 }) (disch := (first | assumption | omega | exact Nm.old_n (by omega) | exact Nm.old_hp (by assumption) | (simp only [List.length_set, List.length_cons, List.length_nil, List.length_append, List.length_map, List.length_replicate] <;> omega))) only [nmS0, nmS1, nmS2, nmS3, nmS4, nmS5, nmS6, nmS7, Nat.testBit, Nat.reduceShiftRight, Nat.reduceAnd, Nat.reduceBNe, cond_true, cond_false, NT.get_leaf, Nat.reduceSub, d_true, d_false, clsOf, beq_self_eq_true, Int.reduceToNat, Nat.reduceAdd, Nat.reduceMul, Nat.reduceEqDiff, decide_true, decide_false, if_true, if_false, ite_true, ite_false, reduceIte, reduceCtorEq, eq_self, true_and, and_true, true_implies, hp_nil, g1, g2, g3, g4, g5, g6, g7, hlen, x1, x2, c0, hD.wf', hr, htk]
      refine hbad (Or.inl fun h => ?_) _ _ ?_ ?_ ?_
      · rw [hto] at h
        have := cut_every isD s a c (by rw [← h]; exact hmem)
        rw [h1] at this; cases this
      · simp (config := { maxSteps := 1000000 }) (disch := (first | assumption | omega | exact Nm.old_n (by omega) | exact Nm.old_hp (by assumption) | (simp only [List.length_set, List.length_cons, List.length_nil, List.length_append, List.length_map, List.length_replicate] <;> omega))) only [nmS0, nmS1, nmS2, nmS3, nmS4, nmS5, nmS6, nmS7, Nat.testBit, Nat.reduceShiftRight, Nat.reduceAnd, Nat.reduceBNe, cond_true, cond_false, NT.get_leaf, Nat.reduceSub, d_true, d_false, clsOf, beq_self_eq_true, Int.reduceToNat, Nat.reduceAdd, Nat.reduceMul, Nat.reduceEqDiff, decide_true, decide_false, if_true, if_false, ite_true, ite_false, reduceIte, reduceCtorEq, eq_self, true_and, and_true, true_implies, g4]
      · simp (config := { maxSteps := 1000000 }) (disch := (first | assumption | omega | exact Nm.old_n (by omega) | exact Nm.old_hp (by assumption) | (simp only [List.length_set, List.length_cons, List.length_nil, List.length_append, List.length_map, List.length_replicate] <;> omega))) only [nmS0, nmS1, nmS2, nmS3, nmS4, nmS5, nmS6, nmS7, Nat.testBit, Nat.reduceShiftRight, Nat.reduceAnd, Nat.reduceBNe, cond_true, cond_false, NT.get_leaf, Nat.reduceSub, d_true, d_false, clsOf, beq_self_eq_true, Int.reduceToNat, Nat.reduceAdd, Nat.reduceMul, Nat.reduceEqDiff, decide_true, decide_false, if_true, if_false, ite_true, ite_false, reduceIte, reduceCtorEq, eq_self, true_and, and_true, true_implies]
      · simp (config := { maxSteps := 1000000 }) (disch := (first | assumption | omega | exact Nm.old_n (by omega) | exact Nm.old_hp (by assumption) | (simp only [List.length_set, List.length_cons, List.length_nil, List.length_append, List.length_map, List.length_replicate] <;> omega))) only [nmS0, nmS1, nmS2, nmS3, nmS4, nmS5, nmS6, nmS7, Nat.testBit, Nat.reduceShiftRight, Nat.reduceAnd, Nat.reduceBNe, cond_true, cond_false, NT.get_leaf, Nat.reduceSub, d_true, d_false, clsOf, beq_self_eq_true, Int.reduceToNat, Nat.reduceAdd, Nat.reduceMul, Nat.reduceEqDiff, decide_true, decide_false, if_true, if_false, ite_true, ite_false, reduceIte, reduceCtorEq, eq_self, true_and, and_true, true_implies]
    | true =>
      rw [h1] at hD
      have hdd := h1
      unfold isD at hdd
      rw [decide_eq_true_eq] at hdd
      have e1 : ((c : Int) - 48) % 256 = ((c - 48 : Nat) : Int) := by omega
      have e2 : ((c - 48 : Nat) : Int) % 18446744073709551616 = ((c - 48 : Nat) : Int) := by omega
      have e3 : (18446744073709551615 - ((c - 48 : Nat) : Int)) % 18446744073709551616 = ((18446744073709551615 - (c - 48) : Nat) : Int) := by omega
      have q10 : ∀ x : Nat, x < 18446744073709551616 → binV .num .quo (.int .u64 (.lit (x : Int))) (.int .u64 (.lit 10)) = some (.int .u64 (.lit ((x / 10 : Nat) : Int))) := by
        intro x hx
        have := b_quoU (a := x) (b := 10) (by omega)
        rw [show x / 10 % 18446744073709551616 = x / 10 by omega] at this
        exact this
      have q10 := q10 (18446744073709551615 - (c - 48)) (by omega)
      have hvn : valL (c :: (cut s a to).drop (i + 1 - a)) n = if 10 * n + (c - 48) < 18446744073709551616 then valL ((cut s a to).drop (i + 1 - a)) (10 * n + (c - 48)) else none := rfl
      by_cases hlt : 10 * n + (c - 48) < 18446744073709551616
      · rw [hvn, if_pos hlt] at hv
        have hle10 : n ≤ (18446744073709551615 - (c - 48)) / 10 := by omega
        have e4 : (10 * (n : Int) % 18446744073709551616 + ((c - 48 : Nat) : Int)) % 18446744073709551616 = ((10 * n + (c - 48) : Nat) : Int) := by omega
        generalize hqq : (18446744073709551615 - (c - 48)) / 10 = qq at q10 hle10
        simp (config := { maxSteps := 1000000 }) (disch := (first | assumption | omega | exact Nm.old_n (by omega) | exact Nm.old_hp (by assumption) | (simp only [List.length_set, List.length_cons, List.length_nil, List.length_append, List.length_map, List.length_replicate] <;> omega))) only [nmS0, nmS1, nmS2, nmS3, nmS4, nmS5, nmS6, nmS7, Nat.testBit, Nat.reduceShiftRight, Nat.reduceAnd, Nat.reduceBNe, cond_true, cond_false, NT.get_leaf, Nat.reduceSub, d_true, d_false, clsOf, beq_self_eq_true, Int.reduceToNat, Nat.reduceAdd, Nat.reduceMul, Nat.reduceEqDiff, decide_true, decide_false, if_true, if_false, ite_true, ite_false, reduceIte, reduceCtorEq, eq_self, true_and, and_true, true_implies, hp_nil, g1, g2, g3, g4, g5, g6, g7, hlen, x1, x2, c0, hD.wf', e1, e2, e3, q10, e4]
        refine ⟨k - 1, by omega, _, i + 1, 10 * n + (c - 48), rfl, ?_, ?_, ?_, ?_, ?_, ?_, ?_, ?_, hlt, by omega, ?_, hv, by omega⟩
        · simp (config := { maxSteps := 1000000 }) (disch := (first | assumption | omega | exact Nm.old_n (by omega) | exact Nm.old_hp (by assumption) | (simp only [List.length_set, List.length_cons, List.length_nil, List.length_append, List.length_map, List.length_replicate] <;> omega))) only [nmS0, nmS1, nmS2, nmS3, nmS4, nmS5, nmS6, nmS7, Nat.testBit, Nat.reduceShiftRight, Nat.reduceAnd, Nat.reduceBNe, cond_true, cond_false, NT.get_leaf, Nat.reduceSub, d_true, d_false, clsOf, beq_self_eq_true, Int.reduceToNat, Nat.reduceAdd, Nat.reduceMul, Nat.reduceEqDiff, decide_true, decide_false, if_true, if_false, ite_true, ite_false, reduceIte, reduceCtorEq, eq_self, true_and, and_true, true_implies, g1]
        · simp (config := { maxSteps := 1000000 }) (disch := (first | assumption | omega | exact Nm.old_n (by omega) | exact Nm.old_hp (by assumption) | (simp only [List.length_set, List.length_cons, List.length_nil, List.length_append, List.length_map, List.length_replicate] <;> omega))) only [nmS0, nmS1, nmS2, nmS3, nmS4, nmS5, nmS6, nmS7, Nat.testBit, Nat.reduceShiftRight, Nat.reduceAnd, Nat.reduceBNe, cond_true, cond_false, NT.get_leaf, Nat.reduceSub, d_true, d_false, clsOf, beq_self_eq_true, Int.reduceToNat, Nat.reduceAdd, Nat.reduceMul, Nat.reduceEqDiff, decide_true, decide_false, if_true, if_false, ite_true, ite_false, reduceIte, reduceCtorEq, eq_self, true_and, and_true, true_implies, g2]
        · simp (config := { maxSteps := 1000000 }) (disch := (first | assumption | omega | exact Nm.old_n (by omega) | exact Nm.old_hp (by assumption) | (simp only [List.length_set, List.length_cons, List.length_nil, List.length_append, List.length_map, List.length_replicate] <;> omega))) only [nmS0, nmS1, nmS2, nmS3, nmS4, nmS5, nmS6, nmS7, Nat.testBit, Nat.reduceShiftRight, Nat.reduceAnd, Nat.reduceBNe, cond_true, cond_false, NT.get_leaf, Nat.reduceSub, d_true, d_false, clsOf, beq_self_eq_true, Int.reduceToNat, Nat.reduceAdd, Nat.reduceMul, Nat.reduceEqDiff, decide_true, decide_false, if_true, if_false, ite_true, ite_false, reduceIte, reduceCtorEq, eq_self, true_and, and_true, true_implies, g3]
        · simp (config := { maxSteps := 1000000 }) (disch := (first | assumption | omega | exact Nm.old_n (by omega) | exact Nm.old_hp (by assumption) | (simp only [List.length_set, List.length_cons, List.length_nil, List.length_append, List.length_map, List.length_replicate] <;> omega))) only [nmS0, nmS1, nmS2, nmS3, nmS4, nmS5, nmS6, nmS7, Nat.testBit, Nat.reduceShiftRight, Nat.reduceAnd, Nat.reduceBNe, cond_true, cond_false, NT.get_leaf, Nat.reduceSub, d_true, d_false, clsOf, beq_self_eq_true, Int.reduceToNat, Nat.reduceAdd, Nat.reduceMul, Nat.reduceEqDiff, decide_true, decide_false, if_true, if_false, ite_true, ite_false, reduceIte, reduceCtorEq, eq_self, true_and, and_true, true_implies, g4]
        · simp (config := { maxSteps := 1000000 }) (disch := (first | assumption | omega | exact Nm.old_n (by omega) | exact Nm.old_hp (by assumption) | (simp only [List.length_set, List.length_cons, List.length_nil, List.length_append, List.length_map, List.length_replicate] <;> omega))) only [nmS0, nmS1, nmS2, nmS3, nmS4, nmS5, nmS6, nmS7, Nat.testBit, Nat.reduceShiftRight, Nat.reduceAnd, Nat.reduceBNe, cond_true, cond_false, NT.get_leaf, Nat.reduceSub, d_true, d_false, clsOf, beq_self_eq_true, Int.reduceToNat, Nat.reduceAdd, Nat.reduceMul, Nat.reduceEqDiff, decide_true, decide_false, if_true, if_false, ite_true, ite_false, reduceIte, reduceCtorEq, eq_self, true_and, and_true, true_implies, g5]
        · simp (config := { maxSteps := 1000000 }) (disch := (first | assumption | omega | exact Nm.old_n (by omega) | exact Nm.old_hp (by assumption) | (simp only [List.length_set, List.length_cons, List.length_nil, List.length_append, List.length_map, List.length_replicate] <;> omega))) only [nmS0, nmS1, nmS2, nmS3, nmS4, nmS5, nmS6, nmS7, Nat.testBit, Nat.reduceShiftRight, Nat.reduceAnd, Nat.reduceBNe, cond_true, cond_false, NT.get_leaf, Nat.reduceSub, d_true, d_false, clsOf, beq_self_eq_true, Int.reduceToNat, Nat.reduceAdd, Nat.reduceMul, Nat.reduceEqDiff, decide_true, decide_false, if_true, if_false, ite_true, ite_false, reduceIte, reduceCtorEq, eq_self, true_and, and_true, true_implies]
        · simp (config := { maxSteps := 1000000 }) (disch := (first | assumption | omega | exact Nm.old_n (by omega) | exact Nm.old_hp (by assumption) | (simp only [List.length_set, List.length_cons, List.length_nil, List.length_append, List.length_map, List.length_replicate] <;> omega))) only [nmS0, nmS1, nmS2, nmS3, nmS4, nmS5, nmS6, nmS7, Nat.testBit, Nat.reduceShiftRight, Nat.reduceAnd, Nat.reduceBNe, cond_true, cond_false, NT.get_leaf, Nat.reduceSub, d_true, d_false, clsOf, beq_self_eq_true, Int.reduceToNat, Nat.reduceAdd, Nat.reduceMul, Nat.reduceEqDiff, decide_true, decide_false, if_true, if_false, ite_true, ite_false, reduceIte, reduceCtorEq, eq_self, true_and, and_true, true_implies]; rfl
        · simp (config := { maxSteps := 1000000 }) (disch := (first | assumption | omega | exact Nm.old_n (by omega) | exact Nm.old_hp (by assumption) | (simp only [List.length_set, List.length_cons, List.length_nil, List.length_append, List.length_map, List.length_replicate] <;> omega))) only [nmS0, nmS1, nmS2, nmS3, nmS4, nmS5, nmS6, nmS7, Nat.testBit, Nat.reduceShiftRight, Nat.reduceAnd, Nat.reduceBNe, cond_true, cond_false, NT.get_leaf, Nat.reduceSub, d_true, d_false, clsOf, beq_self_eq_true, Int.reduceToNat, Nat.reduceAdd, Nat.reduceMul, Nat.reduceEqDiff, decide_true, decide_false, if_true, if_false, ite_true, ite_false, reduceIte, reduceCtorEq, eq_self, true_and, and_true, true_implies, g8]
        · intro x hx
          rw [show i + 1 - a = i - a + 1 by omega, List.take_add_one] at hx
          have hg : (cut s a to)[i - a]? = some c := by
            have := congrArg (fun l => l[0]?) hcg
            simpa using this
          rw [hg] at hx
          simp only [Option.toList_some, List.mem_append, List.mem_singleton] at hx
          rcases hx with hx | rfl
          · exact hall x hx
          · exact h1
      · rw [hvn, if_neg hlt] at hv
        have hle10 : (18446744073709551615 - (c - 48)) / 10 < n := by omega
        generalize hqq : (18446744073709551615 - (c - 48)) / 10 = qq at q10 hle10
        simp (config := { maxSteps := 1000000 }) (disch := (first | assumption | omega | exact Nm.old_n (by omega) | exact Nm.old_hp (by assumption) | (simp only [List.length_set, List.length_cons, List.length_nil, List.length_append, List.length_map, List.length_replicate] <;> omega))) only [nmS0, nmS1, nmS2, nmS3, nmS4, nmS5, nmS6, nmS7, Nat.testBit, Nat.reduceShiftRight, Nat.reduceAnd, Nat.reduceBNe, cond_true, cond_false, NT.get_leaf, Nat.reduceSub, d_true, d_false, clsOf, beq_self_eq_true, Int.reduceToNat, Nat.reduceAdd, Nat.reduceMul, Nat.reduceEqDiff, decide_true, decide_false, if_true, if_false, ite_true, ite_false, reduceIte, reduceCtorEq, eq_self, true_and, and_true, true_implies, hp_nil, g1, g2, g3, g4, g5, g6, g7, hlen, x1, x2, c0, hD.wf', e1, e2, e3, q10, hr, htk]
        refine hbad ?_ _ _ ?_ ?_ ?_
        · unfold badNum
          by_cases h : rowN isI s a = rowN isD s a
          · right; rw [← h, hto]; exact hv.symm
          · exact Or.inl h
        · simp (config := { maxSteps := 1000000 }) (disch := (first | assumption | omega | exact Nm.old_n (by omega) | exact Nm.old_hp (by assumption) | (simp only [List.length_set, List.length_cons, List.length_nil, List.length_append, List.length_map, List.length_replicate] <;> omega))) only [nmS0, nmS1, nmS2, nmS3, nmS4, nmS5, nmS6, nmS7, Nat.testBit, Nat.reduceShiftRight, Nat.reduceAnd, Nat.reduceBNe, cond_true, cond_false, NT.get_leaf, Nat.reduceSub, d_true, d_false, clsOf, beq_self_eq_true, Int.reduceToNat, Nat.reduceAdd, Nat.reduceMul, Nat.reduceEqDiff, decide_true, decide_false, if_true, if_false, ite_true, ite_false, reduceIte, reduceCtorEq, eq_self, true_and, and_true, true_implies, g4]
        · simp (config := { maxSteps := 1000000 }) (disch := (first | assumption | omega | exact Nm.old_n (by omega) | exact Nm.old_hp (by assumption) | (simp only [List.length_set, List.length_cons, List.length_nil, List.length_append, List.length_map, List.length_replicate] <;> omega))) only [nmS0, nmS1, nmS2, nmS3, nmS4, nmS5, nmS6, nmS7, Nat.testBit, Nat.reduceShiftRight, Nat.reduceAnd, Nat.reduceBNe, cond_true, cond_false, NT.get_leaf, Nat.reduceSub, d_true, d_false, clsOf, beq_self_eq_true, Int.reduceToNat, Nat.reduceAdd, Nat.reduceMul, Nat.reduceEqDiff, decide_true, decide_false, if_true, if_false, ite_true, ite_false, reduceIte, reduceCtorEq, eq_self, true_and, and_true, true_implies]
        · simp (config := { maxSteps := 1000000 }) (disch := (first | assumption | omega | exact Nm.old_n (by omega) | exact Nm.old_hp (by assumption) | (simp only [List.length_set, List.length_cons, List.length_nil, List.length_append, List.length_map, List.length_replicate] <;> omega))) only [nmS0, nmS1, nmS2, nmS3, nmS4, nmS5, nmS6, nmS7, Nat.testBit, Nat.reduceShiftRight, Nat.reduceAnd, Nat.reduceBNe, cond_true, cond_false, NT.get_leaf, Nat.reduceSub, d_true, d_false, clsOf, beq_self_eq_true, Int.reduceToNat, Nat.reduceAdd, Nat.reduceMul, Nat.reduceEqDiff, decide_true, decide_false, if_true, if_false, ite_true, ite_false, reduceIte, reduceCtorEq, eq_self, true_and, and_true, true_implies]
  · simp (config := { maxSteps := 1000000 }) (disch := (first | assumption | omega | exact Nm.old_n (by omega) | exact Nm.old_hp (by assumption) | (simp only [List.length_set, List.length_cons, List.length_nil, List.length_append, List.length_map, List.length_replicate] <;> omega))) only [nmS0, nmS1, nmS2, nmS3, nmS4, nmS5, nmS6, nmS7, Nat.testBit, Nat.reduceShiftRight, Nat.reduceAnd, Nat.reduceBNe, cond_true, cond_false, NT.get_leaf, Nat.reduceSub, d_true, d_false, clsOf, beq_self_eq_true, Int.reduceToNat, Nat.reduceAdd, Nat.reduceMul, Nat.reduceEqDiff, decide_true, decide_false, if_true, if_false, ite_true, ite_false, reduceIte, reduceCtorEq, eq_self, true_and, and_true, true_implies, g1, g2, g7, hlen]
    have hia : i - a = (cut s a to).length := by rw [cut_len hle]; omega
    rw [hia, List.take_length] at hall
    have he : rowN isD s a = rowN isI s a := allD_row (by rw [hto]; exact hall)
    rw [hia, List.drop_length] at hv
    rw [hto] at he
    refine hok n he.symm ?_ _ _ ?_ ?_ ?_ ?_ ?_ ?_
    · rw [he, ← hv]; rfl
    · simp (config := { maxSteps := 1000000 }) (disch := (first | assumption | omega | exact Nm.old_n (by omega) | exact Nm.old_hp (by assumption) | (simp only [List.length_set, List.length_cons, List.length_nil, List.length_append, List.length_map, List.length_replicate] <;> omega))) only [nmS0, nmS1, nmS2, nmS3, nmS4, nmS5, nmS6, nmS7, Nat.testBit, Nat.reduceShiftRight, Nat.reduceAnd, Nat.reduceBNe, cond_true, cond_false, NT.get_leaf, Nat.reduceSub, d_true, d_false, clsOf, beq_self_eq_true, Int.reduceToNat, Nat.reduceAdd, Nat.reduceMul, Nat.reduceEqDiff, decide_true, decide_false, if_true, if_false, ite_true, ite_false, reduceIte, reduceCtorEq, eq_self, true_and, and_true, true_implies, g5]
    · simp (config := { maxSteps := 1000000 }) (disch := (first | assumption | omega | exact Nm.old_n (by omega) | exact Nm.old_hp (by assumption) | (simp only [List.length_set, List.length_cons, List.length_nil, List.length_append, List.length_map, List.length_replicate] <;> omega))) only [nmS0, nmS1, nmS2, nmS3, nmS4, nmS5, nmS6, nmS7, Nat.testBit, Nat.reduceShiftRight, Nat.reduceAnd, Nat.reduceBNe, cond_true, cond_false, NT.get_leaf, Nat.reduceSub, d_true, d_false, clsOf, beq_self_eq_true, Int.reduceToNat, Nat.reduceAdd, Nat.reduceMul, Nat.reduceEqDiff, decide_true, decide_false, if_true, if_false, ite_true, ite_false, reduceIte, reduceCtorEq, eq_self, true_and, and_true, true_implies, g2]
    · simp (config := { maxSteps := 1000000 }) (disch := (first | assumption | omega | exact Nm.old_n (by omega) | exact Nm.old_hp (by assumption) | (simp only [List.length_set, List.length_cons, List.length_nil, List.length_append, List.length_map, List.length_replicate] <;> omega))) only [nmS0, nmS1, nmS2, nmS3, nmS4, nmS5, nmS6, nmS7, Nat.testBit, Nat.reduceShiftRight, Nat.reduceAnd, Nat.reduceBNe, cond_true, cond_false, NT.get_leaf, Nat.reduceSub, d_true, d_false, clsOf, beq_self_eq_true, Int.reduceToNat, Nat.reduceAdd, Nat.reduceMul, Nat.reduceEqDiff, decide_true, decide_false, if_true, if_false, ite_true, ite_false, reduceIte, reduceCtorEq, eq_self, true_and, and_true, true_implies, g3]
    · simp (config := { maxSteps := 1000000 }) (disch := (first | assumption | omega | exact Nm.old_n (by omega) | exact Nm.old_hp (by assumption) | (simp only [List.length_set, List.length_cons, List.length_nil, List.length_append, List.length_map, List.length_replicate] <;> omega))) only [nmS0, nmS1, nmS2, nmS3, nmS4, nmS5, nmS6, nmS7, Nat.testBit, Nat.reduceShiftRight, Nat.reduceAnd, Nat.reduceBNe, cond_true, cond_false, NT.get_leaf, Nat.reduceSub, d_true, d_false, clsOf, beq_self_eq_true, Int.reduceToNat, Nat.reduceAdd, Nat.reduceMul, Nat.reduceEqDiff, decide_true, decide_false, if_true, if_false, ite_true, ite_false, reduceIte, reduceCtorEq, eq_self, true_and, and_true, true_implies, g4]
    · simp (config := { maxSteps := 1000000 }) (disch := (first | assumption | omega | exact Nm.old_n (by omega) | exact Nm.old_hp (by assumption) | (simp only [List.length_set, List.length_cons, List.length_nil, List.length_append, List.length_map, List.length_replicate] <;> omega))) only [nmS0, nmS1, nmS2, nmS3, nmS4, nmS5, nmS6, nmS7, Nat.testBit, Nat.reduceShiftRight, Nat.reduceAnd, Nat.reduceBNe, cond_true, cond_false, NT.get_leaf, Nat.reduceSub, d_true, d_false, clsOf, beq_self_eq_true, Int.reduceToNat, Nat.reduceAdd, Nat.reduceMul, Nat.reduceEqDiff, decide_true, decide_false, if_true, if_false, ite_true, ite_false, reduceIte, reduceCtorEq, eq_self, true_and, and_true, true_implies, g6]
    · simp (config := { maxSteps := 1000000 }) (disch := (first | assumption | omega | exact Nm.old_n (by omega) | exact Nm.old_hp (by assumption) | (simp only [List.length_set, List.length_cons, List.length_nil, List.length_append, List.length_map, List.length_replicate] <;> omega))) only [nmS0, nmS1, nmS2, nmS3, nmS4, nmS5, nmS6, nmS7, Nat.testBit, Nat.reduceShiftRight, Nat.reduceAnd, Nat.reduceBNe, cond_true, cond_false, NT.get_leaf, Nat.reduceSub, d_true, d_false, clsOf, beq_self_eq_true, Int.reduceToNat, Nat.reduceAdd, Nat.reduceMul, Nat.reduceEqDiff, decide_true, decide_false, if_true, if_false, ite_true, ite_false, reduceIte, reduceCtorEq, eq_self, true_and, and_true, true_implies, g8]
end LX

