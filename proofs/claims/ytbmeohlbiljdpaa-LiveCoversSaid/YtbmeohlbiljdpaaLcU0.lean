/- Contracts of functions that the law LiveCovers reaches, part 0. -/
import Derived.Test.YtbmeohlbiljdpaaLcc
open Go Nm Go.Proofs
namespace LV
set_option linter.unusedSimpArgs false
set_option linter.unusedVariables false
/-- what is kept: the document's example -/
noncomputable def S0 : Nat → List NV → Option NV := addS 5 [] (.bool true) noS
structure St where
  (k d a b c to cell : Int) (n op : NV)
def St.l (s : St) : List NV := [ii s.k, ii s.d, ii s.a, ii s.b, ii s.c, ii s.to, ii s.cell, s.n, s.op]
def St.sets (s : St) : Int := if s.k = 0 ∨ s.k = 1 ∨ s.k = 2 ∨ s.k = 3 ∨ s.k = 5 then s.d else -1
def St.uses (s : St) : List Int := if s.k = 1 ∨ s.k = 3 ∨ s.k = 6 ∨ s.k = 8 ∨ s.k = 11 then [s.a] else if s.k = 2 ∨ s.k = 4 then [s.a, s.b] else if s.k = 5 then [s.a, s.b, s.c] else []
/-- cells of integers, and of pairs -/
abbrev Ints (l : List Int) : List (List NV) := l.map fun z => [ii z]
abbrev Prs (l : List (Int × Int)) : List (List NV) := l.map fun p => [ii p.1, ii p.2]
abbrev Sts (l : List St) : List (List NV) := l.map St.l
theorem sets_live (m : NH) (s : St) : ∃ m', Ret Try.prog S0 12 [.agg s.l] m (ii s.sets) m' ∧ Chg [] m m' := by
  have h : WF Try.prog S0 12 [.agg s.l] m fun v m' => v = ii s.sets ∧ Chg [] m m' := by
    refine WF.of_wpH (fun _ => rfl) nf12_eq (L := [(.e, .agg s.l)]) rfl ?_
    unfold nf12
    obtain ⟨k, d, a, b, c, to, cell, n, op⟩ := s
    by_cases h : k = 0 ∨ k = 1 ∨ k = 2 ∨ k = 3 ∨ k = 5
    · rcases h with h | h | h | h | h <;> subst h <;> simp (config := { maxSteps := 1000000 }) (disch := (first | assumption | omega | exact Nm.old_n (by omega) | exact Nm.old_hp (by assumption) | (simp only [List.length_set, List.length_cons, List.length_nil, List.length_append, List.length_map, List.length_replicate] <;> omega))) only [nmS0, nmS1, nmS2, nmS3, nmS4, nmS5, nmS6, Nat.testBit, Nat.reduceShiftRight, Nat.reduceAnd, Nat.reduceBNe, cond_true, cond_false, NT.get_leaf, Nat.reduceSub, d_true, d_false, clsOf, beq_self_eq_true, Int.reduceToNat, Nat.reduceAdd, Nat.reduceMul, Nat.reduceEqDiff, decide_true, decide_false, if_true, if_false, ite_true, ite_false, reduceIte, reduceCtorEq, eq_self, true_and, and_true, true_implies, St.l] <;> exact ⟨rfl, hp_of rfl⟩
    · simp (config := { maxSteps := 1000000 }) (disch := (first | assumption | omega | exact Nm.old_n (by omega) | exact Nm.old_hp (by assumption) | (simp only [List.length_set, List.length_cons, List.length_nil, List.length_append, List.length_map, List.length_replicate] <;> omega))) only [nmS0, nmS1, nmS2, nmS3, nmS4, nmS5, nmS6, Nat.testBit, Nat.reduceShiftRight, Nat.reduceAnd, Nat.reduceBNe, cond_true, cond_false, NT.get_leaf, Nat.reduceSub, d_true, d_false, clsOf, beq_self_eq_true, Int.reduceToNat, Nat.reduceAdd, Nat.reduceMul, Nat.reduceEqDiff, decide_true, decide_false, if_true, if_false, ite_true, ite_false, reduceIte, reduceCtorEq, eq_self, true_and, and_true, true_implies, St.l, St.sets, h]
      exact hp_of rfl
  obtain ⟨v, m', h1, rfl, h2⟩ := h.ret
  exact ⟨m', h1, h2⟩
theorem sets_ref (m : NH) (s : St) : ∃ m', Ret Try.prog S0 8 [.agg s.l] m (ii s.sets) m' ∧ Chg [] m m' := by
  have h : WF Try.prog S0 8 [.agg s.l] m fun v m' => v = ii s.sets ∧ Chg [] m m' := by
    refine WF.of_wpH (fun _ => rfl) nf8_eq (L := [(.e, .agg s.l)]) rfl ?_
    unfold nf8
    obtain ⟨k, d, a, b, c, to, cell, n, op⟩ := s
    by_cases h : k = 0 ∨ k = 1 ∨ k = 2 ∨ k = 3 ∨ k = 5
    · rcases h with h | h | h | h | h <;> subst h <;> simp (config := { maxSteps := 1000000 }) (disch := (first | assumption | omega | exact Nm.old_n (by omega) | exact Nm.old_hp (by assumption) | (simp only [List.length_set, List.length_cons, List.length_nil, List.length_append, List.length_map, List.length_replicate] <;> omega))) only [nmS0, nmS1, nmS2, nmS3, nmS4, nmS5, nmS6, Nat.testBit, Nat.reduceShiftRight, Nat.reduceAnd, Nat.reduceBNe, cond_true, cond_false, NT.get_leaf, Nat.reduceSub, d_true, d_false, clsOf, beq_self_eq_true, Int.reduceToNat, Nat.reduceAdd, Nat.reduceMul, Nat.reduceEqDiff, decide_true, decide_false, if_true, if_false, ite_true, ite_false, reduceIte, reduceCtorEq, eq_self, true_and, and_true, true_implies, St.l] <;> exact ⟨rfl, hp_of rfl⟩
    · simp (config := { maxSteps := 1000000 }) (disch := (first | assumption | omega | exact Nm.old_n (by omega) | exact Nm.old_hp (by assumption) | (simp only [List.length_set, List.length_cons, List.length_nil, List.length_append, List.length_map, List.length_replicate] <;> omega))) only [nmS0, nmS1, nmS2, nmS3, nmS4, nmS5, nmS6, Nat.testBit, Nat.reduceShiftRight, Nat.reduceAnd, Nat.reduceBNe, cond_true, cond_false, NT.get_leaf, Nat.reduceSub, d_true, d_false, clsOf, beq_self_eq_true, Int.reduceToNat, Nat.reduceAdd, Nat.reduceMul, Nat.reduceEqDiff, decide_true, decide_false, if_true, if_false, ite_true, ite_false, reduceIte, reduceCtorEq, eq_self, true_and, and_true, true_implies, St.l, St.sets, h]
      exact hp_of rfl
  obtain ⟨v, m', h1, rfl, h2⟩ := h.ret
  exact ⟨m', h1, h2⟩
theorem uses_ref (m : NH) (s : St) : ∃ v m', Ret Try.prog S0 7 [.agg s.l] m v m' ∧ Own m m' v 1 (Ints s.uses) ∧ Chg [] m m' := by
  have h : WF Try.prog S0 7 [.agg s.l] m fun v m' => Own m m' v 1 (Ints s.uses) ∧ Chg [] m m' := by
    refine WF.of_wpH (fun _ => rfl) nf7_eq (L := [(.e, .agg s.l)]) rfl ?_
    unfold nf7
    obtain ⟨k, d, a, b, c, to, cell, n, op⟩ := s
    have fin : ∀ (C : List (List NV)) (M : NH) (j : Nat) (w : Nat), (∀ x ∈ C, x.length = 1) → M.get (na m j) = some (.cells true C.flatten) → Old M (na m j) → w = C.length → Own m M (.slc (na m j) 0 w 1 w) 1 C :=
      fun C M j w h1 h2 h3 hw => Own.of h1 na_old h2 h3 rfl hw hw
    by_cases h : k = 1 ∨ k = 3 ∨ k = 6 ∨ k = 8 ∨ k = 11
    · have e : St.uses ⟨k, d, a, b, c, to, cell, n, op⟩ = [a] := if_pos h
      rw [e]
      rcases h with h | h | h | h | h <;> subst h <;> simp (config := { maxSteps := 1000000 }) (disch := (first | assumption | omega | exact Nm.old_n (by omega) | exact Nm.old_hp (by assumption) | (simp only [List.length_set, List.length_cons, List.length_nil, List.length_append, List.length_map, List.length_replicate] <;> omega))) only [nmS0, nmS1, nmS2, nmS3, nmS4, nmS5, nmS6, Nat.testBit, Nat.reduceShiftRight, Nat.reduceAnd, Nat.reduceBNe, cond_true, cond_false, NT.get_leaf, Nat.reduceSub, d_true, d_false, clsOf, beq_self_eq_true, Int.reduceToNat, Nat.reduceAdd, Nat.reduceMul, Nat.reduceEqDiff, decide_true, decide_false, if_true, if_false, ite_true, ite_false, reduceIte, reduceCtorEq, eq_self, true_and, and_true, true_implies, St.l] <;> exact ⟨fin _ _ _ _ (by simp) h_getN (old_n (by omega)) rfl, hp_of rfl⟩
    · by_cases h2 : k = 2 ∨ k = 4
      · have e : St.uses ⟨k, d, a, b, c, to, cell, n, op⟩ = [a, b] := by simp [St.uses, h, h2]
        rw [e]
        rcases h2 with h | h <;> subst h <;> simp (config := { maxSteps := 1000000 }) (disch := (first | assumption | omega | exact Nm.old_n (by omega) | exact Nm.old_hp (by assumption) | (simp only [List.length_set, List.length_cons, List.length_nil, List.length_append, List.length_map, List.length_replicate] <;> omega))) only [nmS0, nmS1, nmS2, nmS3, nmS4, nmS5, nmS6, Nat.testBit, Nat.reduceShiftRight, Nat.reduceAnd, Nat.reduceBNe, cond_true, cond_false, NT.get_leaf, Nat.reduceSub, d_true, d_false, clsOf, beq_self_eq_true, Int.reduceToNat, Nat.reduceAdd, Nat.reduceMul, Nat.reduceEqDiff, decide_true, decide_false, if_true, if_false, ite_true, ite_false, reduceIte, reduceCtorEq, eq_self, true_and, and_true, true_implies, St.l] <;> exact ⟨fin _ _ _ _ (by simp) h_getN (old_n (by omega)) rfl, hp_of rfl⟩
      · by_cases h3 : k = 5
        · have e : St.uses ⟨k, d, a, b, c, to, cell, n, op⟩ = [a, b, c] := by simp [St.uses, h, h2, h3]
          rw [e]
          subst h3
          simp (config := { maxSteps := 1000000 }) (disch := (first | assumption | omega | exact Nm.old_n (by omega) | exact Nm.old_hp (by assumption) | (simp only [List.length_set, List.length_cons, List.length_nil, List.length_append, List.length_map, List.length_replicate] <;> omega))) only [nmS0, nmS1, nmS2, nmS3, nmS4, nmS5, nmS6, Nat.testBit, Nat.reduceShiftRight, Nat.reduceAnd, Nat.reduceBNe, cond_true, cond_false, NT.get_leaf, Nat.reduceSub, d_true, d_false, clsOf, beq_self_eq_true, Int.reduceToNat, Nat.reduceAdd, Nat.reduceMul, Nat.reduceEqDiff, decide_true, decide_false, if_true, if_false, ite_true, ite_false, reduceIte, reduceCtorEq, eq_self, true_and, and_true, true_implies, St.l] <;> exact ⟨fin _ _ _ _ (by simp) h_getN (old_n (by omega)) rfl, hp_of rfl⟩
        · have e : St.uses ⟨k, d, a, b, c, to, cell, n, op⟩ = [] := by simp [St.uses, h, h2, h3]
          rw [e]
          simp (config := { maxSteps := 1000000 }) (disch := (first | assumption | omega | exact Nm.old_n (by omega) | exact Nm.old_hp (by assumption) | (simp only [List.length_set, List.length_cons, List.length_nil, List.length_append, List.length_map, List.length_replicate] <;> omega))) only [nmS0, nmS1, nmS2, nmS3, nmS4, nmS5, nmS6, Nat.testBit, Nat.reduceShiftRight, Nat.reduceAnd, Nat.reduceBNe, cond_true, cond_false, NT.get_leaf, Nat.reduceSub, d_true, d_false, clsOf, beq_self_eq_true, Int.reduceToNat, Nat.reduceAdd, Nat.reduceMul, Nat.reduceEqDiff, decide_true, decide_false, if_true, if_false, ite_true, ite_false, reduceIte, reduceCtorEq, eq_self, true_and, and_true, true_implies, St.l]
          exact ⟨Own.nil, hp_of rfl⟩
  obtain ⟨v, m', h1, h2, h3⟩ := h.ret
  exact ⟨v, m', h1, h2, h3⟩
def cut (n lo hi : Int) : Int := if n < lo then lo else if hi < n then hi else n
theorem cut_ref (m : NH) (n lo hi : Int) : Ret Try.prog S0 17 [ii n, ii lo, ii hi] m (ii (cut n lo hi)) m := by
  have h : WF Try.prog S0 17 [ii n, ii lo, ii hi] m fun v m' => v = ii (cut n lo hi) ∧ m' = m := by
    refine WF.of_wpH (fun _ => rfl) nf17_eq (L := [(.b .e, ii hi), (.a .e, ii lo), (.e, ii n)]) rfl ?_
    unfold nf17
    by_cases h1 : n < lo
    · simp (config := { maxSteps := 1000000 }) (disch := (first | assumption | omega | exact Nm.old_n (by omega) | exact Nm.old_hp (by assumption) | (simp only [List.length_set, List.length_cons, List.length_nil, List.length_append, List.length_map, List.length_replicate] <;> omega))) only [nmS0, nmS1, nmS2, nmS3, nmS4, nmS5, nmS6, Nat.testBit, Nat.reduceShiftRight, Nat.reduceAnd, Nat.reduceBNe, cond_true, cond_false, NT.get_leaf, Nat.reduceSub, d_true, d_false, clsOf, beq_self_eq_true, Int.reduceToNat, Nat.reduceAdd, Nat.reduceMul, Nat.reduceEqDiff, decide_true, decide_false, if_true, if_false, ite_true, ite_false, reduceIte, reduceCtorEq, eq_self, true_and, and_true, true_implies, cut, h1]; exact hp_nil m
    · by_cases h2 : hi < n
      · simp (config := { maxSteps := 1000000 }) (disch := (first | assumption | omega | exact Nm.old_n (by omega) | exact Nm.old_hp (by assumption) | (simp only [List.length_set, List.length_cons, List.length_nil, List.length_append, List.length_map, List.length_replicate] <;> omega))) only [nmS0, nmS1, nmS2, nmS3, nmS4, nmS5, nmS6, Nat.testBit, Nat.reduceShiftRight, Nat.reduceAnd, Nat.reduceBNe, cond_true, cond_false, NT.get_leaf, Nat.reduceSub, d_true, d_false, clsOf, beq_self_eq_true, Int.reduceToNat, Nat.reduceAdd, Nat.reduceMul, Nat.reduceEqDiff, decide_true, decide_false, if_true, if_false, ite_true, ite_false, reduceIte, reduceCtorEq, eq_self, true_and, and_true, true_implies, cut, h1, h2]; exact hp_nil m
      · simp (config := { maxSteps := 1000000 }) (disch := (first | assumption | omega | exact Nm.old_n (by omega) | exact Nm.old_hp (by assumption) | (simp only [List.length_set, List.length_cons, List.length_nil, List.length_append, List.length_map, List.length_replicate] <;> omega))) only [nmS0, nmS1, nmS2, nmS3, nmS4, nmS5, nmS6, Nat.testBit, Nat.reduceShiftRight, Nat.reduceAnd, Nat.reduceBNe, cond_true, cond_false, NT.get_leaf, Nat.reduceSub, d_true, d_false, clsOf, beq_self_eq_true, Int.reduceToNat, Nat.reduceAdd, Nat.reduceMul, Nat.reduceEqDiff, decide_true, decide_false, if_true, if_false, ite_true, ite_false, reduceIte, reduceCtorEq, eq_self, true_and, and_true, true_implies, cut, h1, h2]; exact hp_nil m
  obtain ⟨v, m', h1, rfl, rfl⟩ := h.ret
  exact h1
def tch (at_ : Int) (p : Int × Int) : Int × Int := (if p.1 < 0 then at_ else p.1, max p.2 at_)
def touch (l : List (Int × Int)) (v at_ : Int) : List (Int × Int) := if 0 ≤ v ∧ v < l.length then l.modify v.toNat (tch at_) else l
theorem touch_live {B m : NH} {vl : NV} {l : List (Int × Int)} (hl : Own B m vl 2 (Prs l)) (v at_ : Int) : ∃ u m', Ret Try.prog S0 16 [vl, ii v, ii at_] m u m' ∧ Own B m' vl 2 (Prs (touch l v at_)) ∧ Chg (ids vl) m m' := by
  have h : WF Try.prog S0 16 [vl, ii v, ii at_] m fun _ m' => Own B m' vl 2 (Prs (touch l v at_)) ∧ Chg (ids vl) m m' := by
    refine WF.of_wpH (fun _ => rfl) nf16_eq (L := [(.b .e, ii at_), (.a .e, ii v), (.e, vl)]) rfl ?_
    unfold nf16
    have hlen := hl.sl.len
    rw [List.length_map] at hlen
    by_cases h1 : v < 0
    · simp (config := { maxSteps := 1000000 }) (disch := (first | assumption | omega | exact Nm.old_n (by omega) | exact Nm.old_hp (by assumption) | (simp only [List.length_set, List.length_cons, List.length_nil, List.length_append, List.length_map, List.length_replicate] <;> omega))) only [nmS0, nmS1, nmS2, nmS3, nmS4, nmS5, nmS6, Nat.testBit, Nat.reduceShiftRight, Nat.reduceAnd, Nat.reduceBNe, cond_true, cond_false, NT.get_leaf, Nat.reduceSub, d_true, d_false, clsOf, beq_self_eq_true, Int.reduceToNat, Nat.reduceAdd, Nat.reduceMul, Nat.reduceEqDiff, decide_true, decide_false, if_true, if_false, ite_true, ite_false, reduceIte, reduceCtorEq, eq_self, true_and, and_true, true_implies, hlen]
      rw [hp_nil, show touch l v at_ = l from if_neg (by omega)]
      exact ⟨hl, (Chg.refl m).weak fun _ h _ => by simp at h⟩
    · by_cases h2 : (l.length : Int) ≤ v
      · simp (config := { maxSteps := 1000000 }) (disch := (first | assumption | omega | exact Nm.old_n (by omega) | exact Nm.old_hp (by assumption) | (simp only [List.length_set, List.length_cons, List.length_nil, List.length_append, List.length_map, List.length_replicate] <;> omega))) only [nmS0, nmS1, nmS2, nmS3, nmS4, nmS5, nmS6, Nat.testBit, Nat.reduceShiftRight, Nat.reduceAnd, Nat.reduceBNe, cond_true, cond_false, NT.get_leaf, Nat.reduceSub, d_true, d_false, clsOf, beq_self_eq_true, Int.reduceToNat, Nat.reduceAdd, Nat.reduceMul, Nat.reduceEqDiff, decide_true, decide_false, if_true, if_false, ite_true, ite_false, reduceIte, reduceCtorEq, eq_self, true_and, and_true, true_implies, hlen]
        rw [hp_nil, show touch l v at_ = l from if_neg (by omega)]
        exact ⟨hl, (Chg.refl m).weak fun _ h _ => by simp at h⟩
      · obtain ⟨i, rfl⟩ := Int.eq_ofNat_of_zero_le (by omega : 0 ≤ v)
        have hi : i < l.length := by omega
        obtain ⟨id, off, c, a1, a2, a3, a4, a5, a6, a7, a8⟩ := hl.at i (by simpa using hi)
        rw [List.getElem_map] at a7 a8
        have c0 := cell_at a7 0 (by omega)
        have c1 := cell_at a7 1 (by omega)
        have ht : Prs (touch l i at_) = (Prs l).set i [ii (tch at_ l[i]).1, ii (tch at_ l[i]).2] := by
          rw [show touch l i at_ = l.set i (tch at_ l[i]) from (if_pos (by omega)).trans (modify_set l _ i hi)]
          exact List.map_set
        by_cases h3 : l[i].1 < 0
        · simp (config := { maxSteps := 1000000 }) (disch := (first | assumption | omega | exact Nm.old_n (by omega) | exact Nm.old_hp (by assumption) | (simp only [List.length_set, List.length_cons, List.length_nil, List.length_append, List.length_map, List.length_replicate] <;> omega))) only [nmS0, nmS1, nmS2, nmS3, nmS4, nmS5, nmS6, Nat.testBit, Nat.reduceShiftRight, Nat.reduceAnd, Nat.reduceBNe, cond_true, cond_false, NT.get_leaf, Nat.reduceSub, d_true, d_false, clsOf, beq_self_eq_true, Int.reduceToNat, Nat.reduceAdd, Nat.reduceMul, Nat.reduceEqDiff, decide_true, decide_false, if_true, if_false, ite_true, ite_false, reduceIte, reduceCtorEq, eq_self, true_and, and_true, true_implies, hlen, a1, a4, c0, c1, List.length_set, List.getElem?_set_ne]
          refine ⟨?_, by rw [a2]; exact (hp_of rfl).weak (by simp [oldK])⟩
          rw [ht]
          simp only [tch, h3, if_true]
          exact a8 [(0, ii at_), (1, ii (max l[i].2 at_))] _ (by simp) ((h_getO a5).trans h_lookOs) (old_hp a5)
        · simp (config := { maxSteps := 1000000 }) (disch := (first | assumption | omega | exact Nm.old_n (by omega) | exact Nm.old_hp (by assumption) | (simp only [List.length_set, List.length_cons, List.length_nil, List.length_append, List.length_map, List.length_replicate] <;> omega))) only [nmS0, nmS1, nmS2, nmS3, nmS4, nmS5, nmS6, Nat.testBit, Nat.reduceShiftRight, Nat.reduceAnd, Nat.reduceBNe, cond_true, cond_false, NT.get_leaf, Nat.reduceSub, d_true, d_false, clsOf, beq_self_eq_true, Int.reduceToNat, Nat.reduceAdd, Nat.reduceMul, Nat.reduceEqDiff, decide_true, decide_false, if_true, if_false, ite_true, ite_false, reduceIte, reduceCtorEq, eq_self, true_and, and_true, true_implies, hlen, a1, a4, c0, c1]
          refine ⟨?_, by rw [a2]; exact (hp_of rfl).weak (by simp [oldK])⟩
          rw [ht]
          simp only [tch, h3, if_false]
          exact a8 [(1, ii (max l[i].2 at_))] _ (by simp) ((h_getO a5).trans h_lookOs) (old_hp a5)
  obtain ⟨v, m', h1, h2, h3⟩ := h.ret
  exact ⟨v, m', h1, h2, h3⟩
end LV

open Go Nm Go.Proofs
namespace LV
set_option linter.unusedSimpArgs false
set_option linter.unusedVariables false
theorem reads1_loop {m : NH} {q sl : D4} {us : List Int} {T : List D4} {c : List NV} {nn : Nat} (hn : us.length = nn) (hsz : nn ≤ 3) (hc : ∀ i (h : i < us.length), c[i]? = some (ii us[i])) (hT : sl ∉ T)
    (I : Nat → NH → Prop) (hY : ∀ j v M, us[j]? = some v → Chg T m M → I j M → ∃ M', RetY Try.prog S0 q [ii v] M (.bool true) M' ∧ Chg T m M' ∧ I (j + 1) M')
    {kc : Nat} {t : Tm} (ht : Has t [(D4.e, .yld q), (D4.e.a.b.c, .slc sl 0 nn 1 kc), (D4.e.a.b.f, ii nn), (D4.e.a.c.a, ii 0)]) (hsl : m.get sl = some (.cells true c)) (hso : Old m sl) (h0 : I 0 m)
    {Q : Out → Dyn → Prop} (hQ : ∀ t' M', Chg T m M' → I nn M' → Q (.exit 1) ⟨t', [], none, M'⟩) : W Try.prog S0 none nf18_l1.loop ⟨t, [], none, m⟩ Q := by
  obtain ⟨g1, g2, g3, g4, -⟩ := ht
  refine W.loop (fun k d => ∃ t M i, d = ⟨t, [], none, M⟩ ∧ NT.get D4.e t = some (.yld q) ∧ NT.get D4.e.a.b.c t = some (.slc sl 0 nn 1 kc) ∧ NT.get D4.e.a.b.f t = some (ii nn) ∧ NT.get D4.e.a.c.a t = some (ii (i : Nat)) ∧ i + k = nn ∧ Chg T m M ∧ I i M)
    ?_ nn _ ⟨t, m, 0, rfl, g1, g2, g3, g4, by omega, (Chg.refl m).weak (by simp), h0⟩
  rintro k d ⟨t, M, i, rfl, g1, g2, g3, g4, hik, hC, hI⟩
  apply wp_sound
  unfold nf18_l1
  change wp _ _ _ _ ⟨puts [] t, [], none, M⟩ _
  rw [← hp_nil M]
  by_cases hi : i < nn
  · have hc1 := hc i (by omega)
    obtain ⟨M', hy, hC', hI'⟩ := hY i us[i] M (by simp [hn, hi]) hC hI
    have hg := (hC.get hso hT).trans hsl
    rw [hp_nil]
    simp (config := { maxSteps := 1000000 }) (disch := (first | assumption | omega | exact Nm.old_n (by omega) | exact Nm.old_hp (by assumption) | (simp only [List.length_set, List.length_cons, List.length_nil, List.length_append, List.length_map, List.length_replicate] <;> omega))) only [nmS0, nmS1, nmS2, nmS3, nmS4, nmS5, nmS6, Nat.testBit, Nat.reduceShiftRight, Nat.reduceAnd, Nat.reduceBNe, cond_true, cond_false, NT.get_leaf, Nat.reduceSub, d_true, d_false, clsOf, beq_self_eq_true, Int.reduceToNat, Nat.reduceAdd, Nat.reduceMul, Nat.reduceEqDiff, decide_true, decide_false, if_true, if_false, ite_true, ite_false, reduceIte, reduceCtorEq, eq_self, true_and, and_true, true_implies, g1, g2, g3, g4, hg, hc1, Nat.mul_one, hy.wy]
    refine ⟨k - 1, by omega, _, M', i + 1, by rw [hp_nil], ?_, ?_, ?_, ?_, by omega, hC', hI'⟩
    · simp (config := { maxSteps := 1000000 }) (disch := (first | assumption | omega | exact Nm.old_n (by omega) | exact Nm.old_hp (by assumption) | (simp only [List.length_set, List.length_cons, List.length_nil, List.length_append, List.length_map, List.length_replicate] <;> omega))) only [nmS0, nmS1, nmS2, nmS3, nmS4, nmS5, nmS6, Nat.testBit, Nat.reduceShiftRight, Nat.reduceAnd, Nat.reduceBNe, cond_true, cond_false, NT.get_leaf, Nat.reduceSub, d_true, d_false, clsOf, beq_self_eq_true, Int.reduceToNat, Nat.reduceAdd, Nat.reduceMul, Nat.reduceEqDiff, decide_true, decide_false, if_true, if_false, ite_true, ite_false, reduceIte, reduceCtorEq, eq_self, true_and, and_true, true_implies, g1]
    · simp (config := { maxSteps := 1000000 }) (disch := (first | assumption | omega | exact Nm.old_n (by omega) | exact Nm.old_hp (by assumption) | (simp only [List.length_set, List.length_cons, List.length_nil, List.length_append, List.length_map, List.length_replicate] <;> omega))) only [nmS0, nmS1, nmS2, nmS3, nmS4, nmS5, nmS6, Nat.testBit, Nat.reduceShiftRight, Nat.reduceAnd, Nat.reduceBNe, cond_true, cond_false, NT.get_leaf, Nat.reduceSub, d_true, d_false, clsOf, beq_self_eq_true, Int.reduceToNat, Nat.reduceAdd, Nat.reduceMul, Nat.reduceEqDiff, decide_true, decide_false, if_true, if_false, ite_true, ite_false, reduceIte, reduceCtorEq, eq_self, true_and, and_true, true_implies, g2]
    · simp (config := { maxSteps := 1000000 }) (disch := (first | assumption | omega | exact Nm.old_n (by omega) | exact Nm.old_hp (by assumption) | (simp only [List.length_set, List.length_cons, List.length_nil, List.length_append, List.length_map, List.length_replicate] <;> omega))) only [nmS0, nmS1, nmS2, nmS3, nmS4, nmS5, nmS6, Nat.testBit, Nat.reduceShiftRight, Nat.reduceAnd, Nat.reduceBNe, cond_true, cond_false, NT.get_leaf, Nat.reduceSub, d_true, d_false, clsOf, beq_self_eq_true, Int.reduceToNat, Nat.reduceAdd, Nat.reduceMul, Nat.reduceEqDiff, decide_true, decide_false, if_true, if_false, ite_true, ite_false, reduceIte, reduceCtorEq, eq_self, true_and, and_true, true_implies, g3]
    · simp (config := { maxSteps := 1000000 }) (disch := (first | assumption | omega | exact Nm.old_n (by omega) | exact Nm.old_hp (by assumption) | (simp only [List.length_set, List.length_cons, List.length_nil, List.length_append, List.length_map, List.length_replicate] <;> omega))) only [nmS0, nmS1, nmS2, nmS3, nmS4, nmS5, nmS6, Nat.testBit, Nat.reduceShiftRight, Nat.reduceAnd, Nat.reduceBNe, cond_true, cond_false, NT.get_leaf, Nat.reduceSub, d_true, d_false, clsOf, beq_self_eq_true, Int.reduceToNat, Nat.reduceAdd, Nat.reduceMul, Nat.reduceEqDiff, decide_true, decide_false, if_true, if_false, ite_true, ite_false, reduceIte, reduceCtorEq, eq_self, true_and, and_true, true_implies]; rfl
  · simp (config := { maxSteps := 1000000 }) (disch := (first | assumption | omega | exact Nm.old_n (by omega) | exact Nm.old_hp (by assumption) | (simp only [List.length_set, List.length_cons, List.length_nil, List.length_append, List.length_map, List.length_replicate] <;> omega))) only [nmS0, nmS1, nmS2, nmS3, nmS4, nmS5, nmS6, Nat.testBit, Nat.reduceShiftRight, Nat.reduceAnd, Nat.reduceBNe, cond_true, cond_false, NT.get_leaf, Nat.reduceSub, d_true, d_false, clsOf, beq_self_eq_true, Int.reduceToNat, Nat.reduceAdd, Nat.reduceMul, Nat.reduceEqDiff, decide_true, decide_false, if_true, if_false, ite_true, ite_false, reduceIte, reduceCtorEq, eq_self, true_and, and_true, true_implies, g1, g2, g3, g4]
    rw [hp_nil]
    have e : i = nn := by omega
    subst e
    exact hQ _ _ hC hI
/-- the iterator: it hands over what a step reads -/
theorem reads1 {m : NH} {s : St} {q sid : D4} {w : Bool} (hs : m.get sid = some (.cells w s.l)) (ho : Old m sid) {T : List D4} (hTo : ∀ id ∈ T, Old m id)
    (I : NH → Nat → NH → Prop) (hI0 : ∀ b, Chg [] m b → I b 0 b)
    (hY : ∀ b j v M, s.uses[j]? = some v → Chg [] m b → Chg T b M → I b j M → ∃ M', RetY Try.prog S0 q [ii v] M (.bool true) M' ∧ Chg T b M' ∧ I b (j + 1) M') :
    ∃ v m', Ret Try.prog S0 18 [.yld q, .ptr sid 0] m v m' ∧ ∃ b, Chg [] m b ∧ Chg T b m' ∧ I b s.uses.length m' := by
  refine WF.ex fun K hK => ?_
  refine WF.of_wpH (fun _ => rfl) nf18_eq (L := [(.a .e, .ptr sid 0), (.e, .yld q)]) rfl ?_
  unfold nf18
  obtain ⟨k, d, a, b, c, to, cell, n, op⟩ := s
  have fin : ∀ (M : NH) (nn : Nat) (t : Tm) (Q : Out → Dyn → Prop), M = hp [(.n 0, .cells true [ii a, ii b, ii c])] 1 m → (St.uses ⟨k, d, a, b, c, to, cell, n, op⟩) = [a, b, c].take nn → nn ≤ 3 →
      Has t [(D4.e, .yld q), (D4.e.a.b.c, .slc (na m 0) 0 nn 1 3), (D4.e.a.b.f, ii nn), (D4.e.a.c.a, ii 0)] → (∀ t' M', (∃ b', Chg [] m b' ∧ Chg T b' M' ∧ I b' (St.uses ⟨k, d, a, b, c, to, cell, n, op⟩).length M') → Q (.exit 1) ⟨t', [], none, M'⟩) → W Try.prog S0 none nf18_l1.loop ⟨t, [], none, M⟩ Q := by
    rintro M nn t Q rfl hu hn ht hQ
    have hG : Chg [] m (hp [(.n 0, .cells true [ii a, ii b, ii c])] 1 m) := hp_of rfl
    have hl : (St.uses ⟨k, d, a, b, c, to, cell, n, op⟩).length = nn := by rw [hu, List.length_take]; exact Nat.min_eq_left hn
    refine reads1_loop (m := hp [(.n 0, .cells true [ii a, ii b, ii c])] 1 m) (T := T) (c := [ii a, ii b, ii c]) hl hn ?_ (fun h => na_old (hTo _ h)) (I (hp [(.n 0, .cells true [ii a, ii b, ii c])] 1 m)) (fun j v M h1 h2 h3 => hY _ j v M h1 hG h2 h3) ht ?_ (old_n (by omega)) (hI0 _ hG) (fun t' M' h1 h2 => hQ t' M' ⟨_, hG, h1, by rw [hl]; exact h2⟩)
    · intro i hi
      have e : [ii a, ii b, ii c] = [a, b, c].map ii := rfl
      rw [e, List.getElem?_map]
      have e2 : [a, b, c][i]? = (St.uses ⟨k, d, a, b, c, to, cell, n, op⟩)[i]? := by rw [hu, List.getElem?_take_of_lt (by omega)]
      rw [e2, List.getElem?_eq_getElem hi]; rfl
    · exact h_getN
  by_cases h : k = 1 ∨ k = 3 ∨ k = 6 ∨ k = 8 ∨ k = 11
  · have e : St.uses ⟨k, d, a, b, c, to, cell, n, op⟩ = [a] := if_pos h
    rcases h with h | h | h | h | h <;> subst h <;> simp (config := { maxSteps := 1000000 }) (disch := (first | assumption | omega | exact Nm.old_n (by omega) | exact Nm.old_hp (by assumption) | (simp only [List.length_set, List.length_cons, List.length_nil, List.length_append, List.length_map, List.length_replicate] <;> omega))) only [nmS0, nmS1, nmS2, nmS3, nmS4, nmS5, nmS6, Nat.testBit, Nat.reduceShiftRight, Nat.reduceAnd, Nat.reduceBNe, cond_true, cond_false, NT.get_leaf, Nat.reduceSub, d_true, d_false, clsOf, beq_self_eq_true, Int.reduceToNat, Nat.reduceAdd, Nat.reduceMul, Nat.reduceEqDiff, decide_true, decide_false, if_true, if_false, ite_true, ite_false, reduceIte, reduceCtorEq, eq_self, true_and, and_true, true_implies, St.l, hs] <;>
      exact fin _ 1 _ _ rfl e (by omega) (by simp (config := { maxSteps := 1000000 }) (disch := (first | assumption | omega | exact Nm.old_n (by omega) | exact Nm.old_hp (by assumption) | (simp only [List.length_set, List.length_cons, List.length_nil, List.length_append, List.length_map, List.length_replicate] <;> omega))) only [nmS0, nmS1, nmS2, nmS3, nmS4, nmS5, nmS6, Nat.testBit, Nat.reduceShiftRight, Nat.reduceAnd, Nat.reduceBNe, cond_true, cond_false, NT.get_leaf, Nat.reduceSub, d_true, d_false, clsOf, beq_self_eq_true, Int.reduceToNat, Nat.reduceAdd, Nat.reduceMul, Nat.reduceEqDiff, decide_true, decide_false, if_true, if_false, ite_true, ite_false, reduceIte, reduceCtorEq, eq_self, true_and, and_true, true_implies, has1, has0]) (fun t' M' h => by simp (config := { maxSteps := 1000000 }) (disch := (first | assumption | omega | exact Nm.old_n (by omega) | exact Nm.old_hp (by assumption) | (simp only [List.length_set, List.length_cons, List.length_nil, List.length_append, List.length_map, List.length_replicate] <;> omega))) only [nmS0, nmS1, nmS2, nmS3, nmS4, nmS5, nmS6, Nat.testBit, Nat.reduceShiftRight, Nat.reduceAnd, Nat.reduceBNe, cond_true, cond_false, NT.get_leaf, Nat.reduceSub, d_true, d_false, clsOf, beq_self_eq_true, Int.reduceToNat, Nat.reduceAdd, Nat.reduceMul, Nat.reduceEqDiff, decide_true, decide_false, if_true, if_false, ite_true, ite_false, reduceIte, reduceCtorEq, eq_self, true_and, and_true, true_implies]; exact hK _ _ h)
  · by_cases h2 : k = 2 ∨ k = 4
    · have e : St.uses ⟨k, d, a, b, c, to, cell, n, op⟩ = [a, b] := by simp [St.uses, h, h2]
      rcases h2 with h | h <;> subst h <;> simp (config := { maxSteps := 1000000 }) (disch := (first | assumption | omega | exact Nm.old_n (by omega) | exact Nm.old_hp (by assumption) | (simp only [List.length_set, List.length_cons, List.length_nil, List.length_append, List.length_map, List.length_replicate] <;> omega))) only [nmS0, nmS1, nmS2, nmS3, nmS4, nmS5, nmS6, Nat.testBit, Nat.reduceShiftRight, Nat.reduceAnd, Nat.reduceBNe, cond_true, cond_false, NT.get_leaf, Nat.reduceSub, d_true, d_false, clsOf, beq_self_eq_true, Int.reduceToNat, Nat.reduceAdd, Nat.reduceMul, Nat.reduceEqDiff, decide_true, decide_false, if_true, if_false, ite_true, ite_false, reduceIte, reduceCtorEq, eq_self, true_and, and_true, true_implies, St.l, hs] <;>
        exact fin _ 2 _ _ rfl e (by omega) (by simp (config := { maxSteps := 1000000 }) (disch := (first | assumption | omega | exact Nm.old_n (by omega) | exact Nm.old_hp (by assumption) | (simp only [List.length_set, List.length_cons, List.length_nil, List.length_append, List.length_map, List.length_replicate] <;> omega))) only [nmS0, nmS1, nmS2, nmS3, nmS4, nmS5, nmS6, Nat.testBit, Nat.reduceShiftRight, Nat.reduceAnd, Nat.reduceBNe, cond_true, cond_false, NT.get_leaf, Nat.reduceSub, d_true, d_false, clsOf, beq_self_eq_true, Int.reduceToNat, Nat.reduceAdd, Nat.reduceMul, Nat.reduceEqDiff, decide_true, decide_false, if_true, if_false, ite_true, ite_false, reduceIte, reduceCtorEq, eq_self, true_and, and_true, true_implies, has1, has0]) (fun t' M' h => by simp (config := { maxSteps := 1000000 }) (disch := (first | assumption | omega | exact Nm.old_n (by omega) | exact Nm.old_hp (by assumption) | (simp only [List.length_set, List.length_cons, List.length_nil, List.length_append, List.length_map, List.length_replicate] <;> omega))) only [nmS0, nmS1, nmS2, nmS3, nmS4, nmS5, nmS6, Nat.testBit, Nat.reduceShiftRight, Nat.reduceAnd, Nat.reduceBNe, cond_true, cond_false, NT.get_leaf, Nat.reduceSub, d_true, d_false, clsOf, beq_self_eq_true, Int.reduceToNat, Nat.reduceAdd, Nat.reduceMul, Nat.reduceEqDiff, decide_true, decide_false, if_true, if_false, ite_true, ite_false, reduceIte, reduceCtorEq, eq_self, true_and, and_true, true_implies]; exact hK _ _ h)
    · by_cases h3 : k = 5
      · have e : St.uses ⟨k, d, a, b, c, to, cell, n, op⟩ = [a, b, c] := by simp [St.uses, h, h2, h3]
        subst h3
        simp (config := { maxSteps := 1000000 }) (disch := (first | assumption | omega | exact Nm.old_n (by omega) | exact Nm.old_hp (by assumption) | (simp only [List.length_set, List.length_cons, List.length_nil, List.length_append, List.length_map, List.length_replicate] <;> omega))) only [nmS0, nmS1, nmS2, nmS3, nmS4, nmS5, nmS6, Nat.testBit, Nat.reduceShiftRight, Nat.reduceAnd, Nat.reduceBNe, cond_true, cond_false, NT.get_leaf, Nat.reduceSub, d_true, d_false, clsOf, beq_self_eq_true, Int.reduceToNat, Nat.reduceAdd, Nat.reduceMul, Nat.reduceEqDiff, decide_true, decide_false, if_true, if_false, ite_true, ite_false, reduceIte, reduceCtorEq, eq_self, true_and, and_true, true_implies, St.l, hs]
        exact fin _ 3 _ _ rfl e (by omega) (by simp (config := { maxSteps := 1000000 }) (disch := (first | assumption | omega | exact Nm.old_n (by omega) | exact Nm.old_hp (by assumption) | (simp only [List.length_set, List.length_cons, List.length_nil, List.length_append, List.length_map, List.length_replicate] <;> omega))) only [nmS0, nmS1, nmS2, nmS3, nmS4, nmS5, nmS6, Nat.testBit, Nat.reduceShiftRight, Nat.reduceAnd, Nat.reduceBNe, cond_true, cond_false, NT.get_leaf, Nat.reduceSub, d_true, d_false, clsOf, beq_self_eq_true, Int.reduceToNat, Nat.reduceAdd, Nat.reduceMul, Nat.reduceEqDiff, decide_true, decide_false, if_true, if_false, ite_true, ite_false, reduceIte, reduceCtorEq, eq_self, true_and, and_true, true_implies, has1, has0]) (fun t' M' h => by simp (config := { maxSteps := 1000000 }) (disch := (first | assumption | omega | exact Nm.old_n (by omega) | exact Nm.old_hp (by assumption) | (simp only [List.length_set, List.length_cons, List.length_nil, List.length_append, List.length_map, List.length_replicate] <;> omega))) only [nmS0, nmS1, nmS2, nmS3, nmS4, nmS5, nmS6, Nat.testBit, Nat.reduceShiftRight, Nat.reduceAnd, Nat.reduceBNe, cond_true, cond_false, NT.get_leaf, Nat.reduceSub, d_true, d_false, clsOf, beq_self_eq_true, Int.reduceToNat, Nat.reduceAdd, Nat.reduceMul, Nat.reduceEqDiff, decide_true, decide_false, if_true, if_false, ite_true, ite_false, reduceIte, reduceCtorEq, eq_self, true_and, and_true, true_implies]; exact hK _ _ h)
      · have e : St.uses ⟨k, d, a, b, c, to, cell, n, op⟩ = [] := by simp [St.uses, h, h2, h3]
        simp (config := { maxSteps := 1000000 }) (disch := (first | assumption | omega | exact Nm.old_n (by omega) | exact Nm.old_hp (by assumption) | (simp only [List.length_set, List.length_cons, List.length_nil, List.length_append, List.length_map, List.length_replicate] <;> omega))) only [nmS0, nmS1, nmS2, nmS3, nmS4, nmS5, nmS6, Nat.testBit, Nat.reduceShiftRight, Nat.reduceAnd, Nat.reduceBNe, cond_true, cond_false, NT.get_leaf, Nat.reduceSub, d_true, d_false, clsOf, beq_self_eq_true, Int.reduceToNat, Nat.reduceAdd, Nat.reduceMul, Nat.reduceEqDiff, decide_true, decide_false, if_true, if_false, ite_true, ite_false, reduceIte, reduceCtorEq, eq_self, true_and, and_true, true_implies, St.l, hs]
        exact fin _ 0 _ _ rfl e (by omega) (by simp (config := { maxSteps := 1000000 }) (disch := (first | assumption | omega | exact Nm.old_n (by omega) | exact Nm.old_hp (by assumption) | (simp only [List.length_set, List.length_cons, List.length_nil, List.length_append, List.length_map, List.length_replicate] <;> omega))) only [nmS0, nmS1, nmS2, nmS3, nmS4, nmS5, nmS6, Nat.testBit, Nat.reduceShiftRight, Nat.reduceAnd, Nat.reduceBNe, cond_true, cond_false, NT.get_leaf, Nat.reduceSub, d_true, d_false, clsOf, beq_self_eq_true, Int.reduceToNat, Nat.reduceAdd, Nat.reduceMul, Nat.reduceEqDiff, decide_true, decide_false, if_true, if_false, ite_true, ite_false, reduceIte, reduceCtorEq, eq_self, true_and, and_true, true_implies, has1, has0]) (fun t' M' h => by simp (config := { maxSteps := 1000000 }) (disch := (first | assumption | omega | exact Nm.old_n (by omega) | exact Nm.old_hp (by assumption) | (simp only [List.length_set, List.length_cons, List.length_nil, List.length_append, List.length_map, List.length_replicate] <;> omega))) only [nmS0, nmS1, nmS2, nmS3, nmS4, nmS5, nmS6, Nat.testBit, Nat.reduceShiftRight, Nat.reduceAnd, Nat.reduceBNe, cond_true, cond_false, NT.get_leaf, Nat.reduceSub, d_true, d_false, clsOf, beq_self_eq_true, Int.reduceToNat, Nat.reduceAdd, Nat.reduceMul, Nat.reduceEqDiff, decide_true, decide_false, if_true, if_false, ite_true, ite_false, reduceIte, reduceCtorEq, eq_self, true_and, and_true, true_implies]; exact hK _ _ h)
end LV

open Go Nm Go.Proofs
namespace LV
set_option linter.unusedSimpArgs false
set_option linter.unusedVariables false
theorem reads_ret (m : NH) (s : St) : Ret Try.prog S0 15 [.agg s.l] m (.fn 18 [.ptr m.next 0]) (m.add (.cells true s.l)) := by
  have h : WF Try.prog S0 15 [.agg s.l] m fun v m' => v = .fn 18 [.ptr m.next 0] ∧ m' = m.add (.cells true s.l) := by
    refine WF.of_wpH (fun _ => rfl) nf15_eq (L := [(.e, .agg s.l)]) rfl ?_
    unfold nf15
    simp (config := { maxSteps := 1000000 }) (disch := (first | assumption | omega | exact Nm.old_n (by omega) | exact Nm.old_hp (by assumption) | (simp only [List.length_set, List.length_cons, List.length_nil, List.length_append, List.length_map, List.length_replicate] <;> omega))) only [nmS0, nmS1, nmS2, nmS3, nmS4, nmS5, nmS6, Nat.testBit, Nat.reduceShiftRight, Nat.reduceAnd, Nat.reduceBNe, cond_true, cond_false, NT.get_leaf, Nat.reduceSub, d_true, d_false, clsOf, beq_self_eq_true, Int.reduceToNat, Nat.reduceAdd, Nat.reduceMul, Nat.reduceEqDiff, decide_true, decide_false, if_true, if_false, ite_true, ite_false, reduceIte, reduceCtorEq, eq_self, true_and, and_true, true_implies, na_zero, hp_add]
  obtain ⟨v, m', h1, rfl, rfl⟩ := h.ret
  exact h1
theorem St.len (s : St) : s.l.length = 9 := rfl
theorem St.all (s : St) : s.l.take 9 = s.l := rfl
/-- a round of Uses -/
theorem uses_round {m M : NH} {s : St} {q o : D4} {t : Tm} {v : Int} {u : NV} {l : List Int} (h1 : NT.get D4.e.c t = some (.ptr o 0)) (hq : M.get q = some (.loop 0 .none t [D4.e.a.c] nf11_a1 nf11_r2)) (ho : M.get o = some (.cells true [u]))
    (hu : Own m M u 1 (Ints l)) (hoq : o ≠ q) (hqo : Old M q) (hoo : Old M o) (hqm : Old m q) (hom : Old m o) (hmM : ∀ i, Old m i → Old M i) (hl : l.length ≤ 10) :
    ∃ w M', RetY Try.prog S0 q [ii v] M w M' ∧ w = .bool true ∧ Chg (q :: o :: ids u) M M' ∧ M'.get q = some (.loop 0 .none t [D4.e.a.c] nf11_a1 nf11_r2) ∧ ∃ u', M'.get o = some (.cells true [u']) ∧ Own m M' u' 1 (Ints (l ++ [v])) := by
    refine WY.ex fun K hK => ?_
    refine WY.of_wp hq rfl nf11_a1.eq_1 nf11_r2.eq_1 ?_
    change wp _ _ _ _ ⟨puts [(D4.e.a.c, ii v)] t, [], none, hp [] 0 M⟩ _
    simp (config := { maxSteps := 1000000 }) (disch := (first | assumption | omega | exact Nm.old_n (by omega) | exact Nm.old_hp (by assumption) | (simp only [List.length_set, List.length_cons, List.length_nil, List.length_append, List.length_map, List.length_replicate] <;> omega))) only [nmS0, nmS1, nmS2, nmS3, nmS4, nmS5, nmS6, Nat.testBit, Nat.reduceShiftRight, Nat.reduceAnd, Nat.reduceBNe, cond_true, cond_false, NT.get_leaf, Nat.reduceSub, d_true, d_false, clsOf, beq_self_eq_true, Int.reduceToNat, Nat.reduceAdd, Nat.reduceMul, Nat.reduceEqDiff, decide_true, decide_false, if_true, if_false, ite_true, ite_false, reduceIte, reduceCtorEq, eq_self, true_and, and_true, true_implies, h1, hq, ho]
    have hnq : q ∉ ids u := fun hi => hu.new _ hi hqm
    have hno : o ∉ ids u := fun hi => hu.new _ hi hom
    have hC1 : Chg [q] M (hp [(AK.n 0, NO.cells true [ii v]), (AK.o q, NO.loop 1 Jump.none t [D4.e.a.c] nf11_a1 nf11_r2)] 1 M) := hp_of rfl
    refine wNT_app1 (hu.chg hC1 (fun i hi => by simp; rintro rfl; exact hnq hi)) h_getN (old_n (by omega)) rfl (fun i hi => old_hp (hmM i hi)) (by simp; omega) (by simp; omega) ?_
    intro u' M2 hu' hC2
    have hq2 := (hC2.get (old_hp hqo) hnq).trans ((h_getO hqo).trans (h_lookOn.trans h_lookOs))
    have ho2 := (hC2.get (old_hp hoo) hno).trans ((h_getO hoo).trans (h_lookOn.trans ((h_lookOo hoq).trans (h_lookO0.trans ho))))
    have oq := hC2.old (hC1.old hqo)
    have oo := hC2.old (hC1.old hoo)
    have hqo' : q ≠ o := fun e => hoq e.symm
    simp (config := { maxSteps := 1000000 }) (disch := (first | assumption | omega | exact Nm.old_n (by omega) | exact Nm.old_hp (by assumption) | (simp only [List.length_set, List.length_cons, List.length_nil, List.length_append, List.length_map, List.length_replicate] <;> omega))) only [nmS0, nmS1, nmS2, nmS3, nmS4, nmS5, nmS6, Nat.testBit, Nat.reduceShiftRight, Nat.reduceAnd, Nat.reduceBNe, cond_true, cond_false, NT.get_leaf, Nat.reduceSub, d_true, d_false, clsOf, beq_self_eq_true, Int.reduceToNat, Nat.reduceAdd, Nat.reduceMul, Nat.reduceEqDiff, decide_true, decide_false, if_true, if_false, ite_true, ite_false, reduceIte, reduceCtorEq, eq_self, true_and, and_true, true_implies, h1, hq2, ho2, hu'.sl.one]
    have hC3 : Chg [q, o] M2 (hp [(.o q, .loop 0 .none t [D4.e.a.c] nf11_a1 nf11_r2), (.o o, .cells true [u'])] 0 M2) := hp_of rfl
    have nq' : q ∉ ids u' := fun hi => hu'.new _ hi hqm
    have no' : o ∉ ids u' := fun hi => hu'.new _ hi hom
    refine hK _ _ ⟨rfl, ((hC1.weak (by simp)).trans hC2 ?_).trans hC3 ?_, (h_getO oq).trans h_lookOs, u', (h_getO oo).trans ((h_lookOo hoq).trans h_lookOs), ?_⟩
    · intro i hi _; exact List.mem_cons_of_mem _ (List.mem_cons_of_mem _ hi)
    · intro i hi _; simp at hi ⊢; rcases hi with rfl | rfl <;> simp
    · rw [show Ints (l ++ [v]) = Ints l ++ [[ii v]] by simp]
      refine hu'.chg hC3 fun i hi => ?_
      simp
      exact ⟨fun e => nq' (e ▸ hi), fun e => no' (e ▸ hi)⟩
theorem uses_len (s : St) : s.uses.length ≤ 3 := by
  unfold St.uses
  split
  · simp
  · split
    · simp
    · split <;> simp
/-- the range of Uses -/
theorem uses_range {m M : NH} {s : St} {t : Tm} {o sid : D4} (h1 : NT.get D4.e.c t = some (.ptr o 0)) (h2 : NT.get D4.e.a.b t = some (.fn 18 [.ptr sid 0])) (ho : M.get o = some (.cells true [.nils])) (hoo : Old M o) (hos : o ≠ sid) (hs : M.get sid = some (.cells true s.l)) (hso : Old M sid) (hmM : ∀ i, Old m i → Old M i)
    {Q : Out → Dyn → Prop} (hQ : ∀ M' u, Own m M' u 1 (Ints s.uses) → M'.get o = some (.cells true [u]) → M'.get (na M 0) = some (.defd true) → Old M' (na M 0) → Old M' o → Chg [o] M M' → (∀ i ∈ ids u, i ≠ na M 0) → Q .norm ⟨t, [.mark (na M 0)], none, hp [] 0 M'⟩) :
    W Try.prog S0 none (.rangeFunc (.tmp D4.e.a.b) [D4.e.a.c] nf11_a1 nf11_r2) ⟨t, [], none, M⟩ Q := by
  have key : ∀ M1, M1 = hp [(.n 1, .loop 0 .none t [D4.e.a.c] nf11_a1 nf11_r2), (.n 0, .defd true)] 2 M → W Try.prog S0 none (.rangeFunc (.tmp D4.e.a.b) [D4.e.a.c] nf11_a1 nf11_r2) ⟨t, [], none, M⟩ Q := by
    intro M1 hM1
    have hG : Chg [] M M1 := by rw [hM1]; exact hp_of rfl
    have oq : Old M1 (na M 1) := by rw [hM1]; exact old_n (by omega)
    have om : Old M1 (na M 0) := by rw [hM1]; exact old_n (by omega)
    have hoq : o ≠ na M 1 := hoo.ne 1
    have gq : M1.get (na M 1) = some (.loop 0 .none t [D4.e.a.c] nf11_a1 nf11_r2) := by rw [hM1]; exact h_getN
    have gm : M1.get (na M 0) = some (.defd true) := by rw [hM1]; exact h_getN
    obtain ⟨v, m', hr, b, hb, hC, hq, u, hou, hown⟩ := reads1 (m := M1) (s := s) (q := na M 1) (sid := sid) (w := true) ((hG.get hso (by simp)).trans hs) (hG.old hso) (T := [o, na M 1]) (by intro i hi; simp at hi; rcases hi with rfl | rfl; exact hG.old hoo; exact oq)
      (fun b j N => N.get (na M 1) = some (.loop 0 .none t [D4.e.a.c] nf11_a1 nf11_r2) ∧ ∃ u, N.get o = some (.cells true [u]) ∧ Own b N u 1 (Ints (s.uses.take j)))
      (fun b hb => ⟨(hb.get oq (by simp)).trans gq, .nils, (hb.get (hG.old hoo) (by simp)).trans ((hG.get hoo (by simp)).trans ho), Own.nil⟩)
      (by
        rintro b j v N hj hb hC ⟨hq, u, hou, hown⟩
        have hjl : j < s.uses.length := by
          rcases Nat.lt_or_ge j s.uses.length with h | h
          · exact h
          · rw [List.getElem?_eq_none h] at hj; cases hj
        have := uses_len s
        obtain ⟨w, M', h3, rfl, h4, h5, u', h6, h7⟩ := uses_round (s := s) h1 hq hou hown hoq (hC.old (hb.old oq)) (hC.old (hb.old (hG.old hoo))) (hb.old oq) (hb.old (hG.old hoo)) (fun i hi => hC.old hi) (v := v) (by rw [List.length_take]; omega)
        refine ⟨M', h3, hC.trans h4 ?_, h5, u', h6, ?_⟩
        · intro i hi hio
          simp at hi ⊢
          rcases hi with rfl | rfl | hi
          · simp
          · simp
          · exact absurd hio (hown.new i hi)
        · rw [List.take_add_one, hj]; exact h7)
    have hbm : Old b (na M 0) := hb.old om
    have hnm : na M 0 ∉ [o, na M 1] := by
      simp only [List.mem_cons, List.not_mem_nil, or_false]
      rintro (e | e)
      · exact hoo.ne 0 e.symm
      · have := na_inj e; omega
    rw [List.take_length] at hown
    refine W.rangeN h2 (hM1 ▸ hr) hq ?_ (hC.old (hb.old oq))
    have hC2 : Chg [na M 1] m' (hp [(AK.o (na M 1), NO.loop 3 Jump.none t [D4.e.a.c] nf11_a1 nf11_r2)] 0 m') := hp_of rfl
    rw [← hp_nil (hp [(AK.o (na M 1), NO.loop 3 Jump.none t [D4.e.a.c] nf11_a1 nf11_r2)] 0 m')]
    refine hQ _ u ?_ ((hC2.get (hC.old (hb.old (hG.old hoo))) (by simpa using hoq)).trans hou) ((hC2.get (hC.old hbm) (by simp [na_eq])).trans ((hC.get hbm hnm).trans ((hb.get om (by simp)).trans gm))) (hC2.old (hC.old hbm)) (hC2.old (hC.old (hb.old (hG.old hoo)))) ?_ ?_
    · exact (hown.chg hC2 fun i hi => by simp; rintro rfl; exact hown.new _ hi (hb.old oq)).back fun i hi => hb.old (hG.old (hmM i hi))
    · refine (((hG.trans hb fun _ h _ => h).weak (T := [o]) (by simp)).trans hC ?_).trans hC2 ?_
      · intro i hi hio; simp at hi ⊢; rcases hi with rfl | rfl
        · rfl
        · exact absurd hio na_old
      · intro i hi hio; simp at hi; subst hi; exact absurd hio na_old
    · rintro i hi rfl; exact hown.new _ hi hbm
  exact key _ rfl
theorem uses_live (m : NH) (s : St) : ∃ v m', Ret Try.prog S0 11 [.agg s.l] m v m' ∧ Own m m' v 1 (Ints s.uses) ∧ Chg [] m m' := by
  refine WF.ex fun K hK => ?_
  refine WF.of_wpM (fun _ => rfl) nf11_eq (L := [(.e, .agg s.l)]) rfl ?_
  unfold nf11
  have hl := St.len s
  simp (config := { maxSteps := 1000000 }) (disch := (first | assumption | omega | exact Nm.old_n (by omega) | exact Nm.old_hp (by assumption) | (simp only [List.length_set, List.length_cons, List.length_nil, List.length_append, List.length_map, List.length_replicate] <;> omega))) only [nmS0, nmS1, nmS2, nmS3, nmS4, nmS5, nmS6, Nat.testBit, Nat.reduceShiftRight, Nat.reduceAnd, Nat.reduceBNe, cond_true, cond_false, NT.get_leaf, Nat.reduceSub, d_true, d_false, clsOf, beq_self_eq_true, Int.reduceToNat, Nat.reduceAdd, Nat.reduceMul, Nat.reduceEqDiff, decide_true, decide_false, if_true, if_false, ite_true, ite_false, reduceIte, reduceCtorEq, eq_self, true_and, and_true, true_implies, St.all, (reads_ret _ s).wf']
  refine uses_range (m := m) (s := s) (o := na m 1) (sid := na m 2) ?_ ?_ ?_ ?_ ?_ ?_ ?_ (fun i hi => old_hp hi) ?_
  · simp (config := { maxSteps := 1000000 }) (disch := (first | assumption | omega | exact Nm.old_n (by omega) | exact Nm.old_hp (by assumption) | (simp only [List.length_set, List.length_cons, List.length_nil, List.length_append, List.length_map, List.length_replicate] <;> omega))) only [nmS0, nmS1, nmS2, nmS3, nmS4, nmS5, nmS6, Nat.testBit, Nat.reduceShiftRight, Nat.reduceAnd, Nat.reduceBNe, cond_true, cond_false, NT.get_leaf, Nat.reduceSub, d_true, d_false, clsOf, beq_self_eq_true, Int.reduceToNat, Nat.reduceAdd, Nat.reduceMul, Nat.reduceEqDiff, decide_true, decide_false, if_true, if_false, ite_true, ite_false, reduceIte, reduceCtorEq, eq_self, true_and, and_true, true_implies]
  · simp (config := { maxSteps := 1000000 }) (disch := (first | assumption | omega | exact Nm.old_n (by omega) | exact Nm.old_hp (by assumption) | (simp only [List.length_set, List.length_cons, List.length_nil, List.length_append, List.length_map, List.length_replicate] <;> omega))) only [nmS0, nmS1, nmS2, nmS3, nmS4, nmS5, nmS6, Nat.testBit, Nat.reduceShiftRight, Nat.reduceAnd, Nat.reduceBNe, cond_true, cond_false, NT.get_leaf, Nat.reduceSub, d_true, d_false, clsOf, beq_self_eq_true, Int.reduceToNat, Nat.reduceAdd, Nat.reduceMul, Nat.reduceEqDiff, decide_true, decide_false, if_true, if_false, ite_true, ite_false, reduceIte, reduceCtorEq, eq_self, true_and, and_true, true_implies]
  · simp (config := { maxSteps := 1000000 }) (disch := (first | assumption | omega | exact Nm.old_n (by omega) | exact Nm.old_hp (by assumption) | (simp only [List.length_set, List.length_cons, List.length_nil, List.length_append, List.length_map, List.length_replicate] <;> omega))) only [nmS0, nmS1, nmS2, nmS3, nmS4, nmS5, nmS6, Nat.testBit, Nat.reduceShiftRight, Nat.reduceAnd, Nat.reduceBNe, cond_true, cond_false, NT.get_leaf, Nat.reduceSub, d_true, d_false, clsOf, beq_self_eq_true, Int.reduceToNat, Nat.reduceAdd, Nat.reduceMul, Nat.reduceEqDiff, decide_true, decide_false, if_true, if_false, ite_true, ite_false, reduceIte, reduceCtorEq, eq_self, true_and, and_true, true_implies]
  · exact old_n (by omega)
  · simp [na_eq]
  · simp (config := { maxSteps := 1000000 }) (disch := (first | assumption | omega | exact Nm.old_n (by omega) | exact Nm.old_hp (by assumption) | (simp only [List.length_set, List.length_cons, List.length_nil, List.length_append, List.length_map, List.length_replicate] <;> omega))) only [nmS0, nmS1, nmS2, nmS3, nmS4, nmS5, nmS6, Nat.testBit, Nat.reduceShiftRight, Nat.reduceAnd, Nat.reduceBNe, cond_true, cond_false, NT.get_leaf, Nat.reduceSub, d_true, d_false, clsOf, beq_self_eq_true, Int.reduceToNat, Nat.reduceAdd, Nat.reduceMul, Nat.reduceEqDiff, decide_true, decide_false, if_true, if_false, ite_true, ite_false, reduceIte, reduceCtorEq, eq_self, true_and, and_true, true_implies]
  · exact old_n (by omega)
  intro M' u h1 h2 h3 h4 h5 h6 h7
  simp (config := { maxSteps := 1000000 }) (disch := (first | assumption | omega | exact Nm.old_n (by omega) | exact Nm.old_hp (by assumption) | (simp only [List.length_set, List.length_cons, List.length_nil, List.length_append, List.length_map, List.length_replicate] <;> omega))) only [nmS0, nmS1, nmS2, nmS3, nmS4, nmS5, nmS6, Nat.testBit, Nat.reduceShiftRight, Nat.reduceAnd, Nat.reduceBNe, cond_true, cond_false, NT.get_leaf, Nat.reduceSub, d_true, d_false, clsOf, beq_self_eq_true, Int.reduceToNat, Nat.reduceAdd, Nat.reduceMul, Nat.reduceEqDiff, decide_true, decide_false, if_true, if_false, ite_true, ite_false, reduceIte, reduceCtorEq, eq_self, true_and, and_true, true_implies, h2, h3]
  have hm : Chg [] m (hp [(.n 2, .cells true s.l), (.n 1, .cells true [.nils]), (.n 0, .cells true s.l)] 3 m) := hp_of rfl
  refine hK _ _ ⟨h1.chg (hp_of rfl) fun i hi => by simpa [oldK] using h7 i hi, ((hm.weak (T := [na m 1]) (by simp)).trans h6 fun _ h _ => h).trans (hp_of rfl) ?_ |>.weak ?_⟩
  · intro i hi hio; simp [oldK] at hi; subst hi; exact absurd (hm.old hio) na_old
  · intro i hi hio; simp at hi; subst hi; exact absurd hio na_old
end LV

open Go Nm Go.Proofs
namespace LV
set_option linter.unusedSimpArgs false
set_option linter.unusedVariables false
/-- is it among the uses? -/
theorem sp_l1 {M : NH} {uu : NV} {us : List Int} {v : Int} {q : Bool} (hu : Sl M uu 1 (Ints us)) (hus : us.length ≤ 3) {t : Tm} (g1 : NT.get D4.e.a.f t = some uu) (g2 : NT.get D4.e.a.a t = some (ii v)) (g3 : NT.get D4.e.b.a t = some (.bool q)) (g4 : NT.get D4.e.b.b t = some (ii 0))
    {Q : Out → Dyn → Prop} (hQ : ∀ t', Same [D4.e.b.b.f, D4.e.b.c.a, D4.e.b.c.b, D4.e.b.c.c, D4.e.b.f.b, D4.e.b.f.c, D4.e.b.f.f, D4.e.c.a.a, D4.e.c.a.b, D4.e.c.a.c, D4.e.c.a.f, D4.e.c.b.a, D4.e.c.b.b, D4.e.b.a, D4.e.b.c.f, D4.e.b.f.a, D4.e.b.b] t t' → NT.get D4.e.b.a t' = some (.bool (q || us.any (· == v))) → Q (.exit 4) ⟨puts [] t', [], none, M⟩) :
    W Try.prog S0 none nf14_l1.loop ⟨t, [], none, M⟩ Q := by
  have hlen := hu.len
  rw [List.length_map] at hlen
  refine W.loop (fun k d => ∃ t' i, d = ⟨t', [], none, M⟩ ∧ Same [D4.e.b.b.f, D4.e.b.c.a, D4.e.b.c.b, D4.e.b.c.c, D4.e.b.f.b, D4.e.b.f.c, D4.e.b.f.f, D4.e.c.a.a, D4.e.c.a.b, D4.e.c.a.c, D4.e.c.a.f, D4.e.c.b.a, D4.e.c.b.b, D4.e.b.a, D4.e.b.c.f, D4.e.b.f.a, D4.e.b.b] t t' ∧ NT.get D4.e.b.a t' = some (.bool (q || (us.take i).any (· == v))) ∧ NT.get D4.e.b.b t' = some (ii (i : Nat)) ∧ i + k = us.length)
    ?_ us.length _ ⟨t, 0, rfl, Same.refl _ _, by simpa using g3, g4, by omega⟩
  rintro k d ⟨t', i, rfl, hS, g3, g4, hik⟩
  have g1 := hS.get g1 (by simp)
  have g2 := hS.get g2 (by simp)
  apply wp_sound
  unfold nf14_l1
  change wp _ _ _ _ ⟨puts [] t', [], none, M⟩ _
  by_cases hi : i < us.length
  · obtain ⟨id, off, w, c, a1, a2, a3, a4, a5⟩ := hu.at i (by simpa using hi)
    rw [List.getElem_map] at a5
    have c0 := cell_at a5 0 (by omega)
    rw [Nat.add_zero] at c0
    have e2 : (q || (us.take (i + 1)).any (· == v)) = ((q || (us.take i).any (· == v)) || (us[i] == v)) := by
      have e : us.take (i + 1) = us.take i ++ [us[i]] := by rw [List.take_add_one]; simp [hi]
      rw [e, List.any_append, ← Bool.or_assoc]; simp
    cases hq : (q || (us.take i).any (· == v)) with
    | true =>
      rw [hq] at g3
      simp (config := { maxSteps := 1000000 }) (disch := (first | assumption | omega | exact Nm.old_n (by omega) | exact Nm.old_hp (by assumption) | (simp only [List.length_set, List.length_cons, List.length_nil, List.length_append, List.length_map, List.length_replicate] <;> omega))) only [nmS0, nmS1, nmS2, nmS3, nmS4, nmS5, nmS6, Nat.testBit, Nat.reduceShiftRight, Nat.reduceAnd, Nat.reduceBNe, cond_true, cond_false, NT.get_leaf, Nat.reduceSub, d_true, d_false, clsOf, beq_self_eq_true, Int.reduceToNat, Nat.reduceAdd, Nat.reduceMul, Nat.reduceEqDiff, decide_true, decide_false, if_true, if_false, ite_true, ite_false, reduceIte, reduceCtorEq, eq_self, true_and, and_true, true_implies, g1, g2, g3, g4, hlen, a1, a2, c0]
      refine ⟨k - 1, by omega, _, i + 1, rfl, hS.puts _ (by simp), ?_, ?_, by omega⟩
      · simp (config := { maxSteps := 1000000 }) (disch := (first | assumption | omega | exact Nm.old_n (by omega) | exact Nm.old_hp (by assumption) | (simp only [List.length_set, List.length_cons, List.length_nil, List.length_append, List.length_map, List.length_replicate] <;> omega))) only [nmS0, nmS1, nmS2, nmS3, nmS4, nmS5, nmS6, Nat.testBit, Nat.reduceShiftRight, Nat.reduceAnd, Nat.reduceBNe, cond_true, cond_false, NT.get_leaf, Nat.reduceSub, d_true, d_false, clsOf, beq_self_eq_true, Int.reduceToNat, Nat.reduceAdd, Nat.reduceMul, Nat.reduceEqDiff, decide_true, decide_false, if_true, if_false, ite_true, ite_false, reduceIte, reduceCtorEq, eq_self, true_and, and_true, true_implies]; rw [e2, hq]; rfl
      · simp (config := { maxSteps := 1000000 }) (disch := (first | assumption | omega | exact Nm.old_n (by omega) | exact Nm.old_hp (by assumption) | (simp only [List.length_set, List.length_cons, List.length_nil, List.length_append, List.length_map, List.length_replicate] <;> omega))) only [nmS0, nmS1, nmS2, nmS3, nmS4, nmS5, nmS6, Nat.testBit, Nat.reduceShiftRight, Nat.reduceAnd, Nat.reduceBNe, cond_true, cond_false, NT.get_leaf, Nat.reduceSub, d_true, d_false, clsOf, beq_self_eq_true, Int.reduceToNat, Nat.reduceAdd, Nat.reduceMul, Nat.reduceEqDiff, decide_true, decide_false, if_true, if_false, ite_true, ite_false, reduceIte, reduceCtorEq, eq_self, true_and, and_true, true_implies]; rfl
    | false =>
      rw [hq] at g3
      by_cases hv : us[i] = v
      · simp (config := { maxSteps := 1000000 }) (disch := (first | assumption | omega | exact Nm.old_n (by omega) | exact Nm.old_hp (by assumption) | (simp only [List.length_set, List.length_cons, List.length_nil, List.length_append, List.length_map, List.length_replicate] <;> omega))) only [nmS0, nmS1, nmS2, nmS3, nmS4, nmS5, nmS6, Nat.testBit, Nat.reduceShiftRight, Nat.reduceAnd, Nat.reduceBNe, cond_true, cond_false, NT.get_leaf, Nat.reduceSub, d_true, d_false, clsOf, beq_self_eq_true, Int.reduceToNat, Nat.reduceAdd, Nat.reduceMul, Nat.reduceEqDiff, decide_true, decide_false, if_true, if_false, ite_true, ite_false, reduceIte, reduceCtorEq, eq_self, true_and, and_true, true_implies, g1, g2, g3, g4, hlen, a1, a2, c0]
        refine ⟨k - 1, by omega, _, i + 1, rfl, hS.puts _ (by simp), ?_, ?_, by omega⟩
        · simp (config := { maxSteps := 1000000 }) (disch := (first | assumption | omega | exact Nm.old_n (by omega) | exact Nm.old_hp (by assumption) | (simp only [List.length_set, List.length_cons, List.length_nil, List.length_append, List.length_map, List.length_replicate] <;> omega))) only [nmS0, nmS1, nmS2, nmS3, nmS4, nmS5, nmS6, Nat.testBit, Nat.reduceShiftRight, Nat.reduceAnd, Nat.reduceBNe, cond_true, cond_false, NT.get_leaf, Nat.reduceSub, d_true, d_false, clsOf, beq_self_eq_true, Int.reduceToNat, Nat.reduceAdd, Nat.reduceMul, Nat.reduceEqDiff, decide_true, decide_false, if_true, if_false, ite_true, ite_false, reduceIte, reduceCtorEq, eq_self, true_and, and_true, true_implies]; rw [e2, hq]; simp [hv]
        · simp (config := { maxSteps := 1000000 }) (disch := (first | assumption | omega | exact Nm.old_n (by omega) | exact Nm.old_hp (by assumption) | (simp only [List.length_set, List.length_cons, List.length_nil, List.length_append, List.length_map, List.length_replicate] <;> omega))) only [nmS0, nmS1, nmS2, nmS3, nmS4, nmS5, nmS6, Nat.testBit, Nat.reduceShiftRight, Nat.reduceAnd, Nat.reduceBNe, cond_true, cond_false, NT.get_leaf, Nat.reduceSub, d_true, d_false, clsOf, beq_self_eq_true, Int.reduceToNat, Nat.reduceAdd, Nat.reduceMul, Nat.reduceEqDiff, decide_true, decide_false, if_true, if_false, ite_true, ite_false, reduceIte, reduceCtorEq, eq_self, true_and, and_true, true_implies]; rfl
      · simp (config := { maxSteps := 1000000 }) (disch := (first | assumption | omega | exact Nm.old_n (by omega) | exact Nm.old_hp (by assumption) | (simp only [List.length_set, List.length_cons, List.length_nil, List.length_append, List.length_map, List.length_replicate] <;> omega))) only [nmS0, nmS1, nmS2, nmS3, nmS4, nmS5, nmS6, Nat.testBit, Nat.reduceShiftRight, Nat.reduceAnd, Nat.reduceBNe, cond_true, cond_false, NT.get_leaf, Nat.reduceSub, d_true, d_false, clsOf, beq_self_eq_true, Int.reduceToNat, Nat.reduceAdd, Nat.reduceMul, Nat.reduceEqDiff, decide_true, decide_false, if_true, if_false, ite_true, ite_false, reduceIte, reduceCtorEq, eq_self, true_and, and_true, true_implies, g1, g2, g3, g4, hlen, a1, a2, c0]
        refine ⟨k - 1, by omega, _, i + 1, rfl, hS.puts _ (by simp), ?_, ?_, by omega⟩
        · simp (config := { maxSteps := 1000000 }) (disch := (first | assumption | omega | exact Nm.old_n (by omega) | exact Nm.old_hp (by assumption) | (simp only [List.length_set, List.length_cons, List.length_nil, List.length_append, List.length_map, List.length_replicate] <;> omega))) only [nmS0, nmS1, nmS2, nmS3, nmS4, nmS5, nmS6, Nat.testBit, Nat.reduceShiftRight, Nat.reduceAnd, Nat.reduceBNe, cond_true, cond_false, NT.get_leaf, Nat.reduceSub, d_true, d_false, clsOf, beq_self_eq_true, Int.reduceToNat, Nat.reduceAdd, Nat.reduceMul, Nat.reduceEqDiff, decide_true, decide_false, if_true, if_false, ite_true, ite_false, reduceIte, reduceCtorEq, eq_self, true_and, and_true, true_implies]; rw [e2, hq]; simp [hv]
        · simp (config := { maxSteps := 1000000 }) (disch := (first | assumption | omega | exact Nm.old_n (by omega) | exact Nm.old_hp (by assumption) | (simp only [List.length_set, List.length_cons, List.length_nil, List.length_append, List.length_map, List.length_replicate] <;> omega))) only [nmS0, nmS1, nmS2, nmS3, nmS4, nmS5, nmS6, Nat.testBit, Nat.reduceShiftRight, Nat.reduceAnd, Nat.reduceBNe, cond_true, cond_false, NT.get_leaf, Nat.reduceSub, d_true, d_false, clsOf, beq_self_eq_true, Int.reduceToNat, Nat.reduceAdd, Nat.reduceMul, Nat.reduceEqDiff, decide_true, decide_false, if_true, if_false, ite_true, ite_false, reduceIte, reduceCtorEq, eq_self, true_and, and_true, true_implies]; rfl
  · simp (config := { maxSteps := 1000000 }) (disch := (first | assumption | omega | exact Nm.old_n (by omega) | exact Nm.old_hp (by assumption) | (simp only [List.length_set, List.length_cons, List.length_nil, List.length_append, List.length_map, List.length_replicate] <;> omega))) only [nmS0, nmS1, nmS2, nmS3, nmS4, nmS5, nmS6, Nat.testBit, Nat.reduceShiftRight, Nat.reduceAnd, Nat.reduceBNe, cond_true, cond_false, NT.get_leaf, Nat.reduceSub, d_true, d_false, clsOf, beq_self_eq_true, Int.reduceToNat, Nat.reduceAdd, Nat.reduceMul, Nat.reduceEqDiff, decide_true, decide_false, if_true, if_false, ite_true, ite_false, reduceIte, reduceCtorEq, eq_self, true_and, and_true, true_implies, g1, g2, g3, g4, hlen]
    have e : i = us.length := by omega
    subst e
    rw [List.take_length] at g3
    have hQ' := fun L t' => hQ (puts L t')
    simp only [puts_nil] at hQ'
    refine hQ' _ _ (hS.puts _ ?_) ?_
    · simp
    · simp (config := { maxSteps := 1000000 }) (disch := (first | assumption | omega | exact Nm.old_n (by omega) | exact Nm.old_hp (by assumption) | (simp only [List.length_set, List.length_cons, List.length_nil, List.length_append, List.length_map, List.length_replicate] <;> omega))) only [nmS0, nmS1, nmS2, nmS3, nmS4, nmS5, nmS6, Nat.testBit, Nat.reduceShiftRight, Nat.reduceAnd, Nat.reduceBNe, cond_true, cond_false, NT.get_leaf, Nat.reduceSub, d_true, d_false, clsOf, beq_self_eq_true, Int.reduceToNat, Nat.reduceAdd, Nat.reduceMul, Nat.reduceEqDiff, decide_true, decide_false, if_true, if_false, ite_true, ite_false, reduceIte, reduceCtorEq, eq_self, true_and, and_true, true_implies, g3]
def spanF (h : Nat → Bool) : Nat → Int × Int
  | 0 => (-1, 0)
  | i + 1 => if h i then (if (spanF h i).1 < 0 then (i : Int) else (spanF h i).1, (i : Int)) else spanF h i
def St.hit (s : St) (v : Int) : Bool := (s.sets == v) || s.uses.any (· == v)
def hitR (steps : List St) (locals : Int) (v : Int) (i : Nat) : Bool := match steps[i]? with
  | some s => s.hit v || (decide (v < locals) && (decide (i = 0) || decide (i + 1 = steps.length)))
  | none => false
abbrev ks2 : List D4 := [D4.e.a.a.c, D4.e.a.a.f, D4.e.a.b.a, D4.e.a.b.b, D4.e.a.b.c, D4.e.a.c.b, D4.e.a.c.c, D4.e.a.c.f, D4.e.a.f.a, D4.e.a.f.b, D4.e.a.f.c, D4.e.a.f, D4.e.a.f.f, D4.e.b.a.a, D4.e.b.a.b, D4.e.b.a.c, D4.e.b.a.f, D4.e.b.b.a, D4.e.b.b.b, D4.e.b.b.c, D4.e.b.a, D4.e.b.b, D4.e.c.b.c, D4.e.c.b.f, D4.e.c.c.a, D4.e.c.c.b, D4.e.c.c.c, D4.e.c.c.f, D4.e.c.f.a, D4.e.c.f.b, D4.e.c.f.c, D4.e.c.f.f, D4.e.f.a.a, D4.e.f.a.b, D4.e.f.a.c, D4.e.f.a.f, D4.e.f.b.a, D4.e.f.b.b, D4.e.f.b.c, D4.e.f.b.f, D4.e.f.c.a, D4.e.f.c.b, D4.e.f.c.c, D4.e.f.c.f, D4.e.f.f.a, D4.e.a.b.f, D4.e.a.c.a, D4.e.a.c, D4.e.b.b.f, D4.e.b.c.a, D4.e.b.c.b, D4.e.b.c.c, D4.e.b.f.b, D4.e.b.f.c, D4.e.b.f.f, D4.e.c.a.a, D4.e.c.a.b, D4.e.c.a.c, D4.e.c.a.f, D4.e.c.b.a, D4.e.c.b.b, D4.e.b.c.f, D4.e.b.f.a]
/-- the span of a variable -/
theorem sp_l2 {M : NH} {bx x : D4} {vs : NV} {steps : List St} {vars locals v : Int} {w : Bool} (hb : M.get bx = some (.cells w [ii vars, ii locals, vs])) (hbo : Old M bx) (hx : M.get x = some (.cells true [ii (-1), ii 0])) (hxo : Old M x) (hbx : bx ≠ x) (hs : Sl M vs 9 (Sts steps)) (hn : steps.length ≤ 300) (hxs : x ∉ ids vs)
    {t : Tm} (g1 : NT.get D4.e.a t = some (.ptr bx 0)) (g2 : NT.get D4.e.a.b t = some (.ptr x 0)) (g3 : NT.get D4.e.a.c t = some (ii 0)) (g4 : NT.get D4.e.f t = some (ii ((steps.length : Int) - 1))) (g5 : NT.get D4.e.a.a t = some (ii v))
    {Q : Out → Dyn → Prop} (hQ : ∀ t' M', Same ks2 t t' → Chg [x] M M' → M'.get x = some (.cells true [ii (spanF (hitR steps locals v) steps.length).1, ii (spanF (hitR steps locals v) steps.length).2]) → Q (.exit 2) ⟨puts [] t', [], none, hp [] 0 M'⟩) :
    W Try.prog S0 none nf14_l2.loop ⟨t, [], none, M⟩ Q := by
  have hlen := hs.len
  rw [List.length_map] at hlen
  refine W.loop (fun k d => ∃ t' M' i, d = ⟨t', [], none, M'⟩ ∧ Same ks2 t t' ∧ Chg [x] M M' ∧ M'.get x = some (.cells true [ii (spanF (hitR steps locals v) i).1, ii (spanF (hitR steps locals v) i).2]) ∧ NT.get D4.e.a.c t' = some (ii (i : Nat)) ∧ i + k = steps.length)
    ?_ steps.length _ ⟨t, M, 0, rfl, Same.refl _ _, (Chg.refl _).weak (by simp), hx, g3, by omega⟩
  rintro k d ⟨t', M', i, rfl, hS, hC, hx', g3, hik⟩
  have g1 := hS.get g1 (by simp)
  have g2 := hS.get g2 (by simp)
  have g4 := hS.get g4 (by simp)
  have g5 := hS.get g5 (by simp)
  have hb' := (hC.get hbo (by simpa using hbx)).trans hb
  have hs' := hs.chg hC fun j hj => by simp; rintro rfl; exact hxs hj
  apply wp_sound
  unfold nf14_l2
  change wp _ _ _ _ ⟨puts [] t', [], none, M'⟩ _
  rw [← hp_nil M']
  have hbo' := hC.old hbo
  have hxo' := hC.old hxo
  by_cases hi : i < steps.length
  · obtain ⟨id, off, w', c, a1, a2, a3, a4, a5⟩ := hs'.at i (by simpa using hi)
    rw [List.getElem_map] at a5
    obtain ⟨uu, M1, hr1, hu, hC1⟩ := uses_ref M' steps[i]
    obtain ⟨M2, hr2, hC2⟩ := sets_ref M1 steps[i]
    have hb1 := (hC1.get hbo' (by simp)).trans hb'
    have a21 := (hC1.get a3 (by simp)).trans a2
    have hu2 := hu.sl.grew hC2
    have hul := uses_len steps[i]
    have ho1 := hC1.old hbo'
    have ho3 := hC1.old a3
    simp (config := { maxSteps := 1000000 }) (disch := (first | assumption | omega | exact Nm.old_n (by omega) | exact Nm.old_hp (by assumption) | (simp only [List.length_set, List.length_cons, List.length_nil, List.length_append, List.length_map, List.length_replicate] <;> omega))) only [nmS0, nmS1, nmS2, nmS3, nmS4, nmS5, nmS6, Nat.testBit, Nat.reduceShiftRight, Nat.reduceAnd, Nat.reduceBNe, cond_true, cond_false, NT.get_leaf, Nat.reduceSub, d_true, d_false, clsOf, beq_self_eq_true, Int.reduceToNat, Nat.reduceAdd, Nat.reduceMul, Nat.reduceEqDiff, decide_true, decide_false, if_true, if_false, ite_true, ite_false, reduceIte, reduceCtorEq, eq_self, true_and, and_true, true_implies, g1, g2, g3, g4, g5, hb', hlen, a1, a2, a5, hr1.wf', hb1, a21, hr2.wf', hp_nil]
    have hC3 := ((hC.trans hC1 fun _ h _ => by simp at h).trans hC2 fun _ h _ => by simp at h)
    have hx2 := (hC2.get (hC1.old hxo') (by simp)).trans ((hC1.get hxo' (by simp)).trans hx')
    have hb2 := (hC2.get ho1 (by simp)).trans hb1
    have hxo2 := hC2.old (hC1.old hxo')
    have hbo2 := hC2.old ho1
    have hh : hitR steps locals v i = (steps[i].hit v || (decide (v < locals) && (decide (i = 0) || decide (i + 1 = steps.length)))) := by
      unfold hitR; rw [List.getElem?_eq_getElem hi]
    have fin : ∀ (t2 : Tm) (p : Int × Int), Same ks2 t t2 → NT.get D4.e.a.c t2 = some (ii ((i : Int) + 1)) → spanF (hitR steps locals v) (i + 1) = p → ∀ M3, M3.get x = some (.cells true [ii p.1, ii p.2]) → Chg [x] M2 M3 →
        ∃ j, j < k ∧ ∃ t' M' i, (⟨t2, [], none, M3⟩ : Dyn) = ⟨t', [], none, M'⟩ ∧ Same ks2 t t' ∧ Chg [x] M M' ∧ M'.get x = some (.cells true [ii (spanF (hitR steps locals v) i).1, ii (spanF (hitR steps locals v) i).2]) ∧ NT.get D4.e.a.c t' = some (ii (i : Nat)) ∧ i + j = steps.length := by
      intro t2 p h1 h2 h3 M3 h4 h5
      exact ⟨k - 1, by omega, t2, M3, i + 1, rfl, h1, hC3.trans h5 (fun _ h _ => h), by rw [h3]; exact h4, h2, by omega⟩
    refine sp_l1 hu2 hul (q := decide (steps[i].sets = v)) (v := v) ?_ ?_ ?_ ?_ ?_
    · simp (config := { maxSteps := 1000000 }) (disch := (first | assumption | omega | exact Nm.old_n (by omega) | exact Nm.old_hp (by assumption) | (simp only [List.length_set, List.length_cons, List.length_nil, List.length_append, List.length_map, List.length_replicate] <;> omega))) only [nmS0, nmS1, nmS2, nmS3, nmS4, nmS5, nmS6, Nat.testBit, Nat.reduceShiftRight, Nat.reduceAnd, Nat.reduceBNe, cond_true, cond_false, NT.get_leaf, Nat.reduceSub, d_true, d_false, clsOf, beq_self_eq_true, Int.reduceToNat, Nat.reduceAdd, Nat.reduceMul, Nat.reduceEqDiff, decide_true, decide_false, if_true, if_false, ite_true, ite_false, reduceIte, reduceCtorEq, eq_self, true_and, and_true, true_implies]
    · simp (config := { maxSteps := 1000000 }) (disch := (first | assumption | omega | exact Nm.old_n (by omega) | exact Nm.old_hp (by assumption) | (simp only [List.length_set, List.length_cons, List.length_nil, List.length_append, List.length_map, List.length_replicate] <;> omega))) only [nmS0, nmS1, nmS2, nmS3, nmS4, nmS5, nmS6, Nat.testBit, Nat.reduceShiftRight, Nat.reduceAnd, Nat.reduceBNe, cond_true, cond_false, NT.get_leaf, Nat.reduceSub, d_true, d_false, clsOf, beq_self_eq_true, Int.reduceToNat, Nat.reduceAdd, Nat.reduceMul, Nat.reduceEqDiff, decide_true, decide_false, if_true, if_false, ite_true, ite_false, reduceIte, reduceCtorEq, eq_self, true_and, and_true, true_implies, g5]
    · simp (config := { maxSteps := 1000000 }) (disch := (first | assumption | omega | exact Nm.old_n (by omega) | exact Nm.old_hp (by assumption) | (simp only [List.length_set, List.length_cons, List.length_nil, List.length_append, List.length_map, List.length_replicate] <;> omega))) only [nmS0, nmS1, nmS2, nmS3, nmS4, nmS5, nmS6, Nat.testBit, Nat.reduceShiftRight, Nat.reduceAnd, Nat.reduceBNe, cond_true, cond_false, NT.get_leaf, Nat.reduceSub, d_true, d_false, clsOf, beq_self_eq_true, Int.reduceToNat, Nat.reduceAdd, Nat.reduceMul, Nat.reduceEqDiff, decide_true, decide_false, if_true, if_false, ite_true, ite_false, reduceIte, reduceCtorEq, eq_self, true_and, and_true, true_implies]
    · simp (config := { maxSteps := 1000000 }) (disch := (first | assumption | omega | exact Nm.old_n (by omega) | exact Nm.old_hp (by assumption) | (simp only [List.length_set, List.length_cons, List.length_nil, List.length_append, List.length_map, List.length_replicate] <;> omega))) only [nmS0, nmS1, nmS2, nmS3, nmS4, nmS5, nmS6, Nat.testBit, Nat.reduceShiftRight, Nat.reduceAnd, Nat.reduceBNe, cond_true, cond_false, NT.get_leaf, Nat.reduceSub, d_true, d_false, clsOf, beq_self_eq_true, Int.reduceToNat, Nat.reduceAdd, Nat.reduceMul, Nat.reduceEqDiff, decide_true, decide_false, if_true, if_false, ite_true, ite_false, reduceIte, reduceCtorEq, eq_self, true_and, and_true, true_implies]
    intro t2 hS2 hin
    have g1 : NT.get D4.e.a t2 = some (.ptr bx 0) := hS2.get (by simp (config := { maxSteps := 1000000 }) (disch := (first | assumption | omega | exact Nm.old_n (by omega) | exact Nm.old_hp (by assumption) | (simp only [List.length_set, List.length_cons, List.length_nil, List.length_append, List.length_map, List.length_replicate] <;> omega))) only [nmS0, nmS1, nmS2, nmS3, nmS4, nmS5, nmS6, Nat.testBit, Nat.reduceShiftRight, Nat.reduceAnd, Nat.reduceBNe, cond_true, cond_false, NT.get_leaf, Nat.reduceSub, d_true, d_false, clsOf, beq_self_eq_true, Int.reduceToNat, Nat.reduceAdd, Nat.reduceMul, Nat.reduceEqDiff, decide_true, decide_false, if_true, if_false, ite_true, ite_false, reduceIte, reduceCtorEq, eq_self, true_and, and_true, true_implies, g1]) (by simp)
    have g2 : NT.get D4.e.a.b t2 = some (.ptr x 0) := hS2.get (by simp (config := { maxSteps := 1000000 }) (disch := (first | assumption | omega | exact Nm.old_n (by omega) | exact Nm.old_hp (by assumption) | (simp only [List.length_set, List.length_cons, List.length_nil, List.length_append, List.length_map, List.length_replicate] <;> omega))) only [nmS0, nmS1, nmS2, nmS3, nmS4, nmS5, nmS6, Nat.testBit, Nat.reduceShiftRight, Nat.reduceAnd, Nat.reduceBNe, cond_true, cond_false, NT.get_leaf, Nat.reduceSub, d_true, d_false, clsOf, beq_self_eq_true, Int.reduceToNat, Nat.reduceAdd, Nat.reduceMul, Nat.reduceEqDiff, decide_true, decide_false, if_true, if_false, ite_true, ite_false, reduceIte, reduceCtorEq, eq_self, true_and, and_true, true_implies, g2]) (by simp)
    have g3 : NT.get D4.e.a.c t2 = some (ii i) := hS2.get (by simp (config := { maxSteps := 1000000 }) (disch := (first | assumption | omega | exact Nm.old_n (by omega) | exact Nm.old_hp (by assumption) | (simp only [List.length_set, List.length_cons, List.length_nil, List.length_append, List.length_map, List.length_replicate] <;> omega))) only [nmS0, nmS1, nmS2, nmS3, nmS4, nmS5, nmS6, Nat.testBit, Nat.reduceShiftRight, Nat.reduceAnd, Nat.reduceBNe, cond_true, cond_false, NT.get_leaf, Nat.reduceSub, d_true, d_false, clsOf, beq_self_eq_true, Int.reduceToNat, Nat.reduceAdd, Nat.reduceMul, Nat.reduceEqDiff, decide_true, decide_false, if_true, if_false, ite_true, ite_false, reduceIte, reduceCtorEq, eq_self, true_and, and_true, true_implies, g3]) (by simp)
    have g4 : NT.get D4.e.f t2 = some (ii ((steps.length : Int) - 1)) := hS2.get (by simp (config := { maxSteps := 1000000 }) (disch := (first | assumption | omega | exact Nm.old_n (by omega) | exact Nm.old_hp (by assumption) | (simp only [List.length_set, List.length_cons, List.length_nil, List.length_append, List.length_map, List.length_replicate] <;> omega))) only [nmS0, nmS1, nmS2, nmS3, nmS4, nmS5, nmS6, Nat.testBit, Nat.reduceShiftRight, Nat.reduceAnd, Nat.reduceBNe, cond_true, cond_false, NT.get_leaf, Nat.reduceSub, d_true, d_false, clsOf, beq_self_eq_true, Int.reduceToNat, Nat.reduceAdd, Nat.reduceMul, Nat.reduceEqDiff, decide_true, decide_false, if_true, if_false, ite_true, ite_false, reduceIte, reduceCtorEq, eq_self, true_and, and_true, true_implies, g4]) (by simp)
    have g5 : NT.get D4.e.a.a t2 = some (ii v) := hS2.get (by simp (config := { maxSteps := 1000000 }) (disch := (first | assumption | omega | exact Nm.old_n (by omega) | exact Nm.old_hp (by assumption) | (simp only [List.length_set, List.length_cons, List.length_nil, List.length_append, List.length_map, List.length_replicate] <;> omega))) only [nmS0, nmS1, nmS2, nmS3, nmS4, nmS5, nmS6, Nat.testBit, Nat.reduceShiftRight, Nat.reduceAnd, Nat.reduceBNe, cond_true, cond_false, NT.get_leaf, Nat.reduceSub, d_true, d_false, clsOf, beq_self_eq_true, Int.reduceToNat, Nat.reduceAdd, Nat.reduceMul, Nat.reduceEqDiff, decide_true, decide_false, if_true, if_false, ite_true, ite_false, reduceIte, reduceCtorEq, eq_self, true_and, and_true, true_implies, g5]) (by simp)
    have hS3 : Same ks2 t t2 := by
      refine (hS.puts _ ?_).trans hS2 ?_ <;> simp
    have hhit : (decide (steps[i].sets = v) || steps[i].uses.any (· == v)) = steps[i].hit v := by
      unfold St.hit; congr 1
    rw [hhit] at hin
    rw [← hp_nil M2]
    have upd : hitR steps locals v i = true → ∀ (q : Int × Int), q = spanF (hitR steps locals v) i → spanF (hitR steps locals v) (i + 1) = (if q.1 < 0 then (i : Int) else q.1, (i : Int)) := by
      rintro h q rfl
      show (if hitR steps locals v i then _ else _) = _
      rw [h]; rfl
    generalize hp1 : spanF (hitR steps locals v) i = p1 at hx2
    have set2 : ([ii p1.1, ii p1.2].set 0 (ii i)).set 1 (ii i) = [ii i, ii i] := rfl
    have set1 : [ii p1.1, ii p1.2].set 1 (ii i) = [ii p1.1, ii i] := rfl
    cases hh1 : steps[i].hit v with
    | true =>
      rw [hh1] at hin
      have hu1 := upd (by rw [hh, hh1]; rfl) p1 hp1.symm
      by_cases hneg : p1.1 < 0
      · simp (config := { maxSteps := 1000000 }) (disch := (first | assumption | omega | exact Nm.old_n (by omega) | exact Nm.old_hp (by assumption) | (simp only [List.length_set, List.length_cons, List.length_nil, List.length_append, List.length_map, List.length_replicate] <;> omega))) only [nmS0, nmS1, nmS2, nmS3, nmS4, nmS5, nmS6, Nat.testBit, Nat.reduceShiftRight, Nat.reduceAnd, Nat.reduceBNe, cond_true, cond_false, NT.get_leaf, Nat.reduceSub, d_true, d_false, clsOf, beq_self_eq_true, Int.reduceToNat, Nat.reduceAdd, Nat.reduceMul, Nat.reduceEqDiff, decide_true, decide_false, if_true, if_false, ite_true, ite_false, reduceIte, reduceCtorEq, eq_self, true_and, and_true, true_implies, g1, g2, g3, g4, g5, hin, hx2, hb2]
        refine fin _ _ (hS3.puts _ ?_) ?_ hu1 _ ?_ ?_
        · simp
        · simp (config := { maxSteps := 1000000 }) (disch := (first | assumption | omega | exact Nm.old_n (by omega) | exact Nm.old_hp (by assumption) | (simp only [List.length_set, List.length_cons, List.length_nil, List.length_append, List.length_map, List.length_replicate] <;> omega))) only [nmS0, nmS1, nmS2, nmS3, nmS4, nmS5, nmS6, Nat.testBit, Nat.reduceShiftRight, Nat.reduceAnd, Nat.reduceBNe, cond_true, cond_false, NT.get_leaf, Nat.reduceSub, d_true, d_false, clsOf, beq_self_eq_true, Int.reduceToNat, Nat.reduceAdd, Nat.reduceMul, Nat.reduceEqDiff, decide_true, decide_false, if_true, if_false, ite_true, ite_false, reduceIte, reduceCtorEq, eq_self, true_and, and_true, true_implies]
        · simp only [hneg, if_true]; exact (h_getO hxo2).trans h_lookOs
        · exact (hp_of rfl).weak (by simp [oldK])
      · simp (config := { maxSteps := 1000000 }) (disch := (first | assumption | omega | exact Nm.old_n (by omega) | exact Nm.old_hp (by assumption) | (simp only [List.length_set, List.length_cons, List.length_nil, List.length_append, List.length_map, List.length_replicate] <;> omega))) only [nmS0, nmS1, nmS2, nmS3, nmS4, nmS5, nmS6, Nat.testBit, Nat.reduceShiftRight, Nat.reduceAnd, Nat.reduceBNe, cond_true, cond_false, NT.get_leaf, Nat.reduceSub, d_true, d_false, clsOf, beq_self_eq_true, Int.reduceToNat, Nat.reduceAdd, Nat.reduceMul, Nat.reduceEqDiff, decide_true, decide_false, if_true, if_false, ite_true, ite_false, reduceIte, reduceCtorEq, eq_self, true_and, and_true, true_implies, g1, g2, g3, g4, g5, hin, hx2, hb2]
        refine fin _ _ (hS3.puts _ ?_) ?_ hu1 _ ?_ ?_
        · simp
        · simp (config := { maxSteps := 1000000 }) (disch := (first | assumption | omega | exact Nm.old_n (by omega) | exact Nm.old_hp (by assumption) | (simp only [List.length_set, List.length_cons, List.length_nil, List.length_append, List.length_map, List.length_replicate] <;> omega))) only [nmS0, nmS1, nmS2, nmS3, nmS4, nmS5, nmS6, Nat.testBit, Nat.reduceShiftRight, Nat.reduceAnd, Nat.reduceBNe, cond_true, cond_false, NT.get_leaf, Nat.reduceSub, d_true, d_false, clsOf, beq_self_eq_true, Int.reduceToNat, Nat.reduceAdd, Nat.reduceMul, Nat.reduceEqDiff, decide_true, decide_false, if_true, if_false, ite_true, ite_false, reduceIte, reduceCtorEq, eq_self, true_and, and_true, true_implies]
        · simp only [hneg, if_false]; exact (h_getO hxo2).trans h_lookOs
        · exact (hp_of rfl).weak (by simp [oldK])
    | false =>
      rw [hh1] at hin
      by_cases hv : v < locals
      · by_cases h0 : i = 0 ∨ i + 1 = steps.length
        · have hu1 := upd (by rw [hh, hh1]; simpa [hv] using h0) p1 hp1.symm
          by_cases hneg : p1.1 < 0
          · rcases h0 with h0 | h0
            · simp (config := { maxSteps := 1000000 }) (disch := (first | assumption | omega | exact Nm.old_n (by omega) | exact Nm.old_hp (by assumption) | (simp only [List.length_set, List.length_cons, List.length_nil, List.length_append, List.length_map, List.length_replicate] <;> omega))) only [nmS0, nmS1, nmS2, nmS3, nmS4, nmS5, nmS6, Nat.testBit, Nat.reduceShiftRight, Nat.reduceAnd, Nat.reduceBNe, cond_true, cond_false, NT.get_leaf, Nat.reduceSub, d_true, d_false, clsOf, beq_self_eq_true, Int.reduceToNat, Nat.reduceAdd, Nat.reduceMul, Nat.reduceEqDiff, decide_true, decide_false, if_true, if_false, ite_true, ite_false, reduceIte, reduceCtorEq, eq_self, true_and, and_true, true_implies, g1, g2, g3, g4, g5, hin, hx2, hb2]
              refine fin _ _ (hS3.puts _ ?_) ?_ hu1 _ ?_ ?_
              · simp
              · simp (config := { maxSteps := 1000000 }) (disch := (first | assumption | omega | exact Nm.old_n (by omega) | exact Nm.old_hp (by assumption) | (simp only [List.length_set, List.length_cons, List.length_nil, List.length_append, List.length_map, List.length_replicate] <;> omega))) only [nmS0, nmS1, nmS2, nmS3, nmS4, nmS5, nmS6, Nat.testBit, Nat.reduceShiftRight, Nat.reduceAnd, Nat.reduceBNe, cond_true, cond_false, NT.get_leaf, Nat.reduceSub, d_true, d_false, clsOf, beq_self_eq_true, Int.reduceToNat, Nat.reduceAdd, Nat.reduceMul, Nat.reduceEqDiff, decide_true, decide_false, if_true, if_false, ite_true, ite_false, reduceIte, reduceCtorEq, eq_self, true_and, and_true, true_implies]
              · simp only [hneg, if_true]; exact (h_getO hxo2).trans h_lookOs
              · exact (hp_of rfl).weak (by simp [oldK])
            · by_cases h00 : i = 0
              · simp (config := { maxSteps := 1000000 }) (disch := (first | assumption | omega | exact Nm.old_n (by omega) | exact Nm.old_hp (by assumption) | (simp only [List.length_set, List.length_cons, List.length_nil, List.length_append, List.length_map, List.length_replicate] <;> omega))) only [nmS0, nmS1, nmS2, nmS3, nmS4, nmS5, nmS6, Nat.testBit, Nat.reduceShiftRight, Nat.reduceAnd, Nat.reduceBNe, cond_true, cond_false, NT.get_leaf, Nat.reduceSub, d_true, d_false, clsOf, beq_self_eq_true, Int.reduceToNat, Nat.reduceAdd, Nat.reduceMul, Nat.reduceEqDiff, decide_true, decide_false, if_true, if_false, ite_true, ite_false, reduceIte, reduceCtorEq, eq_self, true_and, and_true, true_implies, g1, g2, g3, g4, g5, hin, hx2, hb2]
                refine fin _ _ (hS3.puts _ ?_) ?_ hu1 _ ?_ ?_
                · simp
                · simp (config := { maxSteps := 1000000 }) (disch := (first | assumption | omega | exact Nm.old_n (by omega) | exact Nm.old_hp (by assumption) | (simp only [List.length_set, List.length_cons, List.length_nil, List.length_append, List.length_map, List.length_replicate] <;> omega))) only [nmS0, nmS1, nmS2, nmS3, nmS4, nmS5, nmS6, Nat.testBit, Nat.reduceShiftRight, Nat.reduceAnd, Nat.reduceBNe, cond_true, cond_false, NT.get_leaf, Nat.reduceSub, d_true, d_false, clsOf, beq_self_eq_true, Int.reduceToNat, Nat.reduceAdd, Nat.reduceMul, Nat.reduceEqDiff, decide_true, decide_false, if_true, if_false, ite_true, ite_false, reduceIte, reduceCtorEq, eq_self, true_and, and_true, true_implies]
                · simp only [hneg, if_true]; exact (h_getO hxo2).trans h_lookOs
                · exact (hp_of rfl).weak (by simp [oldK])
              · simp (config := { maxSteps := 1000000 }) (disch := (first | assumption | omega | exact Nm.old_n (by omega) | exact Nm.old_hp (by assumption) | (simp only [List.length_set, List.length_cons, List.length_nil, List.length_append, List.length_map, List.length_replicate] <;> omega))) only [nmS0, nmS1, nmS2, nmS3, nmS4, nmS5, nmS6, Nat.testBit, Nat.reduceShiftRight, Nat.reduceAnd, Nat.reduceBNe, cond_true, cond_false, NT.get_leaf, Nat.reduceSub, d_true, d_false, clsOf, beq_self_eq_true, Int.reduceToNat, Nat.reduceAdd, Nat.reduceMul, Nat.reduceEqDiff, decide_true, decide_false, if_true, if_false, ite_true, ite_false, reduceIte, reduceCtorEq, eq_self, true_and, and_true, true_implies, g1, g2, g3, g4, g5, hin, hx2, hb2]
                refine fin _ _ (hS3.puts _ ?_) ?_ hu1 _ ?_ ?_
                · simp
                · simp (config := { maxSteps := 1000000 }) (disch := (first | assumption | omega | exact Nm.old_n (by omega) | exact Nm.old_hp (by assumption) | (simp only [List.length_set, List.length_cons, List.length_nil, List.length_append, List.length_map, List.length_replicate] <;> omega))) only [nmS0, nmS1, nmS2, nmS3, nmS4, nmS5, nmS6, Nat.testBit, Nat.reduceShiftRight, Nat.reduceAnd, Nat.reduceBNe, cond_true, cond_false, NT.get_leaf, Nat.reduceSub, d_true, d_false, clsOf, beq_self_eq_true, Int.reduceToNat, Nat.reduceAdd, Nat.reduceMul, Nat.reduceEqDiff, decide_true, decide_false, if_true, if_false, ite_true, ite_false, reduceIte, reduceCtorEq, eq_self, true_and, and_true, true_implies]
                · simp only [hneg, if_true]; exact (h_getO hxo2).trans h_lookOs
                · exact (hp_of rfl).weak (by simp [oldK])
          · by_cases h00 : i = 0
            · simp (config := { maxSteps := 1000000 }) (disch := (first | assumption | omega | exact Nm.old_n (by omega) | exact Nm.old_hp (by assumption) | (simp only [List.length_set, List.length_cons, List.length_nil, List.length_append, List.length_map, List.length_replicate] <;> omega))) only [nmS0, nmS1, nmS2, nmS3, nmS4, nmS5, nmS6, Nat.testBit, Nat.reduceShiftRight, Nat.reduceAnd, Nat.reduceBNe, cond_true, cond_false, NT.get_leaf, Nat.reduceSub, d_true, d_false, clsOf, beq_self_eq_true, Int.reduceToNat, Nat.reduceAdd, Nat.reduceMul, Nat.reduceEqDiff, decide_true, decide_false, if_true, if_false, ite_true, ite_false, reduceIte, reduceCtorEq, eq_self, true_and, and_true, true_implies, g1, g2, g3, g4, g5, hin, hx2, hb2]
              refine fin _ _ (hS3.puts _ ?_) ?_ hu1 _ ?_ ?_
              · simp
              · simp (config := { maxSteps := 1000000 }) (disch := (first | assumption | omega | exact Nm.old_n (by omega) | exact Nm.old_hp (by assumption) | (simp only [List.length_set, List.length_cons, List.length_nil, List.length_append, List.length_map, List.length_replicate] <;> omega))) only [nmS0, nmS1, nmS2, nmS3, nmS4, nmS5, nmS6, Nat.testBit, Nat.reduceShiftRight, Nat.reduceAnd, Nat.reduceBNe, cond_true, cond_false, NT.get_leaf, Nat.reduceSub, d_true, d_false, clsOf, beq_self_eq_true, Int.reduceToNat, Nat.reduceAdd, Nat.reduceMul, Nat.reduceEqDiff, decide_true, decide_false, if_true, if_false, ite_true, ite_false, reduceIte, reduceCtorEq, eq_self, true_and, and_true, true_implies]
              · simp only [hneg, if_false]; exact (h_getO hxo2).trans h_lookOs
              · exact (hp_of rfl).weak (by simp [oldK])
            · have h0 : i + 1 = steps.length := by omega
              simp (config := { maxSteps := 1000000 }) (disch := (first | assumption | omega | exact Nm.old_n (by omega) | exact Nm.old_hp (by assumption) | (simp only [List.length_set, List.length_cons, List.length_nil, List.length_append, List.length_map, List.length_replicate] <;> omega))) only [nmS0, nmS1, nmS2, nmS3, nmS4, nmS5, nmS6, Nat.testBit, Nat.reduceShiftRight, Nat.reduceAnd, Nat.reduceBNe, cond_true, cond_false, NT.get_leaf, Nat.reduceSub, d_true, d_false, clsOf, beq_self_eq_true, Int.reduceToNat, Nat.reduceAdd, Nat.reduceMul, Nat.reduceEqDiff, decide_true, decide_false, if_true, if_false, ite_true, ite_false, reduceIte, reduceCtorEq, eq_self, true_and, and_true, true_implies, g1, g2, g3, g4, g5, hin, hx2, hb2]
              refine fin _ _ (hS3.puts _ ?_) ?_ hu1 _ ?_ ?_
              · simp
              · simp (config := { maxSteps := 1000000 }) (disch := (first | assumption | omega | exact Nm.old_n (by omega) | exact Nm.old_hp (by assumption) | (simp only [List.length_set, List.length_cons, List.length_nil, List.length_append, List.length_map, List.length_replicate] <;> omega))) only [nmS0, nmS1, nmS2, nmS3, nmS4, nmS5, nmS6, Nat.testBit, Nat.reduceShiftRight, Nat.reduceAnd, Nat.reduceBNe, cond_true, cond_false, NT.get_leaf, Nat.reduceSub, d_true, d_false, clsOf, beq_self_eq_true, Int.reduceToNat, Nat.reduceAdd, Nat.reduceMul, Nat.reduceEqDiff, decide_true, decide_false, if_true, if_false, ite_true, ite_false, reduceIte, reduceCtorEq, eq_self, true_and, and_true, true_implies]
              · simp only [hneg, if_false]; exact (h_getO hxo2).trans h_lookOs
              · exact (hp_of rfl).weak (by simp [oldK])
        · have hu1 : spanF (hitR steps locals v) (i + 1) = p1 := by
            show (if hitR steps locals v i then _ else _) = _
            rw [hh, hh1]; simp [h0, hp1]
          simp (config := { maxSteps := 1000000 }) (disch := (first | assumption | omega | exact Nm.old_n (by omega) | exact Nm.old_hp (by assumption) | (simp only [List.length_set, List.length_cons, List.length_nil, List.length_append, List.length_map, List.length_replicate] <;> omega))) only [nmS0, nmS1, nmS2, nmS3, nmS4, nmS5, nmS6, Nat.testBit, Nat.reduceShiftRight, Nat.reduceAnd, Nat.reduceBNe, cond_true, cond_false, NT.get_leaf, Nat.reduceSub, d_true, d_false, clsOf, beq_self_eq_true, Int.reduceToNat, Nat.reduceAdd, Nat.reduceMul, Nat.reduceEqDiff, decide_true, decide_false, if_true, if_false, ite_true, ite_false, reduceIte, reduceCtorEq, eq_self, true_and, and_true, true_implies, g1, g2, g3, g4, g5, hin, hx2, hb2]
          refine fin _ _ (hS3.puts _ ?_) ?_ hu1 _ ?_ ?_
          · simp
          · simp (config := { maxSteps := 1000000 }) (disch := (first | assumption | omega | exact Nm.old_n (by omega) | exact Nm.old_hp (by assumption) | (simp only [List.length_set, List.length_cons, List.length_nil, List.length_append, List.length_map, List.length_replicate] <;> omega))) only [nmS0, nmS1, nmS2, nmS3, nmS4, nmS5, nmS6, Nat.testBit, Nat.reduceShiftRight, Nat.reduceAnd, Nat.reduceBNe, cond_true, cond_false, NT.get_leaf, Nat.reduceSub, d_true, d_false, clsOf, beq_self_eq_true, Int.reduceToNat, Nat.reduceAdd, Nat.reduceMul, Nat.reduceEqDiff, decide_true, decide_false, if_true, if_false, ite_true, ite_false, reduceIte, reduceCtorEq, eq_self, true_and, and_true, true_implies]
          · rw [hp_nil]; exact hx2
          · rw [hp_nil]; exact (Chg.refl _).weak (by simp)
      · have hu1 : spanF (hitR steps locals v) (i + 1) = p1 := by
          show (if hitR steps locals v i then _ else _) = _
          rw [hh, hh1]; simp [hv, hp1]
        simp (config := { maxSteps := 1000000 }) (disch := (first | assumption | omega | exact Nm.old_n (by omega) | exact Nm.old_hp (by assumption) | (simp only [List.length_set, List.length_cons, List.length_nil, List.length_append, List.length_map, List.length_replicate] <;> omega))) only [nmS0, nmS1, nmS2, nmS3, nmS4, nmS5, nmS6, Nat.testBit, Nat.reduceShiftRight, Nat.reduceAnd, Nat.reduceBNe, cond_true, cond_false, NT.get_leaf, Nat.reduceSub, d_true, d_false, clsOf, beq_self_eq_true, Int.reduceToNat, Nat.reduceAdd, Nat.reduceMul, Nat.reduceEqDiff, decide_true, decide_false, if_true, if_false, ite_true, ite_false, reduceIte, reduceCtorEq, eq_self, true_and, and_true, true_implies, g1, g2, g3, g4, g5, hin, hx2, hb2]
        refine fin _ _ (hS3.puts _ ?_) ?_ hu1 _ ?_ ?_
        · simp
        · simp (config := { maxSteps := 1000000 }) (disch := (first | assumption | omega | exact Nm.old_n (by omega) | exact Nm.old_hp (by assumption) | (simp only [List.length_set, List.length_cons, List.length_nil, List.length_append, List.length_map, List.length_replicate] <;> omega))) only [nmS0, nmS1, nmS2, nmS3, nmS4, nmS5, nmS6, Nat.testBit, Nat.reduceShiftRight, Nat.reduceAnd, Nat.reduceBNe, cond_true, cond_false, NT.get_leaf, Nat.reduceSub, d_true, d_false, clsOf, beq_self_eq_true, Int.reduceToNat, Nat.reduceAdd, Nat.reduceMul, Nat.reduceEqDiff, decide_true, decide_false, if_true, if_false, ite_true, ite_false, reduceIte, reduceCtorEq, eq_self, true_and, and_true, true_implies]
        · rw [hp_nil]; exact hx2
        · rw [hp_nil]; exact (Chg.refl _).weak (by simp)
  · simp (config := { maxSteps := 1000000 }) (disch := (first | assumption | omega | exact Nm.old_n (by omega) | exact Nm.old_hp (by assumption) | (simp only [List.length_set, List.length_cons, List.length_nil, List.length_append, List.length_map, List.length_replicate] <;> omega))) only [nmS0, nmS1, nmS2, nmS3, nmS4, nmS5, nmS6, Nat.testBit, Nat.reduceShiftRight, Nat.reduceAnd, Nat.reduceBNe, cond_true, cond_false, NT.get_leaf, Nat.reduceSub, d_true, d_false, clsOf, beq_self_eq_true, Int.reduceToNat, Nat.reduceAdd, Nat.reduceMul, Nat.reduceEqDiff, decide_true, decide_false, if_true, if_false, ite_true, ite_false, reduceIte, reduceCtorEq, eq_self, true_and, and_true, true_implies, g1, g2, g3, g4, hlen, hb']
    have e : i = steps.length := by omega
    subst e
    have hQ' := fun L t' => hQ (puts L t')
    simp only [puts_nil] at hQ'
    refine hQ' _ _ _ (hS.puts _ ?_) hC hx'
    simp
end LV

open Go Nm Go.Proofs
namespace LV
set_option linter.unusedSimpArgs false
set_option linter.unusedVariables false
def spansR (vars locals : Int) (steps : List St) (n : Nat) : List (Int × Int) := (List.range n).map fun (v : Nat) => spanF (hitR steps locals v) steps.length
theorem spansR_succ (vars locals : Int) (steps : List St) (n : Nat) : spansR vars locals steps (n + 1) = spansR vars locals steps n ++ [spanF (hitR steps locals n) steps.length] := by
  simp [spansR, List.range_succ]
theorem spansR_len (vars locals : Int) (steps : List St) (n : Nat) : (spansR vars locals steps n).length = n := by simp [spansR]
theorem cut_nat (vars : Int) : 0 ≤ cut vars 0 400 ∧ cut vars 0 400 ≤ 400 := by
  unfold cut
  split
  · omega
  · split <;> omega
theorem sp_l3 {M : NH} {bx : D4} {vs : NV} {steps : List St} {vars locals : Int} {w : Bool} (hb : M.get bx = some (.cells w [ii vars, ii locals, vs])) (hbo : Old M bx) (hs : Sl M vs 9 (Sts steps)) (hn : steps.length ≤ 300)
    {t : Tm} (g1 : NT.get D4.e.a t = some (.ptr bx 0)) (g3 : NT.get D4.e.a.a t = some (ii 0)) (g4 : NT.get D4.e.f t = some (ii ((steps.length : Int) - 1))) (g5 : NT.get D4.e.c t = some .nils)
    {Q : Out → Dyn → Prop} (hQ : ∀ t' M' u, Chg [] M M' → NT.get D4.e.c t' = some u → Own M M' u 2 (Prs (spansR vars locals steps (cut vars 0 400).toNat)) → Q (.exit 0) ⟨puts [] t', [], none, hp [] 0 M'⟩) :
    W Try.prog S0 none nf14_l3.loop ⟨t, [], none, M⟩ Q := by
  have hcn := cut_nat vars
  refine W.loop (fun k d => ∃ t' M' i u, d = ⟨t', [], none, M'⟩ ∧ NT.get D4.e.a t' = some (.ptr bx 0) ∧ NT.get D4.e.f t' = some (ii ((steps.length : Int) - 1)) ∧ Chg [] M M' ∧ NT.get D4.e.c t' = some u ∧ Own M M' u 2 (Prs (spansR vars locals steps i)) ∧ NT.get D4.e.a.a t' = some (ii (i : Nat)) ∧ i + k = (cut vars 0 400).toNat)
    ?_ (cut vars 0 400).toNat _ ⟨t, M, 0, .nils, rfl, g1, g4, Chg.refl _, g5, Own.nil, g3, by omega⟩
  rintro k d ⟨t', M', i, u, rfl, g1, g4, hC, g5, hu, g3, hik⟩
  have hb' := (hC.get hbo (by simp)).trans hb
  have hs' := hs.grew hC
  have hbo' := hC.old hbo
  apply wp_sound
  unfold nf14_l3
  change wp _ _ _ _ ⟨puts [] t', [], none, M'⟩ _
  rw [← hp_nil M']
  by_cases hi : i < (cut vars 0 400).toNat
  · simp (config := { maxSteps := 1000000 }) (disch := (first | assumption | omega | exact Nm.old_n (by omega) | exact Nm.old_hp (by assumption) | (simp only [List.length_set, List.length_cons, List.length_nil, List.length_append, List.length_map, List.length_replicate] <;> omega))) only [nmS0, nmS1, nmS2, nmS3, nmS4, nmS5, nmS6, Nat.testBit, Nat.reduceShiftRight, Nat.reduceAnd, Nat.reduceBNe, cond_true, cond_false, NT.get_leaf, Nat.reduceSub, d_true, d_false, clsOf, beq_self_eq_true, Int.reduceToNat, Nat.reduceAdd, Nat.reduceMul, Nat.reduceEqDiff, decide_true, decide_false, if_true, if_false, ite_true, ite_false, reduceIte, reduceCtorEq, eq_self, true_and, and_true, true_implies, g1, g4, g3, g5, hb', (cut_ref _ vars 0 400).wf']
    have hxs : na M' 0 ∉ ids vs := fun h => na_old (hs'.old _ h)
    refine sp_l2 (bx := bx) (x := na M' 0) (vs := vs) (steps := steps) (vars := vars) (locals := locals) (v := i) (w := w) ?_ ?_ ?_ ?_ (hbo'.ne 0) (hs'.grew (hp_of rfl)) hn hxs ?_ ?_ ?_ ?_ ?_ ?_
    · simp (config := { maxSteps := 1000000 }) (disch := (first | assumption | omega | exact Nm.old_n (by omega) | exact Nm.old_hp (by assumption) | (simp only [List.length_set, List.length_cons, List.length_nil, List.length_append, List.length_map, List.length_replicate] <;> omega))) only [nmS0, nmS1, nmS2, nmS3, nmS4, nmS5, nmS6, Nat.testBit, Nat.reduceShiftRight, Nat.reduceAnd, Nat.reduceBNe, cond_true, cond_false, NT.get_leaf, Nat.reduceSub, d_true, d_false, clsOf, beq_self_eq_true, Int.reduceToNat, Nat.reduceAdd, Nat.reduceMul, Nat.reduceEqDiff, decide_true, decide_false, if_true, if_false, ite_true, ite_false, reduceIte, reduceCtorEq, eq_self, true_and, and_true, true_implies, hb']
    · exact old_hp hbo'
    · simp (config := { maxSteps := 1000000 }) (disch := (first | assumption | omega | exact Nm.old_n (by omega) | exact Nm.old_hp (by assumption) | (simp only [List.length_set, List.length_cons, List.length_nil, List.length_append, List.length_map, List.length_replicate] <;> omega))) only [nmS0, nmS1, nmS2, nmS3, nmS4, nmS5, nmS6, Nat.testBit, Nat.reduceShiftRight, Nat.reduceAnd, Nat.reduceBNe, cond_true, cond_false, NT.get_leaf, Nat.reduceSub, d_true, d_false, clsOf, beq_self_eq_true, Int.reduceToNat, Nat.reduceAdd, Nat.reduceMul, Nat.reduceEqDiff, decide_true, decide_false, if_true, if_false, ite_true, ite_false, reduceIte, reduceCtorEq, eq_self, true_and, and_true, true_implies]
    · exact old_n (by omega)
    · simp (config := { maxSteps := 1000000 }) (disch := (first | assumption | omega | exact Nm.old_n (by omega) | exact Nm.old_hp (by assumption) | (simp only [List.length_set, List.length_cons, List.length_nil, List.length_append, List.length_map, List.length_replicate] <;> omega))) only [nmS0, nmS1, nmS2, nmS3, nmS4, nmS5, nmS6, Nat.testBit, Nat.reduceShiftRight, Nat.reduceAnd, Nat.reduceBNe, cond_true, cond_false, NT.get_leaf, Nat.reduceSub, d_true, d_false, clsOf, beq_self_eq_true, Int.reduceToNat, Nat.reduceAdd, Nat.reduceMul, Nat.reduceEqDiff, decide_true, decide_false, if_true, if_false, ite_true, ite_false, reduceIte, reduceCtorEq, eq_self, true_and, and_true, true_implies, g1]
    · simp (config := { maxSteps := 1000000 }) (disch := (first | assumption | omega | exact Nm.old_n (by omega) | exact Nm.old_hp (by assumption) | (simp only [List.length_set, List.length_cons, List.length_nil, List.length_append, List.length_map, List.length_replicate] <;> omega))) only [nmS0, nmS1, nmS2, nmS3, nmS4, nmS5, nmS6, Nat.testBit, Nat.reduceShiftRight, Nat.reduceAnd, Nat.reduceBNe, cond_true, cond_false, NT.get_leaf, Nat.reduceSub, d_true, d_false, clsOf, beq_self_eq_true, Int.reduceToNat, Nat.reduceAdd, Nat.reduceMul, Nat.reduceEqDiff, decide_true, decide_false, if_true, if_false, ite_true, ite_false, reduceIte, reduceCtorEq, eq_self, true_and, and_true, true_implies]
    · simp (config := { maxSteps := 1000000 }) (disch := (first | assumption | omega | exact Nm.old_n (by omega) | exact Nm.old_hp (by assumption) | (simp only [List.length_set, List.length_cons, List.length_nil, List.length_append, List.length_map, List.length_replicate] <;> omega))) only [nmS0, nmS1, nmS2, nmS3, nmS4, nmS5, nmS6, Nat.testBit, Nat.reduceShiftRight, Nat.reduceAnd, Nat.reduceBNe, cond_true, cond_false, NT.get_leaf, Nat.reduceSub, d_true, d_false, clsOf, beq_self_eq_true, Int.reduceToNat, Nat.reduceAdd, Nat.reduceMul, Nat.reduceEqDiff, decide_true, decide_false, if_true, if_false, ite_true, ite_false, reduceIte, reduceCtorEq, eq_self, true_and, and_true, true_implies]
    · simp (config := { maxSteps := 1000000 }) (disch := (first | assumption | omega | exact Nm.old_n (by omega) | exact Nm.old_hp (by assumption) | (simp only [List.length_set, List.length_cons, List.length_nil, List.length_append, List.length_map, List.length_replicate] <;> omega))) only [nmS0, nmS1, nmS2, nmS3, nmS4, nmS5, nmS6, Nat.testBit, Nat.reduceShiftRight, Nat.reduceAnd, Nat.reduceBNe, cond_true, cond_false, NT.get_leaf, Nat.reduceSub, d_true, d_false, clsOf, beq_self_eq_true, Int.reduceToNat, Nat.reduceAdd, Nat.reduceMul, Nat.reduceEqDiff, decide_true, decide_false, if_true, if_false, ite_true, ite_false, reduceIte, reduceCtorEq, eq_self, true_and, and_true, true_implies, g4]
    · simp (config := { maxSteps := 1000000 }) (disch := (first | assumption | omega | exact Nm.old_n (by omega) | exact Nm.old_hp (by assumption) | (simp only [List.length_set, List.length_cons, List.length_nil, List.length_append, List.length_map, List.length_replicate] <;> omega))) only [nmS0, nmS1, nmS2, nmS3, nmS4, nmS5, nmS6, Nat.testBit, Nat.reduceShiftRight, Nat.reduceAnd, Nat.reduceBNe, cond_true, cond_false, NT.get_leaf, Nat.reduceSub, d_true, d_false, clsOf, beq_self_eq_true, Int.reduceToNat, Nat.reduceAdd, Nat.reduceMul, Nat.reduceEqDiff, decide_true, decide_false, if_true, if_false, ite_true, ite_false, reduceIte, reduceCtorEq, eq_self, true_and, and_true, true_implies, g3]
    intro t2 M2 hS2 hC2 hx2
    have g1 : NT.get D4.e.a t2 = some (.ptr bx 0) := hS2.get (by simp (config := { maxSteps := 1000000 }) (disch := (first | assumption | omega | exact Nm.old_n (by omega) | exact Nm.old_hp (by assumption) | (simp only [List.length_set, List.length_cons, List.length_nil, List.length_append, List.length_map, List.length_replicate] <;> omega))) only [nmS0, nmS1, nmS2, nmS3, nmS4, nmS5, nmS6, Nat.testBit, Nat.reduceShiftRight, Nat.reduceAnd, Nat.reduceBNe, cond_true, cond_false, NT.get_leaf, Nat.reduceSub, d_true, d_false, clsOf, beq_self_eq_true, Int.reduceToNat, Nat.reduceAdd, Nat.reduceMul, Nat.reduceEqDiff, decide_true, decide_false, if_true, if_false, ite_true, ite_false, reduceIte, reduceCtorEq, eq_self, true_and, and_true, true_implies, g1]) (by simp)
    have g2 : NT.get D4.e.a.b t2 = some (.ptr (na M' 0) 0) := hS2.get (by simp (config := { maxSteps := 1000000 }) (disch := (first | assumption | omega | exact Nm.old_n (by omega) | exact Nm.old_hp (by assumption) | (simp only [List.length_set, List.length_cons, List.length_nil, List.length_append, List.length_map, List.length_replicate] <;> omega))) only [nmS0, nmS1, nmS2, nmS3, nmS4, nmS5, nmS6, Nat.testBit, Nat.reduceShiftRight, Nat.reduceAnd, Nat.reduceBNe, cond_true, cond_false, NT.get_leaf, Nat.reduceSub, d_true, d_false, clsOf, beq_self_eq_true, Int.reduceToNat, Nat.reduceAdd, Nat.reduceMul, Nat.reduceEqDiff, decide_true, decide_false, if_true, if_false, ite_true, ite_false, reduceIte, reduceCtorEq, eq_self, true_and, and_true, true_implies]) (by simp)
    have g3 : NT.get D4.e.a.a t2 = some (ii i) := hS2.get (by simp (config := { maxSteps := 1000000 }) (disch := (first | assumption | omega | exact Nm.old_n (by omega) | exact Nm.old_hp (by assumption) | (simp only [List.length_set, List.length_cons, List.length_nil, List.length_append, List.length_map, List.length_replicate] <;> omega))) only [nmS0, nmS1, nmS2, nmS3, nmS4, nmS5, nmS6, Nat.testBit, Nat.reduceShiftRight, Nat.reduceAnd, Nat.reduceBNe, cond_true, cond_false, NT.get_leaf, Nat.reduceSub, d_true, d_false, clsOf, beq_self_eq_true, Int.reduceToNat, Nat.reduceAdd, Nat.reduceMul, Nat.reduceEqDiff, decide_true, decide_false, if_true, if_false, ite_true, ite_false, reduceIte, reduceCtorEq, eq_self, true_and, and_true, true_implies, g3]) (by simp)
    have g4 : NT.get D4.e.f t2 = some (ii ((steps.length : Int) - 1)) := hS2.get (by simp (config := { maxSteps := 1000000 }) (disch := (first | assumption | omega | exact Nm.old_n (by omega) | exact Nm.old_hp (by assumption) | (simp only [List.length_set, List.length_cons, List.length_nil, List.length_append, List.length_map, List.length_replicate] <;> omega))) only [nmS0, nmS1, nmS2, nmS3, nmS4, nmS5, nmS6, Nat.testBit, Nat.reduceShiftRight, Nat.reduceAnd, Nat.reduceBNe, cond_true, cond_false, NT.get_leaf, Nat.reduceSub, d_true, d_false, clsOf, beq_self_eq_true, Int.reduceToNat, Nat.reduceAdd, Nat.reduceMul, Nat.reduceEqDiff, decide_true, decide_false, if_true, if_false, ite_true, ite_false, reduceIte, reduceCtorEq, eq_self, true_and, and_true, true_implies, g4]) (by simp)
    have g5 : NT.get D4.e.c t2 = some u := hS2.get (by simp (config := { maxSteps := 1000000 }) (disch := (first | assumption | omega | exact Nm.old_n (by omega) | exact Nm.old_hp (by assumption) | (simp only [List.length_set, List.length_cons, List.length_nil, List.length_append, List.length_map, List.length_replicate] <;> omega))) only [nmS0, nmS1, nmS2, nmS3, nmS4, nmS5, nmS6, Nat.testBit, Nat.reduceShiftRight, Nat.reduceAnd, Nat.reduceBNe, cond_true, cond_false, NT.get_leaf, Nat.reduceSub, d_true, d_false, clsOf, beq_self_eq_true, Int.reduceToNat, Nat.reduceAdd, Nat.reduceMul, Nat.reduceEqDiff, decide_true, decide_false, if_true, if_false, ite_true, ite_false, reduceIte, reduceCtorEq, eq_self, true_and, and_true, true_implies, g5]) (by simp)
    have hC3 : Chg [na M' 0] M' M2 := ((hp_of rfl : Chg [] M' _).weak (T := [na M' 0]) (by simp)).trans hC2 fun _ h _ => h
    have hC4 : Chg [] M' M2 := hC3.weak fun j hj ho => by simp at hj; subst hj; exact absurd ho na_old
    have hxo2 : Old M2 (na M' 0) := hC2.old (old_n (by omega))
    have hu2 := hu.chg hC4 fun _ _ => by simp
    have hul : (Prs (spansR vars locals steps i)).length = i := by simp [spansR_len]
    simp (config := { maxSteps := 1000000 }) (disch := (first | assumption | omega | exact Nm.old_n (by omega) | exact Nm.old_hp (by assumption) | (simp only [List.length_set, List.length_cons, List.length_nil, List.length_append, List.length_map, List.length_replicate] <;> omega))) only [nmS0, nmS1, nmS2, nmS3, nmS4, nmS5, nmS6, Nat.testBit, Nat.reduceShiftRight, Nat.reduceAnd, Nat.reduceBNe, cond_true, cond_false, NT.get_leaf, Nat.reduceSub, d_true, d_false, clsOf, beq_self_eq_true, Int.reduceToNat, Nat.reduceAdd, Nat.reduceMul, Nat.reduceEqDiff, decide_true, decide_false, if_true, if_false, ite_true, ite_false, reduceIte, reduceCtorEq, eq_self, true_and, and_true, true_implies, g1, g2, g3, g4, g5, hx2]
    refine wNT_app1 (w := true) (B := M) (C := Prs (spansR vars locals steps i)) (cs := [ii (spanF (hitR steps locals i) steps.length).1, ii (spanF (hitR steps locals i) steps.length).2]) (hu2.chg (hp_of rfl) ?_) ?_ (old_n (by omega)) rfl ?_ (by rw [hul]; omega) (by rw [hul]; omega) ?_
    · intro _ _; simp [oldK]
    · simp (config := { maxSteps := 1000000 }) (disch := (first | assumption | omega | exact Nm.old_n (by omega) | exact Nm.old_hp (by assumption) | (simp only [List.length_set, List.length_cons, List.length_nil, List.length_append, List.length_map, List.length_replicate] <;> omega))) only [nmS0, nmS1, nmS2, nmS3, nmS4, nmS5, nmS6, Nat.testBit, Nat.reduceShiftRight, Nat.reduceAnd, Nat.reduceBNe, cond_true, cond_false, NT.get_leaf, Nat.reduceSub, d_true, d_false, clsOf, beq_self_eq_true, Int.reduceToNat, Nat.reduceAdd, Nat.reduceMul, Nat.reduceEqDiff, decide_true, decide_false, if_true, if_false, ite_true, ite_false, reduceIte, reduceCtorEq, eq_self, true_and, and_true, true_implies]
    · intro j hj; exact old_hp (hC4.old (hC.old hj))
    intro u' M3 hu3 hC5
    have hC6 : Chg [] M M3 := ((hC.trans hC4 fun _ h _ => h).trans (hp_of rfl : Chg [] M2 _) fun _ h _ => h).trans hC5 fun j hj ho => absurd ho (hu.new j hj)
    simp (config := { maxSteps := 1000000 }) (disch := (first | assumption | omega | exact Nm.old_n (by omega) | exact Nm.old_hp (by assumption) | (simp only [List.length_set, List.length_cons, List.length_nil, List.length_append, List.length_map, List.length_replicate] <;> omega))) only [nmS0, nmS1, nmS2, nmS3, nmS4, nmS5, nmS6, Nat.testBit, Nat.reduceShiftRight, Nat.reduceAnd, Nat.reduceBNe, cond_true, cond_false, NT.get_leaf, Nat.reduceSub, d_true, d_false, clsOf, beq_self_eq_true, Int.reduceToNat, Nat.reduceAdd, Nat.reduceMul, Nat.reduceEqDiff, decide_true, decide_false, if_true, if_false, ite_true, ite_false, reduceIte, reduceCtorEq, eq_self, true_and, and_true, true_implies, g3]
    refine ⟨k - 1, by omega, _, _, i + 1, u', rfl, ?_, ?_, by rw [hp_nil]; exact hC6, ?_, ?_, ?_, by omega⟩
    · simp (config := { maxSteps := 1000000 }) (disch := (first | assumption | omega | exact Nm.old_n (by omega) | exact Nm.old_hp (by assumption) | (simp only [List.length_set, List.length_cons, List.length_nil, List.length_append, List.length_map, List.length_replicate] <;> omega))) only [nmS0, nmS1, nmS2, nmS3, nmS4, nmS5, nmS6, Nat.testBit, Nat.reduceShiftRight, Nat.reduceAnd, Nat.reduceBNe, cond_true, cond_false, NT.get_leaf, Nat.reduceSub, d_true, d_false, clsOf, beq_self_eq_true, Int.reduceToNat, Nat.reduceAdd, Nat.reduceMul, Nat.reduceEqDiff, decide_true, decide_false, if_true, if_false, ite_true, ite_false, reduceIte, reduceCtorEq, eq_self, true_and, and_true, true_implies, g1]
    · simp (config := { maxSteps := 1000000 }) (disch := (first | assumption | omega | exact Nm.old_n (by omega) | exact Nm.old_hp (by assumption) | (simp only [List.length_set, List.length_cons, List.length_nil, List.length_append, List.length_map, List.length_replicate] <;> omega))) only [nmS0, nmS1, nmS2, nmS3, nmS4, nmS5, nmS6, Nat.testBit, Nat.reduceShiftRight, Nat.reduceAnd, Nat.reduceBNe, cond_true, cond_false, NT.get_leaf, Nat.reduceSub, d_true, d_false, clsOf, beq_self_eq_true, Int.reduceToNat, Nat.reduceAdd, Nat.reduceMul, Nat.reduceEqDiff, decide_true, decide_false, if_true, if_false, ite_true, ite_false, reduceIte, reduceCtorEq, eq_self, true_and, and_true, true_implies, g4]
    · simp (config := { maxSteps := 1000000 }) (disch := (first | assumption | omega | exact Nm.old_n (by omega) | exact Nm.old_hp (by assumption) | (simp only [List.length_set, List.length_cons, List.length_nil, List.length_append, List.length_map, List.length_replicate] <;> omega))) only [nmS0, nmS1, nmS2, nmS3, nmS4, nmS5, nmS6, Nat.testBit, Nat.reduceShiftRight, Nat.reduceAnd, Nat.reduceBNe, cond_true, cond_false, NT.get_leaf, Nat.reduceSub, d_true, d_false, clsOf, beq_self_eq_true, Int.reduceToNat, Nat.reduceAdd, Nat.reduceMul, Nat.reduceEqDiff, decide_true, decide_false, if_true, if_false, ite_true, ite_false, reduceIte, reduceCtorEq, eq_self, true_and, and_true, true_implies]
    · rw [hp_nil, spansR_succ]; simpa using hu3
    · simp (config := { maxSteps := 1000000 }) (disch := (first | assumption | omega | exact Nm.old_n (by omega) | exact Nm.old_hp (by assumption) | (simp only [List.length_set, List.length_cons, List.length_nil, List.length_append, List.length_map, List.length_replicate] <;> omega))) only [nmS0, nmS1, nmS2, nmS3, nmS4, nmS5, nmS6, Nat.testBit, Nat.reduceShiftRight, Nat.reduceAnd, Nat.reduceBNe, cond_true, cond_false, NT.get_leaf, Nat.reduceSub, d_true, d_false, clsOf, beq_self_eq_true, Int.reduceToNat, Nat.reduceAdd, Nat.reduceMul, Nat.reduceEqDiff, decide_true, decide_false, if_true, if_false, ite_true, ite_false, reduceIte, reduceCtorEq, eq_self, true_and, and_true, true_implies]; rfl
  · simp (config := { maxSteps := 1000000 }) (disch := (first | assumption | omega | exact Nm.old_n (by omega) | exact Nm.old_hp (by assumption) | (simp only [List.length_set, List.length_cons, List.length_nil, List.length_append, List.length_map, List.length_replicate] <;> omega))) only [nmS0, nmS1, nmS2, nmS3, nmS4, nmS5, nmS6, Nat.testBit, Nat.reduceShiftRight, Nat.reduceAnd, Nat.reduceBNe, cond_true, cond_false, NT.get_leaf, Nat.reduceSub, d_true, d_false, clsOf, beq_self_eq_true, Int.reduceToNat, Nat.reduceAdd, Nat.reduceMul, Nat.reduceEqDiff, decide_true, decide_false, if_true, if_false, ite_true, ite_false, reduceIte, reduceCtorEq, eq_self, true_and, and_true, true_implies, g1, g4, g3, g5, hb', (cut_ref _ vars 0 400).wf']
    have e : i = (cut vars 0 400).toNat := by omega
    subst e
    have hQ' := fun L t' => hQ (puts L t')
    simp only [puts_nil] at hQ'
    refine hQ' _ _ _ u hC ?_ hu
    simp (config := { maxSteps := 1000000 }) (disch := (first | assumption | omega | exact Nm.old_n (by omega) | exact Nm.old_hp (by assumption) | (simp only [List.length_set, List.length_cons, List.length_nil, List.length_append, List.length_map, List.length_replicate] <;> omega))) only [nmS0, nmS1, nmS2, nmS3, nmS4, nmS5, nmS6, Nat.testBit, Nat.reduceShiftRight, Nat.reduceAnd, Nat.reduceBNe, cond_true, cond_false, NT.get_leaf, Nat.reduceSub, d_true, d_false, clsOf, beq_self_eq_true, Int.reduceToNat, Nat.reduceAdd, Nat.reduceMul, Nat.reduceEqDiff, decide_true, decide_false, if_true, if_false, ite_true, ite_false, reduceIte, reduceCtorEq, eq_self, true_and, and_true, true_implies, g5]
theorem spans_ref {m : NH} {vs : NV} {steps : List St} {vars locals : Int} (hs : Sl m vs 9 (Sts steps)) (hn : steps.length ≤ 300) :
    ∃ u m', Ret Try.prog S0 14 [.agg [ii vars, ii locals, vs]] m u m' ∧ Own m m' u 2 (Prs (spansR vars locals steps (cut vars 0 400).toNat)) ∧ Chg [] m m' := by
  refine WF.ex fun K hK => ?_
  refine WF.of_wpH (fun _ => rfl) nf14_eq (L := [(.e, .agg [ii vars, ii locals, vs])]) rfl ?_
  unfold nf14
  have hlen := hs.len
  rw [List.length_map] at hlen
  simp (config := { maxSteps := 1000000 }) (disch := (first | assumption | omega | exact Nm.old_n (by omega) | exact Nm.old_hp (by assumption) | (simp only [List.length_set, List.length_cons, List.length_nil, List.length_append, List.length_map, List.length_replicate] <;> omega))) only [nmS0, nmS1, nmS2, nmS3, nmS4, nmS5, nmS6, Nat.testBit, Nat.reduceShiftRight, Nat.reduceAnd, Nat.reduceBNe, cond_true, cond_false, NT.get_leaf, Nat.reduceSub, d_true, d_false, clsOf, beq_self_eq_true, Int.reduceToNat, Nat.reduceAdd, Nat.reduceMul, Nat.reduceEqDiff, decide_true, decide_false, if_true, if_false, ite_true, ite_false, reduceIte, reduceCtorEq, eq_self, true_and, and_true, true_implies, hlen]
  refine sp_l3 (bx := na m 0) (vs := vs) (steps := steps) (vars := vars) (locals := locals) (w := true) ?_ ?_ (hs.grew (hp_of rfl)) hn ?_ ?_ ?_ ?_ ?_
  · simp (config := { maxSteps := 1000000 }) (disch := (first | assumption | omega | exact Nm.old_n (by omega) | exact Nm.old_hp (by assumption) | (simp only [List.length_set, List.length_cons, List.length_nil, List.length_append, List.length_map, List.length_replicate] <;> omega))) only [nmS0, nmS1, nmS2, nmS3, nmS4, nmS5, nmS6, Nat.testBit, Nat.reduceShiftRight, Nat.reduceAnd, Nat.reduceBNe, cond_true, cond_false, NT.get_leaf, Nat.reduceSub, d_true, d_false, clsOf, beq_self_eq_true, Int.reduceToNat, Nat.reduceAdd, Nat.reduceMul, Nat.reduceEqDiff, decide_true, decide_false, if_true, if_false, ite_true, ite_false, reduceIte, reduceCtorEq, eq_self, true_and, and_true, true_implies]
  · exact old_n (by omega)
  · simp (config := { maxSteps := 1000000 }) (disch := (first | assumption | omega | exact Nm.old_n (by omega) | exact Nm.old_hp (by assumption) | (simp only [List.length_set, List.length_cons, List.length_nil, List.length_append, List.length_map, List.length_replicate] <;> omega))) only [nmS0, nmS1, nmS2, nmS3, nmS4, nmS5, nmS6, Nat.testBit, Nat.reduceShiftRight, Nat.reduceAnd, Nat.reduceBNe, cond_true, cond_false, NT.get_leaf, Nat.reduceSub, d_true, d_false, clsOf, beq_self_eq_true, Int.reduceToNat, Nat.reduceAdd, Nat.reduceMul, Nat.reduceEqDiff, decide_true, decide_false, if_true, if_false, ite_true, ite_false, reduceIte, reduceCtorEq, eq_self, true_and, and_true, true_implies]
  · simp (config := { maxSteps := 1000000 }) (disch := (first | assumption | omega | exact Nm.old_n (by omega) | exact Nm.old_hp (by assumption) | (simp only [List.length_set, List.length_cons, List.length_nil, List.length_append, List.length_map, List.length_replicate] <;> omega))) only [nmS0, nmS1, nmS2, nmS3, nmS4, nmS5, nmS6, Nat.testBit, Nat.reduceShiftRight, Nat.reduceAnd, Nat.reduceBNe, cond_true, cond_false, NT.get_leaf, Nat.reduceSub, d_true, d_false, clsOf, beq_self_eq_true, Int.reduceToNat, Nat.reduceAdd, Nat.reduceMul, Nat.reduceEqDiff, decide_true, decide_false, if_true, if_false, ite_true, ite_false, reduceIte, reduceCtorEq, eq_self, true_and, and_true, true_implies]
  · simp (config := { maxSteps := 1000000 }) (disch := (first | assumption | omega | exact Nm.old_n (by omega) | exact Nm.old_hp (by assumption) | (simp only [List.length_set, List.length_cons, List.length_nil, List.length_append, List.length_map, List.length_replicate] <;> omega))) only [nmS0, nmS1, nmS2, nmS3, nmS4, nmS5, nmS6, Nat.testBit, Nat.reduceShiftRight, Nat.reduceAnd, Nat.reduceBNe, cond_true, cond_false, NT.get_leaf, Nat.reduceSub, d_true, d_false, clsOf, beq_self_eq_true, Int.reduceToNat, Nat.reduceAdd, Nat.reduceMul, Nat.reduceEqDiff, decide_true, decide_false, if_true, if_false, ite_true, ite_false, reduceIte, reduceCtorEq, eq_self, true_and, and_true, true_implies]
  · simp (config := { maxSteps := 1000000 }) (disch := (first | assumption | omega | exact Nm.old_n (by omega) | exact Nm.old_hp (by assumption) | (simp only [List.length_set, List.length_cons, List.length_nil, List.length_append, List.length_map, List.length_replicate] <;> omega))) only [nmS0, nmS1, nmS2, nmS3, nmS4, nmS5, nmS6, Nat.testBit, Nat.reduceShiftRight, Nat.reduceAnd, Nat.reduceBNe, cond_true, cond_false, NT.get_leaf, Nat.reduceSub, d_true, d_false, clsOf, beq_self_eq_true, Int.reduceToNat, Nat.reduceAdd, Nat.reduceMul, Nat.reduceEqDiff, decide_true, decide_false, if_true, if_false, ite_true, ite_false, reduceIte, reduceCtorEq, eq_self, true_and, and_true, true_implies]
  intro t' M' u hC g hu
  simp (config := { maxSteps := 1000000 }) (disch := (first | assumption | omega | exact Nm.old_n (by omega) | exact Nm.old_hp (by assumption) | (simp only [List.length_set, List.length_cons, List.length_nil, List.length_append, List.length_map, List.length_replicate] <;> omega))) only [nmS0, nmS1, nmS2, nmS3, nmS4, nmS5, nmS6, Nat.testBit, Nat.reduceShiftRight, Nat.reduceAnd, Nat.reduceBNe, cond_true, cond_false, NT.get_leaf, Nat.reduceSub, d_true, d_false, clsOf, beq_self_eq_true, Int.reduceToNat, Nat.reduceAdd, Nat.reduceMul, Nat.reduceEqDiff, decide_true, decide_false, if_true, if_false, ite_true, ite_false, reduceIte, reduceCtorEq, eq_self, true_and, and_true, true_implies, g, hp_nil]
  have hC0 : Chg [] m (hp [(.n 0, .cells true [ii vars, ii locals, vs])] 1 m) := hp_of rfl
  exact hK _ _ ⟨hu.back fun j hj => hC0.old hj, hC0.trans hC fun _ h _ => h⟩
end LV

open Go Nm Go.Proofs
namespace LV
set_option linter.unusedSimpArgs false
set_option linter.unusedVariables false
theorem eq2 (a b : Int) : eqCells [.int, .int] [ii a, ii b] [ii a, ii b] = some true := by
  have h : ∀ z, eqI z z = true := fun z => by rw [eqI_eq]; simp
  show (match eqCell .int (ii a) (ii a) with | some c => cond c (eqCells [.int] [ii b] [ii b]) (some false) | none => none) = _
  show (cond (eqI a a) (match eqCell .int (ii b) (ii b) with | some c => cond c (eqCells [] [] []) (some false) | none => none) (some false)) = _
  rw [h]
  show (cond (eqI b b) (some true) (some false)) = _
  rw [h]; rfl
theorem sameInts (m : NH) {a b : NV} {l : List Int} (ha : Sl m a 1 (Ints l)) (hb : Sl m b 1 (Ints l)) (hl : l.length ≤ 1000000) : Ret Try.prog S0 10 [a, b] m (.bool true) m := by
  have h : ∃ v m', Ret Try.prog S0 10 [a, b] m v m' ∧ v = .bool true ∧ m' = m := by
    refine WF.ex fun K hK => ?_
    refine WF.of_wpH (fun _ => rfl) nf10_eq (L := [(.a .e, b), (.e, a)]) rfl ?_
    unfold nf10
    have hlen := ha.len
    have hlen' := hb.len
    rw [List.length_map] at hlen hlen'
    simp (config := { maxSteps := 1000000 }) (disch := (first | assumption | omega | exact Nm.old_n (by omega) | exact Nm.old_hp (by assumption) | (simp only [List.length_set, List.length_cons, List.length_nil, List.length_append, List.length_map, List.length_replicate] <;> omega))) only [nmS0, nmS1, nmS2, nmS3, nmS4, nmS5, nmS6, Nat.testBit, Nat.reduceShiftRight, Nat.reduceAnd, Nat.reduceBNe, cond_true, cond_false, NT.get_leaf, Nat.reduceSub, d_true, d_false, clsOf, beq_self_eq_true, Int.reduceToNat, Nat.reduceAdd, Nat.reduceMul, Nat.reduceEqDiff, decide_true, decide_false, if_true, if_false, ite_true, ite_false, reduceIte, reduceCtorEq, eq_self, true_and, and_true, true_implies, hlen, hlen', hp_nil]
    refine W.loop (fun k d => ∃ t i, d = ⟨t, [], none, m⟩ ∧ NT.get D4.e t = some a ∧ NT.get D4.e.a t = some b ∧ NT.get D4.e.a.a t = some (ii (i : Nat)) ∧ i + k = l.length) ?_ l.length _ ⟨_, 0, rfl, by simp (config := { maxSteps := 1000000 }) (disch := (first | assumption | omega | exact Nm.old_n (by omega) | exact Nm.old_hp (by assumption) | (simp only [List.length_set, List.length_cons, List.length_nil, List.length_append, List.length_map, List.length_replicate] <;> omega))) only [nmS0, nmS1, nmS2, nmS3, nmS4, nmS5, nmS6, Nat.testBit, Nat.reduceShiftRight, Nat.reduceAnd, Nat.reduceBNe, cond_true, cond_false, NT.get_leaf, Nat.reduceSub, d_true, d_false, clsOf, beq_self_eq_true, Int.reduceToNat, Nat.reduceAdd, Nat.reduceMul, Nat.reduceEqDiff, decide_true, decide_false, if_true, if_false, ite_true, ite_false, reduceIte, reduceCtorEq, eq_self, true_and, and_true, true_implies], by simp (config := { maxSteps := 1000000 }) (disch := (first | assumption | omega | exact Nm.old_n (by omega) | exact Nm.old_hp (by assumption) | (simp only [List.length_set, List.length_cons, List.length_nil, List.length_append, List.length_map, List.length_replicate] <;> omega))) only [nmS0, nmS1, nmS2, nmS3, nmS4, nmS5, nmS6, Nat.testBit, Nat.reduceShiftRight, Nat.reduceAnd, Nat.reduceBNe, cond_true, cond_false, NT.get_leaf, Nat.reduceSub, d_true, d_false, clsOf, beq_self_eq_true, Int.reduceToNat, Nat.reduceAdd, Nat.reduceMul, Nat.reduceEqDiff, decide_true, decide_false, if_true, if_false, ite_true, ite_false, reduceIte, reduceCtorEq, eq_self, true_and, and_true, true_implies], by simp (config := { maxSteps := 1000000 }) (disch := (first | assumption | omega | exact Nm.old_n (by omega) | exact Nm.old_hp (by assumption) | (simp only [List.length_set, List.length_cons, List.length_nil, List.length_append, List.length_map, List.length_replicate] <;> omega))) only [nmS0, nmS1, nmS2, nmS3, nmS4, nmS5, nmS6, Nat.testBit, Nat.reduceShiftRight, Nat.reduceAnd, Nat.reduceBNe, cond_true, cond_false, NT.get_leaf, Nat.reduceSub, d_true, d_false, clsOf, beq_self_eq_true, Int.reduceToNat, Nat.reduceAdd, Nat.reduceMul, Nat.reduceEqDiff, decide_true, decide_false, if_true, if_false, ite_true, ite_false, reduceIte, reduceCtorEq, eq_self, true_and, and_true, true_implies]; rfl, by omega⟩
    rintro k d ⟨t, i, rfl, g1, g2, g3, hik⟩
    apply wp_sound
    unfold nf10_l1
    change wp _ _ _ _ ⟨puts [] t, [], none, m⟩ _
    by_cases hi : i < l.length
    · obtain ⟨id, off, w, c, a1, a2, a3, a4, a5⟩ := ha.at i (by simpa using hi)
      obtain ⟨id', off', w', c', b1, b2, b3, b4, b5⟩ := hb.at i (by simpa using hi)
      rw [List.getElem_map] at a5 b5
      have c0 := cell_at a5 0 (by omega)
      have c0' := cell_at b5 0 (by omega)
      rw [Nat.add_zero] at c0 c0'
      simp (config := { maxSteps := 1000000 }) (disch := (first | assumption | omega | exact Nm.old_n (by omega) | exact Nm.old_hp (by assumption) | (simp only [List.length_set, List.length_cons, List.length_nil, List.length_append, List.length_map, List.length_replicate] <;> omega))) only [nmS0, nmS1, nmS2, nmS3, nmS4, nmS5, nmS6, Nat.testBit, Nat.reduceShiftRight, Nat.reduceAnd, Nat.reduceBNe, cond_true, cond_false, NT.get_leaf, Nat.reduceSub, d_true, d_false, clsOf, beq_self_eq_true, Int.reduceToNat, Nat.reduceAdd, Nat.reduceMul, Nat.reduceEqDiff, decide_true, decide_false, if_true, if_false, ite_true, ite_false, reduceIte, reduceCtorEq, eq_self, true_and, and_true, true_implies, g1, g2, g3, hlen, hlen', a1, a2, b1, b2, c0, c0']
      refine ⟨k - 1, by omega, _, i + 1, rfl, ?_, ?_, ?_, by omega⟩
      · simp (config := { maxSteps := 1000000 }) (disch := (first | assumption | omega | exact Nm.old_n (by omega) | exact Nm.old_hp (by assumption) | (simp only [List.length_set, List.length_cons, List.length_nil, List.length_append, List.length_map, List.length_replicate] <;> omega))) only [nmS0, nmS1, nmS2, nmS3, nmS4, nmS5, nmS6, Nat.testBit, Nat.reduceShiftRight, Nat.reduceAnd, Nat.reduceBNe, cond_true, cond_false, NT.get_leaf, Nat.reduceSub, d_true, d_false, clsOf, beq_self_eq_true, Int.reduceToNat, Nat.reduceAdd, Nat.reduceMul, Nat.reduceEqDiff, decide_true, decide_false, if_true, if_false, ite_true, ite_false, reduceIte, reduceCtorEq, eq_self, true_and, and_true, true_implies, g1]
      · simp (config := { maxSteps := 1000000 }) (disch := (first | assumption | omega | exact Nm.old_n (by omega) | exact Nm.old_hp (by assumption) | (simp only [List.length_set, List.length_cons, List.length_nil, List.length_append, List.length_map, List.length_replicate] <;> omega))) only [nmS0, nmS1, nmS2, nmS3, nmS4, nmS5, nmS6, Nat.testBit, Nat.reduceShiftRight, Nat.reduceAnd, Nat.reduceBNe, cond_true, cond_false, NT.get_leaf, Nat.reduceSub, d_true, d_false, clsOf, beq_self_eq_true, Int.reduceToNat, Nat.reduceAdd, Nat.reduceMul, Nat.reduceEqDiff, decide_true, decide_false, if_true, if_false, ite_true, ite_false, reduceIte, reduceCtorEq, eq_self, true_and, and_true, true_implies, g2]
      · simp (config := { maxSteps := 1000000 }) (disch := (first | assumption | omega | exact Nm.old_n (by omega) | exact Nm.old_hp (by assumption) | (simp only [List.length_set, List.length_cons, List.length_nil, List.length_append, List.length_map, List.length_replicate] <;> omega))) only [nmS0, nmS1, nmS2, nmS3, nmS4, nmS5, nmS6, Nat.testBit, Nat.reduceShiftRight, Nat.reduceAnd, Nat.reduceBNe, cond_true, cond_false, NT.get_leaf, Nat.reduceSub, d_true, d_false, clsOf, beq_self_eq_true, Int.reduceToNat, Nat.reduceAdd, Nat.reduceMul, Nat.reduceEqDiff, decide_true, decide_false, if_true, if_false, ite_true, ite_false, reduceIte, reduceCtorEq, eq_self, true_and, and_true, true_implies]; rfl
    · simp (config := { maxSteps := 1000000 }) (disch := (first | assumption | omega | exact Nm.old_n (by omega) | exact Nm.old_hp (by assumption) | (simp only [List.length_set, List.length_cons, List.length_nil, List.length_append, List.length_map, List.length_replicate] <;> omega))) only [nmS0, nmS1, nmS2, nmS3, nmS4, nmS5, nmS6, Nat.testBit, Nat.reduceShiftRight, Nat.reduceAnd, Nat.reduceBNe, cond_true, cond_false, NT.get_leaf, Nat.reduceSub, d_true, d_false, clsOf, beq_self_eq_true, Int.reduceToNat, Nat.reduceAdd, Nat.reduceMul, Nat.reduceEqDiff, decide_true, decide_false, if_true, if_false, ite_true, ite_false, reduceIte, reduceCtorEq, eq_self, true_and, and_true, true_implies, g1, g2, g3, hlen, hlen']
      exact hK _ _ ⟨rfl, rfl⟩
  obtain ⟨v, m', h1, rfl, rfl⟩ := h
  exact h1
theorem sameSpans (m : NH) {a b : NV} {l : List (Int × Int)} (ha : Sl m a 2 (Prs l)) (hb : Sl m b 2 (Prs l)) (hl : l.length ≤ 1000000) : Ret Try.prog S0 13 [a, b] m (.bool true) m := by
  have h : ∃ v m', Ret Try.prog S0 13 [a, b] m v m' ∧ v = .bool true ∧ m' = m := by
    refine WF.ex fun K hK => ?_
    refine WF.of_wpH (fun _ => rfl) nf13_eq (L := [(.a .e, b), (.e, a)]) rfl ?_
    unfold nf13
    have hlen := ha.len
    have hlen' := hb.len
    rw [List.length_map] at hlen hlen'
    simp (config := { maxSteps := 1000000 }) (disch := (first | assumption | omega | exact Nm.old_n (by omega) | exact Nm.old_hp (by assumption) | (simp only [List.length_set, List.length_cons, List.length_nil, List.length_append, List.length_map, List.length_replicate] <;> omega))) only [nmS0, nmS1, nmS2, nmS3, nmS4, nmS5, nmS6, Nat.testBit, Nat.reduceShiftRight, Nat.reduceAnd, Nat.reduceBNe, cond_true, cond_false, NT.get_leaf, Nat.reduceSub, d_true, d_false, clsOf, beq_self_eq_true, Int.reduceToNat, Nat.reduceAdd, Nat.reduceMul, Nat.reduceEqDiff, decide_true, decide_false, if_true, if_false, ite_true, ite_false, reduceIte, reduceCtorEq, eq_self, true_and, and_true, true_implies, hlen, hlen', hp_nil]
    refine W.loop (fun k d => ∃ t i, d = ⟨t, [], none, m⟩ ∧ NT.get D4.e t = some a ∧ NT.get D4.e.a t = some b ∧ NT.get D4.e.a.a t = some (ii (i : Nat)) ∧ i + k = l.length) ?_ l.length _ ⟨_, 0, rfl, by simp (config := { maxSteps := 1000000 }) (disch := (first | assumption | omega | exact Nm.old_n (by omega) | exact Nm.old_hp (by assumption) | (simp only [List.length_set, List.length_cons, List.length_nil, List.length_append, List.length_map, List.length_replicate] <;> omega))) only [nmS0, nmS1, nmS2, nmS3, nmS4, nmS5, nmS6, Nat.testBit, Nat.reduceShiftRight, Nat.reduceAnd, Nat.reduceBNe, cond_true, cond_false, NT.get_leaf, Nat.reduceSub, d_true, d_false, clsOf, beq_self_eq_true, Int.reduceToNat, Nat.reduceAdd, Nat.reduceMul, Nat.reduceEqDiff, decide_true, decide_false, if_true, if_false, ite_true, ite_false, reduceIte, reduceCtorEq, eq_self, true_and, and_true, true_implies], by simp (config := { maxSteps := 1000000 }) (disch := (first | assumption | omega | exact Nm.old_n (by omega) | exact Nm.old_hp (by assumption) | (simp only [List.length_set, List.length_cons, List.length_nil, List.length_append, List.length_map, List.length_replicate] <;> omega))) only [nmS0, nmS1, nmS2, nmS3, nmS4, nmS5, nmS6, Nat.testBit, Nat.reduceShiftRight, Nat.reduceAnd, Nat.reduceBNe, cond_true, cond_false, NT.get_leaf, Nat.reduceSub, d_true, d_false, clsOf, beq_self_eq_true, Int.reduceToNat, Nat.reduceAdd, Nat.reduceMul, Nat.reduceEqDiff, decide_true, decide_false, if_true, if_false, ite_true, ite_false, reduceIte, reduceCtorEq, eq_self, true_and, and_true, true_implies], by simp (config := { maxSteps := 1000000 }) (disch := (first | assumption | omega | exact Nm.old_n (by omega) | exact Nm.old_hp (by assumption) | (simp only [List.length_set, List.length_cons, List.length_nil, List.length_append, List.length_map, List.length_replicate] <;> omega))) only [nmS0, nmS1, nmS2, nmS3, nmS4, nmS5, nmS6, Nat.testBit, Nat.reduceShiftRight, Nat.reduceAnd, Nat.reduceBNe, cond_true, cond_false, NT.get_leaf, Nat.reduceSub, d_true, d_false, clsOf, beq_self_eq_true, Int.reduceToNat, Nat.reduceAdd, Nat.reduceMul, Nat.reduceEqDiff, decide_true, decide_false, if_true, if_false, ite_true, ite_false, reduceIte, reduceCtorEq, eq_self, true_and, and_true, true_implies]; rfl, by omega⟩
    rintro k d ⟨t, i, rfl, g1, g2, g3, hik⟩
    apply wp_sound
    unfold nf13_l1
    change wp _ _ _ _ ⟨puts [] t, [], none, m⟩ _
    by_cases hi : i < l.length
    · obtain ⟨id, off, w, c, a1, a2, a3, a4, a5⟩ := ha.at i (by simpa using hi)
      obtain ⟨id', off', w', c', b1, b2, b3, b4, b5⟩ := hb.at i (by simpa using hi)
      rw [List.getElem_map] at a5 b5
      simp (config := { maxSteps := 1000000 }) (disch := (first | assumption | omega | exact Nm.old_n (by omega) | exact Nm.old_hp (by assumption) | (simp only [List.length_set, List.length_cons, List.length_nil, List.length_append, List.length_map, List.length_replicate] <;> omega))) only [nmS0, nmS1, nmS2, nmS3, nmS4, nmS5, nmS6, Nat.testBit, Nat.reduceShiftRight, Nat.reduceAnd, Nat.reduceBNe, cond_true, cond_false, NT.get_leaf, Nat.reduceSub, d_true, d_false, clsOf, beq_self_eq_true, Int.reduceToNat, Nat.reduceAdd, Nat.reduceMul, Nat.reduceEqDiff, decide_true, decide_false, if_true, if_false, ite_true, ite_false, reduceIte, reduceCtorEq, eq_self, true_and, and_true, true_implies, g1, g2, g3, hlen, hlen', a1, a2, b1, b2, a5, b5, y_ne (eq2 _ _)]
      refine ⟨k - 1, by omega, _, i + 1, rfl, ?_, ?_, ?_, by omega⟩
      · simp (config := { maxSteps := 1000000 }) (disch := (first | assumption | omega | exact Nm.old_n (by omega) | exact Nm.old_hp (by assumption) | (simp only [List.length_set, List.length_cons, List.length_nil, List.length_append, List.length_map, List.length_replicate] <;> omega))) only [nmS0, nmS1, nmS2, nmS3, nmS4, nmS5, nmS6, Nat.testBit, Nat.reduceShiftRight, Nat.reduceAnd, Nat.reduceBNe, cond_true, cond_false, NT.get_leaf, Nat.reduceSub, d_true, d_false, clsOf, beq_self_eq_true, Int.reduceToNat, Nat.reduceAdd, Nat.reduceMul, Nat.reduceEqDiff, decide_true, decide_false, if_true, if_false, ite_true, ite_false, reduceIte, reduceCtorEq, eq_self, true_and, and_true, true_implies, g1]
      · simp (config := { maxSteps := 1000000 }) (disch := (first | assumption | omega | exact Nm.old_n (by omega) | exact Nm.old_hp (by assumption) | (simp only [List.length_set, List.length_cons, List.length_nil, List.length_append, List.length_map, List.length_replicate] <;> omega))) only [nmS0, nmS1, nmS2, nmS3, nmS4, nmS5, nmS6, Nat.testBit, Nat.reduceShiftRight, Nat.reduceAnd, Nat.reduceBNe, cond_true, cond_false, NT.get_leaf, Nat.reduceSub, d_true, d_false, clsOf, beq_self_eq_true, Int.reduceToNat, Nat.reduceAdd, Nat.reduceMul, Nat.reduceEqDiff, decide_true, decide_false, if_true, if_false, ite_true, ite_false, reduceIte, reduceCtorEq, eq_self, true_and, and_true, true_implies, g2]
      · simp (config := { maxSteps := 1000000 }) (disch := (first | assumption | omega | exact Nm.old_n (by omega) | exact Nm.old_hp (by assumption) | (simp only [List.length_set, List.length_cons, List.length_nil, List.length_append, List.length_map, List.length_replicate] <;> omega))) only [nmS0, nmS1, nmS2, nmS3, nmS4, nmS5, nmS6, Nat.testBit, Nat.reduceShiftRight, Nat.reduceAnd, Nat.reduceBNe, cond_true, cond_false, NT.get_leaf, Nat.reduceSub, d_true, d_false, clsOf, beq_self_eq_true, Int.reduceToNat, Nat.reduceAdd, Nat.reduceMul, Nat.reduceEqDiff, decide_true, decide_false, if_true, if_false, ite_true, ite_false, reduceIte, reduceCtorEq, eq_self, true_and, and_true, true_implies]; rfl
    · simp (config := { maxSteps := 1000000 }) (disch := (first | assumption | omega | exact Nm.old_n (by omega) | exact Nm.old_hp (by assumption) | (simp only [List.length_set, List.length_cons, List.length_nil, List.length_append, List.length_map, List.length_replicate] <;> omega))) only [nmS0, nmS1, nmS2, nmS3, nmS4, nmS5, nmS6, Nat.testBit, Nat.reduceShiftRight, Nat.reduceAnd, Nat.reduceBNe, cond_true, cond_false, NT.get_leaf, Nat.reduceSub, d_true, d_false, clsOf, beq_self_eq_true, Int.reduceToNat, Nat.reduceAdd, Nat.reduceMul, Nat.reduceEqDiff, decide_true, decide_false, if_true, if_false, ite_true, ite_false, reduceIte, reduceCtorEq, eq_self, true_and, and_true, true_implies, g1, g2, g3, hlen, hlen']
      exact hK _ _ ⟨rfl, rfl⟩
  obtain ⟨v, m', h1, rfl, rfl⟩ := h
  exact h1
end LV

open Go Nm Go.Proofs
namespace LV
set_option linter.unusedSimpArgs false
set_option linter.unusedVariables false
/-- the first i of them are nowhere -/
def began (n i : Nat) : List (Int × Int) := (List.range n).map fun j => if j < i then (-1, 0) else (0, 0)
theorem began_len (n i : Nat) : (began n i).length = n := by simp [began]
theorem began_zero (n : Nat) : began n 0 = List.replicate n (0, 0) := by
  apply List.ext_getElem <;> simp [began]
theorem began_all (n : Nat) : began n n = List.replicate n (-1, 0) := by
  apply List.ext_getElem
  · simp [began]
  · intro i h1 h2; simp [began] at h1 ⊢; exact h1
theorem began_succ {n i : Nat} (h : i < n) : began n (i + 1) = (began n i).set i (-1, 0) := by
  apply List.ext_getElem
  · simp [began]
  · intro j h1 h2
    rw [List.getElem_set]
    simp only [began, List.getElem_map, List.getElem_range]
    by_cases e : i = j
    · subst e; simp
    · have e2 : (j < i + 1) = (j < i) := by apply propext; omega
      simp only [e2, e, if_false]
theorem Prs_set (l : List (Int × Int)) (i : Nat) (p : Int × Int) : Prs (l.set i p) = (Prs l).set i [ii p.1, ii p.2] := List.map_set
abbrev ks6a : List D4 := [D4.e.f.a, D4.e.f.b, D4.e.f, D4.e.f.c, D4.e.f.f, D4.e.a.a.a, D4.e.a.a.b, D4.e.a.a.c, D4.e.c.f]
theorem ls_l3 {B M : NH} {o : D4} {u : NV} {n : Nat} (ho : M.get o = some (.cells true [u])) (hoo : Old M o) (hu : Own B M u 2 (Prs (began n 0))) (hou : o ∉ ids u) (hn : n ≤ 400)
    {t : Tm} (g1 : NT.get D4.e.c t = some (.ptr o 0)) (g2 : NT.get D4.e.c.f t = some (ii 0)) (g3 : NT.get D4.e.c.c t = some (ii n))
    {Q : Out → Dyn → Prop} (hQ : ∀ t' M', Same ks6a t t' → Chg (ids u) M M' → Own B M' u 2 (Prs (began n n)) → Q (.exit 0) ⟨puts [] t', [], none, hp [] 0 M'⟩) :
    W Try.prog S0 none nf6_l3.loop ⟨t, [], none, M⟩ Q := by
  refine W.loop (fun k d => ∃ t' M' i, d = ⟨t', [], none, M'⟩ ∧ Same ks6a t t' ∧ Chg (ids u) M M' ∧ Own B M' u 2 (Prs (began n i)) ∧ NT.get D4.e.c.f t' = some (ii (i : Nat)) ∧ i + k = n)
    ?_ n _ ⟨t, M, 0, rfl, Same.refl _ _, (Chg.refl _).weak (by simp), hu, g2, by omega⟩
  rintro k d ⟨t', M', i, rfl, hS, hC, hu', g2, hik⟩
  have g1 := hS.get g1 (by simp)
  have g3 := hS.get g3 (by simp)
  have ho' := (hC.get hoo hou).trans ho
  have hoo' := hC.old hoo
  apply wp_sound
  unfold nf6_l3
  change wp _ _ _ _ ⟨puts [] t', [], none, M'⟩ _
  rw [← hp_nil M']
  by_cases hi : i < n
  · obtain ⟨id, off, c, a1, a2, a3, a4, a5, a6, a7, a8⟩ := hu'.at i (by simpa [began_len] using hi)
    simp (config := { maxSteps := 1000000 }) (disch := (first | assumption | omega | exact Nm.old_n (by omega) | exact Nm.old_hp (by assumption) | (simp only [List.length_set, List.length_cons, List.length_nil, List.length_append, List.length_map, List.length_replicate] <;> omega))) only [nmS0, nmS1, nmS2, nmS3, nmS4, nmS5, nmS6, Nat.testBit, Nat.reduceShiftRight, Nat.reduceAnd, Nat.reduceBNe, cond_true, cond_false, NT.get_leaf, Nat.reduceSub, d_true, d_false, clsOf, beq_self_eq_true, Int.reduceToNat, Nat.reduceAdd, Nat.reduceMul, Nat.reduceEqDiff, decide_true, decide_false, if_true, if_false, ite_true, ite_false, reduceIte, reduceCtorEq, eq_self, true_and, and_true, true_implies, g1, g2, g3, ho', a1, a4]
    refine ⟨k - 1, by omega, _, _, i + 1, rfl, hS.puts _ ?_, ?_, ?_, ?_, by omega⟩
    · simp
    · exact hC.trans (hp_of rfl) fun j hj _ => by rw [a2]; exact hj
    · have eb : (began n i)[i]'(by simpa [began_len] using hi) = (0, 0) := by simp [began]
      rw [List.getElem_map, eb] at a8
      rw [began_succ hi, Prs_set]
      exact a8 [(0, ii (-1))] _ (by simp) ((h_getO a5).trans h_lookOs) (old_hp a5)
    · simp (config := { maxSteps := 1000000 }) (disch := (first | assumption | omega | exact Nm.old_n (by omega) | exact Nm.old_hp (by assumption) | (simp only [List.length_set, List.length_cons, List.length_nil, List.length_append, List.length_map, List.length_replicate] <;> omega))) only [nmS0, nmS1, nmS2, nmS3, nmS4, nmS5, nmS6, Nat.testBit, Nat.reduceShiftRight, Nat.reduceAnd, Nat.reduceBNe, cond_true, cond_false, NT.get_leaf, Nat.reduceSub, d_true, d_false, clsOf, beq_self_eq_true, Int.reduceToNat, Nat.reduceAdd, Nat.reduceMul, Nat.reduceEqDiff, decide_true, decide_false, if_true, if_false, ite_true, ite_false, reduceIte, reduceCtorEq, eq_self, true_and, and_true, true_implies]; rfl
  · simp (config := { maxSteps := 1000000 }) (disch := (first | assumption | omega | exact Nm.old_n (by omega) | exact Nm.old_hp (by assumption) | (simp only [List.length_set, List.length_cons, List.length_nil, List.length_append, List.length_map, List.length_replicate] <;> omega))) only [nmS0, nmS1, nmS2, nmS3, nmS4, nmS5, nmS6, Nat.testBit, Nat.reduceShiftRight, Nat.reduceAnd, Nat.reduceBNe, cond_true, cond_false, NT.get_leaf, Nat.reduceSub, d_true, d_false, clsOf, beq_self_eq_true, Int.reduceToNat, Nat.reduceAdd, Nat.reduceMul, Nat.reduceEqDiff, decide_true, decide_false, if_true, if_false, ite_true, ite_false, reduceIte, reduceCtorEq, eq_self, true_and, and_true, true_implies, g1, g2, g3]
    have e : i = n := by omega
    subst e
    have hQ' := fun L t' => hQ (puts L t')
    simp only [puts_nil] at hQ'
    refine hQ' _ _ _ (hS.puts _ ?_) hC hu'
    simp
end LV

open Go Nm Go.Proofs
namespace LV
set_option linter.unusedSimpArgs false
set_option linter.unusedVariables false
theorem touch_len (l : List (Int × Int)) (v at_ : Int) : (touch l v at_).length = l.length := by unfold touch; split <;> simp
theorem spans_round {B M : NH} {q o ab : D4} {t : Tm} {u : NV} {l : List (Int × Int)} {v at_ : Int} (h1 : NT.get D4.e.c t = some (.ptr o 0)) (h2 : NT.get D4.e.a.a t = some (.ptr ab 0))
    (hq : M.get q = some (.loop 0 .none t [D4.e.a.f.b] nf6_a1 nf6_r2)) (ho : M.get o = some (.cells true [u])) (hab : M.get ab = some (.cells true [ii at_])) (hu : Own B M u 2 (Prs l))
    (hqo : Old M q) (hoo : Old M o) (habo : Old M ab) (oq : o ≠ q) (abq : ab ≠ q) (uq : q ∉ ids u) :
    ∃ w M', RetY Try.prog S0 q [ii v] M w M' ∧ w = .bool true ∧ Chg (q :: ids u) M M' ∧ M'.get q = some (.loop 0 .none t [D4.e.a.f.b] nf6_a1 nf6_r2) ∧ Own B M' u 2 (Prs (touch l v at_)) := by
  refine WY.ex fun K hK => ?_
  refine WY.of_wp hq rfl nf6_a1.eq_1 nf6_r2.eq_1 ?_
  change wp _ _ _ _ ⟨puts [(D4.e.a.f.b, ii v)] t, [], none, hp [] 0 M⟩ _
  have hC1 : Chg [q] M (hp [(.o q, .loop 1 .none t [D4.e.a.f.b] nf6_a1 nf6_r2)] 0 M) := hp_of rfl
  obtain ⟨w, M2, hr, hu2, hC2⟩ := touch_live (hu.chg hC1 fun j hj => by simp; rintro rfl; exact uq hj) v at_
  have hq2 := (hC2.get (hC1.old hqo) uq).trans ((h_getO hqo).trans h_lookOs)
  have oq2 := hC2.old (hC1.old hqo)
  simp (config := { maxSteps := 1000000 }) (disch := (first | assumption | omega | exact Nm.old_n (by omega) | exact Nm.old_hp (by assumption) | (simp only [List.length_set, List.length_cons, List.length_nil, List.length_append, List.length_map, List.length_replicate] <;> omega))) only [nmS0, nmS1, nmS2, nmS3, nmS4, nmS5, nmS6, Nat.testBit, Nat.reduceShiftRight, Nat.reduceAnd, Nat.reduceBNe, cond_true, cond_false, NT.get_leaf, Nat.reduceSub, d_true, d_false, clsOf, beq_self_eq_true, Int.reduceToNat, Nat.reduceAdd, Nat.reduceMul, Nat.reduceEqDiff, decide_true, decide_false, if_true, if_false, ite_true, ite_false, reduceIte, reduceCtorEq, eq_self, true_and, and_true, true_implies, h1, h2, hq, ho, hab, hr.wf, hq2]
  refine hK _ _ ⟨rfl, (((hC1.weak (T := q :: ids u) (by simp)).trans hC2 fun j hj _ => List.mem_cons_of_mem _ hj).trans (hp_of rfl) fun j hj _ => ?_), (h_getO oq2).trans h_lookOs, ?_⟩
  · simp [oldK] at hj; simp [hj]
  · exact hu2.chg (hp_of rfl) fun j hj => by simp [oldK]; rintro rfl; exact uq hj
/-- touches of all that a step reads -/
def touchAll (l : List (Int × Int)) (us : List Int) (at_ : Int) : List (Int × Int) := us.foldl (fun l v => touch l v at_) l
theorem touchAll_len (l : List (Int × Int)) (us : List Int) (at_ : Int) : (touchAll l us at_).length = l.length := by
  induction us generalizing l with
  | nil => rfl
  | cons v us ih => show (touchAll (touch l v at_) us at_).length = _; rw [ih, touch_len]
theorem touchAll_snoc (l : List (Int × Int)) (us : List Int) (v at_ : Int) : touchAll l (us ++ [v]) at_ = touch (touchAll l us at_) v at_ := by simp [touchAll]
theorem spans_range {B M : NH} {s : St} {t : Tm} {dfs : List Dfr} {o ab sid : D4} {u : NV} {l : List (Int × Int)} {at_ : Int} (h1 : NT.get D4.e.c t = some (.ptr o 0)) (h2 : NT.get D4.e.a.a t = some (.ptr ab 0)) (h3 : NT.get D4.e.a.f.a t = some (.fn 18 [.ptr sid 0]))
    (ho : M.get o = some (.cells true [u])) (hab : M.get ab = some (.cells true [ii at_])) (hs : M.get sid = some (.cells true s.l)) (hu : Own B M u 2 (Prs l)) (hoo : Old M o) (habo : Old M ab) (hso : Old M sid) (uo : o ∉ ids u) (uab : ab ∉ ids u) (us : sid ∉ ids u)
    {Q : Out → Dyn → Prop} (hQ : ∀ M', Own B M' u 2 (Prs (touchAll l s.uses at_)) → M'.get (na M 0) = some (.defd true) → Old M' (na M 0) → Chg (ids u) M M' → Q .norm ⟨puts [] t, .mark (na M 0) :: dfs, none, hp [] 0 M'⟩) :
    W Try.prog S0 none (.rangeFunc (.tmp D4.e.a.f.a) [D4.e.a.f.b] nf6_a1 nf6_r2) ⟨t, dfs, none, M⟩ Q := by
  have key : ∀ M1, M1 = hp [(.n 1, .loop 0 .none t [D4.e.a.f.b] nf6_a1 nf6_r2), (.n 0, .defd true)] 2 M → W Try.prog S0 none (.rangeFunc (.tmp D4.e.a.f.a) [D4.e.a.f.b] nf6_a1 nf6_r2) ⟨t, dfs, none, M⟩ Q := by
    intro M1 hM1
    have hG : Chg [] M M1 := by rw [hM1]; exact hp_of rfl
    have oq : Old M1 (na M 1) := by rw [hM1]; exact old_n (by omega)
    have om : Old M1 (na M 0) := by rw [hM1]; exact old_n (by omega)
    have gq : M1.get (na M 1) = some (.loop 0 .none t [D4.e.a.f.b] nf6_a1 nf6_r2) := by rw [hM1]; exact h_getN
    have gm : M1.get (na M 0) = some (.defd true) := by rw [hM1]; exact h_getN
    have hidu : ∀ j ∈ ids u, Old M j := hu.sl.old
    have uq : na M 1 ∉ ids u := fun h => na_old (hidu _ h)
    have um : na M 0 ∉ ids u := fun h => na_old (hidu _ h)
    obtain ⟨v, m', hr, b, hb, hC, hq, hown⟩ := reads1 (m := M1) (s := s) (q := na M 1) (sid := sid) (w := true) ((hG.get hso (by simp)).trans hs) (hG.old hso) (T := na M 1 :: ids u)
      (by intro i hi; rcases List.mem_cons.mp hi with rfl | hi; exact oq; exact hG.old (hidu i hi))
      (fun b j N => N.get (na M 1) = some (.loop 0 .none t [D4.e.a.f.b] nf6_a1 nf6_r2) ∧ Own B N u 2 (Prs (touchAll l (s.uses.take j) at_)))
      (fun b hb => ⟨(hb.get oq (by simp)).trans gq, (hu.chg hG fun _ _ => by simp).chg hb fun _ _ => by simp⟩)
      (by
        rintro b j v N hj hb hC ⟨hq, hown⟩
        have nin : ∀ j, Old M j → j ∉ ids u → j ∉ na M 1 :: ids u := fun j hj h => by
          simp only [List.mem_cons, not_or]; exact ⟨fun e => na_old (e ▸ hj), h⟩
        have get2 : ∀ j x, Old M j → j ∉ ids u → M.get j = some x → N.get j = some x := fun j x hj h hx =>
          (hC.get (hb.old (hG.old hj)) (nin j hj h)).trans ((hb.get (hG.old hj) (by simp)).trans ((hG.get hj (by simp)).trans hx))
        obtain ⟨w, M', h4, rfl, h5, h6, h7⟩ := spans_round h1 h2 hq (get2 o _ hoo uo ho) (get2 ab _ habo uab hab) hown (hC.old (hb.old oq)) (hC.old (hb.old (hG.old hoo))) (hC.old (hb.old (hG.old habo))) (hoo.ne 1) (habo.ne 1) uq (v := v)
        refine ⟨M', h4, hC.trans h5 fun j hj _ => hj, h6, ?_⟩
        rw [List.take_add_one, hj]
        show Own B M' u 2 (Prs (touchAll l (s.uses.take j ++ [v]) at_))
        rw [touchAll_snoc]; exact h7)
    rw [List.take_length] at hown
    refine W.rangeN h3 (hM1 ▸ hr) hq ?_ (hC.old (hb.old oq))
    have hC2 : Chg [na M 1] m' (hp [(AK.o (na M 1), NO.loop 3 Jump.none t [D4.e.a.f.b] nf6_a1 nf6_r2)] 0 m') := hp_of rfl
    rw [← hp_nil (hp [(AK.o (na M 1), NO.loop 3 Jump.none t [D4.e.a.f.b] nf6_a1 nf6_r2)] 0 m')]
    refine hQ _ ?_ ?_ (hC2.old (hC.old (hb.old om))) ?_
    · exact hown.chg hC2 fun i hi => by simp; rintro rfl; exact uq hi
    · refine (hC2.get (hC.old (hb.old om)) (by simp [na_eq])).trans ((hC.get (hb.old om) ?_).trans ((hb.get om (by simp)).trans gm))
      simp only [List.mem_cons, not_or]; exact ⟨fun e => by have := na_inj e; omega, um⟩
    · refine (((hG.trans hb fun _ h _ => h).weak (T := ids u) (by simp)).trans hC ?_).trans hC2 ?_
      · intro i hi hio; rcases List.mem_cons.mp hi with rfl | hi
        · exact absurd hio na_old
        · exact hi
      · intro i hi hio; simp at hi; subst hi; exact absurd hio na_old
  exact key _ rfl
end LV

open Go Nm Go.Proofs
namespace LV
set_option linter.unusedSimpArgs false
set_option linter.unusedVariables false
def livesF (steps : List St) (l : List (Int × Int)) : Nat → List (Int × Int)
  | 0 => l
  | i + 1 => match steps[i]? with
    | some s => touch (touchAll (livesF steps l i) s.uses i) s.sets i
    | none => livesF steps l i
theorem livesF_len (steps : List St) (l : List (Int × Int)) (i : Nat) : (livesF steps l i).length = l.length := by
  induction i with
  | zero => rfl
  | succ i ih =>
    show (match steps[i]? with | some s => touch (touchAll (livesF steps l i) s.uses i) s.sets i | none => livesF steps l i).length = _
    cases steps[i]? with
    | none => exact ih
    | some s => dsimp only; rw [touch_len, touchAll_len, ih]
theorem ls_l5 {B M : NH} {o : D4} {u vs : NV} {steps : List St} {l : List (Int × Int)} (ho : M.get o = some (.cells true [u])) (hoo : Old M o) (hu : Own B M u 2 (Prs l)) (hou : o ∉ ids u) (hs : Sl M vs 9 (Sts steps)) (hn : steps.length ≤ 300) (hvu : ∀ j ∈ ids vs, Old B j)
    {t : Tm} (g1 : NT.get D4.e.c t = some (.ptr o 0)) (g2 : NT.get D4.e.a.b.a t = some vs) (g3 : NT.get D4.e.a.b.b t = some (ii steps.length)) (g4 : NT.get D4.e.a.b.c t = some (ii 0)) (ks : List D4) (hks : ks = [D4.e.a])
    {x : NV} (g5 : NT.get D4.e.a t = some x)
    {Q : Out → Dyn → Prop} (hQ : ∀ (t' : Tm) (M' : NH) (ml : List D4), NT.get D4.e.a t' = some x → NT.get D4.e.c t' = some (.ptr o 0) → Chg (ids u) M M' → Own B M' u 2 (Prs (livesF steps l steps.length)) → ml.Nodup → (∀ i ∈ ml, ¬ Old M i ∧ Old M' i ∧ M'.get i = some (.defd true) ∧ i ∉ ids u) → Q (.exit 2) ⟨puts [] t', ml.map .mark, none, hp [] 0 M'⟩) :
    W Try.prog S0 none nf6_l5.loop ⟨t, [], none, M⟩ Q := by
  have hlen := hs.len
  rw [List.length_map] at hlen
  refine W.loop (fun k d => ∃ t' M' i ml, d = ⟨t', ml.map .mark, none, M'⟩ ∧ NT.get D4.e.c t' = some (.ptr o 0) ∧ NT.get D4.e.a.b.a t' = some vs ∧ NT.get D4.e.a.b.b t' = some (ii steps.length) ∧ NT.get D4.e.a t' = some x ∧ Chg (ids u) M M' ∧ Own B M' u 2 (Prs (livesF steps l i)) ∧ ml.Nodup ∧ (∀ j ∈ ml, ¬ Old M j ∧ Old M' j ∧ M'.get j = some (.defd true) ∧ j ∉ ids u) ∧ NT.get D4.e.a.b.c t' = some (ii (i : Nat)) ∧ i + k = steps.length)
    ?_ steps.length _ ⟨t, M, 0, [], rfl, g1, g2, g3, g5, (Chg.refl _).weak (by simp), hu, List.nodup_nil, by simp, g4, by omega⟩
  rintro k d ⟨t', M', i, ml, rfl, g1, g2, g3, g5, hC, hu', hnd, hml, g4, hik⟩
  have ho' := (hC.get hoo hou).trans ho
  have hoo' := hC.old hoo
  have hs' := hs.chg hC fun j hj hju => hu.new j hju (hvu j hj)
  apply wp_sound
  unfold nf6_l5
  change wp _ _ _ _ ⟨puts [] t', _, none, M'⟩ _
  rw [← hp_nil M']
  by_cases hi : i < steps.length
  · obtain ⟨id, off, w', c, a1, a2, a3, a4, a5⟩ := hs'.at i (by simpa using hi)
    rw [List.getElem_map] at a5
    have hl9 := St.len steps[i]
    simp (config := { maxSteps := 1000000 }) (disch := (first | assumption | omega | exact Nm.old_n (by omega) | exact Nm.old_hp (by assumption) | (simp only [List.length_set, List.length_cons, List.length_nil, List.length_append, List.length_map, List.length_replicate] <;> omega))) only [nmS0, nmS1, nmS2, nmS3, nmS4, nmS5, nmS6, Nat.testBit, Nat.reduceShiftRight, Nat.reduceAnd, Nat.reduceBNe, cond_true, cond_false, NT.get_leaf, Nat.reduceSub, d_true, d_false, clsOf, beq_self_eq_true, Int.reduceToNat, Nat.reduceAdd, Nat.reduceMul, Nat.reduceEqDiff, decide_true, decide_false, if_true, if_false, ite_true, ite_false, reduceIte, reduceCtorEq, eq_self, true_and, and_true, true_implies, g1, g2, g3, g4, hlen, a1, a2, a5, St.all, (reads_ret _ steps[i]).wf']
    have hC1 : ∀ l, oldK l = [] → ∀ k, Chg [] M' (hp l k M') := fun l h k => hp_of h
    have huM : ∀ j ∈ ids u, Old M' j := hu'.sl.old
    refine spans_range (B := B) (s := steps[i]) (o := o) (ab := na M' 0) (sid := na M' 2) (u := u) (l := livesF steps l i) (at_ := i) ?_ ?_ ?_ ?_ ?_ ?_ (hu'.chg (hp_of rfl) ?_) (old_hp hoo') (old_n (by omega)) (old_n (by omega)) hou (fun h => na_old (huM _ h)) (fun h => na_old (huM _ h)) ?_
    · simp (config := { maxSteps := 1000000 }) (disch := (first | assumption | omega | exact Nm.old_n (by omega) | exact Nm.old_hp (by assumption) | (simp only [List.length_set, List.length_cons, List.length_nil, List.length_append, List.length_map, List.length_replicate] <;> omega))) only [nmS0, nmS1, nmS2, nmS3, nmS4, nmS5, nmS6, Nat.testBit, Nat.reduceShiftRight, Nat.reduceAnd, Nat.reduceBNe, cond_true, cond_false, NT.get_leaf, Nat.reduceSub, d_true, d_false, clsOf, beq_self_eq_true, Int.reduceToNat, Nat.reduceAdd, Nat.reduceMul, Nat.reduceEqDiff, decide_true, decide_false, if_true, if_false, ite_true, ite_false, reduceIte, reduceCtorEq, eq_self, true_and, and_true, true_implies, g1]
    · simp (config := { maxSteps := 1000000 }) (disch := (first | assumption | omega | exact Nm.old_n (by omega) | exact Nm.old_hp (by assumption) | (simp only [List.length_set, List.length_cons, List.length_nil, List.length_append, List.length_map, List.length_replicate] <;> omega))) only [nmS0, nmS1, nmS2, nmS3, nmS4, nmS5, nmS6, Nat.testBit, Nat.reduceShiftRight, Nat.reduceAnd, Nat.reduceBNe, cond_true, cond_false, NT.get_leaf, Nat.reduceSub, d_true, d_false, clsOf, beq_self_eq_true, Int.reduceToNat, Nat.reduceAdd, Nat.reduceMul, Nat.reduceEqDiff, decide_true, decide_false, if_true, if_false, ite_true, ite_false, reduceIte, reduceCtorEq, eq_self, true_and, and_true, true_implies]
    · simp (config := { maxSteps := 1000000 }) (disch := (first | assumption | omega | exact Nm.old_n (by omega) | exact Nm.old_hp (by assumption) | (simp only [List.length_set, List.length_cons, List.length_nil, List.length_append, List.length_map, List.length_replicate] <;> omega))) only [nmS0, nmS1, nmS2, nmS3, nmS4, nmS5, nmS6, Nat.testBit, Nat.reduceShiftRight, Nat.reduceAnd, Nat.reduceBNe, cond_true, cond_false, NT.get_leaf, Nat.reduceSub, d_true, d_false, clsOf, beq_self_eq_true, Int.reduceToNat, Nat.reduceAdd, Nat.reduceMul, Nat.reduceEqDiff, decide_true, decide_false, if_true, if_false, ite_true, ite_false, reduceIte, reduceCtorEq, eq_self, true_and, and_true, true_implies]
    · simp (config := { maxSteps := 1000000 }) (disch := (first | assumption | omega | exact Nm.old_n (by omega) | exact Nm.old_hp (by assumption) | (simp only [List.length_set, List.length_cons, List.length_nil, List.length_append, List.length_map, List.length_replicate] <;> omega))) only [nmS0, nmS1, nmS2, nmS3, nmS4, nmS5, nmS6, Nat.testBit, Nat.reduceShiftRight, Nat.reduceAnd, Nat.reduceBNe, cond_true, cond_false, NT.get_leaf, Nat.reduceSub, d_true, d_false, clsOf, beq_self_eq_true, Int.reduceToNat, Nat.reduceAdd, Nat.reduceMul, Nat.reduceEqDiff, decide_true, decide_false, if_true, if_false, ite_true, ite_false, reduceIte, reduceCtorEq, eq_self, true_and, and_true, true_implies, ho']
    · simp (config := { maxSteps := 1000000 }) (disch := (first | assumption | omega | exact Nm.old_n (by omega) | exact Nm.old_hp (by assumption) | (simp only [List.length_set, List.length_cons, List.length_nil, List.length_append, List.length_map, List.length_replicate] <;> omega))) only [nmS0, nmS1, nmS2, nmS3, nmS4, nmS5, nmS6, Nat.testBit, Nat.reduceShiftRight, Nat.reduceAnd, Nat.reduceBNe, cond_true, cond_false, NT.get_leaf, Nat.reduceSub, d_true, d_false, clsOf, beq_self_eq_true, Int.reduceToNat, Nat.reduceAdd, Nat.reduceMul, Nat.reduceEqDiff, decide_true, decide_false, if_true, if_false, ite_true, ite_false, reduceIte, reduceCtorEq, eq_self, true_and, and_true, true_implies]
    · simp (config := { maxSteps := 1000000 }) (disch := (first | assumption | omega | exact Nm.old_n (by omega) | exact Nm.old_hp (by assumption) | (simp only [List.length_set, List.length_cons, List.length_nil, List.length_append, List.length_map, List.length_replicate] <;> omega))) only [nmS0, nmS1, nmS2, nmS3, nmS4, nmS5, nmS6, Nat.testBit, Nat.reduceShiftRight, Nat.reduceAnd, Nat.reduceBNe, cond_true, cond_false, NT.get_leaf, Nat.reduceSub, d_true, d_false, clsOf, beq_self_eq_true, Int.reduceToNat, Nat.reduceAdd, Nat.reduceMul, Nat.reduceEqDiff, decide_true, decide_false, if_true, if_false, ite_true, ite_false, reduceIte, reduceCtorEq, eq_self, true_and, and_true, true_implies]
    · intro _ _; simp [oldK]
    intro M2 hu2 hm2 hmo2 hC2
    have e0 : Old M2 (na M' 0) := hC2.old (old_n (by omega))
    have e1 : Old M2 (na M' 1) := hC2.old (old_n (by omega))
    have f0 : M2.get (na M' 0) = some (.cells true [ii i]) := (hC2.get (old_n (by omega)) (fun h => na_old (huM _ h))).trans (by simp (config := { maxSteps := 1000000 }) (disch := (first | assumption | omega | exact Nm.old_n (by omega) | exact Nm.old_hp (by assumption) | (simp only [List.length_set, List.length_cons, List.length_nil, List.length_append, List.length_map, List.length_replicate] <;> omega))) only [nmS0, nmS1, nmS2, nmS3, nmS4, nmS5, nmS6, Nat.testBit, Nat.reduceShiftRight, Nat.reduceAnd, Nat.reduceBNe, cond_true, cond_false, NT.get_leaf, Nat.reduceSub, d_true, d_false, clsOf, beq_self_eq_true, Int.reduceToNat, Nat.reduceAdd, Nat.reduceMul, Nat.reduceEqDiff, decide_true, decide_false, if_true, if_false, ite_true, ite_false, reduceIte, reduceCtorEq, eq_self, true_and, and_true, true_implies])
    have f1 : M2.get (na M' 1) = some (.cells true steps[i].l) := (hC2.get (old_n (by omega)) (fun h => na_old (huM _ h))).trans (by simp (config := { maxSteps := 1000000 }) (disch := (first | assumption | omega | exact Nm.old_n (by omega) | exact Nm.old_hp (by assumption) | (simp only [List.length_set, List.length_cons, List.length_nil, List.length_append, List.length_map, List.length_replicate] <;> omega))) only [nmS0, nmS1, nmS2, nmS3, nmS4, nmS5, nmS6, Nat.testBit, Nat.reduceShiftRight, Nat.reduceAnd, Nat.reduceBNe, cond_true, cond_false, NT.get_leaf, Nat.reduceSub, d_true, d_false, clsOf, beq_self_eq_true, Int.reduceToNat, Nat.reduceAdd, Nat.reduceMul, Nat.reduceEqDiff, decide_true, decide_false, if_true, if_false, ite_true, ite_false, reduceIte, reduceCtorEq, eq_self, true_and, and_true, true_implies])
    have fo : M2.get o = some (.cells true [u]) := (hC2.get (old_hp hoo') hou).trans (by simp (config := { maxSteps := 1000000 }) (disch := (first | assumption | omega | exact Nm.old_n (by omega) | exact Nm.old_hp (by assumption) | (simp only [List.length_set, List.length_cons, List.length_nil, List.length_append, List.length_map, List.length_replicate] <;> omega))) only [nmS0, nmS1, nmS2, nmS3, nmS4, nmS5, nmS6, Nat.testBit, Nat.reduceShiftRight, Nat.reduceAnd, Nat.reduceBNe, cond_true, cond_false, NT.get_leaf, Nat.reduceSub, d_true, d_false, clsOf, beq_self_eq_true, Int.reduceToNat, Nat.reduceAdd, Nat.reduceMul, Nat.reduceEqDiff, decide_true, decide_false, if_true, if_false, ite_true, ite_false, reduceIte, reduceCtorEq, eq_self, true_and, and_true, true_implies, ho'])
    have oo2 := hC2.old (old_hp hoo')
    obtain ⟨M3, hr3, hC3⟩ := sets_live M2 steps[i]
    have f03 := (hC3.get e0 (by simp)).trans f0
    have f13 := (hC3.get e1 (by simp)).trans f1
    have fo3 := (hC3.get oo2 (by simp)).trans fo
    obtain ⟨w4, M4, hr4, hu4, hC4⟩ := touch_live (hu2.chg hC3 fun _ _ => by simp) steps[i].sets i
    have hsu : sameV 4 u u = true := hu'.sl.same
    have fo4 := (hC4.get (hC3.old oo2) hou).trans fo3
    have f04 := (hC4.get (hC3.old e0) (fun h => na_old (huM _ h))).trans f03
    simp (config := { maxSteps := 1000000 }) (disch := (first | assumption | omega | exact Nm.old_n (by omega) | exact Nm.old_hp (by assumption) | (simp only [List.length_set, List.length_cons, List.length_nil, List.length_append, List.length_map, List.length_replicate] <;> omega))) only [nmS0, nmS1, nmS2, nmS3, nmS4, nmS5, nmS6, Nat.testBit, Nat.reduceShiftRight, Nat.reduceAnd, Nat.reduceBNe, cond_true, cond_false, NT.get_leaf, Nat.reduceSub, d_true, d_false, clsOf, beq_self_eq_true, Int.reduceToNat, Nat.reduceAdd, Nat.reduceMul, Nat.reduceEqDiff, decide_true, decide_false, if_true, if_false, ite_true, ite_false, reduceIte, reduceCtorEq, eq_self, true_and, and_true, true_implies, g1, g2, g4, f0, f1, fo, St.all, hp_nil, hr3.wf', hr4.wf', f03, f13, fo3, fo4, f04, hsu]
    have hC5 : Chg (ids u) M' M4 := ((((hp_of rfl : Chg [] M' _).weak (T := ids u) (by simp)).trans hC2 fun _ h _ => h).trans hC3 fun _ h _ => by simp at h).trans hC4 fun _ h _ => h
    have hmk : ∀ p l, na (hp l p M') 0 = na M' p := fun p l => by
      apply D4.toNat_inj
      unfold na
      rw [D4.toNat_of, D4.toNat_of]
      show (na M' p).toNat + 0 = _
      unfold na; rw [D4.toNat_of]; omega
    rw [hmk] at hm2 hmo2 ⊢
    refine ⟨k - 1, by omega, _, _, i + 1, na M' 3 :: ml, rfl, ?_, ?_, ?_, ?_, hC.trans hC5 fun _ h _ => h, ?_, ?_, ?_, ?_, by omega⟩
    · simp (config := { maxSteps := 1000000 }) (disch := (first | assumption | omega | exact Nm.old_n (by omega) | exact Nm.old_hp (by assumption) | (simp only [List.length_set, List.length_cons, List.length_nil, List.length_append, List.length_map, List.length_replicate] <;> omega))) only [nmS0, nmS1, nmS2, nmS3, nmS4, nmS5, nmS6, Nat.testBit, Nat.reduceShiftRight, Nat.reduceAnd, Nat.reduceBNe, cond_true, cond_false, NT.get_leaf, Nat.reduceSub, d_true, d_false, clsOf, beq_self_eq_true, Int.reduceToNat, Nat.reduceAdd, Nat.reduceMul, Nat.reduceEqDiff, decide_true, decide_false, if_true, if_false, ite_true, ite_false, reduceIte, reduceCtorEq, eq_self, true_and, and_true, true_implies, g1]
    · simp (config := { maxSteps := 1000000 }) (disch := (first | assumption | omega | exact Nm.old_n (by omega) | exact Nm.old_hp (by assumption) | (simp only [List.length_set, List.length_cons, List.length_nil, List.length_append, List.length_map, List.length_replicate] <;> omega))) only [nmS0, nmS1, nmS2, nmS3, nmS4, nmS5, nmS6, Nat.testBit, Nat.reduceShiftRight, Nat.reduceAnd, Nat.reduceBNe, cond_true, cond_false, NT.get_leaf, Nat.reduceSub, d_true, d_false, clsOf, beq_self_eq_true, Int.reduceToNat, Nat.reduceAdd, Nat.reduceMul, Nat.reduceEqDiff, decide_true, decide_false, if_true, if_false, ite_true, ite_false, reduceIte, reduceCtorEq, eq_self, true_and, and_true, true_implies, g2]
    · simp (config := { maxSteps := 1000000 }) (disch := (first | assumption | omega | exact Nm.old_n (by omega) | exact Nm.old_hp (by assumption) | (simp only [List.length_set, List.length_cons, List.length_nil, List.length_append, List.length_map, List.length_replicate] <;> omega))) only [nmS0, nmS1, nmS2, nmS3, nmS4, nmS5, nmS6, Nat.testBit, Nat.reduceShiftRight, Nat.reduceAnd, Nat.reduceBNe, cond_true, cond_false, NT.get_leaf, Nat.reduceSub, d_true, d_false, clsOf, beq_self_eq_true, Int.reduceToNat, Nat.reduceAdd, Nat.reduceMul, Nat.reduceEqDiff, decide_true, decide_false, if_true, if_false, ite_true, ite_false, reduceIte, reduceCtorEq, eq_self, true_and, and_true, true_implies, g3]
    · simp (config := { maxSteps := 1000000 }) (disch := (first | assumption | omega | exact Nm.old_n (by omega) | exact Nm.old_hp (by assumption) | (simp only [List.length_set, List.length_cons, List.length_nil, List.length_append, List.length_map, List.length_replicate] <;> omega))) only [nmS0, nmS1, nmS2, nmS3, nmS4, nmS5, nmS6, Nat.testBit, Nat.reduceShiftRight, Nat.reduceAnd, Nat.reduceBNe, cond_true, cond_false, NT.get_leaf, Nat.reduceSub, d_true, d_false, clsOf, beq_self_eq_true, Int.reduceToNat, Nat.reduceAdd, Nat.reduceMul, Nat.reduceEqDiff, decide_true, decide_false, if_true, if_false, ite_true, ite_false, reduceIte, reduceCtorEq, eq_self, true_and, and_true, true_implies, g5]
    · show Own B M4 u 2 (Prs (match steps[i]? with | some s => touch (touchAll (livesF steps l i) s.uses i) s.sets i | none => livesF steps l i))
      rw [List.getElem?_eq_getElem hi]; exact hu4
    · rw [List.nodup_cons]; exact ⟨fun h => na_old (hml _ h).2.1, hnd⟩
    · intro j hj
      rcases List.mem_cons.mp hj with rfl | hj
      · refine ⟨fun h => na_old (hC.old h), hC4.old (hC3.old hmo2), ?_, fun h => na_old (huM _ h)⟩
        exact (hC4.get (hC3.old hmo2) (fun h => na_old (huM _ h))).trans ((hC3.get hmo2 (by simp)).trans hm2)
      · obtain ⟨q1, q2, q3, q4⟩ := hml j hj
        exact ⟨q1, hC5.old q2, (hC5.get q2 q4).trans q3, q4⟩
    · simp (config := { maxSteps := 1000000 }) (disch := (first | assumption | omega | exact Nm.old_n (by omega) | exact Nm.old_hp (by assumption) | (simp only [List.length_set, List.length_cons, List.length_nil, List.length_append, List.length_map, List.length_replicate] <;> omega))) only [nmS0, nmS1, nmS2, nmS3, nmS4, nmS5, nmS6, Nat.testBit, Nat.reduceShiftRight, Nat.reduceAnd, Nat.reduceBNe, cond_true, cond_false, NT.get_leaf, Nat.reduceSub, d_true, d_false, clsOf, beq_self_eq_true, Int.reduceToNat, Nat.reduceAdd, Nat.reduceMul, Nat.reduceEqDiff, decide_true, decide_false, if_true, if_false, ite_true, ite_false, reduceIte, reduceCtorEq, eq_self, true_and, and_true, true_implies]; rfl
  · simp (config := { maxSteps := 1000000 }) (disch := (first | assumption | omega | exact Nm.old_n (by omega) | exact Nm.old_hp (by assumption) | (simp only [List.length_set, List.length_cons, List.length_nil, List.length_append, List.length_map, List.length_replicate] <;> omega))) only [nmS0, nmS1, nmS2, nmS3, nmS4, nmS5, nmS6, Nat.testBit, Nat.reduceShiftRight, Nat.reduceAnd, Nat.reduceBNe, cond_true, cond_false, NT.get_leaf, Nat.reduceSub, d_true, d_false, clsOf, beq_self_eq_true, Int.reduceToNat, Nat.reduceAdd, Nat.reduceMul, Nat.reduceEqDiff, decide_true, decide_false, if_true, if_false, ite_true, ite_false, reduceIte, reduceCtorEq, eq_self, true_and, and_true, true_implies, g1, g2, g3, g4, g5]
    have e : i = steps.length := by omega
    subst e
    have hQ' := fun L t' => hQ (puts L t')
    simp only [puts_nil] at hQ'
    refine hQ' _ _ _ _ ?_ ?_ hC hu' hnd hml
    · simp (config := { maxSteps := 1000000 }) (disch := (first | assumption | omega | exact Nm.old_n (by omega) | exact Nm.old_hp (by assumption) | (simp only [List.length_set, List.length_cons, List.length_nil, List.length_append, List.length_map, List.length_replicate] <;> omega))) only [nmS0, nmS1, nmS2, nmS3, nmS4, nmS5, nmS6, Nat.testBit, Nat.reduceShiftRight, Nat.reduceAnd, Nat.reduceBNe, cond_true, cond_false, NT.get_leaf, Nat.reduceSub, d_true, d_false, clsOf, beq_self_eq_true, Int.reduceToNat, Nat.reduceAdd, Nat.reduceMul, Nat.reduceEqDiff, decide_true, decide_false, if_true, if_false, ite_true, ite_false, reduceIte, reduceCtorEq, eq_self, true_and, and_true, true_implies, g5]
    · simp (config := { maxSteps := 1000000 }) (disch := (first | assumption | omega | exact Nm.old_n (by omega) | exact Nm.old_hp (by assumption) | (simp only [List.length_set, List.length_cons, List.length_nil, List.length_append, List.length_map, List.length_replicate] <;> omega))) only [nmS0, nmS1, nmS2, nmS3, nmS4, nmS5, nmS6, Nat.testBit, Nat.reduceShiftRight, Nat.reduceAnd, Nat.reduceBNe, cond_true, cond_false, NT.get_leaf, Nat.reduceSub, d_true, d_false, clsOf, beq_self_eq_true, Int.reduceToNat, Nat.reduceAdd, Nat.reduceMul, Nat.reduceEqDiff, decide_true, decide_false, if_true, if_false, ite_true, ite_false, reduceIte, reduceCtorEq, eq_self, true_and, and_true, true_implies, g1]
end LV

open Go Nm Go.Proofs
namespace LV
set_option linter.unusedSimpArgs false
set_option linter.unusedVariables false
def capF (l : List (Int × Int)) (p : Int × Int) : Nat → List (Int × Int)
  | 0 => l
  | i + 1 => (capF l p i).set i p
theorem capF_len (l : List (Int × Int)) (p : Int × Int) (i : Nat) : (capF l p i).length = l.length := by
  induction i with
  | zero => rfl
  | succ i ih => show ((capF l p i).set i p).length = _; rw [List.length_set, ih]
theorem ls_l4 {B M : NH} {o bx : D4} {u vs : NV} {steps : List St} {l : List (Int × Int)} {vars locals : Int} {n : Nat} {w : Bool} (ho : M.get o = some (.cells true [u])) (hoo : Old M o) (hou : o ∉ ids u) (hu : Own B M u 2 (Prs l)) (hbx : M.get bx = some (.cells w [ii vars, ii locals, vs])) (hbo : Old M bx) (hbu : bx ∉ ids u) (hs : Sl M vs 9 (Sts steps)) (hn : steps.length ≤ 300) (hvu : ∀ j ∈ ids vs, Old B j) (hnl : n ≤ l.length) (hll : l.length ≤ 400) (dfs : List Dfr)
    {t : Tm} (g1 : NT.get D4.e.c t = some (.ptr o 0)) (g2 : NT.get D4.e.a t = some (.ptr bx 0)) (g3 : NT.get D4.e.c.a.a t = some (ii n)) (g4 : NT.get D4.e.c.a.b t = some (ii 0))
    {Q : Out → Dyn → Prop} (hQ : ∀ t' M', NT.get D4.e.c t' = some (.ptr o 0) → Chg (ids u) M M' → Own B M' u 2 (Prs (if steps.length > 0 then capF l (0, (steps.length : Int) - 1) n else l)) → Q (.exit 6) ⟨puts [] t', dfs, none, hp [] 0 M'⟩) :
    W Try.prog S0 none nf6_l4.loop ⟨t, dfs, none, M⟩ Q := by
  have hlen := hs.len
  rw [List.length_map] at hlen
  refine W.loop (fun k d => ∃ t' M' i, d = ⟨t', dfs, none, M'⟩ ∧ NT.get D4.e.c t' = some (.ptr o 0) ∧ NT.get D4.e.a t' = some (.ptr bx 0) ∧ NT.get D4.e.c.a.a t' = some (ii n) ∧ Chg (ids u) M M' ∧ Own B M' u 2 (Prs (if steps.length > 0 then capF l (0, (steps.length : Int) - 1) i else l)) ∧ NT.get D4.e.c.a.b t' = some (ii (i : Nat)) ∧ i + k = n)
    ?_ n _ ⟨t, M, 0, rfl, g1, g2, g3, (Chg.refl _).weak (by simp), by simpa [capF] using hu, g4, by omega⟩
  rintro k d ⟨t', M', i, rfl, g1, g2, g3, hC, hu', g4, hik⟩
  have ho' := (hC.get hoo hou).trans ho
  have hoo' := hC.old hoo
  have hb' := (hC.get hbo hbu).trans hbx
  have hbo' := hC.old hbo
  apply wp_sound
  unfold nf6_l4
  change wp _ _ _ _ ⟨puts [] t', _, none, M'⟩ _
  rw [← hp_nil M']
  by_cases hi : i < n
  · by_cases hp : steps.length > 0
    · simp only [hp, if_true] at hu'
      obtain ⟨id, off, c, a1, a2, a3, a4, a5, a6, a7, a8⟩ := hu'.at_all i (by simp [capF_len]; omega)
      simp (config := { maxSteps := 1000000 }) (disch := (first | assumption | omega | exact Nm.old_n (by omega) | exact Nm.old_hp (by assumption) | (simp only [List.length_set, List.length_cons, List.length_nil, List.length_append, List.length_map, List.length_replicate] <;> omega))) only [nmS0, nmS1, nmS2, nmS3, nmS4, nmS5, nmS6, Nat.testBit, Nat.reduceShiftRight, Nat.reduceAnd, Nat.reduceBNe, cond_true, cond_false, NT.get_leaf, Nat.reduceSub, d_true, d_false, clsOf, beq_self_eq_true, Int.reduceToNat, Nat.reduceAdd, Nat.reduceMul, Nat.reduceEqDiff, decide_true, decide_false, if_true, if_false, ite_true, ite_false, reduceIte, reduceCtorEq, eq_self, true_and, and_true, true_implies, g1, g2, g3, g4, hb', hlen, ho', a1, a4]
      refine ⟨k - 1, by omega, _, _, i + 1, rfl, ?_, ?_, ?_, hC.trans (hp_of rfl) fun j hj _ => by rw [a2]; exact hj, ?_, ?_, by omega⟩
      · simp (config := { maxSteps := 1000000 }) (disch := (first | assumption | omega | exact Nm.old_n (by omega) | exact Nm.old_hp (by assumption) | (simp only [List.length_set, List.length_cons, List.length_nil, List.length_append, List.length_map, List.length_replicate] <;> omega))) only [nmS0, nmS1, nmS2, nmS3, nmS4, nmS5, nmS6, Nat.testBit, Nat.reduceShiftRight, Nat.reduceAnd, Nat.reduceBNe, cond_true, cond_false, NT.get_leaf, Nat.reduceSub, d_true, d_false, clsOf, beq_self_eq_true, Int.reduceToNat, Nat.reduceAdd, Nat.reduceMul, Nat.reduceEqDiff, decide_true, decide_false, if_true, if_false, ite_true, ite_false, reduceIte, reduceCtorEq, eq_self, true_and, and_true, true_implies, g1]
      · simp (config := { maxSteps := 1000000 }) (disch := (first | assumption | omega | exact Nm.old_n (by omega) | exact Nm.old_hp (by assumption) | (simp only [List.length_set, List.length_cons, List.length_nil, List.length_append, List.length_map, List.length_replicate] <;> omega))) only [nmS0, nmS1, nmS2, nmS3, nmS4, nmS5, nmS6, Nat.testBit, Nat.reduceShiftRight, Nat.reduceAnd, Nat.reduceBNe, cond_true, cond_false, NT.get_leaf, Nat.reduceSub, d_true, d_false, clsOf, beq_self_eq_true, Int.reduceToNat, Nat.reduceAdd, Nat.reduceMul, Nat.reduceEqDiff, decide_true, decide_false, if_true, if_false, ite_true, ite_false, reduceIte, reduceCtorEq, eq_self, true_and, and_true, true_implies, g2]
      · simp (config := { maxSteps := 1000000 }) (disch := (first | assumption | omega | exact Nm.old_n (by omega) | exact Nm.old_hp (by assumption) | (simp only [List.length_set, List.length_cons, List.length_nil, List.length_append, List.length_map, List.length_replicate] <;> omega))) only [nmS0, nmS1, nmS2, nmS3, nmS4, nmS5, nmS6, Nat.testBit, Nat.reduceShiftRight, Nat.reduceAnd, Nat.reduceBNe, cond_true, cond_false, NT.get_leaf, Nat.reduceSub, d_true, d_false, clsOf, beq_self_eq_true, Int.reduceToNat, Nat.reduceAdd, Nat.reduceMul, Nat.reduceEqDiff, decide_true, decide_false, if_true, if_false, ite_true, ite_false, reduceIte, reduceCtorEq, eq_self, true_and, and_true, true_implies, g3]
      · simp only [hp, if_true]
        show Own B _ u 2 (Prs ((capF l (0, (steps.length : Int) - 1) i).set i (0, (steps.length : Int) - 1)))
        rw [Prs_set]
        exact a8 _ _ rfl ((h_getO a5).trans h_lookOs) (old_hp a5)
      · simp (config := { maxSteps := 1000000 }) (disch := (first | assumption | omega | exact Nm.old_n (by omega) | exact Nm.old_hp (by assumption) | (simp only [List.length_set, List.length_cons, List.length_nil, List.length_append, List.length_map, List.length_replicate] <;> omega))) only [nmS0, nmS1, nmS2, nmS3, nmS4, nmS5, nmS6, Nat.testBit, Nat.reduceShiftRight, Nat.reduceAnd, Nat.reduceBNe, cond_true, cond_false, NT.get_leaf, Nat.reduceSub, d_true, d_false, clsOf, beq_self_eq_true, Int.reduceToNat, Nat.reduceAdd, Nat.reduceMul, Nat.reduceEqDiff, decide_true, decide_false, if_true, if_false, ite_true, ite_false, reduceIte, reduceCtorEq, eq_self, true_and, and_true, true_implies]; rfl
    · simp only [hp, if_false] at hu'
      simp (config := { maxSteps := 1000000 }) (disch := (first | assumption | omega | exact Nm.old_n (by omega) | exact Nm.old_hp (by assumption) | (simp only [List.length_set, List.length_cons, List.length_nil, List.length_append, List.length_map, List.length_replicate] <;> omega))) only [nmS0, nmS1, nmS2, nmS3, nmS4, nmS5, nmS6, Nat.testBit, Nat.reduceShiftRight, Nat.reduceAnd, Nat.reduceBNe, cond_true, cond_false, NT.get_leaf, Nat.reduceSub, d_true, d_false, clsOf, beq_self_eq_true, Int.reduceToNat, Nat.reduceAdd, Nat.reduceMul, Nat.reduceEqDiff, decide_true, decide_false, if_true, if_false, ite_true, ite_false, reduceIte, reduceCtorEq, eq_self, true_and, and_true, true_implies, g1, g2, g3, g4, hb', hlen]
      refine ⟨k - 1, by omega, _, _, i + 1, rfl, ?_, ?_, ?_, ?_, ?_, ?_, by omega⟩
      · simp (config := { maxSteps := 1000000 }) (disch := (first | assumption | omega | exact Nm.old_n (by omega) | exact Nm.old_hp (by assumption) | (simp only [List.length_set, List.length_cons, List.length_nil, List.length_append, List.length_map, List.length_replicate] <;> omega))) only [nmS0, nmS1, nmS2, nmS3, nmS4, nmS5, nmS6, Nat.testBit, Nat.reduceShiftRight, Nat.reduceAnd, Nat.reduceBNe, cond_true, cond_false, NT.get_leaf, Nat.reduceSub, d_true, d_false, clsOf, beq_self_eq_true, Int.reduceToNat, Nat.reduceAdd, Nat.reduceMul, Nat.reduceEqDiff, decide_true, decide_false, if_true, if_false, ite_true, ite_false, reduceIte, reduceCtorEq, eq_self, true_and, and_true, true_implies, g1]
      · simp (config := { maxSteps := 1000000 }) (disch := (first | assumption | omega | exact Nm.old_n (by omega) | exact Nm.old_hp (by assumption) | (simp only [List.length_set, List.length_cons, List.length_nil, List.length_append, List.length_map, List.length_replicate] <;> omega))) only [nmS0, nmS1, nmS2, nmS3, nmS4, nmS5, nmS6, Nat.testBit, Nat.reduceShiftRight, Nat.reduceAnd, Nat.reduceBNe, cond_true, cond_false, NT.get_leaf, Nat.reduceSub, d_true, d_false, clsOf, beq_self_eq_true, Int.reduceToNat, Nat.reduceAdd, Nat.reduceMul, Nat.reduceEqDiff, decide_true, decide_false, if_true, if_false, ite_true, ite_false, reduceIte, reduceCtorEq, eq_self, true_and, and_true, true_implies, g2]
      · simp (config := { maxSteps := 1000000 }) (disch := (first | assumption | omega | exact Nm.old_n (by omega) | exact Nm.old_hp (by assumption) | (simp only [List.length_set, List.length_cons, List.length_nil, List.length_append, List.length_map, List.length_replicate] <;> omega))) only [nmS0, nmS1, nmS2, nmS3, nmS4, nmS5, nmS6, Nat.testBit, Nat.reduceShiftRight, Nat.reduceAnd, Nat.reduceBNe, cond_true, cond_false, NT.get_leaf, Nat.reduceSub, d_true, d_false, clsOf, beq_self_eq_true, Int.reduceToNat, Nat.reduceAdd, Nat.reduceMul, Nat.reduceEqDiff, decide_true, decide_false, if_true, if_false, ite_true, ite_false, reduceIte, reduceCtorEq, eq_self, true_and, and_true, true_implies, g3]
      · rw [hp_nil]; exact hC
      · simp only [hp, if_false]; rw [hp_nil]; exact hu'
      · simp (config := { maxSteps := 1000000 }) (disch := (first | assumption | omega | exact Nm.old_n (by omega) | exact Nm.old_hp (by assumption) | (simp only [List.length_set, List.length_cons, List.length_nil, List.length_append, List.length_map, List.length_replicate] <;> omega))) only [nmS0, nmS1, nmS2, nmS3, nmS4, nmS5, nmS6, Nat.testBit, Nat.reduceShiftRight, Nat.reduceAnd, Nat.reduceBNe, cond_true, cond_false, NT.get_leaf, Nat.reduceSub, d_true, d_false, clsOf, beq_self_eq_true, Int.reduceToNat, Nat.reduceAdd, Nat.reduceMul, Nat.reduceEqDiff, decide_true, decide_false, if_true, if_false, ite_true, ite_false, reduceIte, reduceCtorEq, eq_self, true_and, and_true, true_implies]; rfl
  · simp (config := { maxSteps := 1000000 }) (disch := (first | assumption | omega | exact Nm.old_n (by omega) | exact Nm.old_hp (by assumption) | (simp only [List.length_set, List.length_cons, List.length_nil, List.length_append, List.length_map, List.length_replicate] <;> omega))) only [nmS0, nmS1, nmS2, nmS3, nmS4, nmS5, nmS6, Nat.testBit, Nat.reduceShiftRight, Nat.reduceAnd, Nat.reduceBNe, cond_true, cond_false, NT.get_leaf, Nat.reduceSub, d_true, d_false, clsOf, beq_self_eq_true, Int.reduceToNat, Nat.reduceAdd, Nat.reduceMul, Nat.reduceEqDiff, decide_true, decide_false, if_true, if_false, ite_true, ite_false, reduceIte, reduceCtorEq, eq_self, true_and, and_true, true_implies, g1, g2, g3, g4]
    have e : i = n := by omega
    subst e
    have hQ' := fun L t' => hQ (puts L t')
    simp only [puts_nil] at hQ'
    refine hQ' _ _ _ ?_ hC hu'
    simp (config := { maxSteps := 1000000 }) (disch := (first | assumption | omega | exact Nm.old_n (by omega) | exact Nm.old_hp (by assumption) | (simp only [List.length_set, List.length_cons, List.length_nil, List.length_append, List.length_map, List.length_replicate] <;> omega))) only [nmS0, nmS1, nmS2, nmS3, nmS4, nmS5, nmS6, Nat.testBit, Nat.reduceShiftRight, Nat.reduceAnd, Nat.reduceBNe, cond_true, cond_false, NT.get_leaf, Nat.reduceSub, d_true, d_false, clsOf, beq_self_eq_true, Int.reduceToNat, Nat.reduceAdd, Nat.reduceMul, Nat.reduceEqDiff, decide_true, decide_false, if_true, if_false, ite_true, ite_false, reduceIte, reduceCtorEq, eq_self, true_and, and_true, true_implies, g1]
/-- what Spans makes of a code -/
def spansL (vars locals : Int) (steps : List St) : List (Int × Int) :=
  let n := (max 0 (min vars 400)).toNat
  let l := livesF steps (List.replicate n (-1, 0)) steps.length
  if steps.length > 0 then capF l (0, (steps.length : Int) - 1) (max 0 (min locals n)).toNat else l
theorem spans_live {m : NH} {vs : NV} {steps : List St} {vars locals : Int} (hs : Sl m vs 9 (Sts steps)) (hn : steps.length ≤ 300) :
    ∃ u m', Ret Try.prog S0 6 [.agg [ii vars, ii locals, vs]] m u m' ∧ Own m m' u 2 (Prs (spansL vars locals steps)) ∧ Chg [] m m' := by
  refine WF.ex fun K hK => ?_
  refine WF.of_wpM (fun _ => rfl) nf6_eq (L := [(.e, .agg [ii vars, ii locals, vs])]) rfl ?_
  unfold nf6
  have hlen := hs.len
  rw [List.length_map] at hlen
  obtain ⟨N, hN⟩ := Int.eq_ofNat_of_zero_le (show 0 ≤ max 0 (min vars 400) by omega)
  have hN4 : N ≤ 400 := by omega
  have hsp : spansL vars locals steps = if steps.length > 0 then capF (livesF steps (List.replicate N (-1, 0)) steps.length) (0, (steps.length : Int) - 1) (max 0 (min locals N)).toNat else livesF steps (List.replicate N (-1, 0)) steps.length := by
    unfold spansL; rw [hN]; rfl
  obtain ⟨n2, hn2⟩ := Int.eq_ofNat_of_zero_le (show 0 ≤ max 0 (min locals N) by omega)
  have hn2N : n2 ≤ N := by omega
  rw [hn2] at hsp
  simp (config := { maxSteps := 1000000 }) (disch := (first | assumption | omega | exact Nm.old_n (by omega) | exact Nm.old_hp (by assumption) | (simp only [List.length_set, List.length_cons, List.length_nil, List.length_append, List.length_map, List.length_replicate] <;> omega))) only [nmS0, nmS1, nmS2, nmS3, nmS4, nmS5, nmS6, Nat.testBit, Nat.reduceShiftRight, Nat.reduceAnd, Nat.reduceBNe, cond_true, cond_false, NT.get_leaf, Nat.reduceSub, d_true, d_false, clsOf, beq_self_eq_true, Int.reduceToNat, Nat.reduceAdd, Nat.reduceMul, Nat.reduceEqDiff, decide_true, decide_false, if_true, if_false, ite_true, ite_false, reduceIte, reduceCtorEq, eq_self, true_and, and_true, true_implies, hlen, hN]
  have hown : ∀ M, M.get (na m 1) = some (.cells true (rep N [ii 0, ii 0])) → Old M (na m 1) → Own m M (.slc (na m 1) 0 N 2 N) 2 (Prs (began N 0)) := by
    intro M h1 h2
    rw [began_zero]
    refine Own.of ?_ na_old h1 h2 ?_ ?_ ?_
    · intro x hx; simp at hx; rw [hx.2]; rfl
    · rw [rep_eq]; simp
    · simp
    · simp
  have hids : ids (.slc (na m 1) 0 N 2 N) = [na m 1] := rfl
  refine ls_l3 (B := m) (o := na m 2) (u := .slc (na m 1) 0 N 2 N) (n := N) ?_ (old_n (by omega)) (hown _ ?_ (old_n (by omega))) ?_ hN4 ?_ ?_ ?_ ?_
  · simp (config := { maxSteps := 1000000 }) (disch := (first | assumption | omega | exact Nm.old_n (by omega) | exact Nm.old_hp (by assumption) | (simp only [List.length_set, List.length_cons, List.length_nil, List.length_append, List.length_map, List.length_replicate] <;> omega))) only [nmS0, nmS1, nmS2, nmS3, nmS4, nmS5, nmS6, Nat.testBit, Nat.reduceShiftRight, Nat.reduceAnd, Nat.reduceBNe, cond_true, cond_false, NT.get_leaf, Nat.reduceSub, d_true, d_false, clsOf, beq_self_eq_true, Int.reduceToNat, Nat.reduceAdd, Nat.reduceMul, Nat.reduceEqDiff, decide_true, decide_false, if_true, if_false, ite_true, ite_false, reduceIte, reduceCtorEq, eq_self, true_and, and_true, true_implies]
  · simp (config := { maxSteps := 1000000 }) (disch := (first | assumption | omega | exact Nm.old_n (by omega) | exact Nm.old_hp (by assumption) | (simp only [List.length_set, List.length_cons, List.length_nil, List.length_append, List.length_map, List.length_replicate] <;> omega))) only [nmS0, nmS1, nmS2, nmS3, nmS4, nmS5, nmS6, Nat.testBit, Nat.reduceShiftRight, Nat.reduceAnd, Nat.reduceBNe, cond_true, cond_false, NT.get_leaf, Nat.reduceSub, d_true, d_false, clsOf, beq_self_eq_true, Int.reduceToNat, Nat.reduceAdd, Nat.reduceMul, Nat.reduceEqDiff, decide_true, decide_false, if_true, if_false, ite_true, ite_false, reduceIte, reduceCtorEq, eq_self, true_and, and_true, true_implies]
  · rw [hids]; simp [na_eq]
  · simp (config := { maxSteps := 1000000 }) (disch := (first | assumption | omega | exact Nm.old_n (by omega) | exact Nm.old_hp (by assumption) | (simp only [List.length_set, List.length_cons, List.length_nil, List.length_append, List.length_map, List.length_replicate] <;> omega))) only [nmS0, nmS1, nmS2, nmS3, nmS4, nmS5, nmS6, Nat.testBit, Nat.reduceShiftRight, Nat.reduceAnd, Nat.reduceBNe, cond_true, cond_false, NT.get_leaf, Nat.reduceSub, d_true, d_false, clsOf, beq_self_eq_true, Int.reduceToNat, Nat.reduceAdd, Nat.reduceMul, Nat.reduceEqDiff, decide_true, decide_false, if_true, if_false, ite_true, ite_false, reduceIte, reduceCtorEq, eq_self, true_and, and_true, true_implies]
  · simp (config := { maxSteps := 1000000 }) (disch := (first | assumption | omega | exact Nm.old_n (by omega) | exact Nm.old_hp (by assumption) | (simp only [List.length_set, List.length_cons, List.length_nil, List.length_append, List.length_map, List.length_replicate] <;> omega))) only [nmS0, nmS1, nmS2, nmS3, nmS4, nmS5, nmS6, Nat.testBit, Nat.reduceShiftRight, Nat.reduceAnd, Nat.reduceBNe, cond_true, cond_false, NT.get_leaf, Nat.reduceSub, d_true, d_false, clsOf, beq_self_eq_true, Int.reduceToNat, Nat.reduceAdd, Nat.reduceMul, Nat.reduceEqDiff, decide_true, decide_false, if_true, if_false, ite_true, ite_false, reduceIte, reduceCtorEq, eq_self, true_and, and_true, true_implies]
  · simp (config := { maxSteps := 1000000 }) (disch := (first | assumption | omega | exact Nm.old_n (by omega) | exact Nm.old_hp (by assumption) | (simp only [List.length_set, List.length_cons, List.length_nil, List.length_append, List.length_map, List.length_replicate] <;> omega))) only [nmS0, nmS1, nmS2, nmS3, nmS4, nmS5, nmS6, Nat.testBit, Nat.reduceShiftRight, Nat.reduceAnd, Nat.reduceBNe, cond_true, cond_false, NT.get_leaf, Nat.reduceSub, d_true, d_false, clsOf, beq_self_eq_true, Int.reduceToNat, Nat.reduceAdd, Nat.reduceMul, Nat.reduceEqDiff, decide_true, decide_false, if_true, if_false, ite_true, ite_false, reduceIte, reduceCtorEq, eq_self, true_and, and_true, true_implies]
  intro t1 M1 hS1 hC1 hu1
  rw [began_all] at hu1
  have g1 : NT.get D4.e.c t1 = some (.ptr (na m 2) 0) := hS1.get (by simp (config := { maxSteps := 1000000 }) (disch := (first | assumption | omega | exact Nm.old_n (by omega) | exact Nm.old_hp (by assumption) | (simp only [List.length_set, List.length_cons, List.length_nil, List.length_append, List.length_map, List.length_replicate] <;> omega))) only [nmS0, nmS1, nmS2, nmS3, nmS4, nmS5, nmS6, Nat.testBit, Nat.reduceShiftRight, Nat.reduceAnd, Nat.reduceBNe, cond_true, cond_false, NT.get_leaf, Nat.reduceSub, d_true, d_false, clsOf, beq_self_eq_true, Int.reduceToNat, Nat.reduceAdd, Nat.reduceMul, Nat.reduceEqDiff, decide_true, decide_false, if_true, if_false, ite_true, ite_false, reduceIte, reduceCtorEq, eq_self, true_and, and_true, true_implies]) (by simp)
  have g2 : NT.get D4.e.a t1 = some (.ptr (na m 0) 0) := hS1.get (by simp (config := { maxSteps := 1000000 }) (disch := (first | assumption | omega | exact Nm.old_n (by omega) | exact Nm.old_hp (by assumption) | (simp only [List.length_set, List.length_cons, List.length_nil, List.length_append, List.length_map, List.length_replicate] <;> omega))) only [nmS0, nmS1, nmS2, nmS3, nmS4, nmS5, nmS6, Nat.testBit, Nat.reduceShiftRight, Nat.reduceAnd, Nat.reduceBNe, cond_true, cond_false, NT.get_leaf, Nat.reduceSub, d_true, d_false, clsOf, beq_self_eq_true, Int.reduceToNat, Nat.reduceAdd, Nat.reduceMul, Nat.reduceEqDiff, decide_true, decide_false, if_true, if_false, ite_true, ite_false, reduceIte, reduceCtorEq, eq_self, true_and, and_true, true_implies]) (by simp)
  have fb : M1.get (na m 0) = some (.cells true [ii vars, ii locals, vs]) := (hC1.get (old_n (by omega)) (by rw [hids]; simp [na_eq])).trans (by simp (config := { maxSteps := 1000000 }) (disch := (first | assumption | omega | exact Nm.old_n (by omega) | exact Nm.old_hp (by assumption) | (simp only [List.length_set, List.length_cons, List.length_nil, List.length_append, List.length_map, List.length_replicate] <;> omega))) only [nmS0, nmS1, nmS2, nmS3, nmS4, nmS5, nmS6, Nat.testBit, Nat.reduceShiftRight, Nat.reduceAnd, Nat.reduceBNe, cond_true, cond_false, NT.get_leaf, Nat.reduceSub, d_true, d_false, clsOf, beq_self_eq_true, Int.reduceToNat, Nat.reduceAdd, Nat.reduceMul, Nat.reduceEqDiff, decide_true, decide_false, if_true, if_false, ite_true, ite_false, reduceIte, reduceCtorEq, eq_self, true_and, and_true, true_implies])
  have fo : M1.get (na m 2) = some (.cells true [.slc (na m 1) 0 N 2 N]) := (hC1.get (old_n (by omega)) (by rw [hids]; simp [na_eq])).trans (by simp (config := { maxSteps := 1000000 }) (disch := (first | assumption | omega | exact Nm.old_n (by omega) | exact Nm.old_hp (by assumption) | (simp only [List.length_set, List.length_cons, List.length_nil, List.length_append, List.length_map, List.length_replicate] <;> omega))) only [nmS0, nmS1, nmS2, nmS3, nmS4, nmS5, nmS6, Nat.testBit, Nat.reduceShiftRight, Nat.reduceAnd, Nat.reduceBNe, cond_true, cond_false, NT.get_leaf, Nat.reduceSub, d_true, d_false, clsOf, beq_self_eq_true, Int.reduceToNat, Nat.reduceAdd, Nat.reduceMul, Nat.reduceEqDiff, decide_true, decide_false, if_true, if_false, ite_true, ite_false, reduceIte, reduceCtorEq, eq_self, true_and, and_true, true_implies])
  have ob : Old M1 (na m 0) := hC1.old (old_n (by omega))
  have oo : Old M1 (na m 2) := hC1.old (old_n (by omega))
  have hs1 : Sl M1 vs 9 (Sts steps) := (hs.grew (hp_of rfl)).chg hC1 fun j hj h => by rw [hids] at h; simp at h; subst h; exact na_old (hs.old _ hj)
  have hm1 : Chg [na m 1] m M1 := ((hp_of rfl : Chg [] m _).weak (T := [na m 1]) (by simp)).trans hC1 fun _ h _ => h
  simp (config := { maxSteps := 1000000 }) (disch := (first | assumption | omega | exact Nm.old_n (by omega) | exact Nm.old_hp (by assumption) | (simp only [List.length_set, List.length_cons, List.length_nil, List.length_append, List.length_map, List.length_replicate] <;> omega))) only [nmS0, nmS1, nmS2, nmS3, nmS4, nmS5, nmS6, Nat.testBit, Nat.reduceShiftRight, Nat.reduceAnd, Nat.reduceBNe, cond_true, cond_false, NT.get_leaf, Nat.reduceSub, d_true, d_false, clsOf, beq_self_eq_true, Int.reduceToNat, Nat.reduceAdd, Nat.reduceMul, Nat.reduceEqDiff, decide_true, decide_false, if_true, if_false, ite_true, ite_false, reduceIte, reduceCtorEq, eq_self, true_and, and_true, true_implies, g1, g2, fb, hlen]
  refine ls_l5 (B := m) (o := na m 2) (u := .slc (na m 1) 0 N 2 N) (vs := vs) (steps := steps) ?_ (old_hp oo) (hu1.chg (hp_of rfl) ?_) ?_ (hs1.grew (hp_of rfl)) hn (fun j hj => hs.old j hj) ?_ ?_ ?_ ?_ _ rfl (x := .ptr (na m 0) 0) ?_ ?_
  · simp (config := { maxSteps := 1000000 }) (disch := (first | assumption | omega | exact Nm.old_n (by omega) | exact Nm.old_hp (by assumption) | (simp only [List.length_set, List.length_cons, List.length_nil, List.length_append, List.length_map, List.length_replicate] <;> omega))) only [nmS0, nmS1, nmS2, nmS3, nmS4, nmS5, nmS6, Nat.testBit, Nat.reduceShiftRight, Nat.reduceAnd, Nat.reduceBNe, cond_true, cond_false, NT.get_leaf, Nat.reduceSub, d_true, d_false, clsOf, beq_self_eq_true, Int.reduceToNat, Nat.reduceAdd, Nat.reduceMul, Nat.reduceEqDiff, decide_true, decide_false, if_true, if_false, ite_true, ite_false, reduceIte, reduceCtorEq, eq_self, true_and, and_true, true_implies, fo]
  · intro _ _; simp [oldK]
  · rw [hids]; simp [na_eq]
  · simp (config := { maxSteps := 1000000 }) (disch := (first | assumption | omega | exact Nm.old_n (by omega) | exact Nm.old_hp (by assumption) | (simp only [List.length_set, List.length_cons, List.length_nil, List.length_append, List.length_map, List.length_replicate] <;> omega))) only [nmS0, nmS1, nmS2, nmS3, nmS4, nmS5, nmS6, Nat.testBit, Nat.reduceShiftRight, Nat.reduceAnd, Nat.reduceBNe, cond_true, cond_false, NT.get_leaf, Nat.reduceSub, d_true, d_false, clsOf, beq_self_eq_true, Int.reduceToNat, Nat.reduceAdd, Nat.reduceMul, Nat.reduceEqDiff, decide_true, decide_false, if_true, if_false, ite_true, ite_false, reduceIte, reduceCtorEq, eq_self, true_and, and_true, true_implies, g1]
  · simp (config := { maxSteps := 1000000 }) (disch := (first | assumption | omega | exact Nm.old_n (by omega) | exact Nm.old_hp (by assumption) | (simp only [List.length_set, List.length_cons, List.length_nil, List.length_append, List.length_map, List.length_replicate] <;> omega))) only [nmS0, nmS1, nmS2, nmS3, nmS4, nmS5, nmS6, Nat.testBit, Nat.reduceShiftRight, Nat.reduceAnd, Nat.reduceBNe, cond_true, cond_false, NT.get_leaf, Nat.reduceSub, d_true, d_false, clsOf, beq_self_eq_true, Int.reduceToNat, Nat.reduceAdd, Nat.reduceMul, Nat.reduceEqDiff, decide_true, decide_false, if_true, if_false, ite_true, ite_false, reduceIte, reduceCtorEq, eq_self, true_and, and_true, true_implies]
  · simp (config := { maxSteps := 1000000 }) (disch := (first | assumption | omega | exact Nm.old_n (by omega) | exact Nm.old_hp (by assumption) | (simp only [List.length_set, List.length_cons, List.length_nil, List.length_append, List.length_map, List.length_replicate] <;> omega))) only [nmS0, nmS1, nmS2, nmS3, nmS4, nmS5, nmS6, Nat.testBit, Nat.reduceShiftRight, Nat.reduceAnd, Nat.reduceBNe, cond_true, cond_false, NT.get_leaf, Nat.reduceSub, d_true, d_false, clsOf, beq_self_eq_true, Int.reduceToNat, Nat.reduceAdd, Nat.reduceMul, Nat.reduceEqDiff, decide_true, decide_false, if_true, if_false, ite_true, ite_false, reduceIte, reduceCtorEq, eq_self, true_and, and_true, true_implies]
  · simp (config := { maxSteps := 1000000 }) (disch := (first | assumption | omega | exact Nm.old_n (by omega) | exact Nm.old_hp (by assumption) | (simp only [List.length_set, List.length_cons, List.length_nil, List.length_append, List.length_map, List.length_replicate] <;> omega))) only [nmS0, nmS1, nmS2, nmS3, nmS4, nmS5, nmS6, Nat.testBit, Nat.reduceShiftRight, Nat.reduceAnd, Nat.reduceBNe, cond_true, cond_false, NT.get_leaf, Nat.reduceSub, d_true, d_false, clsOf, beq_self_eq_true, Int.reduceToNat, Nat.reduceAdd, Nat.reduceMul, Nat.reduceEqDiff, decide_true, decide_false, if_true, if_false, ite_true, ite_false, reduceIte, reduceCtorEq, eq_self, true_and, and_true, true_implies]
  · simp (config := { maxSteps := 1000000 }) (disch := (first | assumption | omega | exact Nm.old_n (by omega) | exact Nm.old_hp (by assumption) | (simp only [List.length_set, List.length_cons, List.length_nil, List.length_append, List.length_map, List.length_replicate] <;> omega))) only [nmS0, nmS1, nmS2, nmS3, nmS4, nmS5, nmS6, Nat.testBit, Nat.reduceShiftRight, Nat.reduceAnd, Nat.reduceBNe, cond_true, cond_false, NT.get_leaf, Nat.reduceSub, d_true, d_false, clsOf, beq_self_eq_true, Int.reduceToNat, Nat.reduceAdd, Nat.reduceMul, Nat.reduceEqDiff, decide_true, decide_false, if_true, if_false, ite_true, ite_false, reduceIte, reduceCtorEq, eq_self, true_and, and_true, true_implies, g2]
  intro t2 M2 ml g2 g1 hC2 hu2 hnd hml
  rw [hp_nil] at hC2
  have fb2 := (hC2.get ob (by rw [hids]; simp [na_eq])).trans fb
  have fo2 := (hC2.get oo (by rw [hids]; simp [na_eq])).trans fo
  have ob2 := hC2.old ob
  have oo2 := hC2.old oo
  have hs2 : Sl M2 vs 9 (Sts steps) := hs1.chg hC2 fun j hj h => by rw [hids] at h; simp at h; subst h; exact na_old (hs.old _ hj)
  have hm2 := hm1.trans hC2 fun _ h _ => h
  have hlL : (livesF steps (List.replicate N (-1, 0)) steps.length).length = N := by rw [livesF_len]; simp
  simp (config := { maxSteps := 1000000 }) (disch := (first | assumption | omega | exact Nm.old_n (by omega) | exact Nm.old_hp (by assumption) | (simp only [List.length_set, List.length_cons, List.length_nil, List.length_append, List.length_map, List.length_replicate] <;> omega))) only [nmS0, nmS1, nmS2, nmS3, nmS4, nmS5, nmS6, Nat.testBit, Nat.reduceShiftRight, Nat.reduceAnd, Nat.reduceBNe, cond_true, cond_false, NT.get_leaf, Nat.reduceSub, d_true, d_false, clsOf, beq_self_eq_true, Int.reduceToNat, Nat.reduceAdd, Nat.reduceMul, Nat.reduceEqDiff, decide_true, decide_false, if_true, if_false, ite_true, ite_false, reduceIte, reduceCtorEq, eq_self, true_and, and_true, true_implies, g1, g2, fb2, fo2, hn2]
  refine ls_l4 (B := m) (o := na m 2) (bx := na m 0) (u := .slc (na m 1) 0 N 2 N) (vs := vs) (steps := steps) (vars := vars) (locals := locals) (n := n2) (w := true) ?_ ?_ ?_ ?_ ?_ ?_ ?_ ?_ hn (fun j hj => hs.old j hj) (by rw [hlL]; exact hn2N) (by rw [hlL]; exact hN4) (ml.map .mark) ?_ ?_ ?_ ?_ ?_
  · simp (config := { maxSteps := 1000000 }) (disch := (first | assumption | omega | exact Nm.old_n (by omega) | exact Nm.old_hp (by assumption) | (simp only [List.length_set, List.length_cons, List.length_nil, List.length_append, List.length_map, List.length_replicate] <;> omega))) only [nmS0, nmS1, nmS2, nmS3, nmS4, nmS5, nmS6, Nat.testBit, Nat.reduceShiftRight, Nat.reduceAnd, Nat.reduceBNe, cond_true, cond_false, NT.get_leaf, Nat.reduceSub, d_true, d_false, clsOf, beq_self_eq_true, Int.reduceToNat, Nat.reduceAdd, Nat.reduceMul, Nat.reduceEqDiff, decide_true, decide_false, if_true, if_false, ite_true, ite_false, reduceIte, reduceCtorEq, eq_self, true_and, and_true, true_implies, fo2]
  · exact old_hp oo2
  · rw [hids]; simp [na_eq]
  · exact hu2.chg (hp_of rfl) fun _ _ => by simp [oldK]
  · simp (config := { maxSteps := 1000000 }) (disch := (first | assumption | omega | exact Nm.old_n (by omega) | exact Nm.old_hp (by assumption) | (simp only [List.length_set, List.length_cons, List.length_nil, List.length_append, List.length_map, List.length_replicate] <;> omega))) only [nmS0, nmS1, nmS2, nmS3, nmS4, nmS5, nmS6, Nat.testBit, Nat.reduceShiftRight, Nat.reduceAnd, Nat.reduceBNe, cond_true, cond_false, NT.get_leaf, Nat.reduceSub, d_true, d_false, clsOf, beq_self_eq_true, Int.reduceToNat, Nat.reduceAdd, Nat.reduceMul, Nat.reduceEqDiff, decide_true, decide_false, if_true, if_false, ite_true, ite_false, reduceIte, reduceCtorEq, eq_self, true_and, and_true, true_implies, fb2]
  · exact old_hp ob2
  · rw [hids]; simp [na_eq]
  · exact hs2.grew (hp_of rfl)
  · simp (config := { maxSteps := 1000000 }) (disch := (first | assumption | omega | exact Nm.old_n (by omega) | exact Nm.old_hp (by assumption) | (simp only [List.length_set, List.length_cons, List.length_nil, List.length_append, List.length_map, List.length_replicate] <;> omega))) only [nmS0, nmS1, nmS2, nmS3, nmS4, nmS5, nmS6, Nat.testBit, Nat.reduceShiftRight, Nat.reduceAnd, Nat.reduceBNe, cond_true, cond_false, NT.get_leaf, Nat.reduceSub, d_true, d_false, clsOf, beq_self_eq_true, Int.reduceToNat, Nat.reduceAdd, Nat.reduceMul, Nat.reduceEqDiff, decide_true, decide_false, if_true, if_false, ite_true, ite_false, reduceIte, reduceCtorEq, eq_self, true_and, and_true, true_implies, g1]
  · simp (config := { maxSteps := 1000000 }) (disch := (first | assumption | omega | exact Nm.old_n (by omega) | exact Nm.old_hp (by assumption) | (simp only [List.length_set, List.length_cons, List.length_nil, List.length_append, List.length_map, List.length_replicate] <;> omega))) only [nmS0, nmS1, nmS2, nmS3, nmS4, nmS5, nmS6, Nat.testBit, Nat.reduceShiftRight, Nat.reduceAnd, Nat.reduceBNe, cond_true, cond_false, NT.get_leaf, Nat.reduceSub, d_true, d_false, clsOf, beq_self_eq_true, Int.reduceToNat, Nat.reduceAdd, Nat.reduceMul, Nat.reduceEqDiff, decide_true, decide_false, if_true, if_false, ite_true, ite_false, reduceIte, reduceCtorEq, eq_self, true_and, and_true, true_implies, g2]
  · simp (config := { maxSteps := 1000000 }) (disch := (first | assumption | omega | exact Nm.old_n (by omega) | exact Nm.old_hp (by assumption) | (simp only [List.length_set, List.length_cons, List.length_nil, List.length_append, List.length_map, List.length_replicate] <;> omega))) only [nmS0, nmS1, nmS2, nmS3, nmS4, nmS5, nmS6, Nat.testBit, Nat.reduceShiftRight, Nat.reduceAnd, Nat.reduceBNe, cond_true, cond_false, NT.get_leaf, Nat.reduceSub, d_true, d_false, clsOf, beq_self_eq_true, Int.reduceToNat, Nat.reduceAdd, Nat.reduceMul, Nat.reduceEqDiff, decide_true, decide_false, if_true, if_false, ite_true, ite_false, reduceIte, reduceCtorEq, eq_self, true_and, and_true, true_implies]
  · simp (config := { maxSteps := 1000000 }) (disch := (first | assumption | omega | exact Nm.old_n (by omega) | exact Nm.old_hp (by assumption) | (simp only [List.length_set, List.length_cons, List.length_nil, List.length_append, List.length_map, List.length_replicate] <;> omega))) only [nmS0, nmS1, nmS2, nmS3, nmS4, nmS5, nmS6, Nat.testBit, Nat.reduceShiftRight, Nat.reduceAnd, Nat.reduceBNe, cond_true, cond_false, NT.get_leaf, Nat.reduceSub, d_true, d_false, clsOf, beq_self_eq_true, Int.reduceToNat, Nat.reduceAdd, Nat.reduceMul, Nat.reduceEqDiff, decide_true, decide_false, if_true, if_false, ite_true, ite_false, reduceIte, reduceCtorEq, eq_self, true_and, and_true, true_implies]
  intro t3 M3 g1 hC3 hu3
  rw [hp_nil] at hC3
  have fo3 := (hC3.get oo2 (by rw [hids]; simp [na_eq])).trans fo2
  have hml1 : ∀ j ∈ ml, ¬ Old M1 j := fun j hj => by have := (hml j hj).1; rw [hp_nil] at this; exact this
  obtain ⟨M4, hM4, hC4⟩ := unm_all ml M3 hnd fun j hj => (hC3.get (hml j hj).2.1 (hml j hj).2.2.2).trans (hml j hj).2.2.1
  simp (config := { maxSteps := 1000000 }) (disch := (first | assumption | omega | exact Nm.old_n (by omega) | exact Nm.old_hp (by assumption) | (simp only [List.length_set, List.length_cons, List.length_nil, List.length_append, List.length_map, List.length_replicate] <;> omega))) only [nmS0, nmS1, nmS2, nmS3, nmS4, nmS5, nmS6, Nat.testBit, Nat.reduceShiftRight, Nat.reduceAnd, Nat.reduceBNe, cond_true, cond_false, NT.get_leaf, Nat.reduceSub, d_true, d_false, clsOf, beq_self_eq_true, Int.reduceToNat, Nat.reduceAdd, Nat.reduceMul, Nat.reduceEqDiff, decide_true, decide_false, if_true, if_false, ite_true, ite_false, reduceIte, reduceCtorEq, eq_self, true_and, and_true, true_implies, g1, fo3, hp_nil, hM4]
  refine hK _ _ ⟨by rw [hsp]; exact hu3.chg hC4 fun j hj h => (hml j h).2.2.2 hj, ((hm2.trans hC3 fun _ h _ => h).trans (hC4.weak (T := ml) fun _ h _ => h) ?_).weak ?_⟩
  · intro j hj ho; exact absurd (hm1.old ho) (hml1 j hj)
  · intro j hj ho; simp at hj; subst hj; exact absurd ho na_old
end LV

open Go Nm Go.Proofs
namespace LV
/-! # the plain law: both tell the same spans -/
theorem tch_tch (a : Int) (h : 0 ≤ a) (p : Int × Int) : tch a (tch a p) = tch a p := by
  unfold tch
  by_cases hp : p.1 < 0
  · simp only [hp, if_true]
    rw [if_neg (by omega)]
    congr 1
    omega
  · simp only [hp, if_false]
    congr 1
    omega
theorem touch_get (l : List (Int × Int)) (u a : Int) (v : Nat) : (touch l u a)[v]? = if (v : Int) = u then (l[v]?).map (tch a) else l[v]? := by
  unfold touch
  split
  · rename_i h
    rw [List.getElem?_modify]
    by_cases e : u.toNat = v
    · rw [if_pos (by omega)]; simp only [e, if_true]; rfl
    · rw [if_neg (by omega)]; simp only [e, if_false]; cases l[v]? <;> rfl
  · rename_i h
    by_cases e : (v : Int) = u
    · rw [if_pos e, List.getElem?_eq_none (by omega)]; rfl
    · rw [if_neg e]
theorem touchAll_get (us : List Int) (a : Int) (h : 0 ≤ a) (v : Nat) : ∀ l : List (Int × Int), (touchAll l us a)[v]? = if us.any (· == (v : Int)) then (l[v]?).map (tch a) else l[v]? := by
  induction us with
  | nil => intro l; rfl
  | cons u us ih =>
    intro l
    show (touchAll (touch l u a) us a)[v]? = _
    rw [ih, touch_get, List.any_cons]
    by_cases e : (v : Int) = u
    · subst e
      simp only [if_true, beq_self_eq_true, Bool.true_or]
      cases hx : l[v]? with
      | none => simp
      | some p => simp [tch_tch a h]
    · simp only [e, if_false]
      have : (u == (v : Int)) = false := by simp; omega
      rw [this, Bool.false_or]
theorem spanF_le (h : Nat → Bool) (i : Nat) : (spanF h i).2 ≤ i := by
  induction i with
  | zero => exact Int.le_refl 0
  | succ i ih =>
    show (if h i then _ else spanF h i : Int × Int).2 ≤ _
    split
    · show (i : Int) ≤ _; omega
    · omega
/-- is it hit at a step? -/
def hitL (steps : List St) (v : Int) (i : Nat) : Bool := match steps[i]? with
  | some s => s.hit v
  | none => false
theorem livesF_get (steps : List St) (N v : Nat) (hv : v < N) (i : Nat) : (livesF steps (List.replicate N (-1, 0)) i)[v]? = some (spanF (hitL steps v) i) := by
  induction i with
  | zero => show (List.replicate N ((-1 : Int), (0 : Int)))[v]? = _; simp [hv, spanF]
  | succ i ih =>
    show (match steps[i]? with | some s => touch (touchAll (livesF steps (List.replicate N (-1, 0)) i) s.uses i) s.sets i | none => livesF steps (List.replicate N (-1, 0)) i)[v]? = some (if hitL steps v i then _ else _)
    cases hs : steps[i]? with
    | none => dsimp only; rw [ih, show hitL steps v i = false from by unfold hitL; rw [hs]]; rfl
    | some s =>
      dsimp only
      rw [touch_get, touchAll_get _ _ (by omega), ih, show hitL steps v i = s.hit v from by unfold hitL; rw [hs]]
      have hle := spanF_le (hitL steps v) i
      have ht : tch i (spanF (hitL steps v) i) = (if (spanF (hitL steps v) i).1 < 0 then (i : Int) else (spanF (hitL steps v) i).1, (i : Int)) := by
        unfold tch; congr 1; omega
      unfold St.hit
      by_cases h1 : s.sets = (v : Int)
      · have h1' : (v : Int) = s.sets := h1.symm
        have h1b : (s.sets == (v : Int)) = true := by simp [h1]
        rw [if_pos h1', h1b, Bool.true_or]
        cases ha : s.uses.any (· == (v : Int)) with
        | true => simp only [if_true, Option.map_some]; rw [tch_tch i (by omega), ht]
        | false => simp [ht]
      · have h1' : ¬ (v : Int) = s.sets := fun e => h1 e.symm
        have h1b : (s.sets == (v : Int)) = false := by simp [h1]
        rw [if_neg h1', h1b, Bool.false_or]
        cases ha : s.uses.any (· == (v : Int)) with
        | true => simp [ht]
        | false => simp
theorem capF_get (l : List (Int × Int)) (p : Int × Int) (v : Nat) : ∀ n, (capF l p n)[v]? = if v < n ∧ v < l.length then some p else l[v]? := by
  intro n
  induction n with
  | zero => simp [capF]
  | succ n ih =>
    show ((capF l p n).set n p)[v]? = _
    rw [List.getElem?_set, capF_len, ih]
    by_cases e : n = v
    · subst e
      by_cases h : n < l.length
      · simp [h]
      · simp [h]
    · rw [if_neg e]
      have : (v < n + 1) = (v < n) := by apply propext; omega
      simp only [this]
theorem spanF_congr (h h' : Nat → Bool) : ∀ n, (∀ i, i < n → h i = h' i) → spanF h n = spanF h' n := by
  intro n
  induction n with
  | zero => intro _; rfl
  | succ n ih =>
    intro hh
    show (if h n then _ else _) = (if h' n then _ else _)
    rw [ih (fun i hi => hh i (by omega)), hh n (by omega)]
theorem spanF_first (h : Nat → Bool) (h0 : h 0 = true) : ∀ n, 0 < n → (spanF h n).1 = 0 := by
  intro n
  induction n with
  | zero => intro h; omega
  | succ n ih =>
    intro _
    show (if h n then (if (spanF h n).1 < 0 then (n : Int) else (spanF h n).1, (n : Int)) else spanF h n : Int × Int).1 = 0
    rcases Nat.eq_zero_or_pos n with rfl | hn
    · rw [h0]; rfl
    · rw [ih hn]
      cases h n with
      | true => rfl
      | false => exact ih hn
theorem spans_same (vars locals : Int) (steps : List St) : spansL vars locals steps = spansR vars locals steps (cut vars 0 400).toNat := by
  have hN : (max 0 (min vars 400)).toNat = (cut vars 0 400).toNat := by
    unfold cut; split
    · omega
    · split <;> omega
  unfold spansL
  rw [hN]
  dsimp only
  generalize (cut vars 0 400).toNat = N
  apply List.ext_getElem?
  intro v
  have hlen : (livesF steps (List.replicate N (-1, 0)) steps.length).length = N := by rw [livesF_len]; simp
  by_cases hv : v < N
  · have hr : (spansR vars locals steps N)[v]? = some (spanF (hitR steps locals v) steps.length) := by
      unfold spansR; simp [hv]
    rw [hr]
    have hl := livesF_get steps N v hv steps.length
    by_cases hp : steps.length > 0
    · rw [if_pos hp, capF_get, hlen, hl]
      by_cases hvl : (v : Int) < locals
      · rw [if_pos ⟨by omega, hv⟩]
        have h0 : hitR steps locals v 0 = true := by
          unfold hitR; rw [List.getElem?_eq_getElem hp]; simp [hvl]
        have h1 : hitR steps locals v (steps.length - 1) = true := by
          unfold hitR; rw [List.getElem?_eq_getElem (by omega)]; simp [hvl]; right; right; omega
        have hf := spanF_first _ h0 steps.length hp
        obtain ⟨k, hk⟩ : ∃ k, steps.length = k + 1 := ⟨steps.length - 1, by omega⟩
        have h2 : (spanF (hitR steps locals v) steps.length).2 = (steps.length : Int) - 1 := by
          rw [hk] at h1 ⊢
          rw [show k + 1 - 1 = k by omega] at h1
          show (if hitR steps locals v k then _ else _ : Int × Int).2 = _
          rw [h1]
          show (k : Int) = _; omega
        rw [← hf, ← h2]
      · rw [if_neg (fun h => hvl (by omega))]
        congr 1
        refine spanF_congr _ _ _ fun i hi => ?_
        unfold hitL hitR
        rw [List.getElem?_eq_getElem hi]
        simp [hvl]
    · rw [if_neg hp, hl]
      have : steps.length = 0 := by omega
      rw [this]; rfl
  · rw [List.getElem?_eq_none (l := spansR vars locals steps N) (by rw [spansR_len]; omega), List.getElem?_eq_none]
    split
    · rw [capF_len, hlen]; omega
    · rw [hlen]; omega
end LV

open Go Nm Go.Proofs
namespace LV
set_option linter.unusedSimpArgs false
set_option linter.unusedVariables false
theorem ty_step {m : NH} {c : List NV} (h : TyL Try.prog m [3, 3, 3, 3, 3, 3, 3, 30, 5] c) : ∃ s : St, c = s.l ∧ flatV s.n ∧ flatV s.op := by
  obtain ⟨a1, b1, rfl, h1, h⟩ := h.inv
  obtain ⟨a2, b2, rfl, h2, h⟩ := h.inv
  obtain ⟨a3, b3, rfl, h3, h⟩ := h.inv
  obtain ⟨a4, b4, rfl, h4, h⟩ := h.inv
  obtain ⟨a5, b5, rfl, h5, h⟩ := h.inv
  obtain ⟨a6, b6, rfl, h6, h⟩ := h.inv
  obtain ⟨a7, b7, rfl, h7, h⟩ := h.inv
  obtain ⟨a8, b8, rfl, h8, h⟩ := h.inv
  obtain ⟨a9, b9, rfl, h9, h⟩ := h.inv
  obtain rfl := h.inv0
  obtain ⟨z1, rfl, _⟩ := h1.inv_int Try.underlying3
  obtain ⟨z2, rfl, _⟩ := h2.inv_int Try.underlying3
  obtain ⟨z3, rfl, _⟩ := h3.inv_int Try.underlying3
  obtain ⟨z4, rfl, _⟩ := h4.inv_int Try.underlying3
  obtain ⟨z5, rfl, _⟩ := h5.inv_int Try.underlying3
  obtain ⟨z6, rfl, _⟩ := h6.inv_int Try.underlying3
  obtain ⟨z7, rfl, _⟩ := h7.inv_int Try.underlying3
  obtain ⟨z8, rfl, _⟩ := h8.inv_int Try.underlying30
  obtain ⟨z9, rfl, _⟩ := h9.inv_int Try.underlying5
  exact ⟨⟨z1, z2, z3, z4, z5, z6, z7, .int .u64 (.lit z8), .int .u8 (.lit z9)⟩, rfl, trivial, trivial⟩
theorem ty_code {m : NH} {c : List NV} (h : TyL Try.prog m [3, 3, 22] c) : ∃ vars locals vs steps, c = [ii vars, ii locals, vs] ∧ Sl m vs 9 (Sts steps) := by
  obtain ⟨a1, b1, rfl, h1, h⟩ := h.inv
  obtain ⟨a2, b2, rfl, h2, h⟩ := h.inv
  obtain ⟨a3, b3, rfl, h3, h⟩ := h.inv
  obtain rfl := h.inv0
  obtain ⟨z1, rfl, _⟩ := h1.inv_int Try.underlying3
  obtain ⟨z2, rfl, _⟩ := h2.inv_int Try.underlying3
  obtain ⟨v, C, rfl, hS, _, hall⟩ := h3.inv_slc Try.underlying22
  obtain ⟨steps, rfl⟩ := list_choice (f := St.l) fun c hc => by
    obtain ⟨s, h, _⟩ := ty_step ((hall c hc).inv_struct Try.underlying32)
    exact ⟨s, h⟩
  exact ⟨z1, z2, v, steps, rfl, hS⟩
theorem liveTells (m : NH) (l : List NV) (h : TyA Try.prog m [24, 32] l) : ∃ m', Ret Try.prog S0 4 l m (.bool true) m' := by
  obtain ⟨c, r, rfl, hc, h⟩ := h.invS Try.underlying24
  obtain ⟨d, r, rfl, hd, h⟩ := h.invS Try.underlying32
  obtain rfl := h.inv0
  obtain ⟨vars, locals, vs, steps, rfl, hs⟩ := ty_code hc
  obtain ⟨s, rfl, hf1, hf2⟩ := ty_step hd
  have h : ∃ v m', Ret Try.prog S0 4 [.agg [ii vars, ii locals, vs], .agg s.l] m v m' ∧ v = .bool true := by
    refine WF.ex fun K hK => ?_
    refine WF.of_wpH (fun _ => rfl) nf4_eq (L := [(.a .e, .agg s.l), (.e, .agg [ii vars, ii locals, vs])]) rfl ?_
    unfold nf4
    have hlen := hs.len
    rw [List.length_map] at hlen
    have hl9 := St.len s
    have hal : ∀ m, Ret Try.prog S0 5 [] m (.bool true) m := fun m => Ret.kept rfl m
    by_cases hn : steps.length ≤ 300
    · by_cases hv : vars ≤ 60
      · generalize hM0 : hp [(.n 1, .cells true s.l), (.n 0, .cells true [ii vars, ii locals, vs])] 2 m = M0
        have hsame : sameV 4 (.agg s.l) (.agg s.l) = true := same_agg (by intro v hv; simp [St.l] at hv; rcases hv with rfl | rfl | rfl | rfl | rfl | rfl | rfl | rfl | rfl <;> first | trivial | assumption)
        have hsame2 : sameV 4 (.agg [ii vars, ii locals, vs]) (.agg [ii vars, ii locals, vs]) = true := same_agg (by intro v hv; simp at hv; rcases hv with rfl | rfl | rfl; trivial; trivial; exact hs.flat)
        have hC0 : Chg [] m M0 := by rw [← hM0]; exact hp_of rfl
        have fb0 : M0.get (na m 0) = some (.cells true [ii vars, ii locals, vs]) := by rw [← hM0]; exact h_getN
        have fs0 : M0.get (na m 1) = some (.cells true s.l) := by rw [← hM0]; exact h_getN
        have ob0 : Old M0 (na m 0) := by rw [← hM0]; exact old_n (by omega)
        have os0 : Old M0 (na m 1) := by rw [← hM0]; exact old_n (by omega)
        have hs0 := hs.grew hC0
        obtain ⟨u1, M1, hr1, hu1, hC1⟩ := uses_live M0 s
        have fb1 := (hC1.get ob0 (by simp)).trans fb0
        have fs1 := (hC1.get os0 (by simp)).trans fs0
        have ob1 := hC1.old ob0
        have os1 := hC1.old os0
        have hs1 := hs0.grew hC1
        obtain ⟨u2, M2, hr2, hu2, hC2⟩ := uses_ref M1 s
        have fb2 := (hC2.get ob1 (by simp)).trans fb1
        have fs2 := (hC2.get os1 (by simp)).trans fs1
        have ob2 := hC2.old ob1
        have os2 := hC2.old os1
        have hs2 := hs1.grew hC2
        obtain ⟨M3, hr3, hC3⟩ := sets_live M2 s
        have fb3 := (hC3.get ob2 (by simp)).trans fb2
        have fs3 := (hC3.get os2 (by simp)).trans fs2
        have ob3 := hC3.old ob2
        have os3 := hC3.old os2
        have hs3 := hs2.grew hC3
        obtain ⟨M4, hr4, hC4⟩ := sets_ref M3 s
        have fb4 := (hC4.get ob3 (by simp)).trans fb3
        have fs4 := (hC4.get os3 (by simp)).trans fs3
        have ob4 := hC4.old ob3
        have os4 := hC4.old os3
        have hs4 := hs3.grew hC4
        obtain ⟨u5, M5, hr5, hu5, hC5⟩ := spans_live (vars := vars) (locals := locals) hs4 hn
        have fb5 := (hC5.get ob4 (by simp)).trans fb4
        have fs5 := (hC5.get os4 (by simp)).trans fs4
        have ob5 := hC5.old ob4
        have os5 := hC5.old os4
        have hs5 := hs4.grew hC5
        obtain ⟨u6, M6, hr6, hu6, hC6⟩ := spans_ref (vars := vars) (locals := locals) hs5 hn
        have fb6 := (hC6.get ob5 (by simp)).trans fb5
        have fs6 := (hC6.get os5 (by simp)).trans fs5
        have ob6 := hC6.old ob5
        have os6 := hC6.old os5
        have hs6 := hs5.grew hC6
        have hul := uses_len s
        have q1 := sameInts M2 (hu1.sl.grew hC2) hu2.sl (by omega)
        rw [← spans_same] at hu6
        have hcn := cut_nat vars
        have q2 := sameSpans M6 (hu5.sl.grew hC6) hu6.sl (by rw [spans_same, spansR_len]; omega)

        simp (config := { maxSteps := 1000000 }) (disch := (first | assumption | omega | exact Nm.old_n (by omega) | exact Nm.old_hp (by assumption) | (simp only [List.length_set, List.length_cons, List.length_nil, List.length_append, List.length_map, List.length_replicate] <;> omega))) only [nmS0, nmS1, nmS2, nmS3, nmS4, nmS5, nmS6, Nat.testBit, Nat.reduceShiftRight, Nat.reduceAnd, Nat.reduceBNe, cond_true, cond_false, NT.get_leaf, Nat.reduceSub, d_true, d_false, clsOf, beq_self_eq_true, Int.reduceToNat, Nat.reduceAdd, Nat.reduceMul, Nat.reduceEqDiff, decide_true, decide_false, if_true, if_false, ite_true, ite_false, reduceIte, reduceCtorEq, eq_self, true_and, and_true, true_implies, hlen, (hal _).wf', St.all, hM0, hr1.wf', hr2.wf', hr3.wf', hr4.wf', hr5.wf', hr6.wf', q1.wf', q2.wf', hsame, hsame2, fb0, fs0, fb1, fs1, fb2, fs2, fb3, fs3, fb4, fs4, fb5, fs5, fb6, fs6]
        exact hK _ _ rfl
      · simp (config := { maxSteps := 1000000 }) (disch := (first | assumption | omega | exact Nm.old_n (by omega) | exact Nm.old_hp (by assumption) | (simp only [List.length_set, List.length_cons, List.length_nil, List.length_append, List.length_map, List.length_replicate] <;> omega))) only [nmS0, nmS1, nmS2, nmS3, nmS4, nmS5, nmS6, Nat.testBit, Nat.reduceShiftRight, Nat.reduceAnd, Nat.reduceBNe, cond_true, cond_false, NT.get_leaf, Nat.reduceSub, d_true, d_false, clsOf, beq_self_eq_true, Int.reduceToNat, Nat.reduceAdd, Nat.reduceMul, Nat.reduceEqDiff, decide_true, decide_false, if_true, if_false, ite_true, ite_false, reduceIte, reduceCtorEq, eq_self, true_and, and_true, true_implies, hlen, (hal _).wf']
        exact hK _ _ rfl
    · simp (config := { maxSteps := 1000000 }) (disch := (first | assumption | omega | exact Nm.old_n (by omega) | exact Nm.old_hp (by assumption) | (simp only [List.length_set, List.length_cons, List.length_nil, List.length_append, List.length_map, List.length_replicate] <;> omega))) only [nmS0, nmS1, nmS2, nmS3, nmS4, nmS5, nmS6, Nat.testBit, Nat.reduceShiftRight, Nat.reduceAnd, Nat.reduceBNe, cond_true, cond_false, NT.get_leaf, Nat.reduceSub, d_true, d_false, clsOf, beq_self_eq_true, Int.reduceToNat, Nat.reduceAdd, Nat.reduceMul, Nat.reduceEqDiff, decide_true, decide_false, if_true, if_false, ite_true, ite_false, reduceIte, reduceCtorEq, eq_self, true_and, and_true, true_implies, hlen, (hal _).wf']
      exact hK _ _ rfl
  obtain ⟨v, m', h1, rfl⟩ := h
  exact ⟨m', h1⟩
end LV

open Go Nm Go.Proofs
namespace LV
set_option linter.unusedSimpArgs false
set_option linter.unusedVariables false
def St.all' (s : St) : List Int := s.uses ++ [s.sets]
theorem tc_l1 {M : NH} {u : NV} {us : List Int} {v : Int} (hu : Sl M u 1 (Ints us)) (hus : us.length ≤ 10) {t : Tm} (g1 : NT.get D4.e.a.a t = some u) (g2 : NT.get D4.e.a t = some (ii v)) (g3 : NT.get D4.e.a.b t = some (ii 0))
    {Q : Out → Dyn → Prop} (hQ1 : us.any (· == v) = true → ∀ t', NT.get D4.e.f t' = some (.bool true) → Q .ret ⟨puts [] t', [], none, M⟩) (hQ2 : us.any (· == v) = false → ∀ t', Q (.exit 0) ⟨puts [] t', [], none, M⟩) :
    W Try.prog S0 none nf9_l1.loop ⟨t, [], none, M⟩ Q := by
  have hlen := hu.len
  rw [List.length_map] at hlen
  refine W.loop (fun k d => ∃ t' i, d = ⟨t', [], none, M⟩ ∧ NT.get D4.e.a.a t' = some u ∧ NT.get D4.e.a t' = some (ii v) ∧ NT.get D4.e.a.b t' = some (ii (i : Nat)) ∧ (us.take i).any (· == v) = false ∧ i + k = us.length)
    ?_ us.length _ ⟨t, 0, rfl, g1, g2, g3, by simp, by omega⟩
  rintro k d ⟨t', i, rfl, g1, g2, g3, hno, hik⟩
  apply wp_sound
  unfold nf9_l1
  change wp _ _ _ _ ⟨puts [] t', [], none, M⟩ _
  by_cases hi : i < us.length
  · obtain ⟨id, off, w, c, a1, a2, a3, a4, a5⟩ := hu.at i (by simpa using hi)
    rw [List.getElem_map] at a5
    have c0 := cell_at a5 0 (by omega)
    rw [Nat.add_zero] at c0
    by_cases hv : us[i] = v
    · simp (config := { maxSteps := 1000000 }) (disch := (first | assumption | omega | exact Nm.old_n (by omega) | exact Nm.old_hp (by assumption) | (simp only [List.length_set, List.length_cons, List.length_nil, List.length_append, List.length_map, List.length_replicate] <;> omega))) only [nmS0, nmS1, nmS2, nmS3, nmS4, nmS5, nmS6, Nat.testBit, Nat.reduceShiftRight, Nat.reduceAnd, Nat.reduceBNe, cond_true, cond_false, NT.get_leaf, Nat.reduceSub, d_true, d_false, clsOf, beq_self_eq_true, Int.reduceToNat, Nat.reduceAdd, Nat.reduceMul, Nat.reduceEqDiff, decide_true, decide_false, if_true, if_false, ite_true, ite_false, reduceIte, reduceCtorEq, eq_self, true_and, and_true, true_implies, g1, g2, g3, hlen, a1, a2, c0]
      have hQ1' := fun h L t' => hQ1 h (puts L t')
      simp only [puts_nil] at hQ1'
      refine hQ1' ?_ _ _ ?_
      · rw [List.any_eq_true]; exact ⟨us[i], List.getElem_mem hi, by simp [hv]⟩
      · simp (config := { maxSteps := 1000000 }) (disch := (first | assumption | omega | exact Nm.old_n (by omega) | exact Nm.old_hp (by assumption) | (simp only [List.length_set, List.length_cons, List.length_nil, List.length_append, List.length_map, List.length_replicate] <;> omega))) only [nmS0, nmS1, nmS2, nmS3, nmS4, nmS5, nmS6, Nat.testBit, Nat.reduceShiftRight, Nat.reduceAnd, Nat.reduceBNe, cond_true, cond_false, NT.get_leaf, Nat.reduceSub, d_true, d_false, clsOf, beq_self_eq_true, Int.reduceToNat, Nat.reduceAdd, Nat.reduceMul, Nat.reduceEqDiff, decide_true, decide_false, if_true, if_false, ite_true, ite_false, reduceIte, reduceCtorEq, eq_self, true_and, and_true, true_implies]
    · simp (config := { maxSteps := 1000000 }) (disch := (first | assumption | omega | exact Nm.old_n (by omega) | exact Nm.old_hp (by assumption) | (simp only [List.length_set, List.length_cons, List.length_nil, List.length_append, List.length_map, List.length_replicate] <;> omega))) only [nmS0, nmS1, nmS2, nmS3, nmS4, nmS5, nmS6, Nat.testBit, Nat.reduceShiftRight, Nat.reduceAnd, Nat.reduceBNe, cond_true, cond_false, NT.get_leaf, Nat.reduceSub, d_true, d_false, clsOf, beq_self_eq_true, Int.reduceToNat, Nat.reduceAdd, Nat.reduceMul, Nat.reduceEqDiff, decide_true, decide_false, if_true, if_false, ite_true, ite_false, reduceIte, reduceCtorEq, eq_self, true_and, and_true, true_implies, g1, g2, g3, hlen, a1, a2, c0]
      refine ⟨k - 1, by omega, _, i + 1, rfl, ?_, ?_, ?_, ?_, by omega⟩
      · simp (config := { maxSteps := 1000000 }) (disch := (first | assumption | omega | exact Nm.old_n (by omega) | exact Nm.old_hp (by assumption) | (simp only [List.length_set, List.length_cons, List.length_nil, List.length_append, List.length_map, List.length_replicate] <;> omega))) only [nmS0, nmS1, nmS2, nmS3, nmS4, nmS5, nmS6, Nat.testBit, Nat.reduceShiftRight, Nat.reduceAnd, Nat.reduceBNe, cond_true, cond_false, NT.get_leaf, Nat.reduceSub, d_true, d_false, clsOf, beq_self_eq_true, Int.reduceToNat, Nat.reduceAdd, Nat.reduceMul, Nat.reduceEqDiff, decide_true, decide_false, if_true, if_false, ite_true, ite_false, reduceIte, reduceCtorEq, eq_self, true_and, and_true, true_implies, g1]
      · simp (config := { maxSteps := 1000000 }) (disch := (first | assumption | omega | exact Nm.old_n (by omega) | exact Nm.old_hp (by assumption) | (simp only [List.length_set, List.length_cons, List.length_nil, List.length_append, List.length_map, List.length_replicate] <;> omega))) only [nmS0, nmS1, nmS2, nmS3, nmS4, nmS5, nmS6, Nat.testBit, Nat.reduceShiftRight, Nat.reduceAnd, Nat.reduceBNe, cond_true, cond_false, NT.get_leaf, Nat.reduceSub, d_true, d_false, clsOf, beq_self_eq_true, Int.reduceToNat, Nat.reduceAdd, Nat.reduceMul, Nat.reduceEqDiff, decide_true, decide_false, if_true, if_false, ite_true, ite_false, reduceIte, reduceCtorEq, eq_self, true_and, and_true, true_implies, g2]
      · simp (config := { maxSteps := 1000000 }) (disch := (first | assumption | omega | exact Nm.old_n (by omega) | exact Nm.old_hp (by assumption) | (simp only [List.length_set, List.length_cons, List.length_nil, List.length_append, List.length_map, List.length_replicate] <;> omega))) only [nmS0, nmS1, nmS2, nmS3, nmS4, nmS5, nmS6, Nat.testBit, Nat.reduceShiftRight, Nat.reduceAnd, Nat.reduceBNe, cond_true, cond_false, NT.get_leaf, Nat.reduceSub, d_true, d_false, clsOf, beq_self_eq_true, Int.reduceToNat, Nat.reduceAdd, Nat.reduceMul, Nat.reduceEqDiff, decide_true, decide_false, if_true, if_false, ite_true, ite_false, reduceIte, reduceCtorEq, eq_self, true_and, and_true, true_implies]; rfl
      · have e : us.take (i + 1) = us.take i ++ [us[i]] := by rw [List.take_add_one]; simp [hi]
        rw [e, List.any_append, hno]; simp [hv]
  · simp (config := { maxSteps := 1000000 }) (disch := (first | assumption | omega | exact Nm.old_n (by omega) | exact Nm.old_hp (by assumption) | (simp only [List.length_set, List.length_cons, List.length_nil, List.length_append, List.length_map, List.length_replicate] <;> omega))) only [nmS0, nmS1, nmS2, nmS3, nmS4, nmS5, nmS6, Nat.testBit, Nat.reduceShiftRight, Nat.reduceAnd, Nat.reduceBNe, cond_true, cond_false, NT.get_leaf, Nat.reduceSub, d_true, d_false, clsOf, beq_self_eq_true, Int.reduceToNat, Nat.reduceAdd, Nat.reduceMul, Nat.reduceEqDiff, decide_true, decide_false, if_true, if_false, ite_true, ite_false, reduceIte, reduceCtorEq, eq_self, true_and, and_true, true_implies, g1, g2, g3, hlen]
    have e : i = us.length := by omega
    subst e
    rw [List.take_length] at hno
    have hQ2' := fun L t' => hQ2 hno (puts L t')
    simp only [puts_nil] at hQ2'
    exact hQ2' _ _
theorem touches_ref (m : NH) (s : St) (hf1 : flatV s.n) (hf2 : flatV s.op) (v : Int) : ∃ w m', Ret Try.prog S0 9 [.agg s.l, ii v] m w m' ∧ w = .bool (s.all'.any (· == v)) ∧ Chg [] m m' := by
  refine WF.ex fun K hK => ?_
  refine WF.of_wpH (fun _ => rfl) nf9_eq (L := [(.a .e, ii v), (.e, .agg s.l)]) rfl ?_
  unfold nf9
  have hl9 := St.len s
  have hsame : sameV 4 (.agg s.l) (.agg s.l) = true := same_agg (by intro v hv; simp [St.l] at hv; rcases hv with rfl | rfl | rfl | rfl | rfl | rfl | rfl | rfl | rfl <;> first | trivial | assumption)
  generalize hM0 : hp [(.n 0, .cells true s.l)] 1 m = M0
  have hC0 : Chg [] m M0 := by rw [← hM0]; exact hp_of rfl
  have fs0 : M0.get (na m 0) = some (.cells true s.l) := by rw [← hM0]; exact h_getN
  have os0 : Old M0 (na m 0) := by rw [← hM0]; exact old_n (by omega)
  obtain ⟨u1, M1, hr1, hu1, hC1⟩ := uses_ref M0 s
  obtain ⟨M2, hr2, hC2⟩ := sets_ref M1 s
  have fs1 := (hC1.get os0 (by simp)).trans fs0
  have fs2 := (hC2.get (hC1.old os0) (by simp)).trans fs1
  have hul := uses_len s
  have os1 := hC1.old os0
  have os2 := hC2.old os1
  simp (config := { maxSteps := 1000000 }) (disch := (first | assumption | omega | exact Nm.old_n (by omega) | exact Nm.old_hp (by assumption) | (simp only [List.length_set, List.length_cons, List.length_nil, List.length_append, List.length_map, List.length_replicate] <;> omega))) only [nmS0, nmS1, nmS2, nmS3, nmS4, nmS5, nmS6, Nat.testBit, Nat.reduceShiftRight, Nat.reduceAnd, Nat.reduceBNe, cond_true, cond_false, NT.get_leaf, Nat.reduceSub, d_true, d_false, clsOf, beq_self_eq_true, Int.reduceToNat, Nat.reduceAdd, Nat.reduceMul, Nat.reduceEqDiff, decide_true, decide_false, if_true, if_false, ite_true, ite_false, reduceIte, reduceCtorEq, eq_self, true_and, and_true, true_implies, St.all, hM0, hr1.wf', hr2.wf, fs0, fs1, fs2, hsame]
  have hC3 : ∀ l, oldK l = [] → ∀ k, Chg [] M2 (hp l k M2) := fun l h k => hp_of h
  refine wNE_app1 (B := M0) (C := Ints s.uses) (cs := [ii s.sets]) (w := true) ?_ ?_ ?_ rfl ?_ (by simp; omega) (by simp; omega) ?_
  · exact (hu1.chg hC2 fun _ _ => by simp).chg (hp_of rfl) fun _ _ => by simp [oldK]
  · simp (config := { maxSteps := 1000000 }) (disch := (first | assumption | omega | exact Nm.old_n (by omega) | exact Nm.old_hp (by assumption) | (simp only [List.length_set, List.length_cons, List.length_nil, List.length_append, List.length_map, List.length_replicate] <;> omega))) only [nmS0, nmS1, nmS2, nmS3, nmS4, nmS5, nmS6, Nat.testBit, Nat.reduceShiftRight, Nat.reduceAnd, Nat.reduceBNe, cond_true, cond_false, NT.get_leaf, Nat.reduceSub, d_true, d_false, clsOf, beq_self_eq_true, Int.reduceToNat, Nat.reduceAdd, Nat.reduceMul, Nat.reduceEqDiff, decide_true, decide_false, if_true, if_false, ite_true, ite_false, reduceIte, reduceCtorEq, eq_self, true_and, and_true, true_implies]
  · exact old_n (by omega)
  · intro j hj; exact old_hp (hC2.old (hC1.old hj))
  intro u3 M3 hu3 hC4
  have hn1 : na m 0 ∉ ids u1 := fun h => hu1.new _ h os0
  have fs3 := (hC4.get (old_hp os2) hn1).trans ((h_getO os2).trans (h_lookOn.trans (h_lookO0.trans fs2)))
  have os3 := hC4.old (old_hp os2)
  simp (config := { maxSteps := 1000000 }) (disch := (first | assumption | omega | exact Nm.old_n (by omega) | exact Nm.old_hp (by assumption) | (simp only [List.length_set, List.length_cons, List.length_nil, List.length_append, List.length_map, List.length_replicate] <;> omega))) only [nmS0, nmS1, nmS2, nmS3, nmS4, nmS5, nmS6, Nat.testBit, Nat.reduceShiftRight, Nat.reduceAnd, Nat.reduceBNe, cond_true, cond_false, NT.get_leaf, Nat.reduceSub, d_true, d_false, clsOf, beq_self_eq_true, Int.reduceToNat, Nat.reduceAdd, Nat.reduceMul, Nat.reduceEqDiff, decide_true, decide_false, if_true, if_false, ite_true, ite_false, reduceIte, reduceCtorEq, eq_self, true_and, and_true, true_implies, fs3, hsame]
  have e : Ints s.uses ++ [[ii s.sets]] = Ints s.all' := by simp [St.all']
  have hC5 : Chg [] m M3 := (((hC0.trans hC1 fun _ h _ => h).trans hC2 fun _ h _ => h).trans (hp_of rfl : Chg [] M2 _) fun _ h _ => h).trans hC4 fun j hj ho => absurd (hC0.old ho) (hu1.new j hj)
  refine tc_l1 (u := u3) (us := s.all') (v := v) ?_ (by simp [St.all']; omega) ?_ ?_ ?_ ?_ ?_
  · rw [← e, hp_nil]; exact hu3.sl
  · simp (config := { maxSteps := 1000000 }) (disch := (first | assumption | omega | exact Nm.old_n (by omega) | exact Nm.old_hp (by assumption) | (simp only [List.length_set, List.length_cons, List.length_nil, List.length_append, List.length_map, List.length_replicate] <;> omega))) only [nmS0, nmS1, nmS2, nmS3, nmS4, nmS5, nmS6, Nat.testBit, Nat.reduceShiftRight, Nat.reduceAnd, Nat.reduceBNe, cond_true, cond_false, NT.get_leaf, Nat.reduceSub, d_true, d_false, clsOf, beq_self_eq_true, Int.reduceToNat, Nat.reduceAdd, Nat.reduceMul, Nat.reduceEqDiff, decide_true, decide_false, if_true, if_false, ite_true, ite_false, reduceIte, reduceCtorEq, eq_self, true_and, and_true, true_implies]
  · simp (config := { maxSteps := 1000000 }) (disch := (first | assumption | omega | exact Nm.old_n (by omega) | exact Nm.old_hp (by assumption) | (simp only [List.length_set, List.length_cons, List.length_nil, List.length_append, List.length_map, List.length_replicate] <;> omega))) only [nmS0, nmS1, nmS2, nmS3, nmS4, nmS5, nmS6, Nat.testBit, Nat.reduceShiftRight, Nat.reduceAnd, Nat.reduceBNe, cond_true, cond_false, NT.get_leaf, Nat.reduceSub, d_true, d_false, clsOf, beq_self_eq_true, Int.reduceToNat, Nat.reduceAdd, Nat.reduceMul, Nat.reduceEqDiff, decide_true, decide_false, if_true, if_false, ite_true, ite_false, reduceIte, reduceCtorEq, eq_self, true_and, and_true, true_implies]
  · simp (config := { maxSteps := 1000000 }) (disch := (first | assumption | omega | exact Nm.old_n (by omega) | exact Nm.old_hp (by assumption) | (simp only [List.length_set, List.length_cons, List.length_nil, List.length_append, List.length_map, List.length_replicate] <;> omega))) only [nmS0, nmS1, nmS2, nmS3, nmS4, nmS5, nmS6, Nat.testBit, Nat.reduceShiftRight, Nat.reduceAnd, Nat.reduceBNe, cond_true, cond_false, NT.get_leaf, Nat.reduceSub, d_true, d_false, clsOf, beq_self_eq_true, Int.reduceToNat, Nat.reduceAdd, Nat.reduceMul, Nat.reduceEqDiff, decide_true, decide_false, if_true, if_false, ite_true, ite_false, reduceIte, reduceCtorEq, eq_self, true_and, and_true, true_implies]
  · intro h t' g
    simp (config := { maxSteps := 1000000 }) (disch := (first | assumption | omega | exact Nm.old_n (by omega) | exact Nm.old_hp (by assumption) | (simp only [List.length_set, List.length_cons, List.length_nil, List.length_append, List.length_map, List.length_replicate] <;> omega))) only [nmS0, nmS1, nmS2, nmS3, nmS4, nmS5, nmS6, Nat.testBit, Nat.reduceShiftRight, Nat.reduceAnd, Nat.reduceBNe, cond_true, cond_false, NT.get_leaf, Nat.reduceSub, d_true, d_false, clsOf, beq_self_eq_true, Int.reduceToNat, Nat.reduceAdd, Nat.reduceMul, Nat.reduceEqDiff, decide_true, decide_false, if_true, if_false, ite_true, ite_false, reduceIte, reduceCtorEq, eq_self, true_and, and_true, true_implies, g, hp_nil]
    exact hK _ _ ⟨by rw [h], hC5⟩
  · intro h t'
    simp (config := { maxSteps := 1000000 }) (disch := (first | assumption | omega | exact Nm.old_n (by omega) | exact Nm.old_hp (by assumption) | (simp only [List.length_set, List.length_cons, List.length_nil, List.length_append, List.length_map, List.length_replicate] <;> omega))) only [nmS0, nmS1, nmS2, nmS3, nmS4, nmS5, nmS6, Nat.testBit, Nat.reduceShiftRight, Nat.reduceAnd, Nat.reduceBNe, cond_true, cond_false, NT.get_leaf, Nat.reduceSub, d_true, d_false, clsOf, beq_self_eq_true, Int.reduceToNat, Nat.reduceAdd, Nat.reduceMul, Nat.reduceEqDiff, decide_true, decide_false, if_true, if_false, ite_true, ite_false, reduceIte, reduceCtorEq, eq_self, true_and, and_true, true_implies, hp_nil]
    exact hK _ _ ⟨by rw [h], hC5⟩
end LV

open Go Nm Go.Proofs
namespace LV
set_option linter.unusedSimpArgs false
set_option linter.unusedVariables false
theorem hit_all (s : St) (v : Int) : s.all'.any (· == v) = s.hit v := by
  unfold St.all' St.hit
  rw [List.any_append]
  cases h : s.uses.any (· == v) <;> simp [Bool.or_comm]
/-- a span covers each step that touches its variable, and it begins and ends at such -/
theorem spanF_cov (h : Nat → Bool) (n : Nat) : ((spanF h n).1 < 0 ∧ ∀ i, i < n → h i = false) ∨
    (0 ≤ (spanF h n).1 ∧ (spanF h n).1 ≤ (spanF h n).2 ∧ (spanF h n).2 < n ∧ h (spanF h n).1.toNat = true ∧ h (spanF h n).2.toNat = true ∧ ∀ i, i < n → h i = true → (spanF h n).1 ≤ i ∧ (i : Int) ≤ (spanF h n).2) := by
  induction n with
  | zero => left; exact ⟨by show (-1 : Int) < 0; decide, fun i hi => by omega⟩
  | succ n ih =>
    have e : spanF h (n + 1) = if h n then (if (spanF h n).1 < 0 then (n : Int) else (spanF h n).1, (n : Int)) else spanF h n := rfl
    rw [e]
    cases hn : h n with
    | false =>
      simp only [Bool.false_eq_true, if_false]
      rcases ih with ⟨h1, h2⟩ | ⟨h1, h2, h3, h4, h5, h6⟩
      · left; exact ⟨h1, fun i hi => by rcases Nat.lt_or_ge i n with q | q; exact h2 i q; rw [show i = n by omega]; exact hn⟩
      · right; exact ⟨h1, h2, by omega, h4, h5, fun i hi hh => by rcases Nat.lt_or_ge i n with q | q; exact h6 i q hh; rw [show i = n by omega, hn] at hh; cases hh⟩
    | true =>
      simp only [if_true]
      right
      rcases ih with ⟨h1, h2⟩ | ⟨h1, h2, h3, h4, h5, h6⟩
      · rw [if_pos h1]
        refine ⟨by omega, by omega, by omega, by simpa using hn, by simpa using hn, fun i hi hh => ?_⟩
        rcases Nat.lt_or_ge i n with q | q
        · rw [h2 i q] at hh; cases hh
        · rw [show i = n by omega]; exact ⟨Int.le_refl _, Int.le_refl _⟩
      · rw [if_neg (by omega)]
        refine ⟨h1, by omega, by omega, h4, by simpa using hn, fun i hi hh => ?_⟩
        rcases Nat.lt_or_ge i n with q | q
        · exact ⟨(h6 i q hh).1, by show (i : Int) ≤ n; omega⟩
        · rw [show i = n by omega]; exact ⟨by show (spanF h n).1 ≤ n; omega, Int.le_refl _⟩
theorem spansL_len {vars locals : Int} {steps : List St} (h : 0 ≤ vars) (h' : vars ≤ 60) : (spansL vars locals steps).length = vars.toNat := by
  rw [spans_same, spansR_len]; unfold cut; split
  · omega
  · split <;> omega
theorem spansL_get {vars locals : Int} {steps : List St} (h : 0 ≤ vars) (h' : vars ≤ 60) {v : Nat} (hv : v < (spansL vars locals steps).length) : (spansL vars locals steps)[v] = spanF (hitR steps locals v) steps.length := by
  have e := spans_same vars locals steps
  have : (spansL vars locals steps)[v]? = some (spanF (hitR steps locals v) steps.length) := by
    rw [e]; unfold spansR
    rw [e, spansR_len] at hv
    simp [hv]
  rw [List.getElem?_eq_getElem hv] at this
  exact Option.some.inj this
theorem hitR_hit {steps : List St} {locals : Int} {v i : Nat} (hi : i < steps.length) (h : steps[i].hit v = true) : hitR steps locals v i = true := by
  unfold hitR; rw [List.getElem?_eq_getElem hi]; simp [h]
theorem cov1 {vars locals : Int} {steps : List St} (h : 0 ≤ vars) (h' : vars ≤ 60) {i v : Nat} (hi : i < steps.length) (hv : v < (spansL vars locals steps).length) (hh : steps[i].hit v = true) :
    0 ≤ (spansL vars locals steps)[v].1 ∧ (spansL vars locals steps)[v].1 ≤ i ∧ (i : Int) ≤ (spansL vars locals steps)[v].2 := by
  rw [spansL_get h h' hv]
  rcases spanF_cov (hitR steps locals v) steps.length with ⟨_, h2⟩ | ⟨h1, _, _, _, _, h6⟩
  · have := hitR_hit (locals := locals) hi hh; rw [h2 i hi] at this; cases this
  · exact ⟨h1, h6 i hi (hitR_hit hi hh)⟩
theorem cov2 {vars locals : Int} {steps : List St} (h : 0 ≤ vars) (h' : vars ≤ 60) {v : Nat} (hv : v < (spansL vars locals steps).length) (hl : ¬ (v : Int) < locals) (hp : 0 ≤ (spansL vars locals steps)[v].1) :
    ∃ i j : Nat, (spansL vars locals steps)[v] = ((i : Int), (j : Int)) ∧ ∃ (hi : i < steps.length) (hj : j < steps.length), steps[i].hit v = true ∧ steps[j].hit v = true := by
  rw [spansL_get h h' hv] at hp ⊢
  rcases spanF_cov (hitR steps locals v) steps.length with ⟨h1, _⟩ | ⟨h1, h2, h3, h4, h5, _⟩
  · omega
  · generalize spanF (hitR steps locals v) steps.length = p at *
    obtain ⟨a, b⟩ := p
    dsimp only at h1 h2 h3 h4 h5
    obtain ⟨i, rfl⟩ := Int.eq_ofNat_of_zero_le h1
    obtain ⟨j, rfl⟩ := Int.eq_ofNat_of_zero_le (show 0 ≤ b by omega)
    have hi : i < steps.length := by omega
    have hj : j < steps.length := by omega
    refine ⟨i, j, rfl, hi, hj, ?_, ?_⟩
    · unfold hitR at h4; rw [Int.toNat_natCast, List.getElem?_eq_getElem hi] at h4; simpa [hl] using h4
    · unfold hitR at h5; rw [Int.toNat_natCast, List.getElem?_eq_getElem hj] at h5; simpa [hl] using h5
theorem cov3 {vars locals : Int} {steps : List St} (h : 0 ≤ vars) (h' : vars ≤ 60) {v : Nat} (hv : v < (spansL vars locals steps).length) (hl : (v : Int) < locals) (hp : 0 < steps.length) : (spansL vars locals steps)[v] = (0, (steps.length : Int) - 1) := by
  rw [spansL_get h h' hv]
  have h0 : hitR steps locals v 0 = true := by
    unfold hitR; rw [List.getElem?_eq_getElem hp]; simp [hl]
  have h1 : hitR steps locals v (steps.length - 1) = true := by
    unfold hitR; rw [List.getElem?_eq_getElem (by omega)]; simp [hl]; right; right; omega
  have hf := spanF_first _ h0 steps.length hp
  obtain ⟨k, hk⟩ : ∃ k, steps.length = k + 1 := ⟨steps.length - 1, by omega⟩
  have h2 : (spanF (hitR steps locals v) steps.length).2 = (steps.length : Int) - 1 := by
    rw [hk] at h1 ⊢
    rw [show k + 1 - 1 = k by omega] at h1
    show (if hitR steps locals v k then _ else _ : Int × Int).2 = _
    rw [h1]
    show (k : Int) = _; omega
  rw [← hf, ← h2]
theorem lc_l1 {M : NH} {bx : D4} {w : Bool} {uu vs sv : NV} {vars locals : Int} {steps : List St} {L : List (Int × Int)} {us : List Int} {i : Nat} (hb : M.get bx = some (.cells w [ii vars, ii locals, vs])) (hu : Sl M uu 1 (Ints us)) (hus : us.length ≤ 10) (hL : Sl M sv 2 (Prs L)) (hLl : (L.length : Int) = vars) (hv60 : vars ≤ 60)
    (hcov : ∀ u ∈ us, ∀ (v : Nat) (hv : v < L.length), u = v → 0 ≤ L[v].1 ∧ L[v].1 ≤ i ∧ (i : Int) ≤ L[v].2)
    {t : Tm} (g1 : NT.get D4.e.a t = some (.ptr bx 0)) (g2 : NT.get D4.e.a.b t = some uu) (g3 : NT.get D4.e.f t = some sv) (g4 : NT.get D4.e.a.a t = some (ii i)) (g5 : NT.get D4.e.a.c t = some (ii 0))
    {Q : Out → Dyn → Prop} (hQ : ∀ t', NT.get D4.e.a t' = some (.ptr bx 0) → NT.get D4.e.f t' = some sv → NT.get D4.e.a.a t' = some (ii i) → Q (.exit 2) ⟨puts [] t', [], none, M⟩) :
    W Try.prog S0 none nf3_l1.loop ⟨t, [], none, M⟩ Q := by
  have hlen := hu.len
  rw [List.length_map] at hlen
  refine W.loop (fun k d => ∃ t' j, d = ⟨t', [], none, M⟩ ∧ NT.get D4.e.a t' = some (.ptr bx 0) ∧ NT.get D4.e.a.b t' = some uu ∧ NT.get D4.e.f t' = some sv ∧ NT.get D4.e.a.a t' = some (ii i) ∧ NT.get D4.e.a.c t' = some (ii (j : Nat)) ∧ j + k = us.length)
    ?_ us.length _ ⟨t, 0, rfl, g1, g2, g3, g4, g5, by omega⟩
  rintro k d ⟨t', j, rfl, g1, g2, g3, g4, g5, hjk⟩
  apply wp_sound
  unfold nf3_l1
  change wp _ _ _ _ ⟨puts [] t', [], none, M⟩ _
  by_cases hj : j < us.length
  · obtain ⟨id, off, w', c, a1, a2, a3, a4, a5⟩ := hu.at j (by simpa using hj)
    rw [List.getElem_map] at a5
    have c0 := cell_at a5 0 (by omega)
    rw [Nat.add_zero] at c0
    have fin : ∀ L, (∃ l, l < k ∧ ∃ t'_1 j, (⟨puts L t', [], none, M⟩ : Dyn) = ⟨t'_1, [], none, M⟩ ∧ NT.get D4.e.a t'_1 = some (.ptr bx 0) ∧ NT.get D4.e.a.b t'_1 = some uu ∧ NT.get D4.e.f t'_1 = some sv ∧ NT.get D4.e.a.a t'_1 = some (ii i) ∧ NT.get D4.e.a.c t'_1 = some (ii (j : Nat)) ∧ j + l = us.length) ∨ True := fun _ => Or.inr trivial
    by_cases h0 : us[j] < 0
    · simp (config := { maxSteps := 1000000 }) (disch := (first | assumption | omega | exact Nm.old_n (by omega) | exact Nm.old_hp (by assumption) | (simp only [List.length_set, List.length_cons, List.length_nil, List.length_append, List.length_map, List.length_replicate] <;> omega))) only [nmS0, nmS1, nmS2, nmS3, nmS4, nmS5, nmS6, Nat.testBit, Nat.reduceShiftRight, Nat.reduceAnd, Nat.reduceBNe, cond_true, cond_false, NT.get_leaf, Nat.reduceSub, d_true, d_false, clsOf, beq_self_eq_true, Int.reduceToNat, Nat.reduceAdd, Nat.reduceMul, Nat.reduceEqDiff, decide_true, decide_false, if_true, if_false, ite_true, ite_false, reduceIte, reduceCtorEq, eq_self, true_and, and_true, true_implies, g1, g2, g3, g4, g5, hlen, a1, a2, c0, hb]
      refine ⟨k - 1, by omega, _, j + 1, rfl, ?_, ?_, ?_, ?_, ?_, by omega⟩
      · simp (config := { maxSteps := 1000000 }) (disch := (first | assumption | omega | exact Nm.old_n (by omega) | exact Nm.old_hp (by assumption) | (simp only [List.length_set, List.length_cons, List.length_nil, List.length_append, List.length_map, List.length_replicate] <;> omega))) only [nmS0, nmS1, nmS2, nmS3, nmS4, nmS5, nmS6, Nat.testBit, Nat.reduceShiftRight, Nat.reduceAnd, Nat.reduceBNe, cond_true, cond_false, NT.get_leaf, Nat.reduceSub, d_true, d_false, clsOf, beq_self_eq_true, Int.reduceToNat, Nat.reduceAdd, Nat.reduceMul, Nat.reduceEqDiff, decide_true, decide_false, if_true, if_false, ite_true, ite_false, reduceIte, reduceCtorEq, eq_self, true_and, and_true, true_implies, g1]
      · simp (config := { maxSteps := 1000000 }) (disch := (first | assumption | omega | exact Nm.old_n (by omega) | exact Nm.old_hp (by assumption) | (simp only [List.length_set, List.length_cons, List.length_nil, List.length_append, List.length_map, List.length_replicate] <;> omega))) only [nmS0, nmS1, nmS2, nmS3, nmS4, nmS5, nmS6, Nat.testBit, Nat.reduceShiftRight, Nat.reduceAnd, Nat.reduceBNe, cond_true, cond_false, NT.get_leaf, Nat.reduceSub, d_true, d_false, clsOf, beq_self_eq_true, Int.reduceToNat, Nat.reduceAdd, Nat.reduceMul, Nat.reduceEqDiff, decide_true, decide_false, if_true, if_false, ite_true, ite_false, reduceIte, reduceCtorEq, eq_self, true_and, and_true, true_implies, g2]
      · simp (config := { maxSteps := 1000000 }) (disch := (first | assumption | omega | exact Nm.old_n (by omega) | exact Nm.old_hp (by assumption) | (simp only [List.length_set, List.length_cons, List.length_nil, List.length_append, List.length_map, List.length_replicate] <;> omega))) only [nmS0, nmS1, nmS2, nmS3, nmS4, nmS5, nmS6, Nat.testBit, Nat.reduceShiftRight, Nat.reduceAnd, Nat.reduceBNe, cond_true, cond_false, NT.get_leaf, Nat.reduceSub, d_true, d_false, clsOf, beq_self_eq_true, Int.reduceToNat, Nat.reduceAdd, Nat.reduceMul, Nat.reduceEqDiff, decide_true, decide_false, if_true, if_false, ite_true, ite_false, reduceIte, reduceCtorEq, eq_self, true_and, and_true, true_implies, g3]
      · simp (config := { maxSteps := 1000000 }) (disch := (first | assumption | omega | exact Nm.old_n (by omega) | exact Nm.old_hp (by assumption) | (simp only [List.length_set, List.length_cons, List.length_nil, List.length_append, List.length_map, List.length_replicate] <;> omega))) only [nmS0, nmS1, nmS2, nmS3, nmS4, nmS5, nmS6, Nat.testBit, Nat.reduceShiftRight, Nat.reduceAnd, Nat.reduceBNe, cond_true, cond_false, NT.get_leaf, Nat.reduceSub, d_true, d_false, clsOf, beq_self_eq_true, Int.reduceToNat, Nat.reduceAdd, Nat.reduceMul, Nat.reduceEqDiff, decide_true, decide_false, if_true, if_false, ite_true, ite_false, reduceIte, reduceCtorEq, eq_self, true_and, and_true, true_implies, g4]
      · simp (config := { maxSteps := 1000000 }) (disch := (first | assumption | omega | exact Nm.old_n (by omega) | exact Nm.old_hp (by assumption) | (simp only [List.length_set, List.length_cons, List.length_nil, List.length_append, List.length_map, List.length_replicate] <;> omega))) only [nmS0, nmS1, nmS2, nmS3, nmS4, nmS5, nmS6, Nat.testBit, Nat.reduceShiftRight, Nat.reduceAnd, Nat.reduceBNe, cond_true, cond_false, NT.get_leaf, Nat.reduceSub, d_true, d_false, clsOf, beq_self_eq_true, Int.reduceToNat, Nat.reduceAdd, Nat.reduceMul, Nat.reduceEqDiff, decide_true, decide_false, if_true, if_false, ite_true, ite_false, reduceIte, reduceCtorEq, eq_self, true_and, and_true, true_implies]; rfl
    · by_cases h1 : us[j] < vars
      · obtain ⟨v, hv⟩ := Int.eq_ofNat_of_zero_le (show 0 ≤ us[j] by omega)
        have hvl : v < L.length := by omega
        obtain ⟨q1, q2, q3⟩ := hcov us[j] (List.getElem_mem hj) v hvl hv
        rw [hv] at c0
        obtain ⟨id2, off2, w2, c2, b1, b2, b3, b4, b5⟩ := hL.at v (by simpa using hvl)
        rw [List.getElem_map] at b5
        have d0 := cell_at b5 0 (by omega)
        have d1 := cell_at b5 1 (by omega)
        simp (config := { maxSteps := 1000000 }) (disch := (first | assumption | omega | exact Nm.old_n (by omega) | exact Nm.old_hp (by assumption) | (simp only [List.length_set, List.length_cons, List.length_nil, List.length_append, List.length_map, List.length_replicate] <;> omega))) only [nmS0, nmS1, nmS2, nmS3, nmS4, nmS5, nmS6, Nat.testBit, Nat.reduceShiftRight, Nat.reduceAnd, Nat.reduceBNe, cond_true, cond_false, NT.get_leaf, Nat.reduceSub, d_true, d_false, clsOf, beq_self_eq_true, Int.reduceToNat, Nat.reduceAdd, Nat.reduceMul, Nat.reduceEqDiff, decide_true, decide_false, if_true, if_false, ite_true, ite_false, reduceIte, reduceCtorEq, eq_self, true_and, and_true, true_implies, g1, g2, g3, g4, g5, hlen, a1, a2, c0, hb, b1, b2, d0, d1]
        refine ⟨k - 1, by omega, _, j + 1, rfl, ?_, ?_, ?_, ?_, ?_, by omega⟩
        · simp (config := { maxSteps := 1000000 }) (disch := (first | assumption | omega | exact Nm.old_n (by omega) | exact Nm.old_hp (by assumption) | (simp only [List.length_set, List.length_cons, List.length_nil, List.length_append, List.length_map, List.length_replicate] <;> omega))) only [nmS0, nmS1, nmS2, nmS3, nmS4, nmS5, nmS6, Nat.testBit, Nat.reduceShiftRight, Nat.reduceAnd, Nat.reduceBNe, cond_true, cond_false, NT.get_leaf, Nat.reduceSub, d_true, d_false, clsOf, beq_self_eq_true, Int.reduceToNat, Nat.reduceAdd, Nat.reduceMul, Nat.reduceEqDiff, decide_true, decide_false, if_true, if_false, ite_true, ite_false, reduceIte, reduceCtorEq, eq_self, true_and, and_true, true_implies, g1]
        · simp (config := { maxSteps := 1000000 }) (disch := (first | assumption | omega | exact Nm.old_n (by omega) | exact Nm.old_hp (by assumption) | (simp only [List.length_set, List.length_cons, List.length_nil, List.length_append, List.length_map, List.length_replicate] <;> omega))) only [nmS0, nmS1, nmS2, nmS3, nmS4, nmS5, nmS6, Nat.testBit, Nat.reduceShiftRight, Nat.reduceAnd, Nat.reduceBNe, cond_true, cond_false, NT.get_leaf, Nat.reduceSub, d_true, d_false, clsOf, beq_self_eq_true, Int.reduceToNat, Nat.reduceAdd, Nat.reduceMul, Nat.reduceEqDiff, decide_true, decide_false, if_true, if_false, ite_true, ite_false, reduceIte, reduceCtorEq, eq_self, true_and, and_true, true_implies, g2]
        · simp (config := { maxSteps := 1000000 }) (disch := (first | assumption | omega | exact Nm.old_n (by omega) | exact Nm.old_hp (by assumption) | (simp only [List.length_set, List.length_cons, List.length_nil, List.length_append, List.length_map, List.length_replicate] <;> omega))) only [nmS0, nmS1, nmS2, nmS3, nmS4, nmS5, nmS6, Nat.testBit, Nat.reduceShiftRight, Nat.reduceAnd, Nat.reduceBNe, cond_true, cond_false, NT.get_leaf, Nat.reduceSub, d_true, d_false, clsOf, beq_self_eq_true, Int.reduceToNat, Nat.reduceAdd, Nat.reduceMul, Nat.reduceEqDiff, decide_true, decide_false, if_true, if_false, ite_true, ite_false, reduceIte, reduceCtorEq, eq_self, true_and, and_true, true_implies, g3]
        · simp (config := { maxSteps := 1000000 }) (disch := (first | assumption | omega | exact Nm.old_n (by omega) | exact Nm.old_hp (by assumption) | (simp only [List.length_set, List.length_cons, List.length_nil, List.length_append, List.length_map, List.length_replicate] <;> omega))) only [nmS0, nmS1, nmS2, nmS3, nmS4, nmS5, nmS6, Nat.testBit, Nat.reduceShiftRight, Nat.reduceAnd, Nat.reduceBNe, cond_true, cond_false, NT.get_leaf, Nat.reduceSub, d_true, d_false, clsOf, beq_self_eq_true, Int.reduceToNat, Nat.reduceAdd, Nat.reduceMul, Nat.reduceEqDiff, decide_true, decide_false, if_true, if_false, ite_true, ite_false, reduceIte, reduceCtorEq, eq_self, true_and, and_true, true_implies, g4]
        · simp (config := { maxSteps := 1000000 }) (disch := (first | assumption | omega | exact Nm.old_n (by omega) | exact Nm.old_hp (by assumption) | (simp only [List.length_set, List.length_cons, List.length_nil, List.length_append, List.length_map, List.length_replicate] <;> omega))) only [nmS0, nmS1, nmS2, nmS3, nmS4, nmS5, nmS6, Nat.testBit, Nat.reduceShiftRight, Nat.reduceAnd, Nat.reduceBNe, cond_true, cond_false, NT.get_leaf, Nat.reduceSub, d_true, d_false, clsOf, beq_self_eq_true, Int.reduceToNat, Nat.reduceAdd, Nat.reduceMul, Nat.reduceEqDiff, decide_true, decide_false, if_true, if_false, ite_true, ite_false, reduceIte, reduceCtorEq, eq_self, true_and, and_true, true_implies]; rfl
      · simp (config := { maxSteps := 1000000 }) (disch := (first | assumption | omega | exact Nm.old_n (by omega) | exact Nm.old_hp (by assumption) | (simp only [List.length_set, List.length_cons, List.length_nil, List.length_append, List.length_map, List.length_replicate] <;> omega))) only [nmS0, nmS1, nmS2, nmS3, nmS4, nmS5, nmS6, Nat.testBit, Nat.reduceShiftRight, Nat.reduceAnd, Nat.reduceBNe, cond_true, cond_false, NT.get_leaf, Nat.reduceSub, d_true, d_false, clsOf, beq_self_eq_true, Int.reduceToNat, Nat.reduceAdd, Nat.reduceMul, Nat.reduceEqDiff, decide_true, decide_false, if_true, if_false, ite_true, ite_false, reduceIte, reduceCtorEq, eq_self, true_and, and_true, true_implies, g1, g2, g3, g4, g5, hlen, a1, a2, c0, hb]
        refine ⟨k - 1, by omega, _, j + 1, rfl, ?_, ?_, ?_, ?_, ?_, by omega⟩
        · simp (config := { maxSteps := 1000000 }) (disch := (first | assumption | omega | exact Nm.old_n (by omega) | exact Nm.old_hp (by assumption) | (simp only [List.length_set, List.length_cons, List.length_nil, List.length_append, List.length_map, List.length_replicate] <;> omega))) only [nmS0, nmS1, nmS2, nmS3, nmS4, nmS5, nmS6, Nat.testBit, Nat.reduceShiftRight, Nat.reduceAnd, Nat.reduceBNe, cond_true, cond_false, NT.get_leaf, Nat.reduceSub, d_true, d_false, clsOf, beq_self_eq_true, Int.reduceToNat, Nat.reduceAdd, Nat.reduceMul, Nat.reduceEqDiff, decide_true, decide_false, if_true, if_false, ite_true, ite_false, reduceIte, reduceCtorEq, eq_self, true_and, and_true, true_implies, g1]
        · simp (config := { maxSteps := 1000000 }) (disch := (first | assumption | omega | exact Nm.old_n (by omega) | exact Nm.old_hp (by assumption) | (simp only [List.length_set, List.length_cons, List.length_nil, List.length_append, List.length_map, List.length_replicate] <;> omega))) only [nmS0, nmS1, nmS2, nmS3, nmS4, nmS5, nmS6, Nat.testBit, Nat.reduceShiftRight, Nat.reduceAnd, Nat.reduceBNe, cond_true, cond_false, NT.get_leaf, Nat.reduceSub, d_true, d_false, clsOf, beq_self_eq_true, Int.reduceToNat, Nat.reduceAdd, Nat.reduceMul, Nat.reduceEqDiff, decide_true, decide_false, if_true, if_false, ite_true, ite_false, reduceIte, reduceCtorEq, eq_self, true_and, and_true, true_implies, g2]
        · simp (config := { maxSteps := 1000000 }) (disch := (first | assumption | omega | exact Nm.old_n (by omega) | exact Nm.old_hp (by assumption) | (simp only [List.length_set, List.length_cons, List.length_nil, List.length_append, List.length_map, List.length_replicate] <;> omega))) only [nmS0, nmS1, nmS2, nmS3, nmS4, nmS5, nmS6, Nat.testBit, Nat.reduceShiftRight, Nat.reduceAnd, Nat.reduceBNe, cond_true, cond_false, NT.get_leaf, Nat.reduceSub, d_true, d_false, clsOf, beq_self_eq_true, Int.reduceToNat, Nat.reduceAdd, Nat.reduceMul, Nat.reduceEqDiff, decide_true, decide_false, if_true, if_false, ite_true, ite_false, reduceIte, reduceCtorEq, eq_self, true_and, and_true, true_implies, g3]
        · simp (config := { maxSteps := 1000000 }) (disch := (first | assumption | omega | exact Nm.old_n (by omega) | exact Nm.old_hp (by assumption) | (simp only [List.length_set, List.length_cons, List.length_nil, List.length_append, List.length_map, List.length_replicate] <;> omega))) only [nmS0, nmS1, nmS2, nmS3, nmS4, nmS5, nmS6, Nat.testBit, Nat.reduceShiftRight, Nat.reduceAnd, Nat.reduceBNe, cond_true, cond_false, NT.get_leaf, Nat.reduceSub, d_true, d_false, clsOf, beq_self_eq_true, Int.reduceToNat, Nat.reduceAdd, Nat.reduceMul, Nat.reduceEqDiff, decide_true, decide_false, if_true, if_false, ite_true, ite_false, reduceIte, reduceCtorEq, eq_self, true_and, and_true, true_implies, g4]
        · simp (config := { maxSteps := 1000000 }) (disch := (first | assumption | omega | exact Nm.old_n (by omega) | exact Nm.old_hp (by assumption) | (simp only [List.length_set, List.length_cons, List.length_nil, List.length_append, List.length_map, List.length_replicate] <;> omega))) only [nmS0, nmS1, nmS2, nmS3, nmS4, nmS5, nmS6, Nat.testBit, Nat.reduceShiftRight, Nat.reduceAnd, Nat.reduceBNe, cond_true, cond_false, NT.get_leaf, Nat.reduceSub, d_true, d_false, clsOf, beq_self_eq_true, Int.reduceToNat, Nat.reduceAdd, Nat.reduceMul, Nat.reduceEqDiff, decide_true, decide_false, if_true, if_false, ite_true, ite_false, reduceIte, reduceCtorEq, eq_self, true_and, and_true, true_implies]; rfl
  · simp (config := { maxSteps := 1000000 }) (disch := (first | assumption | omega | exact Nm.old_n (by omega) | exact Nm.old_hp (by assumption) | (simp only [List.length_set, List.length_cons, List.length_nil, List.length_append, List.length_map, List.length_replicate] <;> omega))) only [nmS0, nmS1, nmS2, nmS3, nmS4, nmS5, nmS6, Nat.testBit, Nat.reduceShiftRight, Nat.reduceAnd, Nat.reduceBNe, cond_true, cond_false, NT.get_leaf, Nat.reduceSub, d_true, d_false, clsOf, beq_self_eq_true, Int.reduceToNat, Nat.reduceAdd, Nat.reduceMul, Nat.reduceEqDiff, decide_true, decide_false, if_true, if_false, ite_true, ite_false, reduceIte, reduceCtorEq, eq_self, true_and, and_true, true_implies, g1, g2, g3, g4, g5, hlen]
    have hQ' := fun L t' => hQ (puts L t')
    simp only [puts_nil] at hQ'
    refine hQ' _ _ ?_ ?_ ?_
    · simp (config := { maxSteps := 1000000 }) (disch := (first | assumption | omega | exact Nm.old_n (by omega) | exact Nm.old_hp (by assumption) | (simp only [List.length_set, List.length_cons, List.length_nil, List.length_append, List.length_map, List.length_replicate] <;> omega))) only [nmS0, nmS1, nmS2, nmS3, nmS4, nmS5, nmS6, Nat.testBit, Nat.reduceShiftRight, Nat.reduceAnd, Nat.reduceBNe, cond_true, cond_false, NT.get_leaf, Nat.reduceSub, d_true, d_false, clsOf, beq_self_eq_true, Int.reduceToNat, Nat.reduceAdd, Nat.reduceMul, Nat.reduceEqDiff, decide_true, decide_false, if_true, if_false, ite_true, ite_false, reduceIte, reduceCtorEq, eq_self, true_and, and_true, true_implies, g1]
    · simp (config := { maxSteps := 1000000 }) (disch := (first | assumption | omega | exact Nm.old_n (by omega) | exact Nm.old_hp (by assumption) | (simp only [List.length_set, List.length_cons, List.length_nil, List.length_append, List.length_map, List.length_replicate] <;> omega))) only [nmS0, nmS1, nmS2, nmS3, nmS4, nmS5, nmS6, Nat.testBit, Nat.reduceShiftRight, Nat.reduceAnd, Nat.reduceBNe, cond_true, cond_false, NT.get_leaf, Nat.reduceSub, d_true, d_false, clsOf, beq_self_eq_true, Int.reduceToNat, Nat.reduceAdd, Nat.reduceMul, Nat.reduceEqDiff, decide_true, decide_false, if_true, if_false, ite_true, ite_false, reduceIte, reduceCtorEq, eq_self, true_and, and_true, true_implies, g3]
    · simp (config := { maxSteps := 1000000 }) (disch := (first | assumption | omega | exact Nm.old_n (by omega) | exact Nm.old_hp (by assumption) | (simp only [List.length_set, List.length_cons, List.length_nil, List.length_append, List.length_map, List.length_replicate] <;> omega))) only [nmS0, nmS1, nmS2, nmS3, nmS4, nmS5, nmS6, Nat.testBit, Nat.reduceShiftRight, Nat.reduceAnd, Nat.reduceBNe, cond_true, cond_false, NT.get_leaf, Nat.reduceSub, d_true, d_false, clsOf, beq_self_eq_true, Int.reduceToNat, Nat.reduceAdd, Nat.reduceMul, Nat.reduceEqDiff, decide_true, decide_false, if_true, if_false, ite_true, ite_false, reduceIte, reduceCtorEq, eq_self, true_and, and_true, true_implies, g4]
theorem lc_l2 {M : NH} {bx : D4} {w : Bool} {vs sv : NV} {vars locals : Int} {steps : List St} {L : List (Int × Int)} (hb : M.get bx = some (.cells w [ii vars, ii locals, vs])) (hbo : Old M bx) (hs : Sl M vs 9 (Sts steps)) (hn : steps.length ≤ 300) (hL : Sl M sv 2 (Prs L)) (hLl : (L.length : Int) = vars) (hv60 : vars ≤ 60) (hfl : ∀ s ∈ steps, flatV s.n ∧ flatV s.op)
    (hcov : ∀ (i : Nat) (hi : i < steps.length) (v : Nat) (hv : v < L.length), steps[i].hit v = true → 0 ≤ L[v].1 ∧ L[v].1 ≤ i ∧ (i : Int) ≤ L[v].2)
    {t : Tm} (g1 : NT.get D4.e.a t = some (.ptr bx 0)) (g3 : NT.get D4.e.f t = some sv) (g4 : NT.get D4.e.a.a t = some (ii 0))
    {Q : Out → Dyn → Prop} (hQ : ∀ t' M', Chg [] M M' → NT.get D4.e.a t' = some (.ptr bx 0) → NT.get D4.e.f t' = some sv → Q (.exit 0) ⟨puts [] t', [], none, hp [] 0 M'⟩) :
    W Try.prog S0 none nf3_l2.loop ⟨t, [], none, M⟩ Q := by
  have hlen := hs.len
  rw [List.length_map] at hlen
  refine W.loop (fun k d => ∃ t' M' i, d = ⟨t', [], none, M'⟩ ∧ Chg [] M M' ∧ NT.get D4.e.a t' = some (.ptr bx 0) ∧ NT.get D4.e.f t' = some sv ∧ NT.get D4.e.a.a t' = some (ii (i : Nat)) ∧ i + k = steps.length)
    ?_ steps.length _ ⟨t, M, 0, rfl, Chg.refl _, g1, g3, g4, by omega⟩
  rintro k d ⟨t', M', i, rfl, hC, g1, g3, g4, hik⟩
  have hb' := (hC.get hbo (by simp)).trans hb
  have hs' := hs.grew hC
  have hbo' := hC.old hbo
  apply wp_sound
  unfold nf3_l2
  change wp _ _ _ _ ⟨puts [] t', [], none, M'⟩ _
  by_cases hi : i < steps.length
  · obtain ⟨id, off, w', c, a1, a2, a3, a4, a5⟩ := hs'.at i (by simpa using hi)
    rw [List.getElem_map] at a5
    obtain ⟨u1, M1, hr1, hu1, hC1⟩ := uses_ref M' steps[i]
    obtain ⟨M2, hr2, hC2⟩ := sets_ref M1 steps[i]
    have hb1 := (hC1.get hbo' (by simp)).trans hb'
    have a21 := (hC1.get a3 (by simp)).trans a2
    have hb2 := (hC2.get (hC1.old hbo') (by simp)).trans hb1
    have a22 := (hC2.get (hC1.old a3) (by simp)).trans a21
    have o1 := hC1.old hbo'
    have o2 := hC2.old o1
    have o3 := hC1.old a3
    have o4 := hC2.old o3
    have hul := uses_len steps[i]
    obtain ⟨hf1, hf2⟩ := hfl _ (List.getElem_mem hi)
    have hsame : sameV 4 (.agg steps[i].l) (.agg steps[i].l) = true := same_agg (by intro v hv; simp [St.l] at hv; rcases hv with rfl | rfl | rfl | rfl | rfl | rfl | rfl | rfl | rfl <;> first | trivial | assumption)
    have hsv : sameV 4 vs vs = true := hs.same
    simp (config := { maxSteps := 1000000 }) (disch := (first | assumption | omega | exact Nm.old_n (by omega) | exact Nm.old_hp (by assumption) | (simp only [List.length_set, List.length_cons, List.length_nil, List.length_append, List.length_map, List.length_replicate] <;> omega))) only [nmS0, nmS1, nmS2, nmS3, nmS4, nmS5, nmS6, Nat.testBit, Nat.reduceShiftRight, Nat.reduceAnd, Nat.reduceBNe, cond_true, cond_false, NT.get_leaf, Nat.reduceSub, d_true, d_false, clsOf, beq_self_eq_true, Int.reduceToNat, Nat.reduceAdd, Nat.reduceMul, Nat.reduceEqDiff, decide_true, decide_false, if_true, if_false, ite_true, ite_false, reduceIte, reduceCtorEq, eq_self, true_and, and_true, true_implies, g1, g3, g4, hlen, a1, a2, a5, hb', hr1.wf', hr2.wf, hb1, a21, hb2, a22, hsame, hsv]
    refine wNE_app1 (B := M') (C := Ints steps[i].uses) (cs := [ii steps[i].sets]) (w := true) ?_ ?_ ?_ rfl ?_ (by simp; omega) (by simp; omega) ?_
    · exact (hu1.chg hC2 fun _ _ => by simp).chg (hp_of rfl) fun _ _ => by simp [oldK]
    · simp (config := { maxSteps := 1000000 }) (disch := (first | assumption | omega | exact Nm.old_n (by omega) | exact Nm.old_hp (by assumption) | (simp only [List.length_set, List.length_cons, List.length_nil, List.length_append, List.length_map, List.length_replicate] <;> omega))) only [nmS0, nmS1, nmS2, nmS3, nmS4, nmS5, nmS6, Nat.testBit, Nat.reduceShiftRight, Nat.reduceAnd, Nat.reduceBNe, cond_true, cond_false, NT.get_leaf, Nat.reduceSub, d_true, d_false, clsOf, beq_self_eq_true, Int.reduceToNat, Nat.reduceAdd, Nat.reduceMul, Nat.reduceEqDiff, decide_true, decide_false, if_true, if_false, ite_true, ite_false, reduceIte, reduceCtorEq, eq_self, true_and, and_true, true_implies]
    · exact old_n (by omega)
    · intro j hj; exact old_hp (hC2.old (hC1.old hj))
    intro u3 M3 hu3 hC4
    have hCx : Chg [] M' M3 := ((hC1.trans hC2 fun _ h _ => h).trans (hp_of rfl : Chg [] M2 _) fun _ h _ => h).trans hC4 fun j hj ho => absurd ho (hu1.new j hj)
    have hb3 := (hCx.get hbo' (by simp)).trans hb'
    have a23 := (hCx.get a3 (by simp)).trans a2
    have o5 := hCx.old hbo'
    have o6 := hCx.old a3
    simp (config := { maxSteps := 1000000 }) (disch := (first | assumption | omega | exact Nm.old_n (by omega) | exact Nm.old_hp (by assumption) | (simp only [List.length_set, List.length_cons, List.length_nil, List.length_append, List.length_map, List.length_replicate] <;> omega))) only [nmS0, nmS1, nmS2, nmS3, nmS4, nmS5, nmS6, Nat.testBit, Nat.reduceShiftRight, Nat.reduceAnd, Nat.reduceBNe, cond_true, cond_false, NT.get_leaf, Nat.reduceSub, d_true, d_false, clsOf, beq_self_eq_true, Int.reduceToNat, Nat.reduceAdd, Nat.reduceMul, Nat.reduceEqDiff, decide_true, decide_false, if_true, if_false, ite_true, ite_false, reduceIte, reduceCtorEq, eq_self, true_and, and_true, true_implies, hb3, a23, a5, hsame, hsv, g1, g4, a1]
    have e : Ints steps[i].uses ++ [[ii steps[i].sets]] = Ints steps[i].all' := by simp [St.all']
    rw [hp_nil]
    refine lc_l1 (bx := bx) (w := w) (uu := u3) (vs := vs) (sv := sv) (vars := vars) (locals := locals) (steps := steps) (L := L) (us := steps[i].all') (i := i) hb3 (by rw [← e]; exact hu3.sl) (by simp [St.all']; omega) ((hL.grew hC).grew hCx) hLl hv60 ?_ ?_ ?_ ?_ ?_ ?_ ?_
    · rintro u hu v hv rfl
      refine hcov i hi v hv ?_
      rw [← hit_all, List.any_eq_true]; exact ⟨_, hu, by simp⟩
    · simp (config := { maxSteps := 1000000 }) (disch := (first | assumption | omega | exact Nm.old_n (by omega) | exact Nm.old_hp (by assumption) | (simp only [List.length_set, List.length_cons, List.length_nil, List.length_append, List.length_map, List.length_replicate] <;> omega))) only [nmS0, nmS1, nmS2, nmS3, nmS4, nmS5, nmS6, Nat.testBit, Nat.reduceShiftRight, Nat.reduceAnd, Nat.reduceBNe, cond_true, cond_false, NT.get_leaf, Nat.reduceSub, d_true, d_false, clsOf, beq_self_eq_true, Int.reduceToNat, Nat.reduceAdd, Nat.reduceMul, Nat.reduceEqDiff, decide_true, decide_false, if_true, if_false, ite_true, ite_false, reduceIte, reduceCtorEq, eq_self, true_and, and_true, true_implies, g1]
    · simp (config := { maxSteps := 1000000 }) (disch := (first | assumption | omega | exact Nm.old_n (by omega) | exact Nm.old_hp (by assumption) | (simp only [List.length_set, List.length_cons, List.length_nil, List.length_append, List.length_map, List.length_replicate] <;> omega))) only [nmS0, nmS1, nmS2, nmS3, nmS4, nmS5, nmS6, Nat.testBit, Nat.reduceShiftRight, Nat.reduceAnd, Nat.reduceBNe, cond_true, cond_false, NT.get_leaf, Nat.reduceSub, d_true, d_false, clsOf, beq_self_eq_true, Int.reduceToNat, Nat.reduceAdd, Nat.reduceMul, Nat.reduceEqDiff, decide_true, decide_false, if_true, if_false, ite_true, ite_false, reduceIte, reduceCtorEq, eq_self, true_and, and_true, true_implies]
    · simp (config := { maxSteps := 1000000 }) (disch := (first | assumption | omega | exact Nm.old_n (by omega) | exact Nm.old_hp (by assumption) | (simp only [List.length_set, List.length_cons, List.length_nil, List.length_append, List.length_map, List.length_replicate] <;> omega))) only [nmS0, nmS1, nmS2, nmS3, nmS4, nmS5, nmS6, Nat.testBit, Nat.reduceShiftRight, Nat.reduceAnd, Nat.reduceBNe, cond_true, cond_false, NT.get_leaf, Nat.reduceSub, d_true, d_false, clsOf, beq_self_eq_true, Int.reduceToNat, Nat.reduceAdd, Nat.reduceMul, Nat.reduceEqDiff, decide_true, decide_false, if_true, if_false, ite_true, ite_false, reduceIte, reduceCtorEq, eq_self, true_and, and_true, true_implies, g3]
    · simp (config := { maxSteps := 1000000 }) (disch := (first | assumption | omega | exact Nm.old_n (by omega) | exact Nm.old_hp (by assumption) | (simp only [List.length_set, List.length_cons, List.length_nil, List.length_append, List.length_map, List.length_replicate] <;> omega))) only [nmS0, nmS1, nmS2, nmS3, nmS4, nmS5, nmS6, Nat.testBit, Nat.reduceShiftRight, Nat.reduceAnd, Nat.reduceBNe, cond_true, cond_false, NT.get_leaf, Nat.reduceSub, d_true, d_false, clsOf, beq_self_eq_true, Int.reduceToNat, Nat.reduceAdd, Nat.reduceMul, Nat.reduceEqDiff, decide_true, decide_false, if_true, if_false, ite_true, ite_false, reduceIte, reduceCtorEq, eq_self, true_and, and_true, true_implies, g4]
    · simp (config := { maxSteps := 1000000 }) (disch := (first | assumption | omega | exact Nm.old_n (by omega) | exact Nm.old_hp (by assumption) | (simp only [List.length_set, List.length_cons, List.length_nil, List.length_append, List.length_map, List.length_replicate] <;> omega))) only [nmS0, nmS1, nmS2, nmS3, nmS4, nmS5, nmS6, Nat.testBit, Nat.reduceShiftRight, Nat.reduceAnd, Nat.reduceBNe, cond_true, cond_false, NT.get_leaf, Nat.reduceSub, d_true, d_false, clsOf, beq_self_eq_true, Int.reduceToNat, Nat.reduceAdd, Nat.reduceMul, Nat.reduceEqDiff, decide_true, decide_false, if_true, if_false, ite_true, ite_false, reduceIte, reduceCtorEq, eq_self, true_and, and_true, true_implies]
    intro t2 g1 g3 g4
    simp (config := { maxSteps := 1000000 }) (disch := (first | assumption | omega | exact Nm.old_n (by omega) | exact Nm.old_hp (by assumption) | (simp only [List.length_set, List.length_cons, List.length_nil, List.length_append, List.length_map, List.length_replicate] <;> omega))) only [nmS0, nmS1, nmS2, nmS3, nmS4, nmS5, nmS6, Nat.testBit, Nat.reduceShiftRight, Nat.reduceAnd, Nat.reduceBNe, cond_true, cond_false, NT.get_leaf, Nat.reduceSub, d_true, d_false, clsOf, beq_self_eq_true, Int.reduceToNat, Nat.reduceAdd, Nat.reduceMul, Nat.reduceEqDiff, decide_true, decide_false, if_true, if_false, ite_true, ite_false, reduceIte, reduceCtorEq, eq_self, true_and, and_true, true_implies, g1, g3, g4]
    refine ⟨k - 1, by omega, _, M3, i + 1, rfl, hC.trans hCx fun _ h _ => h, ?_, ?_, ?_, by omega⟩
    · simp (config := { maxSteps := 1000000 }) (disch := (first | assumption | omega | exact Nm.old_n (by omega) | exact Nm.old_hp (by assumption) | (simp only [List.length_set, List.length_cons, List.length_nil, List.length_append, List.length_map, List.length_replicate] <;> omega))) only [nmS0, nmS1, nmS2, nmS3, nmS4, nmS5, nmS6, Nat.testBit, Nat.reduceShiftRight, Nat.reduceAnd, Nat.reduceBNe, cond_true, cond_false, NT.get_leaf, Nat.reduceSub, d_true, d_false, clsOf, beq_self_eq_true, Int.reduceToNat, Nat.reduceAdd, Nat.reduceMul, Nat.reduceEqDiff, decide_true, decide_false, if_true, if_false, ite_true, ite_false, reduceIte, reduceCtorEq, eq_self, true_and, and_true, true_implies, g1]
    · simp (config := { maxSteps := 1000000 }) (disch := (first | assumption | omega | exact Nm.old_n (by omega) | exact Nm.old_hp (by assumption) | (simp only [List.length_set, List.length_cons, List.length_nil, List.length_append, List.length_map, List.length_replicate] <;> omega))) only [nmS0, nmS1, nmS2, nmS3, nmS4, nmS5, nmS6, Nat.testBit, Nat.reduceShiftRight, Nat.reduceAnd, Nat.reduceBNe, cond_true, cond_false, NT.get_leaf, Nat.reduceSub, d_true, d_false, clsOf, beq_self_eq_true, Int.reduceToNat, Nat.reduceAdd, Nat.reduceMul, Nat.reduceEqDiff, decide_true, decide_false, if_true, if_false, ite_true, ite_false, reduceIte, reduceCtorEq, eq_self, true_and, and_true, true_implies, g3]
    · simp (config := { maxSteps := 1000000 }) (disch := (first | assumption | omega | exact Nm.old_n (by omega) | exact Nm.old_hp (by assumption) | (simp only [List.length_set, List.length_cons, List.length_nil, List.length_append, List.length_map, List.length_replicate] <;> omega))) only [nmS0, nmS1, nmS2, nmS3, nmS4, nmS5, nmS6, Nat.testBit, Nat.reduceShiftRight, Nat.reduceAnd, Nat.reduceBNe, cond_true, cond_false, NT.get_leaf, Nat.reduceSub, d_true, d_false, clsOf, beq_self_eq_true, Int.reduceToNat, Nat.reduceAdd, Nat.reduceMul, Nat.reduceEqDiff, decide_true, decide_false, if_true, if_false, ite_true, ite_false, reduceIte, reduceCtorEq, eq_self, true_and, and_true, true_implies]; rfl
  · simp (config := { maxSteps := 1000000 }) (disch := (first | assumption | omega | exact Nm.old_n (by omega) | exact Nm.old_hp (by assumption) | (simp only [List.length_set, List.length_cons, List.length_nil, List.length_append, List.length_map, List.length_replicate] <;> omega))) only [nmS0, nmS1, nmS2, nmS3, nmS4, nmS5, nmS6, Nat.testBit, Nat.reduceShiftRight, Nat.reduceAnd, Nat.reduceBNe, cond_true, cond_false, NT.get_leaf, Nat.reduceSub, d_true, d_false, clsOf, beq_self_eq_true, Int.reduceToNat, Nat.reduceAdd, Nat.reduceMul, Nat.reduceEqDiff, decide_true, decide_false, if_true, if_false, ite_true, ite_false, reduceIte, reduceCtorEq, eq_self, true_and, and_true, true_implies, g1, g3, g4, hlen, hb']
    have hQ' := fun L t' => hQ (puts L t')
    simp only [puts_nil, hp_nil] at hQ'
    refine hQ' _ _ _ hC ?_ ?_
    · simp (config := { maxSteps := 1000000 }) (disch := (first | assumption | omega | exact Nm.old_n (by omega) | exact Nm.old_hp (by assumption) | (simp only [List.length_set, List.length_cons, List.length_nil, List.length_append, List.length_map, List.length_replicate] <;> omega))) only [nmS0, nmS1, nmS2, nmS3, nmS4, nmS5, nmS6, Nat.testBit, Nat.reduceShiftRight, Nat.reduceAnd, Nat.reduceBNe, cond_true, cond_false, NT.get_leaf, Nat.reduceSub, d_true, d_false, clsOf, beq_self_eq_true, Int.reduceToNat, Nat.reduceAdd, Nat.reduceMul, Nat.reduceEqDiff, decide_true, decide_false, if_true, if_false, ite_true, ite_false, reduceIte, reduceCtorEq, eq_self, true_and, and_true, true_implies, g1]
    · simp (config := { maxSteps := 1000000 }) (disch := (first | assumption | omega | exact Nm.old_n (by omega) | exact Nm.old_hp (by assumption) | (simp only [List.length_set, List.length_cons, List.length_nil, List.length_append, List.length_map, List.length_replicate] <;> omega))) only [nmS0, nmS1, nmS2, nmS3, nmS4, nmS5, nmS6, Nat.testBit, Nat.reduceShiftRight, Nat.reduceAnd, Nat.reduceBNe, cond_true, cond_false, NT.get_leaf, Nat.reduceSub, d_true, d_false, clsOf, beq_self_eq_true, Int.reduceToNat, Nat.reduceAdd, Nat.reduceMul, Nat.reduceEqDiff, decide_true, decide_false, if_true, if_false, ite_true, ite_false, reduceIte, reduceCtorEq, eq_self, true_and, and_true, true_implies, g3]
end LV

