/- Contracts of functions that the law LexNumbers reaches, part 1. -/
import Derived.Test.YtljedjncidgjjaaLuU0
open Go Nm Go.Proofs
namespace LX
set_option linter.unusedSimpArgs false
set_option linter.unusedVariables false
theorem show_p (m : NH) {n : Nat} (hn : n < 18446744073709551616) : ∃ v m', Ret Try.prog S0 15 [.agg [ii 0, u64 n, .int .u8 (.lit 0), .str [], .nils]] m v m' ∧ v = .str (decF 20 n) ∧ Chg [] m m' := by
  refine WF.ex fun K hK => ?_
  refine WF.of_wpG (fun _ => rfl) nf15_eq (L := [(.e, .agg [ii 0, u64 n, .int .u8 (.lit 0), .str [], .nils])]) rfl ?_
  unfold nf15
  have hd : ∀ m, Ret Try.prog S0 27 [u64 n] m (.str (decF 20 n)) m := fun m => dec_p 20 n m (by omega) hn (by omega) (by omega)
  simp (config := { maxSteps := 1000000 }) (disch := (first | assumption | omega | exact Nm.old_n (by omega) | exact Nm.old_hp (by assumption) | (simp only [List.length_set, List.length_cons, List.length_nil, List.length_append, List.length_map, List.length_replicate] <;> omega))) only [nmS0, nmS1, nmS2, nmS3, nmS4, nmS5, nmS6, nmS7, Nat.testBit, Nat.reduceShiftRight, Nat.reduceAnd, Nat.reduceBNe, cond_true, cond_false, NT.get_leaf, Nat.reduceSub, d_true, d_false, clsOf, beq_self_eq_true, Int.reduceToNat, Nat.reduceAdd, Nat.reduceMul, Nat.reduceEqDiff, decide_true, decide_false, if_true, if_false, ite_true, ite_false, reduceIte, reduceCtorEq, eq_self, true_and, and_true, true_implies, (hd _).wf']
  exact hK _ _ ⟨rfl, hp_of rfl⟩
theorem head_dig {s : List Nat} {c : Nat} (hb : s[0]? = some c) (hD : isD c = true) : skipN s 0 = 0 ∧ isL c = false := by
  unfold isD at hD
  rw [decide_eq_true_eq] at hD
  obtain ⟨h0, hc⟩ := List.getElem?_eq_some_iff.mp hb
  refine ⟨skip_stop h0 (by rw [hc]; unfold isB; rw [decide_eq_false_iff_not]; omega) (by rw [hc]; omega), ?_⟩
  unfold isL; rw [decide_eq_false_iff_not]; omega
theorem toks_bad {s : List Nat} {c : Nat} (hb : s[0]? = some c) (hD : isD c = true) (h : numV (cut s 0 (rowN isD s 0)) = none ∨ rowN isI s 0 ≠ rowN isD s 0) : toks s = ([], some 0) := by
  obtain ⟨h0, hL⟩ := head_dig hb hD
  have ht : tokS s 0 = none := by
    unfold tokS; rw [hb]
    simp only [hL, hD]
    rcases h with h | h
    · rw [h]; simp
    · cases numV (cut s 0 (rowN isD s 0)) with
      | none => simp
      | some n => simp [h]
  have hlt : 0 < s.length := (List.getElem?_eq_some_iff.mp hb).1
  unfold toks
  rw [h0, toksL, if_pos hlt, ht]
theorem toks_num {s : List Nat} {c n : Nat} (hb : s[0]? = some c) (hall : ∀ x ∈ s, isD x = true) (hn : numV s = some n) : toks s = ([⟨2, [], n, 0⟩, ⟨5, [], 0, s.length⟩], none) := by
  have hD : isD c = true := hall c (List.mem_of_getElem? hb)
  obtain ⟨h0, hL⟩ := head_dig hb hD
  have hlt : 0 < s.length := (List.getElem?_eq_some_iff.mp hb).1
  have hr : rowN isD s 0 = s.length := (row_all isD _).mpr (by rw [List.all_eq_true]; exact hall)
  have hr2 : rowN isI s 0 = s.length := by rw [row_row isD_isI s _ 0 rfl, hr, rowN_end (Nat.le_refl _)]
  have hcut : cut s 0 s.length = s := by unfold cut; simp
  have ht : tokS s 0 = some (2, [], n, s.length) := by
    unfold tokS; rw [hb]
    simp only [hL, hD, hr, hr2, hcut, hn]; simp
  have he : skipN s s.length = s.length := skipN_end (Nat.le_refl _)
  obtain ⟨k, hk⟩ : ∃ k, s.length = k + 1 := ⟨s.length - 1, by omega⟩
  unfold toks
  rw [h0, toksL, if_pos hlt, ht]
  dsimp only
  rw [he, show toksL s s.length s.length = ([⟨5, [], 0, s.length⟩], none) from by
    conv => lhs; arg 2; rw [hk]
    rw [toksL, if_neg (by omega)]]
theorem dec_num {n : Nat} (hn : n < 18446744073709551616) : ∃ c, (decF 20 n)[0]? = some c ∧ isD c = true ∧ numV (decF 20 n) = some n ∧ decF 20 n ≠ [] := by
  have hv : valL (decF 20 n) 0 = some n := by
    have := decF_val 20 n [] (by omega) hn
    rw [List.append_nil] at this; exact this
  by_cases h0 : n = 0
  · subst h0; exact ⟨48, rfl, rfl, rfl, by decide⟩
  · obtain ⟨h1, h2⟩ := decF_hd 20 n (by omega) h0
    have hl := List.length_pos_iff.mpr h2
    refine ⟨(decF 20 n)[0], List.getElem?_eq_getElem hl, decF_dig 20 n _ (List.getElem_mem hl), ?_, h2⟩
    unfold numV; rw [if_neg (fun q => h1 q.2), hv]
/-- a text that begins with digits, and goes on with letters, too -/
theorem toks_behind {s : List Nat} {c : Nat} (hb : s[0]? = some c) (hD : isD c = true) (hall : ∀ x ∈ s, isI x = true) (h97 : 97 ∈ s) : toks s = ([], some 0) := by
  refine toks_bad hb hD (Or.inr fun h => ?_)
  rw [(row_all isI s).mpr (by rw [List.all_eq_true]; exact hall)] at h
  have := (row_all isD s).mp h.symm
  rw [List.all_eq_true] at this
  have := this 97 h97
  simp [isD] at this
theorem lexNumbers (m : NH) (l : List NV) (h : TyA Try.prog m [34, 4, 4] l) : ∃ m', Ret Try.prog S0 6 l m (.bool true) m' := by
  obtain ⟨x, r, rfl, h1, h⟩ := h.inv1 (by intro fs q; rw [Try.underlying34] at q; simp at q)
  obtain ⟨y, r, rfl, h2, h⟩ := h.inv1 (by intro fs q; rw [Try.underlying4] at q; simp at q)
  obtain ⟨w, r, rfl, h3, h⟩ := h.inv1 (by intro fs q; rw [Try.underlying4] at q; simp at q)
  obtain rfl := h.inv0
  obtain ⟨n, hx, hw⟩ := h1.inv_int Try.underlying34
  obtain ⟨zeros, hz⟩ := h2.inv_bool Try.underlying4
  obtain ⟨behind, hbh⟩ := h3.inv_bool Try.underlying4
  have e1 : x = .int .u64 (.lit n) := by simpa using hx
  have e2 : y = .bool zeros := by simpa using hz
  have e3 : w = .bool behind := by simpa using hbh
  subst e1 e2 e3
  simp [Lit.wf] at hw
  have u1 : IntKind.u64.min = 0 := by decide
  have u2 : IntKind.u64.max = 18446744073709551615 := by decide
  rw [u1, u2] at hw
  obtain ⟨n, rfl⟩ := Int.eq_ofNat_of_zero_le hw.1
  have hn : n < 18446744073709551616 := by omega
  have hal : ∀ m, Ret Try.prog S0 8 [] m (.bool true) m := fun m => Ret.kept rfl m
  have h : ∃ v' m', Ret Try.prog S0 6 [u64 n, .bool zeros, .bool behind] m v' m' ∧ v' = .bool true := by
    refine WF.ex fun K hK => ?_
    refine WF.of_wpG (fun _ => rfl) nf6_eq (L := [(.b .e, .bool behind), (.a .e, .bool zeros), (.e, u64 n)]) rfl ?_
    unfold nf6
    obtain ⟨c, d1, d2, d3, d4⟩ := dec_num hn
    have hlD := decF_len 20 n
    have hdD := decF_dig 20 n
    obtain ⟨v1, m1, hr1, rfl, hC1⟩ := show_p (hp [] 0 m) hn
    generalize decF 20 n = D at hr1 d1 d3 d4 hlD hdD
    have hnum : ∀ m e, Ret Try.prog S0 12 [ii e] m (ii e) m := num_p
    have h256 : ∀ x ∈ D, x < 256 := fun x hx => by have := hdD x hx; unfold isD at this; rw [decide_eq_true_eq] at this; omega
    have hDI : ∀ x ∈ D, isI x = true := fun x hx => isD_isI x (hdD x hx)
    have hl2 : ([48] : List Nat).length = 1 := rfl
    have hl3 : ([97] : List Nat).length = 1 := rfl
    have e48 : [48] ++ D = 48 :: D := rfl
    have fin : ∀ (s : List Nat) (M : NH) (v : NV), toks s = ([], some 0) → (∀ x ∈ s, x < 256) → s.length ≤ 30 → Sl M v 1 (Byt s) → ∃ m3, Ret Try.prog S0 9 [v] M (.tup [.nils, ii 0, ii 2]) m3 := by
      intro s M v hT hb hls hS
      obtain ⟨r, m3, hr, hR, hC3⟩ := tokens_p M hS (by omega) hb
      rw [if_neg (by omega), hT] at hR
      obtain rfl := hR
      exact ⟨m3, hr⟩
    cases zeros <;> cases behind
    · simp (config := { maxSteps := 1000000 }) (disch := (first | assumption | omega | exact Nm.old_n (by omega) | exact Nm.old_hp (by assumption) | (simp only [List.length_set, List.length_cons, List.length_nil, List.length_append, List.length_map, List.length_replicate] <;> omega))) only [nmS0, nmS1, nmS2, nmS3, nmS4, nmS5, nmS6, nmS7, Nat.testBit, Nat.reduceShiftRight, Nat.reduceAnd, Nat.reduceBNe, cond_true, cond_false, NT.get_leaf, Nat.reduceSub, d_true, d_false, clsOf, beq_self_eq_true, Int.reduceToNat, Nat.reduceAdd, Nat.reduceMul, Nat.reduceEqDiff, decide_true, decide_false, if_true, if_false, ite_true, ite_false, reduceIte, reduceCtorEq, eq_self, true_and, and_true, true_implies, (hal _).wf', hr1.wf]
      generalize hM : hp _ 1 m1 = M
      have gM : M.get (na m1 0) = some (.cells false (Byt D).flatten) := by rw [← hM]; exact h_getN
      have oM : Old M (na m1 0) := by rw [← hM]; exact old_n (by omega)
      obtain ⟨r, m3, hr, hR, hC3⟩ := tokens_p M (stb_sl gM oM) (by omega) h256
      rw [if_neg (by omega), toks_num d1 hdD d3] at hR
      obtain ⟨u, rfl, hu⟩ := hR
      have hlu := hu.sl.len
      obtain ⟨id, off, wr, c', a1, a2, a3, a4, a5⟩ := hu.sl.at 0 (by simp)
      have a5' : List.take 4 (List.drop off c') = [ii 2, .str [], u64 n, ii 0] := a5
      have c0 : c'[off]? = some (ii 2) := cell_at a5' 0 (by simp)
      have c00 : c'[off + 0]? = some (ii 2) := c0
      have c2 : c'[off + 2]? = some (u64 n) := cell_at a5' 2 (by simp)
      have a1 : idxV 4 u (.int .i64 (.lit 0)) = .val (.ptr id off) := a1
      have hlu : lenV u = .val (.int .i64 (.lit 2)) := hlu
      simp (config := { maxSteps := 1000000 }) (disch := (first | assumption | omega | exact Nm.old_n (by omega) | exact Nm.old_hp (by assumption) | (simp only [List.length_set, List.length_cons, List.length_nil, List.length_append, List.length_map, List.length_replicate] <;> omega))) only [nmS0, nmS1, nmS2, nmS3, nmS4, nmS5, nmS6, nmS7, Nat.testBit, Nat.reduceShiftRight, Nat.reduceAnd, Nat.reduceBNe, cond_true, cond_false, NT.get_leaf, Nat.reduceSub, d_true, d_false, clsOf, beq_self_eq_true, Int.reduceToNat, Nat.reduceAdd, Nat.reduceMul, Nat.reduceEqDiff, decide_true, decide_false, if_true, if_false, ite_true, ite_false, reduceIte, reduceCtorEq, eq_self, true_and, and_true, true_implies, hr.wf', (hnum _ _).wf', hlu, a1, a2, c0, c00, c2]
      exact hK _ _ rfl
    · simp (config := { maxSteps := 1000000 }) (disch := (first | assumption | omega | exact Nm.old_n (by omega) | exact Nm.old_hp (by assumption) | (simp only [List.length_set, List.length_cons, List.length_nil, List.length_append, List.length_map, List.length_replicate] <;> omega))) only [nmS0, nmS1, nmS2, nmS3, nmS4, nmS5, nmS6, nmS7, Nat.testBit, Nat.reduceShiftRight, Nat.reduceAnd, Nat.reduceBNe, cond_true, cond_false, NT.get_leaf, Nat.reduceSub, d_true, d_false, clsOf, beq_self_eq_true, Int.reduceToNat, Nat.reduceAdd, Nat.reduceMul, Nat.reduceEqDiff, decide_true, decide_false, if_true, if_false, ite_true, ite_false, reduceIte, reduceCtorEq, eq_self, true_and, and_true, true_implies, (hal _).wf', hr1.wf, hl2, hl3, e48]
      generalize hM : hp _ 1 m1 = M
      have gM : M.get (na m1 0) = some (.cells false (Byt (D ++ [97])).flatten) := by rw [← hM]; exact h_getN
      have oM : Old M (na m1 0) := by rw [← hM]; exact old_n (by omega)
      obtain ⟨m3, hr⟩ := fin (D ++ [97]) M _ (toks_behind (c := c) (by rw [List.getElem?_append_left (List.length_pos_iff.mpr d4)]; exact d1) d2 (by intro x hx; rw [List.mem_append] at hx; rcases hx with hx | hx; exact hDI x hx; simp at hx; subst hx; rfl) (by simp)) (by intro x hx; rw [List.mem_append] at hx; rcases hx with hx | hx; exact h256 x hx; simp at hx; omega) (by simp; omega) (stb_sl gM oM)
      simp (config := { maxSteps := 1000000 }) (disch := (first | assumption | omega | exact Nm.old_n (by omega) | exact Nm.old_hp (by assumption) | (simp only [List.length_set, List.length_cons, List.length_nil, List.length_append, List.length_map, List.length_replicate] <;> omega))) only [nmS0, nmS1, nmS2, nmS3, nmS4, nmS5, nmS6, nmS7, Nat.testBit, Nat.reduceShiftRight, Nat.reduceAnd, Nat.reduceBNe, cond_true, cond_false, NT.get_leaf, Nat.reduceSub, d_true, d_false, clsOf, beq_self_eq_true, Int.reduceToNat, Nat.reduceAdd, Nat.reduceMul, Nat.reduceEqDiff, decide_true, decide_false, if_true, if_false, ite_true, ite_false, reduceIte, reduceCtorEq, eq_self, true_and, and_true, true_implies, hr.wf', (hnum _ _).wf']
      exact hK _ _ rfl
    · simp (config := { maxSteps := 1000000 }) (disch := (first | assumption | omega | exact Nm.old_n (by omega) | exact Nm.old_hp (by assumption) | (simp only [List.length_set, List.length_cons, List.length_nil, List.length_append, List.length_map, List.length_replicate] <;> omega))) only [nmS0, nmS1, nmS2, nmS3, nmS4, nmS5, nmS6, nmS7, Nat.testBit, Nat.reduceShiftRight, Nat.reduceAnd, Nat.reduceBNe, cond_true, cond_false, NT.get_leaf, Nat.reduceSub, d_true, d_false, clsOf, beq_self_eq_true, Int.reduceToNat, Nat.reduceAdd, Nat.reduceMul, Nat.reduceEqDiff, decide_true, decide_false, if_true, if_false, ite_true, ite_false, reduceIte, reduceCtorEq, eq_self, true_and, and_true, true_implies, (hal _).wf', hr1.wf, hl2, hl3, e48]
      generalize hM : hp _ 1 m1 = M
      have gM : M.get (na m1 0) = some (.cells false (Byt (48 :: D)).flatten) := by rw [← hM]; exact h_getN
      have oM : Old M (na m1 0) := by rw [← hM]; exact old_n (by omega)
      obtain ⟨m3, hr⟩ := fin (48 :: D) M _ (toks_bad (c := 48) rfl rfl (Or.inl (by
        have hall : ∀ x ∈ 48 :: D, isD x = true := by intro x hx; rcases List.mem_cons.mp hx with rfl | hx; rfl; exact hdD x hx
        rw [(row_all isD (48 :: D)).mpr (by rw [List.all_eq_true]; exact hall)]
        rw [show cut (48 :: D) 0 (48 :: D).length = 48 :: D by unfold cut; simp]
        unfold numV
        rw [if_pos ⟨by have := List.length_pos_iff.mpr d4; simp; omega, rfl⟩]))) (by intro x hx; rcases List.mem_cons.mp hx with rfl | hx; omega; exact h256 x hx) (by simp; omega) (stb_sl gM oM)
      simp (config := { maxSteps := 1000000 }) (disch := (first | assumption | omega | exact Nm.old_n (by omega) | exact Nm.old_hp (by assumption) | (simp only [List.length_set, List.length_cons, List.length_nil, List.length_append, List.length_map, List.length_replicate] <;> omega))) only [nmS0, nmS1, nmS2, nmS3, nmS4, nmS5, nmS6, nmS7, Nat.testBit, Nat.reduceShiftRight, Nat.reduceAnd, Nat.reduceBNe, cond_true, cond_false, NT.get_leaf, Nat.reduceSub, d_true, d_false, clsOf, beq_self_eq_true, Int.reduceToNat, Nat.reduceAdd, Nat.reduceMul, Nat.reduceEqDiff, decide_true, decide_false, if_true, if_false, ite_true, ite_false, reduceIte, reduceCtorEq, eq_self, true_and, and_true, true_implies, hr.wf', (hnum _ _).wf']
      exact hK _ _ rfl
    · simp (config := { maxSteps := 1000000 }) (disch := (first | assumption | omega | exact Nm.old_n (by omega) | exact Nm.old_hp (by assumption) | (simp only [List.length_set, List.length_cons, List.length_nil, List.length_append, List.length_map, List.length_replicate] <;> omega))) only [nmS0, nmS1, nmS2, nmS3, nmS4, nmS5, nmS6, nmS7, Nat.testBit, Nat.reduceShiftRight, Nat.reduceAnd, Nat.reduceBNe, cond_true, cond_false, NT.get_leaf, Nat.reduceSub, d_true, d_false, clsOf, beq_self_eq_true, Int.reduceToNat, Nat.reduceAdd, Nat.reduceMul, Nat.reduceEqDiff, decide_true, decide_false, if_true, if_false, ite_true, ite_false, reduceIte, reduceCtorEq, eq_self, true_and, and_true, true_implies, (hal _).wf', hr1.wf, hl2, hl3, e48]
      generalize hM : hp _ 1 m1 = M
      have gM : M.get (na m1 0) = some (.cells false (Byt (48 :: D ++ [97])).flatten) := by rw [← hM]; exact h_getN
      have oM : Old M (na m1 0) := by rw [← hM]; exact old_n (by omega)
      obtain ⟨m3, hr⟩ := fin (48 :: D ++ [97]) M _ (toks_behind (c := 48) rfl rfl (by intro x hx; rw [List.mem_append, List.mem_cons] at hx; rcases hx with (rfl | hx) | hx; rfl; exact hDI x hx; simp at hx; subst hx; rfl) (by simp)) (by intro x hx; rw [List.mem_append, List.mem_cons] at hx; rcases hx with (rfl | hx) | hx; omega; exact h256 x hx; simp at hx; omega) (by simp; omega) (stb_sl gM oM)
      simp (config := { maxSteps := 1000000 }) (disch := (first | assumption | omega | exact Nm.old_n (by omega) | exact Nm.old_hp (by assumption) | (simp only [List.length_set, List.length_cons, List.length_nil, List.length_append, List.length_map, List.length_replicate] <;> omega))) only [nmS0, nmS1, nmS2, nmS3, nmS4, nmS5, nmS6, nmS7, Nat.testBit, Nat.reduceShiftRight, Nat.reduceAnd, Nat.reduceBNe, cond_true, cond_false, NT.get_leaf, Nat.reduceSub, d_true, d_false, clsOf, beq_self_eq_true, Int.reduceToNat, Nat.reduceAdd, Nat.reduceMul, Nat.reduceEqDiff, decide_true, decide_false, if_true, if_false, ite_true, ite_false, reduceIte, reduceCtorEq, eq_self, true_and, and_true, true_implies, hr.wf', (hnum _ _).wf']
      exact hK _ _ rfl
  obtain ⟨v', m', h, rfl⟩ := h
  exact ⟨m', h⟩
end LX

