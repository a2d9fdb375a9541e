/- Contracts of functions that the law SourceEvals reaches, part 0. -/
import Derived.Test.YtcpilcplobihkaaSec
open Go Nm Go.Proofs
namespace FR
set_option linter.unusedSimpArgs false
set_option linter.unusedVariables false
abbrev u8 (c : Nat) : NV := .int .u8 (.lit (c : Int))
abbrev u64 (n : Nat) : NV := .int .u64 (.lit (n : Int))
/-- expressions, statements -/
inductive Ex where
  | mk (k : Int) (n o : Nat) (s : List Nat) (ks : List Ex)
inductive Stm where
  | mk (k a : Int) (nm ce : List Nat) (i x y : Ex) (b e : List Stm)
theorem Ex.ind {P : Ex → Prop} (h : ∀ k n o s ks, (∀ x ∈ ks, P x) → P (.mk k n o s ks)) : ∀ x, P x
  | .mk k n o s ks => h k n o s ks fun x _ => Ex.ind h x
theorem Stm.ind {P : Stm → Prop} (h : ∀ k a nm ce i x y b e, (∀ s ∈ b, P s) → (∀ s ∈ e, P s) → P (.mk k a nm ce i x y b e)) : ∀ s, P s
  | .mk k a nm ce i x y b e => h k a nm ce i x y b e (fun s _ => Stm.ind h s) (fun s _ => Stm.ind h s)
/-- an expression's cells in the memory m; T: which objects it may go through -/
inductive RE (m : NH) (T : D4 → Prop) : Ex → List NV → Prop
  | mk {k : Int} {n o : Nat} {s : List Nat} {ks : List Ex} {v : NV} {C : List (List NV)} (hv : Sl m v 5 C) (hT : ∀ i ∈ ids v, T i) (hl : C.length = ks.length) (h : ∀ (i : Nat) (x : Ex) (c : List NV), ks[i]? = some x → C[i]? = some c → RE m T x c) :
    RE m T (.mk k n o s ks) [ii k, u64 n, u8 o, .str s, v]
inductive RS (m : NH) (T : D4 → Prop) : Stm → List NV → Prop
  | mk {k a : Int} {nm ce : List Nat} {i x y : Ex} {b e : List Stm} {ci cx cy : List NV} {vb ve : NV} {B E : List (List NV)} (hi : RE m T i ci) (hx : RE m T x cx) (hy : RE m T y cy)
    (hb : Sl m vb 21 B) (hbT : ∀ i ∈ ids vb, T i) (hbl : B.length = b.length) (hbR : ∀ (j : Nat) (s : Stm) (c : List NV), b[j]? = some s → B[j]? = some c → RS m T s c)
    (he : Sl m ve 21 E) (heT : ∀ i ∈ ids ve, T i) (hel : E.length = e.length) (heR : ∀ (j : Nat) (s : Stm) (c : List NV), e[j]? = some s → E[j]? = some c → RS m T s c) :
    RS m T (.mk k a nm ce i x y b e) ([ii k, ii a, .str nm, .str ce] ++ ci ++ cx ++ cy ++ [vb, ve])
/-- what an object of T was it stays -/
def Stays (T : D4 → Prop) (m m' : NH) : Prop := ∀ i, T i → Old m i → m'.get i = m.get i ∧ Old m' i
theorem Stays.of {S : List D4} {m m' : NH} {T : D4 → Prop} (h : Chg S m m') (hT : ∀ i, T i → i ∉ S) : Stays T m m' := fun i hi ho => ⟨h.get ho (hT i hi), h.old ho⟩
theorem sl_stays {m m' : NH} {T : D4 → Prop} {v : NV} {e : Nat} {C : List (List NV)} (h : Sl m v e C) (hT : ∀ i ∈ ids v, T i) (hs : Stays T m m') : Sl m' v e C := by
  obtain ⟨h0, ⟨rfl, rfl⟩ | ⟨id, off, kc, w, c, rfl, h1, h2, h3, h4⟩⟩ := h
  · exact ⟨h0, Or.inl ⟨rfl, rfl⟩⟩
  · obtain ⟨g1, g2⟩ := hs id (hT id (List.mem_cons_self ..)) h2
    exact ⟨h0, Or.inr ⟨id, off, kc, w, c, rfl, g1.trans h1, g2, h3, h4⟩⟩
theorem RE.stays {m m' : NH} {T : D4 → Prop} (hs : Stays T m m') {x : Ex} {c : List NV} (h : RE m T x c) : RE m' T x c := by
  induction h with
  | mk hv hT hl h ih => exact .mk (sl_stays hv hT hs) hT hl ih
theorem RS.stays {m m' : NH} {T : D4 → Prop} (hs : Stays T m m') {x : Stm} {c : List NV} (h : RS m T x c) : RS m' T x c := by
  induction h with
  | mk hi hx hy hb hbT hbl hbR he heT hel heR ih1 ih2 => exact .mk (hi.stays hs) (hx.stays hs) (hy.stays hs) (sl_stays hb hbT hs) hbT hbl ih1 (sl_stays he heT hs) heT hel ih2
/-- rows of them: a slice and its trees -/
structure SE (m : NH) (T : D4 → Prop) (v : NV) (l : List Ex) (C : List (List NV)) : Prop where
  sl : Sl m v 5 C
  hT : ∀ i ∈ ids v, T i
  len : C.length = l.length
  R : ∀ (i : Nat) (x : Ex) (c : List NV), l[i]? = some x → C[i]? = some c → RE m T x c
structure SS (m : NH) (T : D4 → Prop) (v : NV) (l : List Stm) (C : List (List NV)) : Prop where
  sl : Sl m v 21 C
  hT : ∀ i ∈ ids v, T i
  len : C.length = l.length
  R : ∀ (i : Nat) (x : Stm) (c : List NV), l[i]? = some x → C[i]? = some c → RS m T x c
theorem RE.inv {m : NH} {T : D4 → Prop} {k : Int} {n o : Nat} {s : List Nat} {ks : List Ex} {c : List NV} (h : RE m T (.mk k n o s ks) c) : ∃ v C, c = [ii k, u64 n, u8 o, .str s, v] ∧ SE m T v ks C := by
  cases h with
  | mk hv hT hl h => exact ⟨_, _, rfl, hv, hT, hl, h⟩
theorem RE.of {m : NH} {T : D4 → Prop} {k : Int} {n o : Nat} {s : List Nat} {ks : List Ex} {v : NV} {C : List (List NV)} (h : SE m T v ks C) : RE m T (.mk k n o s ks) [ii k, u64 n, u8 o, .str s, v] := .mk h.sl h.hT h.len h.R
theorem RE.len {m : NH} {T : D4 → Prop} {x : Ex} {c : List NV} (h : RE m T x c) : c.length = 5 := by cases h; rfl
theorem RS.len {m : NH} {T : D4 → Prop} {x : Stm} {c : List NV} (h : RS m T x c) : c.length = 21 := by
  cases h with
  | mk hi hx hy => simp [hi.len, hx.len, hy.len]
def Ex.k : Ex → Int | .mk k _ _ _ _ => k
def Ex.n : Ex → Nat | .mk _ n _ _ _ => n
def Ex.o : Ex → Nat | .mk _ _ o _ _ => o
def Ex.s : Ex → List Nat | .mk _ _ _ s _ => s
def Ex.ks : Ex → List Ex | .mk _ _ _ _ ks => ks
/-- an expression's cells, with its row of kids -/
abbrev Ex.l (x : Ex) (v : NV) : List NV := [ii x.k, u64 x.n, u8 x.o, .str x.s, v]
theorem RE.inv' {m : NH} {T : D4 → Prop} {x : Ex} {c : List NV} (h : RE m T x c) : ∃ v C, c = x.l v ∧ SE m T v x.ks C := by
  cases x; exact h.inv
theorem RS.inv {m : NH} {T : D4 → Prop} {k a : Int} {nm ce : List Nat} {i x y : Ex} {b e : List Stm} {c : List NV} (h : RS m T (.mk k a nm ce i x y b e) c) :
    ∃ vi vx vy vb ve B E, c = [ii k, ii a, .str nm, .str ce, ii i.k, u64 i.n, u8 i.o, .str i.s, vi, ii x.k, u64 x.n, u8 x.o, .str x.s, vx, ii y.k, u64 y.n, u8 y.o, .str y.s, vy, vb, ve] ∧
      RE m T i (i.l vi) ∧ RE m T x (x.l vx) ∧ RE m T y (y.l vy) ∧ SS m T vb b B ∧ SS m T ve e E := by
  cases h with
  | mk hi hx hy hb hbT hbl hbR he heT hel heR =>
    obtain ⟨vi, Ci, rfl, -⟩ := hi.inv'
    obtain ⟨vx, Cx, rfl, -⟩ := hx.inv'
    obtain ⟨vy, Cy, rfl, -⟩ := hy.inv'
    exact ⟨vi, vx, vy, _, _, _, _, rfl, hi, hx, hy, ⟨hb, hbT, hbl, hbR⟩, ⟨he, heT, hel, heR⟩⟩
theorem SE.stays {m m' : NH} {T : D4 → Prop} (hs : Stays T m m') {v : NV} {l : List Ex} {C : List (List NV)} (h : SE m T v l C) : SE m' T v l C := ⟨sl_stays h.sl h.hT hs, h.hT, h.len, fun i x c a b => (h.R i x c a b).stays hs⟩
theorem SS.stays {m m' : NH} {T : D4 → Prop} (hs : Stays T m m') {v : NV} {l : List Stm} {C : List (List NV)} (h : SS m T v l C) : SS m' T v l C := ⟨sl_stays h.sl h.hT hs, h.hT, h.len, fun i x c a b => (h.R i x c a b).stays hs⟩
theorem SE.at {m : NH} {T : D4 → Prop} {v : NV} {l : List Ex} {C : List (List NV)} (h : SE m T v l C) (i : Nat) (hi : i < l.length) : ∃ c, C[i]? = some c ∧ RE m T l[i] c := by
  have hc : i < C.length := by rw [h.len]; exact hi
  exact ⟨C[i], List.getElem?_eq_getElem hc, h.R i _ _ (List.getElem?_eq_getElem hi) (List.getElem?_eq_getElem hc)⟩
theorem SS.at {m : NH} {T : D4 → Prop} {v : NV} {l : List Stm} {C : List (List NV)} (h : SS m T v l C) (i : Nat) (hi : i < l.length) : ∃ c, C[i]? = some c ∧ RS m T l[i] c := by
  have hc : i < C.length := by rw [h.len]; exact hi
  exact ⟨C[i], List.getElem?_eq_getElem hc, h.R i _ _ (List.getElem?_eq_getElem hi) (List.getElem?_eq_getElem hc)⟩
/-- a statement's cells, with the rows it has -/
structure SV where
  (vi vx vy vb ve : NV)
def Stm.k : Stm → Int | .mk k _ _ _ _ _ _ _ _ => k
def Stm.a : Stm → Int | .mk _ a _ _ _ _ _ _ _ => a
def Stm.nm : Stm → List Nat | .mk _ _ s _ _ _ _ _ _ => s
def Stm.ce : Stm → List Nat | .mk _ _ _ s _ _ _ _ _ => s
def Stm.i : Stm → Ex | .mk _ _ _ _ x _ _ _ _ => x
def Stm.x : Stm → Ex | .mk _ _ _ _ _ x _ _ _ => x
def Stm.y : Stm → Ex | .mk _ _ _ _ _ _ x _ _ => x
def Stm.b : Stm → List Stm | .mk _ _ _ _ _ _ _ b _ => b
def Stm.e : Stm → List Stm | .mk _ _ _ _ _ _ _ _ e => e
abbrev Stm.l (s : Stm) (w : SV) : List NV := [ii s.k, ii s.a, .str s.nm, .str s.ce, ii s.i.k, u64 s.i.n, u8 s.i.o, .str s.i.s, w.vi, ii s.x.k, u64 s.x.n, u8 s.x.o, .str s.x.s, w.vx, ii s.y.k, u64 s.y.n, u8 s.y.o, .str s.y.s, w.vy, w.vb, w.ve]
/-- a statement's parts -/
structure SP (m : NH) (T : D4 → Prop) (s : Stm) (w : SV) : Prop where
  i : RE m T s.i (s.i.l w.vi)
  x : RE m T s.x (s.x.l w.vx)
  y : RE m T s.y (s.y.l w.vy)
  b : ∃ B, SS m T w.vb s.b B
  e : ∃ E, SS m T w.ve s.e E
theorem RS.inv' {m : NH} {T : D4 → Prop} {s : Stm} {c : List NV} (h : RS m T s c) : ∃ w, c = s.l w ∧ SP m T s w := by
  cases s
  obtain ⟨vi, vx, vy, vb, ve, B, E, rfl, h1, h2, h3, h4, h5⟩ := h.inv
  exact ⟨⟨vi, vx, vy, vb, ve⟩, rfl, h1, h2, h3, ⟨B, h4⟩, ⟨E, h5⟩⟩
end FR


open Go Nm Go.Proofs
namespace FR
set_option linter.unusedSimpArgs false
set_option linter.unusedVariables false
end FR


open Go Nm Go.Proofs
namespace FR
set_option linter.unusedSimpArgs false
set_option linter.unusedVariables false
noncomputable def S0 : Nat → List NV → Option NV := addS 31 [] (.bool true) <| noS
abbrev Strs (l : List (List Nat)) : List (List NV) := l.map fun s => [.str s]
/-- the place of an element, or -1 -/
def fndI {α : Type} [DecidableEq α] (l : List α) (x : α) : Int := match l.findIdx? (fun a => decide (x = a)) with | some i => (i : Int) | none => -1
theorem fndI_some {α : Type} [DecidableEq α] {l : List α} {x : α} {i : Nat} (hi : i < l.length) (h : x = l[i]) (hn : ∀ j (hj : j < i), x ≠ l[j]'(by omega)) : fndI l x = i := by
  unfold fndI
  rw [List.findIdx?_eq_some_iff_getElem.mpr ⟨hi, by simp [h], fun j hj => by simpa using hn j hj⟩]
theorem fndI_none {α : Type} [DecidableEq α] {l : List α} {x : α} (hn : ∀ j (hj : j < l.length), x ≠ l[j]) : fndI l x = -1 := by
  unfold fndI
  rw [List.findIdx?_eq_none_iff.mpr]
  intro y hy
  obtain ⟨j, hj, rfl⟩ := List.getElem_of_mem hy
  simpa using hn j hj
theorem fndI_lt {α : Type} [DecidableEq α] {l : List α} {x : α} : fndI l x < l.length ∧ -1 ≤ fndI l x := by
  unfold fndI
  cases hf : l.findIdx? (fun a => decide (x = a)) with
  | some i => obtain ⟨h, -⟩ := List.findIdx?_eq_some_iff_getElem.mp hf; dsimp only; omega
  | none => dsimp only; omega
theorem index_str {m : NH} {v : NV} {l : List (List Nat)} (hv : Sl m v 1 (Strs l)) (hsz : l.length ≤ 1099511627776) (x : List Nat) : Ret Try.prog S0 66 [v, (.str x)] m (ii (fndI l x)) m := by
  have h : ∃ r m', Ret Try.prog S0 66 [v, (.str x)] m r m' ∧ r = ii (fndI l x) ∧ m' = m := by
    refine WF.ex fun K hK => ?_
    refine WF.of_wpG (fun _ => rfl) nf66_eq (L := [(.a .e, (.str x)), (.e, v)]) rfl ?_
    unfold nf66
    have hlen := hv.len
    rw [List.length_map] at hlen
    simp (config := { maxSteps := 1000000 }) (disch := (first | assumption | omega | exact Nm.old_n (by omega) | exact Nm.old_hp (by assumption) | (simp only [List.length_set, List.length_cons, List.length_nil, List.length_append, List.length_map, List.length_replicate] <;> omega))) only [nmS0, nmS1, nmS2, nmS3, nmS4, nmS5, nmS6, nmS7, Nat.testBit, Nat.reduceShiftRight, Nat.reduceAnd, Nat.reduceBNe, cond_true, cond_false, NT.get_leaf, Nat.reduceSub, d_true, d_false, clsOf, beq_self_eq_true, Int.reduceToNat, Nat.reduceAdd, Nat.reduceMul, Nat.reduceEqDiff, decide_true, decide_false, if_true, if_false, ite_true, ite_false, reduceIte, reduceCtorEq, eq_self, true_and, and_true, true_implies, hlen]
    refine W.loop (fun k d => ∃ t i, d = ⟨t, [], none, hp [] 0 m⟩ ∧ NT.get D4.e t = some v ∧ NT.get D4.e.a t = some ((.str x)) ∧ NT.get D4.e.a.c t = some (ii l.length) ∧ NT.get D4.e.a.f t = some (ii (i : Nat)) ∧ i + k = l.length ∧ ∀ j (hj : j < i) (hl : j < l.length), x ≠ l[j]) ?_ l.length _ ⟨_, 0, rfl, by simp (config := { maxSteps := 1000000 }) (disch := (first | assumption | omega | exact Nm.old_n (by omega) | exact Nm.old_hp (by assumption) | (simp only [List.length_set, List.length_cons, List.length_nil, List.length_append, List.length_map, List.length_replicate] <;> omega))) only [nmS0, nmS1, nmS2, nmS3, nmS4, nmS5, nmS6, nmS7, Nat.testBit, Nat.reduceShiftRight, Nat.reduceAnd, Nat.reduceBNe, cond_true, cond_false, NT.get_leaf, Nat.reduceSub, d_true, d_false, clsOf, beq_self_eq_true, Int.reduceToNat, Nat.reduceAdd, Nat.reduceMul, Nat.reduceEqDiff, decide_true, decide_false, if_true, if_false, ite_true, ite_false, reduceIte, reduceCtorEq, eq_self, true_and, and_true, true_implies], by simp (config := { maxSteps := 1000000 }) (disch := (first | assumption | omega | exact Nm.old_n (by omega) | exact Nm.old_hp (by assumption) | (simp only [List.length_set, List.length_cons, List.length_nil, List.length_append, List.length_map, List.length_replicate] <;> omega))) only [nmS0, nmS1, nmS2, nmS3, nmS4, nmS5, nmS6, nmS7, Nat.testBit, Nat.reduceShiftRight, Nat.reduceAnd, Nat.reduceBNe, cond_true, cond_false, NT.get_leaf, Nat.reduceSub, d_true, d_false, clsOf, beq_self_eq_true, Int.reduceToNat, Nat.reduceAdd, Nat.reduceMul, Nat.reduceEqDiff, decide_true, decide_false, if_true, if_false, ite_true, ite_false, reduceIte, reduceCtorEq, eq_self, true_and, and_true, true_implies], by simp (config := { maxSteps := 1000000 }) (disch := (first | assumption | omega | exact Nm.old_n (by omega) | exact Nm.old_hp (by assumption) | (simp only [List.length_set, List.length_cons, List.length_nil, List.length_append, List.length_map, List.length_replicate] <;> omega))) only [nmS0, nmS1, nmS2, nmS3, nmS4, nmS5, nmS6, nmS7, Nat.testBit, Nat.reduceShiftRight, Nat.reduceAnd, Nat.reduceBNe, cond_true, cond_false, NT.get_leaf, Nat.reduceSub, d_true, d_false, clsOf, beq_self_eq_true, Int.reduceToNat, Nat.reduceAdd, Nat.reduceMul, Nat.reduceEqDiff, decide_true, decide_false, if_true, if_false, ite_true, ite_false, reduceIte, reduceCtorEq, eq_self, true_and, and_true, true_implies], by simp (config := { maxSteps := 1000000 }) (disch := (first | assumption | omega | exact Nm.old_n (by omega) | exact Nm.old_hp (by assumption) | (simp only [List.length_set, List.length_cons, List.length_nil, List.length_append, List.length_map, List.length_replicate] <;> omega))) only [nmS0, nmS1, nmS2, nmS3, nmS4, nmS5, nmS6, nmS7, Nat.testBit, Nat.reduceShiftRight, Nat.reduceAnd, Nat.reduceBNe, cond_true, cond_false, NT.get_leaf, Nat.reduceSub, d_true, d_false, clsOf, beq_self_eq_true, Int.reduceToNat, Nat.reduceAdd, Nat.reduceMul, Nat.reduceEqDiff, decide_true, decide_false, if_true, if_false, ite_true, ite_false, reduceIte, reduceCtorEq, eq_self, true_and, and_true, true_implies]; rfl, by omega, by simp⟩
    rintro k d ⟨t, i, rfl, g1, g2, g3, g4, hik, hn⟩
    apply wp_sound
    unfold nf66_l1
    change wp _ _ _ _ ⟨puts [] t, [], none, hp [] 0 m⟩ _
    by_cases hi : i < l.length
    · obtain ⟨id, off, w, c, a1, a2, a3, a4, a5⟩ := hv.at i (by simpa using hi)
      rw [List.getElem_map] at a5
      have c0 := cell_at a5 0 (by omega)
      rw [Nat.add_zero] at c0
      by_cases he : x = l[i]
      · have he' : decide (x = l[i]) = true := decide_eq_true he
        simp (config := { maxSteps := 1000000 }) (disch := (first | assumption | omega | exact Nm.old_n (by omega) | exact Nm.old_hp (by assumption) | (simp only [List.length_set, List.length_cons, List.length_nil, List.length_append, List.length_map, List.length_replicate] <;> omega))) only [nmS0, nmS1, nmS2, nmS3, nmS4, nmS5, nmS6, nmS7, Nat.testBit, Nat.reduceShiftRight, Nat.reduceAnd, Nat.reduceBNe, cond_true, cond_false, NT.get_leaf, Nat.reduceSub, d_true, d_false, clsOf, beq_self_eq_true, Int.reduceToNat, Nat.reduceAdd, Nat.reduceMul, Nat.reduceEqDiff, decide_true, decide_false, if_true, if_false, ite_true, ite_false, reduceIte, reduceCtorEq, eq_self, true_and, and_true, true_implies, g1, g2, g3, g4, a1, a2, c0, he']
        exact hK _ _ ⟨by rw [fndI_some hi he fun j hj => hn j hj (by omega)], hp_nil m⟩
      · have he' : decide (x = l[i]) = false := decide_eq_false he
        simp (config := { maxSteps := 1000000 }) (disch := (first | assumption | omega | exact Nm.old_n (by omega) | exact Nm.old_hp (by assumption) | (simp only [List.length_set, List.length_cons, List.length_nil, List.length_append, List.length_map, List.length_replicate] <;> omega))) only [nmS0, nmS1, nmS2, nmS3, nmS4, nmS5, nmS6, nmS7, Nat.testBit, Nat.reduceShiftRight, Nat.reduceAnd, Nat.reduceBNe, cond_true, cond_false, NT.get_leaf, Nat.reduceSub, d_true, d_false, clsOf, beq_self_eq_true, Int.reduceToNat, Nat.reduceAdd, Nat.reduceMul, Nat.reduceEqDiff, decide_true, decide_false, if_true, if_false, ite_true, ite_false, reduceIte, reduceCtorEq, eq_self, true_and, and_true, true_implies, g1, g2, g3, g4, a1, a2, c0, he']
        refine ⟨k - 1, by omega, _, i + 1, by rfl, ?_, ?_, ?_, ?_, by omega, ?_⟩
        · simp (config := { maxSteps := 1000000 }) (disch := (first | assumption | omega | exact Nm.old_n (by omega) | exact Nm.old_hp (by assumption) | (simp only [List.length_set, List.length_cons, List.length_nil, List.length_append, List.length_map, List.length_replicate] <;> omega))) only [nmS0, nmS1, nmS2, nmS3, nmS4, nmS5, nmS6, nmS7, Nat.testBit, Nat.reduceShiftRight, Nat.reduceAnd, Nat.reduceBNe, cond_true, cond_false, NT.get_leaf, Nat.reduceSub, d_true, d_false, clsOf, beq_self_eq_true, Int.reduceToNat, Nat.reduceAdd, Nat.reduceMul, Nat.reduceEqDiff, decide_true, decide_false, if_true, if_false, ite_true, ite_false, reduceIte, reduceCtorEq, eq_self, true_and, and_true, true_implies, g1]
        · simp (config := { maxSteps := 1000000 }) (disch := (first | assumption | omega | exact Nm.old_n (by omega) | exact Nm.old_hp (by assumption) | (simp only [List.length_set, List.length_cons, List.length_nil, List.length_append, List.length_map, List.length_replicate] <;> omega))) only [nmS0, nmS1, nmS2, nmS3, nmS4, nmS5, nmS6, nmS7, Nat.testBit, Nat.reduceShiftRight, Nat.reduceAnd, Nat.reduceBNe, cond_true, cond_false, NT.get_leaf, Nat.reduceSub, d_true, d_false, clsOf, beq_self_eq_true, Int.reduceToNat, Nat.reduceAdd, Nat.reduceMul, Nat.reduceEqDiff, decide_true, decide_false, if_true, if_false, ite_true, ite_false, reduceIte, reduceCtorEq, eq_self, true_and, and_true, true_implies, g2]
        · simp (config := { maxSteps := 1000000 }) (disch := (first | assumption | omega | exact Nm.old_n (by omega) | exact Nm.old_hp (by assumption) | (simp only [List.length_set, List.length_cons, List.length_nil, List.length_append, List.length_map, List.length_replicate] <;> omega))) only [nmS0, nmS1, nmS2, nmS3, nmS4, nmS5, nmS6, nmS7, Nat.testBit, Nat.reduceShiftRight, Nat.reduceAnd, Nat.reduceBNe, cond_true, cond_false, NT.get_leaf, Nat.reduceSub, d_true, d_false, clsOf, beq_self_eq_true, Int.reduceToNat, Nat.reduceAdd, Nat.reduceMul, Nat.reduceEqDiff, decide_true, decide_false, if_true, if_false, ite_true, ite_false, reduceIte, reduceCtorEq, eq_self, true_and, and_true, true_implies, g3]
        · simp (config := { maxSteps := 1000000 }) (disch := (first | assumption | omega | exact Nm.old_n (by omega) | exact Nm.old_hp (by assumption) | (simp only [List.length_set, List.length_cons, List.length_nil, List.length_append, List.length_map, List.length_replicate] <;> omega))) only [nmS0, nmS1, nmS2, nmS3, nmS4, nmS5, nmS6, nmS7, Nat.testBit, Nat.reduceShiftRight, Nat.reduceAnd, Nat.reduceBNe, cond_true, cond_false, NT.get_leaf, Nat.reduceSub, d_true, d_false, clsOf, beq_self_eq_true, Int.reduceToNat, Nat.reduceAdd, Nat.reduceMul, Nat.reduceEqDiff, decide_true, decide_false, if_true, if_false, ite_true, ite_false, reduceIte, reduceCtorEq, eq_self, true_and, and_true, true_implies]; rfl
        · intro j hj hl
          rcases Nat.lt_or_ge j i with h | h
          · exact hn j h hl
          · have : j = i := by omega
            subst this; exact he
    · simp (config := { maxSteps := 1000000 }) (disch := (first | assumption | omega | exact Nm.old_n (by omega) | exact Nm.old_hp (by assumption) | (simp only [List.length_set, List.length_cons, List.length_nil, List.length_append, List.length_map, List.length_replicate] <;> omega))) only [nmS0, nmS1, nmS2, nmS3, nmS4, nmS5, nmS6, nmS7, Nat.testBit, Nat.reduceShiftRight, Nat.reduceAnd, Nat.reduceBNe, cond_true, cond_false, NT.get_leaf, Nat.reduceSub, d_true, d_false, clsOf, beq_self_eq_true, Int.reduceToNat, Nat.reduceAdd, Nat.reduceMul, Nat.reduceEqDiff, decide_true, decide_false, if_true, if_false, ite_true, ite_false, reduceIte, reduceCtorEq, eq_self, true_and, and_true, true_implies, g1, g2, g3, g4]
      exact hK _ _ ⟨by rw [fndI_none fun j hj => hn j (by omega) hj], hp_nil m⟩
  obtain ⟨r, m', h1, rfl, rfl⟩ := h
  exact h1
end FR


open Go Nm Go.Proofs
namespace FR
set_option linter.unusedSimpArgs false
set_option linter.unusedVariables false
abbrev iu (z : Int) : NV := .int .u64 (.lit z)
/-- what an operator makes of two numbers -/
noncomputable def rkI (o : Nat) (a b : Int) : Int := if o = 43 then (a + b) % 18446744073709551616 else if o = 45 then (a - b) % 18446744073709551616 else if o = 42 then (a * b) % 18446744073709551616 else if o = 38 then ((a.toNat &&& b.toNat : Nat) : Int)
  else if o = 61 then (if a = b then 1 else 0) else if o = 60 then (if wrapI .i64 a < wrapI .i64 b then 1 else 0) else 0
def In64 (z : Int) : Prop := 0 ≤ z ∧ z < 18446744073709551616
theorem rkI_in {o : Nat} {a b : Int} (ha : In64 a) (hb : In64 b) : In64 (rkI o a b) := by
  unfold In64 at *
  unfold rkI
  split
  · omega
  · split
    · omega
    · split
      · omega
      · split
        · have := Nat.and_le_left (n := a.toNat) (m := b.toNat); omega
        · split
          · split <;> omega
          · split
            · split <;> omega
            · omega
def lkI (ns : List (List Nat)) (vs : List Int) (s : List Nat) : Int := if 0 ≤ fndI ns s then (vs[(fndI ns s).toNat]?).getD 0 else 0
noncomputable def rkL (o : Nat) : List Int → Int
  | a :: b :: _ => rkI o a b
  | _ => 0
mutual
/-- what an expression comes to -/
noncomputable def Ex.eval (ns : List (List Nat)) (vs : List Int) : Ex → Int
  | .mk k n o s ks => if k = 0 then (n : Int) else if k = 1 then lkI ns vs s else if k = 2 then rkL o (evalL ns vs ks) else 0
noncomputable def evalL (ns : List (List Nat)) (vs : List Int) : List Ex → List Int
  | [] => []
  | x :: xs => x.eval ns vs :: evalL ns vs xs
end
/-- numbers that a word holds, all through -/
inductive Wid : Ex → Prop
  | mk {k : Int} {n o : Nat} {s : List Nat} {ks : List Ex} (hn : n < 18446744073709551616) (hl : ks.length ≤ 9223372036854775807) (h : ∀ x ∈ ks, Wid x) : Wid (.mk k n o s ks)
theorem eval_in {ns : List (List Nat)} {vs : List Int} (hv : ∀ v ∈ vs, In64 v) : ∀ x : Ex, Wid x → In64 (x.eval ns vs) := by
  have h0 : In64 0 := ⟨by omega, by omega⟩
  apply Ex.ind
  intro k n o s ks ih hw
  cases hw with
  | mk hn hl hw =>
    rw [Ex.eval]
    split
    · exact ⟨by omega, by omega⟩
    · split
      · unfold lkI
        split
        · cases hq : vs[(fndI ns s).toNat]? with
          | none => exact h0
          | some v => exact hv v (List.mem_of_getElem? hq)
        · exact h0
      · split
        · match ks, ih, hw with
          | [], _, _ => simpa [evalL, rkL] using h0
          | [a], _, _ => simpa [evalL, rkL] using h0
          | a :: b :: r, ih, hw =>
            simp only [evalL, rkL]
            exact rkI_in (ih a (by simp) (hw a (by simp))) (ih b (by simp) (hw b (by simp)))
        · exact h0
theorem flag_p (m : NH) (q : Bool) : Ret Try.prog S0 117 [.bool q] m (iu (if q then 1 else 0)) m := by
  have h : ∃ r m', Ret Try.prog S0 117 [.bool q] m r m' ∧ r = iu (if q then 1 else 0) ∧ m' = m := by
    refine WF.ex fun K hK => ?_
    refine WF.of_wpG (fun _ => rfl) nf117_eq (L := [(.e, .bool q)]) rfl ?_
    unfold nf117
    cases q <;> simp (config := { maxSteps := 1000000 }) (disch := (first | assumption | omega | exact Nm.old_n (by omega) | exact Nm.old_hp (by assumption) | (simp only [List.length_set, List.length_cons, List.length_nil, List.length_append, List.length_map, List.length_replicate] <;> omega))) only [nmS0, nmS1, nmS2, nmS3, nmS4, nmS5, nmS6, nmS7, Nat.testBit, Nat.reduceShiftRight, Nat.reduceAnd, Nat.reduceBNe, cond_true, cond_false, NT.get_leaf, Nat.reduceSub, d_true, d_false, clsOf, beq_self_eq_true, Int.reduceToNat, Nat.reduceAdd, Nat.reduceMul, Nat.reduceEqDiff, decide_true, decide_false, if_true, if_false, ite_true, ite_false, reduceIte, reduceCtorEq, eq_self, true_and, and_true, true_implies, hp_nil] <;> exact hK _ _ ⟨rfl, rfl⟩
  obtain ⟨r, m', h1, rfl, rfl⟩ := h
  exact h1
theorem bit_r (m : NH) (q : Bool) : Ret Try.prog S0 118 [.bool q] m (iu (if q then 1 else 0)) m := by
  have h : ∃ r m', Ret Try.prog S0 118 [.bool q] m r m' ∧ r = iu (if q then 1 else 0) ∧ m' = m := by
    refine WF.ex fun K hK => ?_
    refine WF.of_wpG (fun _ => rfl) nf118_eq (L := [(.e, .bool q)]) rfl ?_
    unfold nf118
    cases q <;> simp (config := { maxSteps := 1000000 }) (disch := (first | assumption | omega | exact Nm.old_n (by omega) | exact Nm.old_hp (by assumption) | (simp only [List.length_set, List.length_cons, List.length_nil, List.length_append, List.length_map, List.length_replicate] <;> omega))) only [nmS0, nmS1, nmS2, nmS3, nmS4, nmS5, nmS6, nmS7, Nat.testBit, Nat.reduceShiftRight, Nat.reduceAnd, Nat.reduceBNe, cond_true, cond_false, NT.get_leaf, Nat.reduceSub, d_true, d_false, clsOf, beq_self_eq_true, Int.reduceToNat, Nat.reduceAdd, Nat.reduceMul, Nat.reduceEqDiff, decide_true, decide_false, if_true, if_false, ite_true, ite_false, reduceIte, reduceCtorEq, eq_self, true_and, and_true, true_implies, hp_nil] <;> exact hK _ _ ⟨rfl, rfl⟩
  obtain ⟨r, m', h1, rfl, rfl⟩ := h
  exact h1
theorem toi_i {k : IntKind} {n : Int} : toiV .i64 (.int k (.lit n)) = .val (.int .i64 (.lit (wrapI .i64 n))) := _root_.id rfl
theorem and_u {a b : Int} (ha : In64 a) (hb : In64 b) : binV .num .and (iu a) (iu b) = some (iu ((a.toNat &&& b.toNat : Nat) : Int)) := by
  obtain ⟨x, rfl⟩ := Int.eq_ofNat_of_zero_le ha.1
  obtain ⟨y, rfl⟩ := Int.eq_ofNat_of_zero_le hb.1
  exact b_andU (by have := ha.2; omega) (by have := hb.2; omega)
theorem reckon_p (m : NH) (o : Nat) {a b : Int} (ha : In64 a) (hb : In64 b) : Ret Try.prog S0 67 [u8 o, iu a, iu b] m (iu (rkI o a b)) m := by
  have h : ∃ r m', Ret Try.prog S0 67 [u8 o, iu a, iu b] m r m' ∧ r = iu (rkI o a b) ∧ m' = m := by
    refine WF.ex fun K hK => ?_
    refine WF.of_wpG (fun _ => rfl) nf67_eq (L := [(.b .e, iu b), (.a .e, iu a), (.e, u8 o)]) rfl ?_
    unfold nf67
    have hand := and_u ha hb
    have hf := flag_p m
    by_cases h1 : o = 43
    · subst h1; simp (config := { maxSteps := 1000000 }) (disch := (first | assumption | omega | exact Nm.old_n (by omega) | exact Nm.old_hp (by assumption) | (simp only [List.length_set, List.length_cons, List.length_nil, List.length_append, List.length_map, List.length_replicate] <;> omega))) only [nmS0, nmS1, nmS2, nmS3, nmS4, nmS5, nmS6, nmS7, Nat.testBit, Nat.reduceShiftRight, Nat.reduceAnd, Nat.reduceBNe, cond_true, cond_false, NT.get_leaf, Nat.reduceSub, d_true, d_false, clsOf, beq_self_eq_true, Int.reduceToNat, Nat.reduceAdd, Nat.reduceMul, Nat.reduceEqDiff, decide_true, decide_false, if_true, if_false, ite_true, ite_false, reduceIte, reduceCtorEq, eq_self, true_and, and_true, true_implies, hp_nil]; exact hK _ _ ⟨rfl, rfl⟩
    · by_cases h2 : o = 45
      · subst h2; simp (config := { maxSteps := 1000000 }) (disch := (first | assumption | omega | exact Nm.old_n (by omega) | exact Nm.old_hp (by assumption) | (simp only [List.length_set, List.length_cons, List.length_nil, List.length_append, List.length_map, List.length_replicate] <;> omega))) only [nmS0, nmS1, nmS2, nmS3, nmS4, nmS5, nmS6, nmS7, Nat.testBit, Nat.reduceShiftRight, Nat.reduceAnd, Nat.reduceBNe, cond_true, cond_false, NT.get_leaf, Nat.reduceSub, d_true, d_false, clsOf, beq_self_eq_true, Int.reduceToNat, Nat.reduceAdd, Nat.reduceMul, Nat.reduceEqDiff, decide_true, decide_false, if_true, if_false, ite_true, ite_false, reduceIte, reduceCtorEq, eq_self, true_and, and_true, true_implies, hp_nil]; exact hK _ _ ⟨rfl, rfl⟩
      · by_cases h3 : o = 42
        · subst h3; simp (config := { maxSteps := 1000000 }) (disch := (first | assumption | omega | exact Nm.old_n (by omega) | exact Nm.old_hp (by assumption) | (simp only [List.length_set, List.length_cons, List.length_nil, List.length_append, List.length_map, List.length_replicate] <;> omega))) only [nmS0, nmS1, nmS2, nmS3, nmS4, nmS5, nmS6, nmS7, Nat.testBit, Nat.reduceShiftRight, Nat.reduceAnd, Nat.reduceBNe, cond_true, cond_false, NT.get_leaf, Nat.reduceSub, d_true, d_false, clsOf, beq_self_eq_true, Int.reduceToNat, Nat.reduceAdd, Nat.reduceMul, Nat.reduceEqDiff, decide_true, decide_false, if_true, if_false, ite_true, ite_false, reduceIte, reduceCtorEq, eq_self, true_and, and_true, true_implies, hp_nil]; exact hK _ _ ⟨rfl, rfl⟩
        · by_cases h4 : o = 38
          · subst h4; simp (config := { maxSteps := 1000000 }) (disch := (first | assumption | omega | exact Nm.old_n (by omega) | exact Nm.old_hp (by assumption) | (simp only [List.length_set, List.length_cons, List.length_nil, List.length_append, List.length_map, List.length_replicate] <;> omega))) only [nmS0, nmS1, nmS2, nmS3, nmS4, nmS5, nmS6, nmS7, Nat.testBit, Nat.reduceShiftRight, Nat.reduceAnd, Nat.reduceBNe, cond_true, cond_false, NT.get_leaf, Nat.reduceSub, d_true, d_false, clsOf, beq_self_eq_true, Int.reduceToNat, Nat.reduceAdd, Nat.reduceMul, Nat.reduceEqDiff, decide_true, decide_false, if_true, if_false, ite_true, ite_false, reduceIte, reduceCtorEq, eq_self, true_and, and_true, true_implies, hp_nil, hand]; exact hK _ _ ⟨rfl, rfl⟩
          · by_cases h5 : o = 61
            · subst h5
              by_cases e : a = b
              · simp (config := { maxSteps := 1000000 }) (disch := (first | assumption | omega | exact Nm.old_n (by omega) | exact Nm.old_hp (by assumption) | (simp only [List.length_set, List.length_cons, List.length_nil, List.length_append, List.length_map, List.length_replicate] <;> omega))) only [nmS0, nmS1, nmS2, nmS3, nmS4, nmS5, nmS6, nmS7, Nat.testBit, Nat.reduceShiftRight, Nat.reduceAnd, Nat.reduceBNe, cond_true, cond_false, NT.get_leaf, Nat.reduceSub, d_true, d_false, clsOf, beq_self_eq_true, Int.reduceToNat, Nat.reduceAdd, Nat.reduceMul, Nat.reduceEqDiff, decide_true, decide_false, if_true, if_false, ite_true, ite_false, reduceIte, reduceCtorEq, eq_self, true_and, and_true, true_implies, hp_nil, (hf _).wf']; exact hK _ _ ⟨by simp [rkI, e], rfl⟩
              · simp (config := { maxSteps := 1000000 }) (disch := (first | assumption | omega | exact Nm.old_n (by omega) | exact Nm.old_hp (by assumption) | (simp only [List.length_set, List.length_cons, List.length_nil, List.length_append, List.length_map, List.length_replicate] <;> omega))) only [nmS0, nmS1, nmS2, nmS3, nmS4, nmS5, nmS6, nmS7, Nat.testBit, Nat.reduceShiftRight, Nat.reduceAnd, Nat.reduceBNe, cond_true, cond_false, NT.get_leaf, Nat.reduceSub, d_true, d_false, clsOf, beq_self_eq_true, Int.reduceToNat, Nat.reduceAdd, Nat.reduceMul, Nat.reduceEqDiff, decide_true, decide_false, if_true, if_false, ite_true, ite_false, reduceIte, reduceCtorEq, eq_self, true_and, and_true, true_implies, hp_nil, (hf _).wf']; exact hK _ _ ⟨by simp [rkI, e], rfl⟩
            · by_cases h6 : o = 60
              · subst h6
                by_cases e : wrapI .i64 a < wrapI .i64 b
                · simp (config := { maxSteps := 1000000 }) (disch := (first | assumption | omega | exact Nm.old_n (by omega) | exact Nm.old_hp (by assumption) | (simp only [List.length_set, List.length_cons, List.length_nil, List.length_append, List.length_map, List.length_replicate] <;> omega))) only [nmS0, nmS1, nmS2, nmS3, nmS4, nmS5, nmS6, nmS7, Nat.testBit, Nat.reduceShiftRight, Nat.reduceAnd, Nat.reduceBNe, cond_true, cond_false, NT.get_leaf, Nat.reduceSub, d_true, d_false, clsOf, beq_self_eq_true, Int.reduceToNat, Nat.reduceAdd, Nat.reduceMul, Nat.reduceEqDiff, decide_true, decide_false, if_true, if_false, ite_true, ite_false, reduceIte, reduceCtorEq, eq_self, true_and, and_true, true_implies, hp_nil, toi_i, (hf _).wf']; exact hK _ _ ⟨by simp [rkI, e], rfl⟩
                · simp (config := { maxSteps := 1000000 }) (disch := (first | assumption | omega | exact Nm.old_n (by omega) | exact Nm.old_hp (by assumption) | (simp only [List.length_set, List.length_cons, List.length_nil, List.length_append, List.length_map, List.length_replicate] <;> omega))) only [nmS0, nmS1, nmS2, nmS3, nmS4, nmS5, nmS6, nmS7, Nat.testBit, Nat.reduceShiftRight, Nat.reduceAnd, Nat.reduceBNe, cond_true, cond_false, NT.get_leaf, Nat.reduceSub, d_true, d_false, clsOf, beq_self_eq_true, Int.reduceToNat, Nat.reduceAdd, Nat.reduceMul, Nat.reduceEqDiff, decide_true, decide_false, if_true, if_false, ite_true, ite_false, reduceIte, reduceCtorEq, eq_self, true_and, and_true, true_implies, hp_nil, toi_i, (hf _).wf']; exact hK _ _ ⟨by simp [rkI, e], rfl⟩
              · simp (config := { maxSteps := 1000000 }) (disch := (first | assumption | omega | exact Nm.old_n (by omega) | exact Nm.old_hp (by assumption) | (simp only [List.length_set, List.length_cons, List.length_nil, List.length_append, List.length_map, List.length_replicate] <;> omega))) only [nmS0, nmS1, nmS2, nmS3, nmS4, nmS5, nmS6, nmS7, Nat.testBit, Nat.reduceShiftRight, Nat.reduceAnd, Nat.reduceBNe, cond_true, cond_false, NT.get_leaf, Nat.reduceSub, d_true, d_false, clsOf, beq_self_eq_true, Int.reduceToNat, Nat.reduceAdd, Nat.reduceMul, Nat.reduceEqDiff, decide_true, decide_false, if_true, if_false, ite_true, ite_false, reduceIte, reduceCtorEq, eq_self, true_and, and_true, true_implies, hp_nil]; exact hK _ _ ⟨by simp [rkI, h1, h2, h3, h4, h5, h6], rfl⟩
  obtain ⟨r, m', h1, rfl, rfl⟩ := h
  exact h1
theorem op_r (m : NH) (o : Nat) {a b : Int} (ha : In64 a) (hb : In64 b) : Ret Try.prog S0 68 [u8 o, iu a, iu b] m (iu (rkI o a b)) m := by
  have h : ∃ r m', Ret Try.prog S0 68 [u8 o, iu a, iu b] m r m' ∧ r = iu (rkI o a b) ∧ m' = m := by
    refine WF.ex fun K hK => ?_
    refine WF.of_wpG (fun _ => rfl) nf68_eq (L := [(.b .e, iu b), (.a .e, iu a), (.e, u8 o)]) rfl ?_
    unfold nf68
    have hand := and_u ha hb
    have hf := bit_r m
    by_cases h1 : o = 43
    · subst h1; simp (config := { maxSteps := 1000000 }) (disch := (first | assumption | omega | exact Nm.old_n (by omega) | exact Nm.old_hp (by assumption) | (simp only [List.length_set, List.length_cons, List.length_nil, List.length_append, List.length_map, List.length_replicate] <;> omega))) only [nmS0, nmS1, nmS2, nmS3, nmS4, nmS5, nmS6, nmS7, Nat.testBit, Nat.reduceShiftRight, Nat.reduceAnd, Nat.reduceBNe, cond_true, cond_false, NT.get_leaf, Nat.reduceSub, d_true, d_false, clsOf, beq_self_eq_true, Int.reduceToNat, Nat.reduceAdd, Nat.reduceMul, Nat.reduceEqDiff, decide_true, decide_false, if_true, if_false, ite_true, ite_false, reduceIte, reduceCtorEq, eq_self, true_and, and_true, true_implies, hp_nil]; exact hK _ _ ⟨rfl, rfl⟩
    · by_cases h2 : o = 45
      · subst h2; simp (config := { maxSteps := 1000000 }) (disch := (first | assumption | omega | exact Nm.old_n (by omega) | exact Nm.old_hp (by assumption) | (simp only [List.length_set, List.length_cons, List.length_nil, List.length_append, List.length_map, List.length_replicate] <;> omega))) only [nmS0, nmS1, nmS2, nmS3, nmS4, nmS5, nmS6, nmS7, Nat.testBit, Nat.reduceShiftRight, Nat.reduceAnd, Nat.reduceBNe, cond_true, cond_false, NT.get_leaf, Nat.reduceSub, d_true, d_false, clsOf, beq_self_eq_true, Int.reduceToNat, Nat.reduceAdd, Nat.reduceMul, Nat.reduceEqDiff, decide_true, decide_false, if_true, if_false, ite_true, ite_false, reduceIte, reduceCtorEq, eq_self, true_and, and_true, true_implies, hp_nil]; exact hK _ _ ⟨rfl, rfl⟩
      · by_cases h3 : o = 42
        · subst h3; simp (config := { maxSteps := 1000000 }) (disch := (first | assumption | omega | exact Nm.old_n (by omega) | exact Nm.old_hp (by assumption) | (simp only [List.length_set, List.length_cons, List.length_nil, List.length_append, List.length_map, List.length_replicate] <;> omega))) only [nmS0, nmS1, nmS2, nmS3, nmS4, nmS5, nmS6, nmS7, Nat.testBit, Nat.reduceShiftRight, Nat.reduceAnd, Nat.reduceBNe, cond_true, cond_false, NT.get_leaf, Nat.reduceSub, d_true, d_false, clsOf, beq_self_eq_true, Int.reduceToNat, Nat.reduceAdd, Nat.reduceMul, Nat.reduceEqDiff, decide_true, decide_false, if_true, if_false, ite_true, ite_false, reduceIte, reduceCtorEq, eq_self, true_and, and_true, true_implies, hp_nil]; exact hK _ _ ⟨rfl, rfl⟩
        · by_cases h4 : o = 38
          · subst h4; simp (config := { maxSteps := 1000000 }) (disch := (first | assumption | omega | exact Nm.old_n (by omega) | exact Nm.old_hp (by assumption) | (simp only [List.length_set, List.length_cons, List.length_nil, List.length_append, List.length_map, List.length_replicate] <;> omega))) only [nmS0, nmS1, nmS2, nmS3, nmS4, nmS5, nmS6, nmS7, Nat.testBit, Nat.reduceShiftRight, Nat.reduceAnd, Nat.reduceBNe, cond_true, cond_false, NT.get_leaf, Nat.reduceSub, d_true, d_false, clsOf, beq_self_eq_true, Int.reduceToNat, Nat.reduceAdd, Nat.reduceMul, Nat.reduceEqDiff, decide_true, decide_false, if_true, if_false, ite_true, ite_false, reduceIte, reduceCtorEq, eq_self, true_and, and_true, true_implies, hp_nil, hand]; exact hK _ _ ⟨rfl, rfl⟩
          · by_cases h5 : o = 61
            · subst h5
              by_cases e : a = b
              · simp (config := { maxSteps := 1000000 }) (disch := (first | assumption | omega | exact Nm.old_n (by omega) | exact Nm.old_hp (by assumption) | (simp only [List.length_set, List.length_cons, List.length_nil, List.length_append, List.length_map, List.length_replicate] <;> omega))) only [nmS0, nmS1, nmS2, nmS3, nmS4, nmS5, nmS6, nmS7, Nat.testBit, Nat.reduceShiftRight, Nat.reduceAnd, Nat.reduceBNe, cond_true, cond_false, NT.get_leaf, Nat.reduceSub, d_true, d_false, clsOf, beq_self_eq_true, Int.reduceToNat, Nat.reduceAdd, Nat.reduceMul, Nat.reduceEqDiff, decide_true, decide_false, if_true, if_false, ite_true, ite_false, reduceIte, reduceCtorEq, eq_self, true_and, and_true, true_implies, hp_nil, (hf _).wf']; exact hK _ _ ⟨by simp [rkI, e], rfl⟩
              · simp (config := { maxSteps := 1000000 }) (disch := (first | assumption | omega | exact Nm.old_n (by omega) | exact Nm.old_hp (by assumption) | (simp only [List.length_set, List.length_cons, List.length_nil, List.length_append, List.length_map, List.length_replicate] <;> omega))) only [nmS0, nmS1, nmS2, nmS3, nmS4, nmS5, nmS6, nmS7, Nat.testBit, Nat.reduceShiftRight, Nat.reduceAnd, Nat.reduceBNe, cond_true, cond_false, NT.get_leaf, Nat.reduceSub, d_true, d_false, clsOf, beq_self_eq_true, Int.reduceToNat, Nat.reduceAdd, Nat.reduceMul, Nat.reduceEqDiff, decide_true, decide_false, if_true, if_false, ite_true, ite_false, reduceIte, reduceCtorEq, eq_self, true_and, and_true, true_implies, hp_nil, (hf _).wf']; exact hK _ _ ⟨by simp [rkI, e], rfl⟩
            · by_cases h6 : o = 60
              · subst h6
                by_cases e : wrapI .i64 a < wrapI .i64 b
                · simp (config := { maxSteps := 1000000 }) (disch := (first | assumption | omega | exact Nm.old_n (by omega) | exact Nm.old_hp (by assumption) | (simp only [List.length_set, List.length_cons, List.length_nil, List.length_append, List.length_map, List.length_replicate] <;> omega))) only [nmS0, nmS1, nmS2, nmS3, nmS4, nmS5, nmS6, nmS7, Nat.testBit, Nat.reduceShiftRight, Nat.reduceAnd, Nat.reduceBNe, cond_true, cond_false, NT.get_leaf, Nat.reduceSub, d_true, d_false, clsOf, beq_self_eq_true, Int.reduceToNat, Nat.reduceAdd, Nat.reduceMul, Nat.reduceEqDiff, decide_true, decide_false, if_true, if_false, ite_true, ite_false, reduceIte, reduceCtorEq, eq_self, true_and, and_true, true_implies, hp_nil, toi_i, (hf _).wf']; exact hK _ _ ⟨by simp [rkI, e], rfl⟩
                · simp (config := { maxSteps := 1000000 }) (disch := (first | assumption | omega | exact Nm.old_n (by omega) | exact Nm.old_hp (by assumption) | (simp only [List.length_set, List.length_cons, List.length_nil, List.length_append, List.length_map, List.length_replicate] <;> omega))) only [nmS0, nmS1, nmS2, nmS3, nmS4, nmS5, nmS6, nmS7, Nat.testBit, Nat.reduceShiftRight, Nat.reduceAnd, Nat.reduceBNe, cond_true, cond_false, NT.get_leaf, Nat.reduceSub, d_true, d_false, clsOf, beq_self_eq_true, Int.reduceToNat, Nat.reduceAdd, Nat.reduceMul, Nat.reduceEqDiff, decide_true, decide_false, if_true, if_false, ite_true, ite_false, reduceIte, reduceCtorEq, eq_self, true_and, and_true, true_implies, hp_nil, toi_i, (hf _).wf']; exact hK _ _ ⟨by simp [rkI, e], rfl⟩
              · simp (config := { maxSteps := 1000000 }) (disch := (first | assumption | omega | exact Nm.old_n (by omega) | exact Nm.old_hp (by assumption) | (simp only [List.length_set, List.length_cons, List.length_nil, List.length_append, List.length_map, List.length_replicate] <;> omega))) only [nmS0, nmS1, nmS2, nmS3, nmS4, nmS5, nmS6, nmS7, Nat.testBit, Nat.reduceShiftRight, Nat.reduceAnd, Nat.reduceBNe, cond_true, cond_false, NT.get_leaf, Nat.reduceSub, d_true, d_false, clsOf, beq_self_eq_true, Int.reduceToNat, Nat.reduceAdd, Nat.reduceMul, Nat.reduceEqDiff, decide_true, decide_false, if_true, if_false, ite_true, ite_false, reduceIte, reduceCtorEq, eq_self, true_and, and_true, true_implies, hp_nil]; exact hK _ _ ⟨by simp [rkI, h1, h2, h3, h4, h5, h6], rfl⟩
  obtain ⟨r, m', h1, rfl, rfl⟩ := h
  exact h1
end FR


open Go Nm Go.Proofs
namespace FR
set_option linter.unusedSimpArgs false
set_option linter.unusedVariables false
abbrev U64s (l : List Int) : List (List NV) := l.map fun z => [iu z]
/-- the values that locals have -/
structure Env (m0 : NH) (vn vv : NV) (ns : List (List Nat)) (vs : List Int) : Prop where
  n : Sl m0 vn 1 (Strs ns)
  v : Sl m0 vv 1 (U64s vs)
  i : ∀ z ∈ vs, In64 z
  ln : ns.length ≤ 1000000
  lv : vs.length ≤ 1000000
theorem Env.grow {m0 m : NH} {vn vv : NV} {ns : List (List Nat)} {vs : List Int} (h : Env m0 vn vv ns vs) (hC : Chg [] m0 m) : Env m vn vv ns vs := ⟨h.n.chg hC fun _ _ => by simp, h.v.chg hC fun _ _ => by simp, h.i, h.ln, h.lv⟩
theorem lk_yes {ns : List (List Nat)} {vs : List Int} {s : List Nat} {i : Nat} (h : fndI ns s = i) (hi : i < vs.length) : lkI ns vs s = vs[i] := by
  unfold lkI
  rw [h, if_pos (by omega), Int.toNat_natCast, List.getElem?_eq_getElem hi]; rfl
theorem lk_no {ns : List (List Nat)} {vs : List Int} {s : List Nat} (h : fndI ns s < 0 ∨ (vs.length : Int) ≤ fndI ns s) : lkI ns vs s = 0 := by
  unfold lkI
  split
  · rw [List.getElem?_eq_none (by omega)]; rfl
  · rfl
def EvC (f : Nat) (ns : List (List Nat)) (vs : List Int) (x : Ex) : Prop := ∀ {m0 m : NH} {T : D4 → Prop} {c : List NV} {vn vv : NV}, RE m0 T x c → Stays T m0 m → Wid x → Env m vn vv ns vs → ∃ m', Ret Try.prog S0 f [.agg c, vn, vv] m (iu (x.eval ns vs)) m' ∧ Chg [] m m'
theorem Stays.grow {T : D4 → Prop} {a b c : NH} (h : Stays T a b) (hC : Chg [] b c) : Stays T a c := fun i hi ho => by
  obtain ⟨h1, h2⟩ := h i hi ho
  exact ⟨(hC.get h2 (by simp)).trans h1, hC.old h2⟩
theorem kid_mem {m0 M : NH} {T : D4 → Prop} {ks : List Ex} {vk : NV} {C : List (List NV)} (hS : SE m0 T vk ks C) (hst : Stays T m0 M) (i : Nat) (hi : i < ks.length) : ∃ u id off w c, RE m0 T ks[i] (ks[i].l u) ∧ idxV 5 vk (.int .i64 (.lit (i : Int))) = .val (.ptr id off) ∧ M.get id = some (.cells w c) ∧ Old M id ∧ off + 5 ≤ c.length ∧ (c.drop off).take 5 = ks[i].l u := by
  obtain ⟨cx, hcx, hRx⟩ := hS.at i hi
  have hc : i < C.length := by rw [hS.len]; exact hi
  obtain ⟨id, off, wr, c, a1, a2, a3, a4, a5⟩ := (hS.stays hst).sl.at i hc
  obtain ⟨u, Cx, rfl, -⟩ := hRx.inv'
  rw [List.getElem?_eq_getElem hc] at hcx
  injection hcx with hcx
  exact ⟨u, id, off, wr, c, hRx, a1, a2, a3, a4, a5.trans hcx⟩
theorem same_ex {m : NH} {T : D4 → Prop} {x : Ex} {u : NV} (h : RE m T x (x.l u)) : sameV 4 (.agg (x.l u)) (.agg (x.l u)) = true := by
  cases x
  obtain ⟨v, C, e, hS⟩ := h.inv
  refine same_agg ?_
  intro w hw
  rw [e] at hw
  simp only [List.mem_cons, List.not_mem_nil, or_false] at hw
  rcases hw with rfl | rfl | rfl | rfl | rfl
  · trivial
  · trivial
  · trivial
  · trivial
  · exact hS.sl.flat
theorem eval_p {ns : List (List Nat)} {vs : List Int} : ∀ x : Ex, EvC 33 ns vs x := by
  apply Ex.ind
  intro k n o s ks ih m0 m T c vn vv hR hst hw hen
  obtain ⟨vk, C, rfl, hS⟩ := hR.inv
  refine WF.ex1 fun K hK => ?_
  refine WF.of_wpG (fun _ => rfl) nf33_eq (L := [(.b .e, vv), (.a .e, vn), (.e, .agg [ii k, u64 n, u8 o, .str s, vk])]) rfl ?_
  unfold nf33
  generalize hM1 : hp [(.n 0, .cells true [ii k, u64 n, u8 o, .str s, vk])] 1 m = M1
  have hC1 : Chg [] m M1 := by rw [← hM1]; exact hp_of rfl
  have hg1 : M1.get (na m 0) = some (.cells true [ii k, u64 n, u8 o, .str s, vk]) := by rw [← hM1]; exact h_getN
  have hen1 := hen.grow hC1
  have hst1 := hst.grow hC1
  rw [Ex.eval] at hK
  by_cases h0 : k = 0
  · rw [if_pos h0] at hK
    simp (config := { maxSteps := 1000000 }) (disch := (first | assumption | omega | exact Nm.old_n (by omega) | exact Nm.old_hp (by assumption) | (simp only [List.length_set, List.length_cons, List.length_nil, List.length_append, List.length_map, List.length_replicate] <;> omega))) only [nmS0, nmS1, nmS2, nmS3, nmS4, nmS5, nmS6, nmS7, Nat.testBit, Nat.reduceShiftRight, Nat.reduceAnd, Nat.reduceBNe, cond_true, cond_false, NT.get_leaf, Nat.reduceSub, d_true, d_false, clsOf, beq_self_eq_true, Int.reduceToNat, Nat.reduceAdd, Nat.reduceMul, Nat.reduceEqDiff, decide_true, decide_false, if_true, if_false, ite_true, ite_false, reduceIte, reduceCtorEq, eq_self, true_and, and_true, true_implies, hM1, hg1]
    exact hK _ hC1
  · rw [if_neg h0] at hK
    by_cases h1 : k = 1
    · rw [if_pos h1] at hK
      have hix := index_str hen1.n (by have := hen.ln; omega) s
      have hlv := hen1.v.len
      rw [List.length_map] at hlv
      have hlt := fndI_lt (l := ns) (x := s)
      have hln := hen.ln
      by_cases hf : 0 ≤ fndI ns s
      · obtain ⟨i, hi⟩ := Int.eq_ofNat_of_zero_le hf
        rw [hi] at hix
        by_cases hl : i < vs.length
        · obtain ⟨id, off, w, c, a1, a2, a3, a4, a5⟩ := hen1.v.at i (by simpa using hl)
          rw [List.getElem_map] at a5
          have c0 : c[off]? = some (iu vs[i]) := cell_at a5 0 (by omega)
          rw [lk_yes hi hl] at hK
          simp (config := { maxSteps := 1000000 }) (disch := (first | assumption | omega | exact Nm.old_n (by omega) | exact Nm.old_hp (by assumption) | (simp only [List.length_set, List.length_cons, List.length_nil, List.length_append, List.length_map, List.length_replicate] <;> omega))) only [nmS0, nmS1, nmS2, nmS3, nmS4, nmS5, nmS6, nmS7, Nat.testBit, Nat.reduceShiftRight, Nat.reduceAnd, Nat.reduceBNe, cond_true, cond_false, NT.get_leaf, Nat.reduceSub, d_true, d_false, clsOf, beq_self_eq_true, Int.reduceToNat, Nat.reduceAdd, Nat.reduceMul, Nat.reduceEqDiff, decide_true, decide_false, if_true, if_false, ite_true, ite_false, reduceIte, reduceCtorEq, eq_self, true_and, and_true, true_implies, hM1, hg1, hix.wf', hlv, a1, a2, c0]
          exact hK _ hC1
        · rw [lk_no (Or.inr (by omega))] at hK
          simp (config := { maxSteps := 1000000 }) (disch := (first | assumption | omega | exact Nm.old_n (by omega) | exact Nm.old_hp (by assumption) | (simp only [List.length_set, List.length_cons, List.length_nil, List.length_append, List.length_map, List.length_replicate] <;> omega))) only [nmS0, nmS1, nmS2, nmS3, nmS4, nmS5, nmS6, nmS7, Nat.testBit, Nat.reduceShiftRight, Nat.reduceAnd, Nat.reduceBNe, cond_true, cond_false, NT.get_leaf, Nat.reduceSub, d_true, d_false, clsOf, beq_self_eq_true, Int.reduceToNat, Nat.reduceAdd, Nat.reduceMul, Nat.reduceEqDiff, decide_true, decide_false, if_true, if_false, ite_true, ite_false, reduceIte, reduceCtorEq, eq_self, true_and, and_true, true_implies, hM1, hg1, hix.wf', hlv]
          exact hK _ hC1
      · rw [lk_no (Or.inl (by omega))] at hK
        generalize fndI ns s = z at hix hf hlt
        simp (config := { maxSteps := 1000000 }) (disch := (first | assumption | omega | exact Nm.old_n (by omega) | exact Nm.old_hp (by assumption) | (simp only [List.length_set, List.length_cons, List.length_nil, List.length_append, List.length_map, List.length_replicate] <;> omega))) only [nmS0, nmS1, nmS2, nmS3, nmS4, nmS5, nmS6, nmS7, Nat.testBit, Nat.reduceShiftRight, Nat.reduceAnd, Nat.reduceBNe, cond_true, cond_false, NT.get_leaf, Nat.reduceSub, d_true, d_false, clsOf, beq_self_eq_true, Int.reduceToNat, Nat.reduceAdd, Nat.reduceMul, Nat.reduceEqDiff, decide_true, decide_false, if_true, if_false, ite_true, ite_false, reduceIte, reduceCtorEq, eq_self, true_and, and_true, true_implies, hM1, hg1, hix.wf', hlv]
        exact hK _ hC1
    · rw [if_neg h1] at hK
      have hlk := (hS.stays hst1).sl.len
      rw [hS.len] at hlk
      cases hw with
      | mk hn hl hwk =>
        by_cases h2 : k = 2
        · rw [if_pos h2] at hK
          by_cases h3 : 2 ≤ ks.length
          · obtain ⟨ua, ia, oa, wa, ca, hRa, a1, a2, a3, a4, a5⟩ := kid_mem hS hst1 0 (by omega)
            obtain ⟨ub, ib, ob, wb, cb, hRb, b1, b2, b3, b4, b5⟩ := kid_mem hS hst1 1 (by omega)
            have e2 : ks = ks[0] :: ks[1] :: ks.drop 2 := by
              rw [← List.drop_eq_getElem_cons (by omega), ← List.drop_eq_getElem_cons (by omega), List.drop_zero]
            have e1 : rkL o (evalL ns vs ks) = rkI o (ks[0].eval ns vs) (ks[1].eval ns vs) := by
              conv => lhs; rw [e2]
              simp only [evalL, rkL]
            rw [e1] at hK
            have ma : ks[0] ∈ ks := List.getElem_mem _
            have mb : ks[1] ∈ ks := List.getElem_mem _
            have a1' : idxV 5 vk (ii 0) = .val (.ptr ia oa) := a1
            have b1' : idxV 5 vk (ii 1) = .val (.ptr ib ob) := b1
            obtain ⟨M2, hr2, hC2⟩ := ih _ ma hRa hst1 (hwk _ ma) hen1
            have hst2 := hst1.grow hC2
            obtain ⟨M3, hr3, hC3⟩ := ih _ mb hRb hst2 (hwk _ mb) (hen1.grow hC2)
            have ho1 : Old M1 (na m 0) := by rw [← hM1]; exact old_n (by omega)
            have hg2 := (hC2.get ho1 (by simp)).trans hg1
            have hg3 := (hC3.get (hC2.old ho1) (by simp)).trans hg2
            have a22 := (hC2.get a3 (by simp)).trans a2
            have b22 := (hC2.get b3 (by simp)).trans b2
            have a23 := (hC3.get (hC2.old a3) (by simp)).trans a22
            have b23 := (hC3.get (hC2.old b3) (by simp)).trans b22
            have hrk := reckon_p M3 o (eval_in (ns := ns) hen.i _ (hwk _ ma)) (eval_in (ns := ns) hen.i _ (hwk _ mb))
            have hvk : sameV 4 vk vk = true := hS.sl.same
            have hsa := same_ex hRa
            have hsb := same_ex hRb
            simp (config := { maxSteps := 1000000 }) (disch := (first | assumption | omega | exact Nm.old_n (by omega) | exact Nm.old_hp (by assumption) | (simp only [List.length_set, List.length_cons, List.length_nil, List.length_append, List.length_map, List.length_replicate] <;> omega))) only [nmS0, nmS1, nmS2, nmS3, nmS4, nmS5, nmS6, nmS7, Nat.testBit, Nat.reduceShiftRight, Nat.reduceAnd, Nat.reduceBNe, cond_true, cond_false, NT.get_leaf, Nat.reduceSub, d_true, d_false, clsOf, beq_self_eq_true, Int.reduceToNat, Nat.reduceAdd, Nat.reduceMul, Nat.reduceEqDiff, decide_true, decide_false, if_true, if_false, ite_true, ite_false, reduceIte, reduceCtorEq, eq_self, true_and, and_true, true_implies, hM1, hg1, hlk, a1', a2, a5, b1', b2, b5, hr2.wf', hg2, a22, b22, hr3.wf', hg3, a23, b23, hrk.wf', hvk, hsa, hsb]
            exact hK _ ((hC1.trans hC2 (by simp)).trans hC3 (by simp))
          · have e1 : rkL o (evalL ns vs ks) = 0 := by
              match ks, h3 with
              | [], _ => rfl
              | [a], _ => rfl
              | a :: b :: r, h3 => simp at h3
            rw [e1] at hK
            simp (config := { maxSteps := 1000000 }) (disch := (first | assumption | omega | exact Nm.old_n (by omega) | exact Nm.old_hp (by assumption) | (simp only [List.length_set, List.length_cons, List.length_nil, List.length_append, List.length_map, List.length_replicate] <;> omega))) only [nmS0, nmS1, nmS2, nmS3, nmS4, nmS5, nmS6, nmS7, Nat.testBit, Nat.reduceShiftRight, Nat.reduceAnd, Nat.reduceBNe, cond_true, cond_false, NT.get_leaf, Nat.reduceSub, d_true, d_false, clsOf, beq_self_eq_true, Int.reduceToNat, Nat.reduceAdd, Nat.reduceMul, Nat.reduceEqDiff, decide_true, decide_false, if_true, if_false, ite_true, ite_false, reduceIte, reduceCtorEq, eq_self, true_and, and_true, true_implies, hM1, hg1, hlk]
            exact hK _ hC1
        · rw [if_neg h2] at hK
          simp (config := { maxSteps := 1000000 }) (disch := (first | assumption | omega | exact Nm.old_n (by omega) | exact Nm.old_hp (by assumption) | (simp only [List.length_set, List.length_cons, List.length_nil, List.length_append, List.length_map, List.length_replicate] <;> omega))) only [nmS0, nmS1, nmS2, nmS3, nmS4, nmS5, nmS6, nmS7, Nat.testBit, Nat.reduceShiftRight, Nat.reduceAnd, Nat.reduceBNe, cond_true, cond_false, NT.get_leaf, Nat.reduceSub, d_true, d_false, clsOf, beq_self_eq_true, Int.reduceToNat, Nat.reduceAdd, Nat.reduceMul, Nat.reduceEqDiff, decide_true, decide_false, if_true, if_false, ite_true, ite_false, reduceIte, reduceCtorEq, eq_self, true_and, and_true, true_implies, hM1, hg1]
          exact hK _ hC1
theorem ref_lk {ns : List (List Nat)} {vs : List Int} {vn vv vk : NV} {k : Int} {n o : Nat} {s : List Nat} {M : NH} {b : D4} (hen : Env M vn vv ns vs) (hg : M.get b = some (.cells true [ii k, u64 n, u8 o, .str s, vk])) (ho : Old M b) {t : Tm} (g1 : NT.get D4.e.a t = some vn) (g2 : NT.get D4.e.b t = some vv) (g3 : NT.get D4.e.c t = some (.ptr b 0)) (g4 : NT.get D4.e.a.c t = some (ii 0)) {Q : Out → Dyn → Prop}
    (hY : ∀ t' z, lkI ns vs s = z → NT.get D4.e.a.b t' = some (iu z) → Q .ret ⟨puts [] t', [], none, M⟩) (hN : ∀ t', lkI ns vs s = 0 → Q (.exit 1) ⟨puts [] t', [], none, M⟩) :
    W Try.prog S0 none nf34_l1.loop ⟨t, [], none, M⟩ Q := by
  have hlv := hen.v.len
  have hln := hen.n.len
  rw [List.length_map] at hlv hln
  have hbn := hen.ln
  refine W.loop (fun k d => ∃ t i, d = ⟨t, [], none, M⟩ ∧ NT.get D4.e.a t = some vn ∧ NT.get D4.e.b t = some vv ∧ NT.get D4.e.c t = some (.ptr b 0) ∧ NT.get D4.e.a.c t = some (ii (i : Nat)) ∧ i + k = ns.length ∧ ∀ j (hj : j < i) (hl : j < ns.length), s ≠ ns[j]) ?_ ns.length _ ⟨t, 0, rfl, g1, g2, g3, g4, by omega, by simp⟩
  clear g1 g2 g3 g4
  rintro kk d ⟨t, i, rfl, g1, g2, g3, g4, hik, hn⟩
  apply wp_sound
  unfold nf34_l1
  change wp _ _ _ _ ⟨puts [] t, [], none, M⟩ _
  by_cases hi : i < ns.length
  · by_cases hl : i < vs.length
    · obtain ⟨id, off, w, c, a1, a2, a3, a4, a5⟩ := hen.n.at i (by simpa using hi)
      rw [List.getElem_map] at a5
      have c0 : c[off]? = some (.str ns[i]) := cell_at a5 0 (by omega)
      obtain ⟨id2, off2, w2, c2, b1, b2, b3, b4, b5⟩ := hen.v.at i (by simpa using hl)
      rw [List.getElem_map] at b5
      have d0 : c2[off2]? = some (iu vs[i]) := cell_at b5 0 (by omega)
      by_cases he : s = ns[i]
      · have he' : decide (ns[i] = s) = true := decide_eq_true he.symm
        simp (config := { maxSteps := 1000000 }) (disch := (first | assumption | omega | exact Nm.old_n (by omega) | exact Nm.old_hp (by assumption) | (simp only [List.length_set, List.length_cons, List.length_nil, List.length_append, List.length_map, List.length_replicate] <;> omega))) only [nmS0, nmS1, nmS2, nmS3, nmS4, nmS5, nmS6, nmS7, Nat.testBit, Nat.reduceShiftRight, Nat.reduceAnd, Nat.reduceBNe, cond_true, cond_false, NT.get_leaf, Nat.reduceSub, d_true, d_false, clsOf, beq_self_eq_true, Int.reduceToNat, Nat.reduceAdd, Nat.reduceMul, Nat.reduceEqDiff, decide_true, decide_false, if_true, if_false, ite_true, ite_false, reduceIte, reduceCtorEq, eq_self, true_and, and_true, true_implies, g1, g2, g3, g4, hln, hlv, a1, a2, c0, hg, he', b1, b2, d0]
        exact hY _ _ (lk_yes (fndI_some hi he fun j hj => hn j hj (by omega)) hl) (by simp (config := { maxSteps := 1000000 }) (disch := (first | assumption | omega | exact Nm.old_n (by omega) | exact Nm.old_hp (by assumption) | (simp only [List.length_set, List.length_cons, List.length_nil, List.length_append, List.length_map, List.length_replicate] <;> omega))) only [nmS0, nmS1, nmS2, nmS3, nmS4, nmS5, nmS6, nmS7, Nat.testBit, Nat.reduceShiftRight, Nat.reduceAnd, Nat.reduceBNe, cond_true, cond_false, NT.get_leaf, Nat.reduceSub, d_true, d_false, clsOf, beq_self_eq_true, Int.reduceToNat, Nat.reduceAdd, Nat.reduceMul, Nat.reduceEqDiff, decide_true, decide_false, if_true, if_false, ite_true, ite_false, reduceIte, reduceCtorEq, eq_self, true_and, and_true, true_implies])
      · have he' : decide (ns[i] = s) = false := decide_eq_false fun e => he e.symm
        simp (config := { maxSteps := 1000000 }) (disch := (first | assumption | omega | exact Nm.old_n (by omega) | exact Nm.old_hp (by assumption) | (simp only [List.length_set, List.length_cons, List.length_nil, List.length_append, List.length_map, List.length_replicate] <;> omega))) only [nmS0, nmS1, nmS2, nmS3, nmS4, nmS5, nmS6, nmS7, Nat.testBit, Nat.reduceShiftRight, Nat.reduceAnd, Nat.reduceBNe, cond_true, cond_false, NT.get_leaf, Nat.reduceSub, d_true, d_false, clsOf, beq_self_eq_true, Int.reduceToNat, Nat.reduceAdd, Nat.reduceMul, Nat.reduceEqDiff, decide_true, decide_false, if_true, if_false, ite_true, ite_false, reduceIte, reduceCtorEq, eq_self, true_and, and_true, true_implies, g1, g2, g3, g4, hln, hlv, a1, a2, c0, hg, he']
        refine ⟨kk - 1, by omega, _, i + 1, by rfl, by simp (config := { maxSteps := 1000000 }) (disch := (first | assumption | omega | exact Nm.old_n (by omega) | exact Nm.old_hp (by assumption) | (simp only [List.length_set, List.length_cons, List.length_nil, List.length_append, List.length_map, List.length_replicate] <;> omega))) only [nmS0, nmS1, nmS2, nmS3, nmS4, nmS5, nmS6, nmS7, Nat.testBit, Nat.reduceShiftRight, Nat.reduceAnd, Nat.reduceBNe, cond_true, cond_false, NT.get_leaf, Nat.reduceSub, d_true, d_false, clsOf, beq_self_eq_true, Int.reduceToNat, Nat.reduceAdd, Nat.reduceMul, Nat.reduceEqDiff, decide_true, decide_false, if_true, if_false, ite_true, ite_false, reduceIte, reduceCtorEq, eq_self, true_and, and_true, true_implies, g1], by simp (config := { maxSteps := 1000000 }) (disch := (first | assumption | omega | exact Nm.old_n (by omega) | exact Nm.old_hp (by assumption) | (simp only [List.length_set, List.length_cons, List.length_nil, List.length_append, List.length_map, List.length_replicate] <;> omega))) only [nmS0, nmS1, nmS2, nmS3, nmS4, nmS5, nmS6, nmS7, Nat.testBit, Nat.reduceShiftRight, Nat.reduceAnd, Nat.reduceBNe, cond_true, cond_false, NT.get_leaf, Nat.reduceSub, d_true, d_false, clsOf, beq_self_eq_true, Int.reduceToNat, Nat.reduceAdd, Nat.reduceMul, Nat.reduceEqDiff, decide_true, decide_false, if_true, if_false, ite_true, ite_false, reduceIte, reduceCtorEq, eq_self, true_and, and_true, true_implies, g2], by simp (config := { maxSteps := 1000000 }) (disch := (first | assumption | omega | exact Nm.old_n (by omega) | exact Nm.old_hp (by assumption) | (simp only [List.length_set, List.length_cons, List.length_nil, List.length_append, List.length_map, List.length_replicate] <;> omega))) only [nmS0, nmS1, nmS2, nmS3, nmS4, nmS5, nmS6, nmS7, Nat.testBit, Nat.reduceShiftRight, Nat.reduceAnd, Nat.reduceBNe, cond_true, cond_false, NT.get_leaf, Nat.reduceSub, d_true, d_false, clsOf, beq_self_eq_true, Int.reduceToNat, Nat.reduceAdd, Nat.reduceMul, Nat.reduceEqDiff, decide_true, decide_false, if_true, if_false, ite_true, ite_false, reduceIte, reduceCtorEq, eq_self, true_and, and_true, true_implies, g3], by simp (config := { maxSteps := 1000000 }) (disch := (first | assumption | omega | exact Nm.old_n (by omega) | exact Nm.old_hp (by assumption) | (simp only [List.length_set, List.length_cons, List.length_nil, List.length_append, List.length_map, List.length_replicate] <;> omega))) only [nmS0, nmS1, nmS2, nmS3, nmS4, nmS5, nmS6, nmS7, Nat.testBit, Nat.reduceShiftRight, Nat.reduceAnd, Nat.reduceBNe, cond_true, cond_false, NT.get_leaf, Nat.reduceSub, d_true, d_false, clsOf, beq_self_eq_true, Int.reduceToNat, Nat.reduceAdd, Nat.reduceMul, Nat.reduceEqDiff, decide_true, decide_false, if_true, if_false, ite_true, ite_false, reduceIte, reduceCtorEq, eq_self, true_and, and_true, true_implies]; rfl, by omega, ?_⟩
        intro j hj hl2
        rcases Nat.lt_or_ge j i with h | h
        · exact hn j h hl2
        · have : j = i := by omega
          subst this; exact he
    · simp (config := { maxSteps := 1000000 }) (disch := (first | assumption | omega | exact Nm.old_n (by omega) | exact Nm.old_hp (by assumption) | (simp only [List.length_set, List.length_cons, List.length_nil, List.length_append, List.length_map, List.length_replicate] <;> omega))) only [nmS0, nmS1, nmS2, nmS3, nmS4, nmS5, nmS6, nmS7, Nat.testBit, Nat.reduceShiftRight, Nat.reduceAnd, Nat.reduceBNe, cond_true, cond_false, NT.get_leaf, Nat.reduceSub, d_true, d_false, clsOf, beq_self_eq_true, Int.reduceToNat, Nat.reduceAdd, Nat.reduceMul, Nat.reduceEqDiff, decide_true, decide_false, if_true, if_false, ite_true, ite_false, reduceIte, reduceCtorEq, eq_self, true_and, and_true, true_implies, g1, g2, g3, g4, hln, hlv]
      refine hN _ (lk_no ?_)
      by_cases hf : 0 ≤ fndI ns s
      · right
        obtain ⟨j, hj⟩ := Int.eq_ofNat_of_zero_le hf
        have hlt := (fndI_lt (l := ns) (x := s)).1
        rcases Nat.lt_or_ge j i with h | h
        · exfalso
          have hjl : j < ns.length := by omega
          unfold fndI at hj
          cases hq : ns.findIdx? (fun a => decide (s = a)) with
          | none => rw [hq] at hj; dsimp only at hj; omega
          | some q =>
            rw [hq] at hj
            obtain ⟨h1, h2, -⟩ := List.findIdx?_eq_some_iff_getElem.mp hq
            have : q = j := by dsimp only at hj; omega
            subst this
            exact hn q h hjl (by simpa using h2)
        · omega
      · exact Or.inl (by omega)
  · simp (config := { maxSteps := 1000000 }) (disch := (first | assumption | omega | exact Nm.old_n (by omega) | exact Nm.old_hp (by assumption) | (simp only [List.length_set, List.length_cons, List.length_nil, List.length_append, List.length_map, List.length_replicate] <;> omega))) only [nmS0, nmS1, nmS2, nmS3, nmS4, nmS5, nmS6, nmS7, Nat.testBit, Nat.reduceShiftRight, Nat.reduceAnd, Nat.reduceBNe, cond_true, cond_false, NT.get_leaf, Nat.reduceSub, d_true, d_false, clsOf, beq_self_eq_true, Int.reduceToNat, Nat.reduceAdd, Nat.reduceMul, Nat.reduceEqDiff, decide_true, decide_false, if_true, if_false, ite_true, ite_false, reduceIte, reduceCtorEq, eq_self, true_and, and_true, true_implies, g1, g2, g3, g4, hln, hlv]
    refine hN _ (lk_no (Or.inl ?_))
    rw [fndI_none fun j hj => hn j (by omega) hj]; omega
theorem eval_r {ns : List (List Nat)} {vs : List Int} : ∀ x : Ex, EvC 34 ns vs x := by
  apply Ex.ind
  intro k n o s ks ih m0 m T c vn vv hR hst hw hen
  obtain ⟨vk, C, rfl, hS⟩ := hR.inv
  refine WF.ex1 fun K hK => ?_
  refine WF.of_wpG (fun _ => rfl) nf34_eq (L := [(.b .e, vv), (.a .e, vn), (.e, .agg [ii k, u64 n, u8 o, .str s, vk])]) rfl ?_
  unfold nf34
  generalize hM1 : hp [(.n 0, .cells true [ii k, u64 n, u8 o, .str s, vk])] 1 m = M1
  have hC1 : Chg [] m M1 := by rw [← hM1]; exact hp_of rfl
  have hg1 : M1.get (na m 0) = some (.cells true [ii k, u64 n, u8 o, .str s, vk]) := by rw [← hM1]; exact h_getN
  have hen1 := hen.grow hC1
  have hst1 := hst.grow hC1
  rw [Ex.eval] at hK
  by_cases h0 : k = 0
  · rw [if_pos h0] at hK
    simp (config := { maxSteps := 1000000 }) (disch := (first | assumption | omega | exact Nm.old_n (by omega) | exact Nm.old_hp (by assumption) | (simp only [List.length_set, List.length_cons, List.length_nil, List.length_append, List.length_map, List.length_replicate] <;> omega))) only [nmS0, nmS1, nmS2, nmS3, nmS4, nmS5, nmS6, nmS7, Nat.testBit, Nat.reduceShiftRight, Nat.reduceAnd, Nat.reduceBNe, cond_true, cond_false, NT.get_leaf, Nat.reduceSub, d_true, d_false, clsOf, beq_self_eq_true, Int.reduceToNat, Nat.reduceAdd, Nat.reduceMul, Nat.reduceEqDiff, decide_true, decide_false, if_true, if_false, ite_true, ite_false, reduceIte, reduceCtorEq, eq_self, true_and, and_true, true_implies, hM1, hg1]
    exact hK _ hC1
  · rw [if_neg h0] at hK
    by_cases h1 : k = 1
    · rw [if_pos h1] at hK
      have hlv := hen1.v.len
      have hln := hen1.n.len
      rw [List.length_map] at hlv hln
      have hbn := hen.ln
      simp (config := { maxSteps := 1000000 }) (disch := (first | assumption | omega | exact Nm.old_n (by omega) | exact Nm.old_hp (by assumption) | (simp only [List.length_set, List.length_cons, List.length_nil, List.length_append, List.length_map, List.length_replicate] <;> omega))) only [nmS0, nmS1, nmS2, nmS3, nmS4, nmS5, nmS6, nmS7, Nat.testBit, Nat.reduceShiftRight, Nat.reduceAnd, Nat.reduceBNe, cond_true, cond_false, NT.get_leaf, Nat.reduceSub, d_true, d_false, clsOf, beq_self_eq_true, Int.reduceToNat, Nat.reduceAdd, Nat.reduceMul, Nat.reduceEqDiff, decide_true, decide_false, if_true, if_false, ite_true, ite_false, reduceIte, reduceCtorEq, eq_self, true_and, and_true, true_implies, hM1, hg1]
      have ho1 : Old M1 (na m 0) := by rw [← hM1]; exact old_n (by omega)
      refine ref_lk hen1 hg1 ho1 (by simp (config := { maxSteps := 1000000 }) (disch := (first | assumption | omega | exact Nm.old_n (by omega) | exact Nm.old_hp (by assumption) | (simp only [List.length_set, List.length_cons, List.length_nil, List.length_append, List.length_map, List.length_replicate] <;> omega))) only [nmS0, nmS1, nmS2, nmS3, nmS4, nmS5, nmS6, nmS7, Nat.testBit, Nat.reduceShiftRight, Nat.reduceAnd, Nat.reduceBNe, cond_true, cond_false, NT.get_leaf, Nat.reduceSub, d_true, d_false, clsOf, beq_self_eq_true, Int.reduceToNat, Nat.reduceAdd, Nat.reduceMul, Nat.reduceEqDiff, decide_true, decide_false, if_true, if_false, ite_true, ite_false, reduceIte, reduceCtorEq, eq_self, true_and, and_true, true_implies]) (by simp (config := { maxSteps := 1000000 }) (disch := (first | assumption | omega | exact Nm.old_n (by omega) | exact Nm.old_hp (by assumption) | (simp only [List.length_set, List.length_cons, List.length_nil, List.length_append, List.length_map, List.length_replicate] <;> omega))) only [nmS0, nmS1, nmS2, nmS3, nmS4, nmS5, nmS6, nmS7, Nat.testBit, Nat.reduceShiftRight, Nat.reduceAnd, Nat.reduceBNe, cond_true, cond_false, NT.get_leaf, Nat.reduceSub, d_true, d_false, clsOf, beq_self_eq_true, Int.reduceToNat, Nat.reduceAdd, Nat.reduceMul, Nat.reduceEqDiff, decide_true, decide_false, if_true, if_false, ite_true, ite_false, reduceIte, reduceCtorEq, eq_self, true_and, and_true, true_implies]) (by simp (config := { maxSteps := 1000000 }) (disch := (first | assumption | omega | exact Nm.old_n (by omega) | exact Nm.old_hp (by assumption) | (simp only [List.length_set, List.length_cons, List.length_nil, List.length_append, List.length_map, List.length_replicate] <;> omega))) only [nmS0, nmS1, nmS2, nmS3, nmS4, nmS5, nmS6, nmS7, Nat.testBit, Nat.reduceShiftRight, Nat.reduceAnd, Nat.reduceBNe, cond_true, cond_false, NT.get_leaf, Nat.reduceSub, d_true, d_false, clsOf, beq_self_eq_true, Int.reduceToNat, Nat.reduceAdd, Nat.reduceMul, Nat.reduceEqDiff, decide_true, decide_false, if_true, if_false, ite_true, ite_false, reduceIte, reduceCtorEq, eq_self, true_and, and_true, true_implies]) (by simp (config := { maxSteps := 1000000 }) (disch := (first | assumption | omega | exact Nm.old_n (by omega) | exact Nm.old_hp (by assumption) | (simp only [List.length_set, List.length_cons, List.length_nil, List.length_append, List.length_map, List.length_replicate] <;> omega))) only [nmS0, nmS1, nmS2, nmS3, nmS4, nmS5, nmS6, nmS7, Nat.testBit, Nat.reduceShiftRight, Nat.reduceAnd, Nat.reduceBNe, cond_true, cond_false, NT.get_leaf, Nat.reduceSub, d_true, d_false, clsOf, beq_self_eq_true, Int.reduceToNat, Nat.reduceAdd, Nat.reduceMul, Nat.reduceEqDiff, decide_true, decide_false, if_true, if_false, ite_true, ite_false, reduceIte, reduceCtorEq, eq_self, true_and, and_true, true_implies]) ?_ ?_
      · intro t' z hz g1
        rw [hz] at hK
        simp (config := { maxSteps := 1000000 }) (disch := (first | assumption | omega | exact Nm.old_n (by omega) | exact Nm.old_hp (by assumption) | (simp only [List.length_set, List.length_cons, List.length_nil, List.length_append, List.length_map, List.length_replicate] <;> omega))) only [nmS0, nmS1, nmS2, nmS3, nmS4, nmS5, nmS6, nmS7, Nat.testBit, Nat.reduceShiftRight, Nat.reduceAnd, Nat.reduceBNe, cond_true, cond_false, NT.get_leaf, Nat.reduceSub, d_true, d_false, clsOf, beq_self_eq_true, Int.reduceToNat, Nat.reduceAdd, Nat.reduceMul, Nat.reduceEqDiff, decide_true, decide_false, if_true, if_false, ite_true, ite_false, reduceIte, reduceCtorEq, eq_self, true_and, and_true, true_implies, g1]
        exact hK _ hC1
      · intro t' hz
        rw [hz] at hK
        simp (config := { maxSteps := 1000000 }) (disch := (first | assumption | omega | exact Nm.old_n (by omega) | exact Nm.old_hp (by assumption) | (simp only [List.length_set, List.length_cons, List.length_nil, List.length_append, List.length_map, List.length_replicate] <;> omega))) only [nmS0, nmS1, nmS2, nmS3, nmS4, nmS5, nmS6, nmS7, Nat.testBit, Nat.reduceShiftRight, Nat.reduceAnd, Nat.reduceBNe, cond_true, cond_false, NT.get_leaf, Nat.reduceSub, d_true, d_false, clsOf, beq_self_eq_true, Int.reduceToNat, Nat.reduceAdd, Nat.reduceMul, Nat.reduceEqDiff, decide_true, decide_false, if_true, if_false, ite_true, ite_false, reduceIte, reduceCtorEq, eq_self, true_and, and_true, true_implies]
        exact hK _ hC1
    · rw [if_neg h1] at hK
      have hlk := (hS.stays hst1).sl.len
      rw [hS.len] at hlk
      cases hw with
      | mk hn hl hwk =>
        by_cases h2 : k = 2
        · rw [if_pos h2] at hK
          by_cases h3 : 2 ≤ ks.length
          · obtain ⟨ua, ia, oa, wa, ca, hRa, a1, a2, a3, a4, a5⟩ := kid_mem hS hst1 0 (by omega)
            obtain ⟨ub, ib, ob, wb, cb, hRb, b1, b2, b3, b4, b5⟩ := kid_mem hS hst1 1 (by omega)
            have e2 : ks = ks[0] :: ks[1] :: ks.drop 2 := by
              rw [← List.drop_eq_getElem_cons (by omega), ← List.drop_eq_getElem_cons (by omega), List.drop_zero]
            have e1 : rkL o (evalL ns vs ks) = rkI o (ks[0].eval ns vs) (ks[1].eval ns vs) := by
              conv => lhs; rw [e2]
              simp only [evalL, rkL]
            rw [e1] at hK
            have ma : ks[0] ∈ ks := List.getElem_mem _
            have mb : ks[1] ∈ ks := List.getElem_mem _
            have a1' : idxV 5 vk (ii 0) = .val (.ptr ia oa) := a1
            have b1' : idxV 5 vk (ii 1) = .val (.ptr ib ob) := b1
            obtain ⟨M2, hr2, hC2⟩ := ih _ ma hRa hst1 (hwk _ ma) hen1
            have hst2 := hst1.grow hC2
            obtain ⟨M3, hr3, hC3⟩ := ih _ mb hRb hst2 (hwk _ mb) (hen1.grow hC2)
            have ho1 : Old M1 (na m 0) := by rw [← hM1]; exact old_n (by omega)
            have hg2 := (hC2.get ho1 (by simp)).trans hg1
            have hg3 := (hC3.get (hC2.old ho1) (by simp)).trans hg2
            have a22 := (hC2.get a3 (by simp)).trans a2
            have b22 := (hC2.get b3 (by simp)).trans b2
            have a23 := (hC3.get (hC2.old a3) (by simp)).trans a22
            have b23 := (hC3.get (hC2.old b3) (by simp)).trans b22
            have hrk := op_r M3 o (eval_in (ns := ns) hen.i _ (hwk _ ma)) (eval_in (ns := ns) hen.i _ (hwk _ mb))
            have hvk : sameV 4 vk vk = true := hS.sl.same
            have hsa := same_ex hRa
            have hsb := same_ex hRb
            simp (config := { maxSteps := 1000000 }) (disch := (first | assumption | omega | exact Nm.old_n (by omega) | exact Nm.old_hp (by assumption) | (simp only [List.length_set, List.length_cons, List.length_nil, List.length_append, List.length_map, List.length_replicate] <;> omega))) only [nmS0, nmS1, nmS2, nmS3, nmS4, nmS5, nmS6, nmS7, Nat.testBit, Nat.reduceShiftRight, Nat.reduceAnd, Nat.reduceBNe, cond_true, cond_false, NT.get_leaf, Nat.reduceSub, d_true, d_false, clsOf, beq_self_eq_true, Int.reduceToNat, Nat.reduceAdd, Nat.reduceMul, Nat.reduceEqDiff, decide_true, decide_false, if_true, if_false, ite_true, ite_false, reduceIte, reduceCtorEq, eq_self, true_and, and_true, true_implies, hM1, hg1, hlk, a1', a2, a5, b1', b2, b5, hr2.wf', hg2, a22, b22, hr3.wf', hg3, a23, b23, hrk.wf', hvk, hsa, hsb]
            exact hK _ ((hC1.trans hC2 (by simp)).trans hC3 (by simp))
          · have e1 : rkL o (evalL ns vs ks) = 0 := by
              match ks, h3 with
              | [], _ => rfl
              | [a], _ => rfl
              | a :: b :: r, h3 => simp at h3
            rw [e1] at hK
            simp (config := { maxSteps := 1000000 }) (disch := (first | assumption | omega | exact Nm.old_n (by omega) | exact Nm.old_hp (by assumption) | (simp only [List.length_set, List.length_cons, List.length_nil, List.length_append, List.length_map, List.length_replicate] <;> omega))) only [nmS0, nmS1, nmS2, nmS3, nmS4, nmS5, nmS6, nmS7, Nat.testBit, Nat.reduceShiftRight, Nat.reduceAnd, Nat.reduceBNe, cond_true, cond_false, NT.get_leaf, Nat.reduceSub, d_true, d_false, clsOf, beq_self_eq_true, Int.reduceToNat, Nat.reduceAdd, Nat.reduceMul, Nat.reduceEqDiff, decide_true, decide_false, if_true, if_false, ite_true, ite_false, reduceIte, reduceCtorEq, eq_self, true_and, and_true, true_implies, hM1, hg1, hlk]
            exact hK _ hC1
        · rw [if_neg h2] at hK
          simp (config := { maxSteps := 1000000 }) (disch := (first | assumption | omega | exact Nm.old_n (by omega) | exact Nm.old_hp (by assumption) | (simp only [List.length_set, List.length_cons, List.length_nil, List.length_append, List.length_map, List.length_replicate] <;> omega))) only [nmS0, nmS1, nmS2, nmS3, nmS4, nmS5, nmS6, nmS7, Nat.testBit, Nat.reduceShiftRight, Nat.reduceAnd, Nat.reduceBNe, cond_true, cond_false, NT.get_leaf, Nat.reduceSub, d_true, d_false, clsOf, beq_self_eq_true, Int.reduceToNat, Nat.reduceAdd, Nat.reduceMul, Nat.reduceEqDiff, decide_true, decide_false, if_true, if_false, ite_true, ite_false, reduceIte, reduceCtorEq, eq_self, true_and, and_true, true_implies, hM1, hg1]
          exact hK _ hC1
end FR


open Go Nm Go.Proofs
namespace FR
set_option linter.unusedSimpArgs false
set_option linter.unusedVariables false
theorem wrap_i (z : Int) : ∃ y : Int, binV .num .add (ii z) (ii 1) = some (ii y) := by
  refine ⟨wrapI .i64 (addI z 1), (b_of rfl).trans ?_⟩
  show intV .i64 (wrapI .i64 (addI z 1)) = _
  rw [intV_eq]
/-- Depth of any expression, as a number -/
def DepA (x : Ex) : Prop := ∀ {m0 m : NH} {T : D4 → Prop} {c : List NV}, RE m0 T x c → Stays T m0 m → Wid x → ∃ z m', Ret Try.prog S0 32 [.agg c] m (ii z) m' ∧ Chg [] m m'
theorem depth_a : ∀ x : Ex, DepA x := by
  apply Ex.ind
  intro k n o s ks ih m0 m T c hR hst hw
  obtain ⟨vk, C, rfl, hS⟩ := hR.inv
  have h : ∃ v m', Ret Try.prog S0 32 [.agg [ii k, u64 n, u8 o, .str s, vk]] m v m' ∧ (∃ z, v = ii z) ∧ Chg [] m m' := by
    refine WF.ex fun K hK => ?_
    refine WF.of_wpG (fun _ => rfl) nf32_eq (L := [(.e, .agg [ii k, u64 n, u8 o, .str s, vk])]) rfl ?_
    unfold nf32
    cases hw with
    | mk hn hkl hwk =>
      simp (config := { maxSteps := 1000000 }) (disch := (first | assumption | omega | exact Nm.old_n (by omega) | exact Nm.old_hp (by assumption) | (simp only [List.length_set, List.length_cons, List.length_nil, List.length_append, List.length_map, List.length_replicate] <;> omega))) only [nmS0, nmS1, nmS2, nmS3, nmS4, nmS5, nmS6, nmS7, Nat.testBit, Nat.reduceShiftRight, Nat.reduceAnd, Nat.reduceBNe, cond_true, cond_false, NT.get_leaf, Nat.reduceSub, d_true, d_false, clsOf, beq_self_eq_true, Int.reduceToNat, Nat.reduceAdd, Nat.reduceMul, Nat.reduceEqDiff, decide_true, decide_false, if_true, if_false, ite_true, ite_false, reduceIte, reduceCtorEq, eq_self, true_and, and_true, true_implies]
      generalize hM1 : hp _ 1 m = M1
      have hC1 : Chg [] m M1 := by rw [← hM1]; exact hp_of rfl
      have hg1 : M1.get (na m 0) = some (.cells true [ii k, u64 n, u8 o, .str s, vk]) := by rw [← hM1]; exact h_getN
      have ho1 : Old M1 (na m 0) := by rw [← hM1]; exact old_n (by omega)
      refine W.loop (fun j d => ∃ t M i z, d = ⟨t, [], none, M⟩ ∧ NT.get D4.e.a t = some (.ptr (na m 0) 0) ∧ NT.get D4.e.c t = some (ii z) ∧ NT.get D4.e.f t = some (ii (i : Nat)) ∧ i + j = ks.length ∧ Chg [] M1 M) ?_ ks.length _ ⟨_, M1, 0, 0, rfl, by simp (config := { maxSteps := 1000000 }) (disch := (first | assumption | omega | exact Nm.old_n (by omega) | exact Nm.old_hp (by assumption) | (simp only [List.length_set, List.length_cons, List.length_nil, List.length_append, List.length_map, List.length_replicate] <;> omega))) only [nmS0, nmS1, nmS2, nmS3, nmS4, nmS5, nmS6, nmS7, Nat.testBit, Nat.reduceShiftRight, Nat.reduceAnd, Nat.reduceBNe, cond_true, cond_false, NT.get_leaf, Nat.reduceSub, d_true, d_false, clsOf, beq_self_eq_true, Int.reduceToNat, Nat.reduceAdd, Nat.reduceMul, Nat.reduceEqDiff, decide_true, decide_false, if_true, if_false, ite_true, ite_false, reduceIte, reduceCtorEq, eq_self, true_and, and_true, true_implies], by simp (config := { maxSteps := 1000000 }) (disch := (first | assumption | omega | exact Nm.old_n (by omega) | exact Nm.old_hp (by assumption) | (simp only [List.length_set, List.length_cons, List.length_nil, List.length_append, List.length_map, List.length_replicate] <;> omega))) only [nmS0, nmS1, nmS2, nmS3, nmS4, nmS5, nmS6, nmS7, Nat.testBit, Nat.reduceShiftRight, Nat.reduceAnd, Nat.reduceBNe, cond_true, cond_false, NT.get_leaf, Nat.reduceSub, d_true, d_false, clsOf, beq_self_eq_true, Int.reduceToNat, Nat.reduceAdd, Nat.reduceMul, Nat.reduceEqDiff, decide_true, decide_false, if_true, if_false, ite_true, ite_false, reduceIte, reduceCtorEq, eq_self, true_and, and_true, true_implies], by simp (config := { maxSteps := 1000000 }) (disch := (first | assumption | omega | exact Nm.old_n (by omega) | exact Nm.old_hp (by assumption) | (simp only [List.length_set, List.length_cons, List.length_nil, List.length_append, List.length_map, List.length_replicate] <;> omega))) only [nmS0, nmS1, nmS2, nmS3, nmS4, nmS5, nmS6, nmS7, Nat.testBit, Nat.reduceShiftRight, Nat.reduceAnd, Nat.reduceBNe, cond_true, cond_false, NT.get_leaf, Nat.reduceSub, d_true, d_false, clsOf, beq_self_eq_true, Int.reduceToNat, Nat.reduceAdd, Nat.reduceMul, Nat.reduceEqDiff, decide_true, decide_false, if_true, if_false, ite_true, ite_false, reduceIte, reduceCtorEq, eq_self, true_and, and_true, true_implies]; rfl, by omega, Chg.refl M1⟩
      rintro j d ⟨t, M, i, z, rfl, g1, g2, g3, hij, hC⟩
      apply wp_sound
      unfold nf32_l1
      change wp _ _ _ _ ⟨puts [] t, [], none, M⟩ _
      have hstM : Stays T m0 M := hst.grow (hC1.trans hC (by simp))
      have hSM := hS.stays hstM
      have hgM := (hC.get ho1 (by simp)).trans hg1
      have hlen := hSM.sl.len
      rw [hS.len] at hlen
      by_cases hi : i < ks.length
      · obtain ⟨u, id, off, wr, c, hRx, a1, a2, a3, a4, a5⟩ := kid_mem hS hstM i hi
        obtain ⟨y, m', hr, hC'⟩ := ih ks[i] (List.getElem_mem hi) hRx hstM (hwk _ (List.getElem_mem hi))
        simp (config := { maxSteps := 1000000 }) (disch := (first | assumption | omega | exact Nm.old_n (by omega) | exact Nm.old_hp (by assumption) | (simp only [List.length_set, List.length_cons, List.length_nil, List.length_append, List.length_map, List.length_replicate] <;> omega))) only [nmS0, nmS1, nmS2, nmS3, nmS4, nmS5, nmS6, nmS7, Nat.testBit, Nat.reduceShiftRight, Nat.reduceAnd, Nat.reduceBNe, cond_true, cond_false, NT.get_leaf, Nat.reduceSub, d_true, d_false, clsOf, beq_self_eq_true, Int.reduceToNat, Nat.reduceAdd, Nat.reduceMul, Nat.reduceEqDiff, decide_true, decide_false, if_true, if_false, ite_true, ite_false, reduceIte, reduceCtorEq, eq_self, true_and, and_true, true_implies, g1, g2, g3, hgM, hlen, a1, a2, a5, hr.wf']
        by_cases hgt : z < y
        · simp (config := { maxSteps := 1000000 }) (disch := (first | assumption | omega | exact Nm.old_n (by omega) | exact Nm.old_hp (by assumption) | (simp only [List.length_set, List.length_cons, List.length_nil, List.length_append, List.length_map, List.length_replicate] <;> omega))) only [nmS0, nmS1, nmS2, nmS3, nmS4, nmS5, nmS6, nmS7, Nat.testBit, Nat.reduceShiftRight, Nat.reduceAnd, Nat.reduceBNe, cond_true, cond_false, NT.get_leaf, Nat.reduceSub, d_true, d_false, clsOf, beq_self_eq_true, Int.reduceToNat, Nat.reduceAdd, Nat.reduceMul, Nat.reduceEqDiff, decide_true, decide_false, if_true, if_false, ite_true, ite_false, reduceIte, reduceCtorEq, eq_self, true_and, and_true, true_implies, g1, g2, g3]
          exact ⟨j - 1, by omega, _, m', i + 1, y, by rfl, by simp (config := { maxSteps := 1000000 }) (disch := (first | assumption | omega | exact Nm.old_n (by omega) | exact Nm.old_hp (by assumption) | (simp only [List.length_set, List.length_cons, List.length_nil, List.length_append, List.length_map, List.length_replicate] <;> omega))) only [nmS0, nmS1, nmS2, nmS3, nmS4, nmS5, nmS6, nmS7, Nat.testBit, Nat.reduceShiftRight, Nat.reduceAnd, Nat.reduceBNe, cond_true, cond_false, NT.get_leaf, Nat.reduceSub, d_true, d_false, clsOf, beq_self_eq_true, Int.reduceToNat, Nat.reduceAdd, Nat.reduceMul, Nat.reduceEqDiff, decide_true, decide_false, if_true, if_false, ite_true, ite_false, reduceIte, reduceCtorEq, eq_self, true_and, and_true, true_implies, g1], by simp (config := { maxSteps := 1000000 }) (disch := (first | assumption | omega | exact Nm.old_n (by omega) | exact Nm.old_hp (by assumption) | (simp only [List.length_set, List.length_cons, List.length_nil, List.length_append, List.length_map, List.length_replicate] <;> omega))) only [nmS0, nmS1, nmS2, nmS3, nmS4, nmS5, nmS6, nmS7, Nat.testBit, Nat.reduceShiftRight, Nat.reduceAnd, Nat.reduceBNe, cond_true, cond_false, NT.get_leaf, Nat.reduceSub, d_true, d_false, clsOf, beq_self_eq_true, Int.reduceToNat, Nat.reduceAdd, Nat.reduceMul, Nat.reduceEqDiff, decide_true, decide_false, if_true, if_false, ite_true, ite_false, reduceIte, reduceCtorEq, eq_self, true_and, and_true, true_implies], by simp (config := { maxSteps := 1000000 }) (disch := (first | assumption | omega | exact Nm.old_n (by omega) | exact Nm.old_hp (by assumption) | (simp only [List.length_set, List.length_cons, List.length_nil, List.length_append, List.length_map, List.length_replicate] <;> omega))) only [nmS0, nmS1, nmS2, nmS3, nmS4, nmS5, nmS6, nmS7, Nat.testBit, Nat.reduceShiftRight, Nat.reduceAnd, Nat.reduceBNe, cond_true, cond_false, NT.get_leaf, Nat.reduceSub, d_true, d_false, clsOf, beq_self_eq_true, Int.reduceToNat, Nat.reduceAdd, Nat.reduceMul, Nat.reduceEqDiff, decide_true, decide_false, if_true, if_false, ite_true, ite_false, reduceIte, reduceCtorEq, eq_self, true_and, and_true, true_implies]; rfl, by omega, hC.trans hC' (by simp)⟩
        · simp (config := { maxSteps := 1000000 }) (disch := (first | assumption | omega | exact Nm.old_n (by omega) | exact Nm.old_hp (by assumption) | (simp only [List.length_set, List.length_cons, List.length_nil, List.length_append, List.length_map, List.length_replicate] <;> omega))) only [nmS0, nmS1, nmS2, nmS3, nmS4, nmS5, nmS6, nmS7, Nat.testBit, Nat.reduceShiftRight, Nat.reduceAnd, Nat.reduceBNe, cond_true, cond_false, NT.get_leaf, Nat.reduceSub, d_true, d_false, clsOf, beq_self_eq_true, Int.reduceToNat, Nat.reduceAdd, Nat.reduceMul, Nat.reduceEqDiff, decide_true, decide_false, if_true, if_false, ite_true, ite_false, reduceIte, reduceCtorEq, eq_self, true_and, and_true, true_implies, g1, g2, g3]
          exact ⟨j - 1, by omega, _, m', i + 1, z, by rfl, by simp (config := { maxSteps := 1000000 }) (disch := (first | assumption | omega | exact Nm.old_n (by omega) | exact Nm.old_hp (by assumption) | (simp only [List.length_set, List.length_cons, List.length_nil, List.length_append, List.length_map, List.length_replicate] <;> omega))) only [nmS0, nmS1, nmS2, nmS3, nmS4, nmS5, nmS6, nmS7, Nat.testBit, Nat.reduceShiftRight, Nat.reduceAnd, Nat.reduceBNe, cond_true, cond_false, NT.get_leaf, Nat.reduceSub, d_true, d_false, clsOf, beq_self_eq_true, Int.reduceToNat, Nat.reduceAdd, Nat.reduceMul, Nat.reduceEqDiff, decide_true, decide_false, if_true, if_false, ite_true, ite_false, reduceIte, reduceCtorEq, eq_self, true_and, and_true, true_implies, g1], by simp (config := { maxSteps := 1000000 }) (disch := (first | assumption | omega | exact Nm.old_n (by omega) | exact Nm.old_hp (by assumption) | (simp only [List.length_set, List.length_cons, List.length_nil, List.length_append, List.length_map, List.length_replicate] <;> omega))) only [nmS0, nmS1, nmS2, nmS3, nmS4, nmS5, nmS6, nmS7, Nat.testBit, Nat.reduceShiftRight, Nat.reduceAnd, Nat.reduceBNe, cond_true, cond_false, NT.get_leaf, Nat.reduceSub, d_true, d_false, clsOf, beq_self_eq_true, Int.reduceToNat, Nat.reduceAdd, Nat.reduceMul, Nat.reduceEqDiff, decide_true, decide_false, if_true, if_false, ite_true, ite_false, reduceIte, reduceCtorEq, eq_self, true_and, and_true, true_implies, g2], by simp (config := { maxSteps := 1000000 }) (disch := (first | assumption | omega | exact Nm.old_n (by omega) | exact Nm.old_hp (by assumption) | (simp only [List.length_set, List.length_cons, List.length_nil, List.length_append, List.length_map, List.length_replicate] <;> omega))) only [nmS0, nmS1, nmS2, nmS3, nmS4, nmS5, nmS6, nmS7, Nat.testBit, Nat.reduceShiftRight, Nat.reduceAnd, Nat.reduceBNe, cond_true, cond_false, NT.get_leaf, Nat.reduceSub, d_true, d_false, clsOf, beq_self_eq_true, Int.reduceToNat, Nat.reduceAdd, Nat.reduceMul, Nat.reduceEqDiff, decide_true, decide_false, if_true, if_false, ite_true, ite_false, reduceIte, reduceCtorEq, eq_self, true_and, and_true, true_implies]; rfl, by omega, hC.trans hC' (by simp)⟩
      · obtain ⟨y, hy⟩ := wrap_i z
        simp (config := { maxSteps := 1000000 }) (disch := (first | assumption | omega | exact Nm.old_n (by omega) | exact Nm.old_hp (by assumption) | (simp only [List.length_set, List.length_cons, List.length_nil, List.length_append, List.length_map, List.length_replicate] <;> omega))) only [nmS0, nmS1, nmS2, nmS3, nmS4, nmS5, nmS6, nmS7, Nat.testBit, Nat.reduceShiftRight, Nat.reduceAnd, Nat.reduceBNe, cond_true, cond_false, NT.get_leaf, Nat.reduceSub, d_true, d_false, clsOf, beq_self_eq_true, Int.reduceToNat, Nat.reduceAdd, Nat.reduceMul, Nat.reduceEqDiff, decide_true, decide_false, if_true, if_false, ite_true, ite_false, reduceIte, reduceCtorEq, eq_self, true_and, and_true, true_implies, g1, g2, g3, hgM, hlen, hy]
        exact hK _ _ ⟨⟨y, rfl⟩, hC1.trans hC (by simp)⟩
  obtain ⟨v, m', h1, ⟨z, rfl⟩, h2⟩ := h
  exact ⟨z, m', h1, h2⟩
/-! arguments -/
def ArgX (m : NH) (t : TypeId) (l : List NV) : Prop := (t = 47 → ∃ x, RE m (fun _ => True) x l ∧ Wid x) ∧ (t = 45 → ∃ v ks C, l = [v] ∧ SE m (fun _ => True) v ks C ∧ ks.length ≤ 9223372036854775807 ∧ ∀ x ∈ ks, Wid x)
theorem cells_x {m : NH} (C : List (List NV)) (h : ∀ c ∈ C, ∃ x, RE m (fun _ => True) x c ∧ Wid x) : ∃ ks : List Ex, C.length = ks.length ∧ (∀ (i : Nat) (x : Ex) (c : List NV), ks[i]? = some x → C[i]? = some c → RE m (fun _ => True) x c) ∧ ∀ x ∈ ks, Wid x := by
  induction C with
  | nil => exact ⟨[], rfl, by simp, by simp⟩
  | cons c C ih =>
    obtain ⟨x, h1, h2⟩ := h c (List.mem_cons_self ..)
    obtain ⟨ks, a1, a2, a3⟩ := ih fun y hy => h y (List.mem_cons_of_mem _ hy)
    refine ⟨x :: ks, by simp [a1], fun i y d p q => ?_, fun y hy => ?_⟩
    · cases i with
      | zero => cases p; cases q; exact h1
      | succ i => exact a2 i y d p q
    · rcases List.mem_cons.1 hy with rfl | hy
      · exact h2
      · exact a3 y hy
theorem wf_u {n : Int} (h : (Lit.int .u64 n).wf = true) : 0 ≤ n ∧ n < 18446744073709551616 := by
  have h1 : IntKind.u64.min = 0 := rfl
  have h2 : IntKind.u64.max = 18446744073709551615 := rfl
  simp only [Lit.wf, Bool.and_eq_true, decide_eq_true_eq, h1, h2] at h
  omega
theorem wf_b {n : Int} (h : (Lit.int .u8 n).wf = true) : 0 ≤ n ∧ n < 256 := by
  have h1 : IntKind.u8.min = 0 := rfl
  have h2 : IntKind.u8.max = 255 := rfl
  simp only [Lit.wf, Bool.and_eq_true, decide_eq_true_eq, h1, h2] at h
  omega
set_option maxRecDepth 100000 in
theorem arg_x {m : NH} {t : TypeId} {l : List NV} (h : Ty Try.prog m t l) : ArgX m t l := by
  refine Ty.rec (motive_1 := fun t l _ => ArgX m t l) (motive_2 := fun ts l _ => ∃ ps : List (List NV), l = ps.flatten ∧ ps.length = ts.length ∧ ∀ (j : Nat) (t : TypeId) (p : List NV), ts[j]? = some t → ps[j]? = some p → Ty Try.prog m t p ∧ ArgX m t p) ?_ ?_ ?_ ?_ ?_ ?_ ?_ h
  · intro t ht b
    constructor
    · rintro rfl; rw [Try.underlying47] at ht; simp at ht
    · rintro rfl; rw [Try.underlying45] at ht; simp at ht
  · intro t k ht n h
    constructor
    · rintro rfl; rw [Try.underlying47] at ht; simp at ht
    · rintro rfl; rw [Try.underlying45] at ht; simp at ht
  · intro t ht l h hl
    constructor
    · rintro rfl; rw [Try.underlying47] at ht; simp at ht
    · rintro rfl; rw [Try.underlying45] at ht; simp at ht
  · intro t e ht v C hS hl h ih
    constructor
    · rintro rfl; rw [Try.underlying47] at ht; simp at ht
    · rintro rfl
      rw [Try.underlying45] at ht
      injection ht with ht; injection ht with ht; subst ht
      obtain ⟨ks, h1, h2, h3⟩ := cells_x C fun c hc => (ih c hc).1 rfl
      exact ⟨v, ks, C, rfl, ⟨hS, fun _ _ => trivial, h1, h2⟩, by rw [← h1]; exact hl, h3⟩
  · intro t fs ht l h ih
    constructor
    · rintro rfl
      rw [Try.underlying47] at ht
      injection ht with ht; injection ht with ht; subst ht
      obtain ⟨ps, rfl, hl, hp⟩ := ih
      match ps, hl with
      | [p0, p1, p2, p3, p4], _ =>
        obtain ⟨k, rfl, -⟩ := (hp 0 _ _ rfl rfl).1.inv_int Try.underlying3
        obtain ⟨n, rfl, hn⟩ := (hp 1 _ _ rfl rfl).1.inv_int Try.underlying44
        obtain ⟨o, rfl, ho⟩ := (hp 2 _ _ rfl rfl).1.inv_int Try.underlying5
        obtain ⟨s, rfl, -⟩ := (hp 3 _ _ rfl rfl).1.inv_str Try.underlying9
        obtain ⟨v, ks, C, rfl, hS, hkl, hw⟩ := (hp 4 _ _ rfl rfl).2.2 rfl
        obtain ⟨n0, n1⟩ := wf_u hn
        obtain ⟨o0, o1⟩ := wf_b ho
        refine ⟨.mk k n.toNat o.toNat s ks, ?_, .mk (by omega) hkl hw⟩
        have e1 : (n.toNat : Int) = n := Int.toNat_of_nonneg n0
        have e2 : (o.toNat : Int) = o := Int.toNat_of_nonneg o0
        have := RE.of (k := k) (n := n.toNat) (o := o.toNat) (s := s) hS
        have u1 : u64 n.toNat = .int .u64 (.lit n) := by show NV.int .u64 (.lit (n.toNat : Int)) = _; rw [e1]
        have u2 : u8 o.toNat = .int .u8 (.lit o) := by show NV.int .u8 (.lit (o.toNat : Int)) = _; rw [e2]
        rw [u1, u2] at this
        exact this
    · rintro rfl; rw [Try.underlying45] at ht; simp at ht
  · exact ⟨[], rfl, rfl, by simp⟩
  · intro t ts a b h hl ih1 ih2
    obtain ⟨ps, rfl, h1, h2⟩ := ih2
    refine ⟨a :: ps, rfl, by simp [h1], fun j u p q1 q2 => ?_⟩
    cases j with
    | zero => cases q1; cases q2; exact ⟨h, ih1⟩
    | succ j => exact h2 j u p q1 q2
end FR


open Go Nm Go.Proofs
namespace FR
set_option linter.unusedSimpArgs false
set_option linter.unusedVariables false
set_option maxRecDepth 100000 in
theorem ty_strs {m : NH} {l : List NV} (h : Ty Try.prog m 38 l) : ∃ v b, l = [v] ∧ Sl m v 1 (Strs b) := by
  obtain ⟨v, C, rfl, hS, hm, hall⟩ := h.inv_slc Try.underlying38
  obtain ⟨b, rfl⟩ := list_choice (f := fun s => [NV.str s]) (C := C) fun c hc => by
    obtain ⟨s, rfl, -⟩ := (hall c hc).inv_str Try.underlying9
    exact ⟨s, rfl⟩
  exact ⟨v, b, rfl, hS⟩
set_option maxRecDepth 100000 in
theorem ty_u64s {m : NH} {l : List NV} (h : Ty Try.prog m 74 l) : ∃ v b, l = [v] ∧ Sl m v 1 (U64s b) ∧ ∀ z ∈ b, In64 z := by
  obtain ⟨v, C, rfl, hS, hm, hall⟩ := h.inv_slc Try.underlying74
  obtain ⟨b, rfl⟩ := list_choice (f := fun z => [iu z]) (C := C) fun c hc => by
    obtain ⟨s, rfl, -⟩ := (hall c hc).inv_int Try.underlying44
    exact ⟨s, rfl⟩
  refine ⟨v, b, rfl, hS, fun z hz => ?_⟩
  obtain ⟨n, hn, hw⟩ := (hall [iu z] (List.mem_map.2 ⟨z, hz, rfl⟩)).inv_int Try.underlying44
  cases hn
  exact wf_u hw
theorem sourceEvals (m : NH) (l : List NV) (h : TyA Try.prog m [47, 38, 74] l) : ∃ m', Ret Try.prog S0 8 l m (.bool true) m' := by
  obtain ⟨c, r0, rfl, h1, ha⟩ := h.invS Try.underlying47
  obtain ⟨x, hR, hw⟩ := (arg_x (.struct Try.underlying47 _ h1)).1 rfl
  obtain ⟨w, r1, rfl, h2, hb⟩ := ha.inv1 (by intro fs q; rw [Try.underlying38] at q; simp at q)
  obtain ⟨vn, ns, hx, hn⟩ := ty_strs h2
  have hxv : vn = w := by simpa using hx.symm
  subst hxv
  obtain ⟨w, r2, rfl, h3, hc⟩ := hb.inv1 (by intro fs q; rw [Try.underlying74] at q; simp at q)
  obtain ⟨vv, vs, hx, hv, hi⟩ := ty_u64s h3
  have hxv : vv = w := by simpa using hx.symm
  subst hxv
  obtain rfl := hc.inv0
  have hnl := hn.len
  rw [List.length_map] at hnl
  have hvl := hv.len
  rw [List.length_map] at hvl
  have hal : ∀ m, Ret Try.prog S0 31 [] m (.bool true) m := fun m => Ret.kept rfl m
  have h : ∃ v' m', Ret Try.prog S0 8 [.agg c, vn, vv] m v' m' ∧ v' = .bool true := by
    refine WF.ex fun K hK => ?_
    refine WF.of_wpG (fun _ => rfl) nf8_eq (L := [(.b .e, vv), (.a .e, vn), (.e, .agg c)]) rfl ?_
    obtain ⟨vk, C, rfl, hS⟩ := hR.inv'
    unfold nf8
    generalize hM1 : hp [(.n 0, .cells true (x.l vk))] 1 m = M1
    have hC1 : Chg [] m M1 := by rw [← hM1]; exact hp_of rfl
    have hg1 : M1.get (na m 0) = some (.cells true (x.l vk)) := by rw [← hM1]; exact h_getN
    have ho1 : Old M1 (na m 0) := by rw [← hM1]; exact old_n (by omega)
    have hst1 : Stays (fun _ => True) m M1 := fun i _ ho => ⟨hC1.get ho List.not_mem_nil, hC1.old ho⟩
    obtain ⟨z, M2, hr2, hC2⟩ := depth_a x hR hst1 hw
    have hg2 := (hC2.get ho1 (by simp)).trans hg1
    have hst2 := hst1.grow hC2
    have hl5 : (x.l vk).length = 5 := rfl
    have ht5 : (x.l vk).take 5 = x.l vk := rfl
    by_cases hz : 40 < z
    · simp (config := { maxSteps := 1000000 }) (disch := (first | assumption | omega | exact Nm.old_n (by omega) | exact Nm.old_hp (by assumption) | (simp only [List.length_set, List.length_cons, List.length_nil, List.length_append, List.length_map, List.length_replicate] <;> omega))) only [nmS0, nmS1, nmS2, nmS3, nmS4, nmS5, nmS6, nmS7, Nat.testBit, Nat.reduceShiftRight, Nat.reduceAnd, Nat.reduceBNe, cond_true, cond_false, NT.get_leaf, Nat.reduceSub, d_true, d_false, clsOf, beq_self_eq_true, Int.reduceToNat, Nat.reduceAdd, Nat.reduceMul, Nat.reduceEqDiff, decide_true, decide_false, if_true, if_false, ite_true, ite_false, reduceIte, reduceCtorEq, eq_self, true_and, and_true, true_implies, hM1, hg1, (hal _).wf', hr2.wf', hg2, hl5, ht5, hz]
      exact hK _ _ rfl
    · by_cases h30 : 30 < ns.length
      · simp (config := { maxSteps := 1000000 }) (disch := (first | assumption | omega | exact Nm.old_n (by omega) | exact Nm.old_hp (by assumption) | (simp only [List.length_set, List.length_cons, List.length_nil, List.length_append, List.length_map, List.length_replicate] <;> omega))) only [nmS0, nmS1, nmS2, nmS3, nmS4, nmS5, nmS6, nmS7, Nat.testBit, Nat.reduceShiftRight, Nat.reduceAnd, Nat.reduceBNe, cond_true, cond_false, NT.get_leaf, Nat.reduceSub, d_true, d_false, clsOf, beq_self_eq_true, Int.reduceToNat, Nat.reduceAdd, Nat.reduceMul, Nat.reduceEqDiff, decide_true, decide_false, if_true, if_false, ite_true, ite_false, reduceIte, reduceCtorEq, eq_self, true_and, and_true, true_implies, hM1, hg1, (hal _).wf', hr2.wf', hg2, hl5, ht5, hz, hnl, h30]
        exact hK _ _ rfl
      · by_cases hv30 : 30 < vs.length
        · simp (config := { maxSteps := 1000000 }) (disch := (first | assumption | omega | exact Nm.old_n (by omega) | exact Nm.old_hp (by assumption) | (simp only [List.length_set, List.length_cons, List.length_nil, List.length_append, List.length_map, List.length_replicate] <;> omega))) only [nmS0, nmS1, nmS2, nmS3, nmS4, nmS5, nmS6, nmS7, Nat.testBit, Nat.reduceShiftRight, Nat.reduceAnd, Nat.reduceBNe, cond_true, cond_false, NT.get_leaf, Nat.reduceSub, d_true, d_false, clsOf, beq_self_eq_true, Int.reduceToNat, Nat.reduceAdd, Nat.reduceMul, Nat.reduceEqDiff, decide_true, decide_false, if_true, if_false, ite_true, ite_false, reduceIte, reduceCtorEq, eq_self, true_and, and_true, true_implies, hM1, hg1, (hal _).wf', hr2.wf', hg2, hl5, ht5, hz, hnl, hvl, h30, hv30]
          exact hK _ _ rfl
        · have hen2 : Env M2 vn vv ns vs := ⟨(hn.chg hC1 fun _ _ => by simp).chg hC2 fun _ _ => by simp, (hv.chg hC1 fun _ _ => by simp).chg hC2 fun _ _ => by simp, hi, by omega, by omega⟩
          obtain ⟨M3, hr3, hC3⟩ := eval_p x hR hst2 hw hen2
          obtain ⟨M4, hr4, hC4⟩ := eval_r x hR (hst2.grow hC3) hw (hen2.grow hC3)
          have hg3 := (hC3.get (hC2.old ho1) (by simp)).trans hg2
          have hsx := same_ex hR
          simp (config := { maxSteps := 1000000 }) (disch := (first | assumption | omega | exact Nm.old_n (by omega) | exact Nm.old_hp (by assumption) | (simp only [List.length_set, List.length_cons, List.length_nil, List.length_append, List.length_map, List.length_replicate] <;> omega))) only [nmS0, nmS1, nmS2, nmS3, nmS4, nmS5, nmS6, nmS7, Nat.testBit, Nat.reduceShiftRight, Nat.reduceAnd, Nat.reduceBNe, cond_true, cond_false, NT.get_leaf, Nat.reduceSub, d_true, d_false, clsOf, beq_self_eq_true, Int.reduceToNat, Nat.reduceAdd, Nat.reduceMul, Nat.reduceEqDiff, decide_true, decide_false, if_true, if_false, ite_true, ite_false, reduceIte, reduceCtorEq, eq_self, true_and, and_true, true_implies, hM1, hg1, (hal _).wf', hr2.wf', hg2, hg3, hl5, ht5, hz, hnl, hvl, h30, hv30, hr3.wf', hr4.wf', hsx]
          exact hK _ _ rfl
  obtain ⟨v', m', h, rfl⟩ := h
  exact ⟨m', h⟩
end FR


