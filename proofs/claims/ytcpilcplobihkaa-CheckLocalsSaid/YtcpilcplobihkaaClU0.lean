/- Contracts of functions that the law CheckLocals reaches, part 0. -/
import Derived.Test.YtcpilcplobihkaaClc
open Go Nm Go.Proofs
namespace FR
set_option linter.unusedSimpArgs false
set_option linter.unusedVariables false
abbrev u8 (c : Nat) : NV := .int .u8 (.lit (c : Int))
abbrev u64 (n : Nat) : NV := .int .u64 (.lit (n : Int))
/-- expressions, statements -/
inductive Ex where
  | mk (k : Int) (n o : Nat) (s : List Nat) (ks : List Ex)
inductive Stm where
  | mk (k a : Int) (nm ce : List Nat) (i x y : Ex) (b e : List Stm)
theorem Ex.ind {P : Ex → Prop} (h : ∀ k n o s ks, (∀ x ∈ ks, P x) → P (.mk k n o s ks)) : ∀ x, P x
  | .mk k n o s ks => h k n o s ks fun x _ => Ex.ind h x
theorem Stm.ind {P : Stm → Prop} (h : ∀ k a nm ce i x y b e, (∀ s ∈ b, P s) → (∀ s ∈ e, P s) → P (.mk k a nm ce i x y b e)) : ∀ s, P s
  | .mk k a nm ce i x y b e => h k a nm ce i x y b e (fun s _ => Stm.ind h s) (fun s _ => Stm.ind h s)
/-- an expression's cells in the memory m; T: which objects it may go through -/
inductive RE (m : NH) (T : D4 → Prop) : Ex → List NV → Prop
  | mk {k : Int} {n o : Nat} {s : List Nat} {ks : List Ex} {v : NV} {C : List (List NV)} (hv : Sl m v 5 C) (hT : ∀ i ∈ ids v, T i) (hl : C.length = ks.length) (h : ∀ (i : Nat) (x : Ex) (c : List NV), ks[i]? = some x → C[i]? = some c → RE m T x c) :
    RE m T (.mk k n o s ks) [ii k, u64 n, u8 o, .str s, v]
inductive RS (m : NH) (T : D4 → Prop) : Stm → List NV → Prop
  | mk {k a : Int} {nm ce : List Nat} {i x y : Ex} {b e : List Stm} {ci cx cy : List NV} {vb ve : NV} {B E : List (List NV)} (hi : RE m T i ci) (hx : RE m T x cx) (hy : RE m T y cy)
    (hb : Sl m vb 21 B) (hbT : ∀ i ∈ ids vb, T i) (hbl : B.length = b.length) (hbR : ∀ (j : Nat) (s : Stm) (c : List NV), b[j]? = some s → B[j]? = some c → RS m T s c)
    (he : Sl m ve 21 E) (heT : ∀ i ∈ ids ve, T i) (hel : E.length = e.length) (heR : ∀ (j : Nat) (s : Stm) (c : List NV), e[j]? = some s → E[j]? = some c → RS m T s c) :
    RS m T (.mk k a nm ce i x y b e) ([ii k, ii a, .str nm, .str ce] ++ ci ++ cx ++ cy ++ [vb, ve])
/-- what an object of T was it stays -/
def Stays (T : D4 → Prop) (m m' : NH) : Prop := ∀ i, T i → Old m i → m'.get i = m.get i ∧ Old m' i
theorem stN {m m' : NH} (h : Chg [] m m') (T : D4 → Prop) : Stays T m m' := fun _ _ ho => ⟨h.get ho (by simp), h.old ho⟩
theorem Stays.of {S : List D4} {m m' : NH} {T : D4 → Prop} (h : Chg S m m') (hT : ∀ i, T i → i ∉ S) : Stays T m m' := fun i hi ho => ⟨h.get ho (hT i hi), h.old ho⟩
theorem sl_stays {m m' : NH} {T : D4 → Prop} {v : NV} {e : Nat} {C : List (List NV)} (h : Sl m v e C) (hT : ∀ i ∈ ids v, T i) (hs : Stays T m m') : Sl m' v e C := by
  obtain ⟨h0, ⟨rfl, rfl⟩ | ⟨id, off, kc, w, c, rfl, h1, h2, h3, h4⟩⟩ := h
  · exact ⟨h0, Or.inl ⟨rfl, rfl⟩⟩
  · obtain ⟨g1, g2⟩ := hs id (hT id (List.mem_cons_self ..)) h2
    exact ⟨h0, Or.inr ⟨id, off, kc, w, c, rfl, g1.trans h1, g2, h3, h4⟩⟩
theorem RE.stays {m m' : NH} {T : D4 → Prop} (hs : Stays T m m') {x : Ex} {c : List NV} (h : RE m T x c) : RE m' T x c := by
  induction h with
  | mk hv hT hl h ih => exact .mk (sl_stays hv hT hs) hT hl ih
theorem RE.weak {m : NH} {T T' : D4 → Prop} (hT' : ∀ i, T i → T' i) {x : Ex} {c : List NV} (h : RE m T x c) : RE m T' x c := by
  induction h with
  | mk hv hT hl h ih => exact .mk hv (fun i hi => hT' i (hT i hi)) hl ih
theorem RS.stays {m m' : NH} {T : D4 → Prop} (hs : Stays T m m') {x : Stm} {c : List NV} (h : RS m T x c) : RS m' T x c := by
  induction h with
  | mk hi hx hy hb hbT hbl hbR he heT hel heR ih1 ih2 => exact .mk (hi.stays hs) (hx.stays hs) (hy.stays hs) (sl_stays hb hbT hs) hbT hbl ih1 (sl_stays he heT hs) heT hel ih2
theorem RS.weak {m : NH} {T T' : D4 → Prop} (hT' : ∀ i, T i → T' i) {x : Stm} {c : List NV} (h : RS m T x c) : RS m T' x c := by
  induction h with
  | mk hi hx hy hb hbT hbl hbR he heT hel heR ih1 ih2 => exact .mk (hi.weak hT') (hx.weak hT') (hy.weak hT') hb (fun i q => hT' i (hbT i q)) hbl ih1 he (fun i q => hT' i (heT i q)) hel ih2
/-- rows of them: a slice and its trees -/
structure SE (m : NH) (T : D4 → Prop) (v : NV) (l : List Ex) (C : List (List NV)) : Prop where
  sl : Sl m v 5 C
  hT : ∀ i ∈ ids v, T i
  len : C.length = l.length
  R : ∀ (i : Nat) (x : Ex) (c : List NV), l[i]? = some x → C[i]? = some c → RE m T x c
structure SS (m : NH) (T : D4 → Prop) (v : NV) (l : List Stm) (C : List (List NV)) : Prop where
  sl : Sl m v 21 C
  hT : ∀ i ∈ ids v, T i
  len : C.length = l.length
  R : ∀ (i : Nat) (x : Stm) (c : List NV), l[i]? = some x → C[i]? = some c → RS m T x c
theorem RE.inv {m : NH} {T : D4 → Prop} {k : Int} {n o : Nat} {s : List Nat} {ks : List Ex} {c : List NV} (h : RE m T (.mk k n o s ks) c) : ∃ v C, c = [ii k, u64 n, u8 o, .str s, v] ∧ SE m T v ks C := by
  cases h with
  | mk hv hT hl h => exact ⟨_, _, rfl, hv, hT, hl, h⟩
theorem RE.of {m : NH} {T : D4 → Prop} {k : Int} {n o : Nat} {s : List Nat} {ks : List Ex} {v : NV} {C : List (List NV)} (h : SE m T v ks C) : RE m T (.mk k n o s ks) [ii k, u64 n, u8 o, .str s, v] := .mk h.sl h.hT h.len h.R
theorem RE.len {m : NH} {T : D4 → Prop} {x : Ex} {c : List NV} (h : RE m T x c) : c.length = 5 := by cases h; rfl
theorem RS.len {m : NH} {T : D4 → Prop} {x : Stm} {c : List NV} (h : RS m T x c) : c.length = 21 := by
  cases h with
  | mk hi hx hy => simp [hi.len, hx.len, hy.len]
def Ex.k : Ex → Int | .mk k _ _ _ _ => k
def Ex.n : Ex → Nat | .mk _ n _ _ _ => n
def Ex.o : Ex → Nat | .mk _ _ o _ _ => o
def Ex.s : Ex → List Nat | .mk _ _ _ s _ => s
def Ex.ks : Ex → List Ex | .mk _ _ _ _ ks => ks
/-- an expression's cells, with its row of kids -/
abbrev Ex.l (x : Ex) (v : NV) : List NV := [ii x.k, u64 x.n, u8 x.o, .str x.s, v]
theorem RE.inv' {m : NH} {T : D4 → Prop} {x : Ex} {c : List NV} (h : RE m T x c) : ∃ v C, c = x.l v ∧ SE m T v x.ks C := by
  cases x; exact h.inv
theorem RS.inv {m : NH} {T : D4 → Prop} {k a : Int} {nm ce : List Nat} {i x y : Ex} {b e : List Stm} {c : List NV} (h : RS m T (.mk k a nm ce i x y b e) c) :
    ∃ vi vx vy vb ve B E, c = [ii k, ii a, .str nm, .str ce, ii i.k, u64 i.n, u8 i.o, .str i.s, vi, ii x.k, u64 x.n, u8 x.o, .str x.s, vx, ii y.k, u64 y.n, u8 y.o, .str y.s, vy, vb, ve] ∧
      RE m T i (i.l vi) ∧ RE m T x (x.l vx) ∧ RE m T y (y.l vy) ∧ SS m T vb b B ∧ SS m T ve e E := by
  cases h with
  | mk hi hx hy hb hbT hbl hbR he heT hel heR =>
    obtain ⟨vi, Ci, rfl, -⟩ := hi.inv'
    obtain ⟨vx, Cx, rfl, -⟩ := hx.inv'
    obtain ⟨vy, Cy, rfl, -⟩ := hy.inv'
    exact ⟨vi, vx, vy, _, _, _, _, rfl, hi, hx, hy, ⟨hb, hbT, hbl, hbR⟩, ⟨he, heT, hel, heR⟩⟩
theorem SE.stays {m m' : NH} {T : D4 → Prop} (hs : Stays T m m') {v : NV} {l : List Ex} {C : List (List NV)} (h : SE m T v l C) : SE m' T v l C := ⟨sl_stays h.sl h.hT hs, h.hT, h.len, fun i x c a b => (h.R i x c a b).stays hs⟩
theorem SS.stays {m m' : NH} {T : D4 → Prop} (hs : Stays T m m') {v : NV} {l : List Stm} {C : List (List NV)} (h : SS m T v l C) : SS m' T v l C := ⟨sl_stays h.sl h.hT hs, h.hT, h.len, fun i x c a b => (h.R i x c a b).stays hs⟩
theorem SE.at {m : NH} {T : D4 → Prop} {v : NV} {l : List Ex} {C : List (List NV)} (h : SE m T v l C) (i : Nat) (hi : i < l.length) : ∃ c, C[i]? = some c ∧ RE m T l[i] c := by
  have hc : i < C.length := by rw [h.len]; exact hi
  exact ⟨C[i], List.getElem?_eq_getElem hc, h.R i _ _ (List.getElem?_eq_getElem hi) (List.getElem?_eq_getElem hc)⟩
theorem SS.at {m : NH} {T : D4 → Prop} {v : NV} {l : List Stm} {C : List (List NV)} (h : SS m T v l C) (i : Nat) (hi : i < l.length) : ∃ c, C[i]? = some c ∧ RS m T l[i] c := by
  have hc : i < C.length := by rw [h.len]; exact hi
  exact ⟨C[i], List.getElem?_eq_getElem hc, h.R i _ _ (List.getElem?_eq_getElem hi) (List.getElem?_eq_getElem hc)⟩
end FR

open Go Nm Go.Proofs
namespace FR
set_option linter.unusedSimpArgs false
set_option linter.unusedVariables false
mutual
/-- the names of an expression, as they stand -/
def Ex.names : Ex → List (List Nat)
  | .mk k _ _ s ks => if k = 1 then [s] else if k = 2 then namesL ks else []
def namesL : List Ex → List (List Nat)
  | [] => []
  | x :: xs => x.names ++ namesL xs
end
mutual
/-- a statement and all within it -/
def Stm.all : Stm → List Stm
  | .mk k a nm ce i x y b e => .mk k a nm ce i x y b e :: ((if k = 6 ∨ k = 7 then allL b else []) ++ (if k = 6 then allL e else []))
def allL : List Stm → List Stm
  | [] => []
  | s :: l => s.all ++ allL l
end
def Stm.own : Stm → List (List Nat)
  | .mk k _ nm _ i x y _ _ => (if k = 0 ∨ k = 1 ∨ k = 3 then [nm] else []) ++ ((if k = 1 ∨ k = 2 ∨ k = 3 then i.names else []) ++ ((if k = 0 ∨ k = 2 ∨ k = 3 ∨ k = 5 ∨ k = 6 ∨ k = 7 then x.names else []) ++ (if k = 3 then y.names else [])))
/-- the locals of statements -/
def locals (l : List Stm) : List (List Nat) := ((allL l).flatMap Stm.own).foldl insN []
mutual
/-- how great an expression is -/
def Ex.sz : Ex → Nat
  | .mk _ _ _ _ ks => 1 + szL ks
def szL : List Ex → Nat
  | [] => 0
  | x :: xs => x.sz + szL xs
end
mutual
def Stm.sz : Stm → Nat
  | .mk _ _ _ _ i x y b e => 1 + i.sz + x.sz + y.sz + szB b + szB e
def szB : List Stm → Nat
  | [] => 0
  | s :: l => s.sz + szB l
end
theorem sz_pos (x : Ex) : 1 ≤ x.sz := by cases x; rw [Ex.sz]; omega
theorem len_szL (ks : List Ex) : ks.length ≤ szL ks := by
  induction ks with
  | nil => simp
  | cons x ks ih => have := sz_pos x; rw [szL, List.length_cons]; omega
theorem ssz_pos (x : Stm) : 1 ≤ x.sz := by cases x; rw [Stm.sz]; omega
theorem len_szB (ks : List Stm) : ks.length ≤ szB ks := by
  induction ks with
  | nil => simp
  | cons x ks ih => have := ssz_pos x; rw [szB, List.length_cons]; omega
theorem names_le : ∀ x : Ex, x.names.length ≤ x.sz := by
  apply Ex.ind
  intro k n o s ks ih
  rw [Ex.names, Ex.sz]
  have : ∀ ks : List Ex, (∀ x ∈ ks, x.names.length ≤ x.sz) → (namesL ks).length ≤ szL ks := by
    intro ks
    induction ks with
    | nil => intro _; simp [namesL]
    | cons x xs ih =>
      intro h
      have h1 := h x (List.mem_cons_self ..)
      have h2 := ih fun y hy => h y (List.mem_cons_of_mem _ hy)
      rw [namesL, szL, List.length_append]; omega
  have := this ks ih
  split
  · simp
  · split
    · omega
    · simp
theorem own_le (s : Stm) : s.own.length ≤ 1 + s.sz := by
  obtain ⟨k, a, nm, ce, i, x, y, b, e⟩ := s
  have h1 := names_le i
  have h2 := names_le x
  have h3 := names_le y
  rw [Stm.own, Stm.sz]
  simp only [List.length_append]
  have : ∀ (p : Prop) [Decidable p] (l : List (List Nat)), (if p then l else []).length ≤ l.length := by intro p _ l; split <;> simp
  have a1 := this (k = 0 ∨ k = 1 ∨ k = 3) [nm]
  have a2 := this (k = 1 ∨ k = 2 ∨ k = 3) i.names
  have a3 := this (k = 0 ∨ k = 2 ∨ k = 3 ∨ k = 5 ∨ k = 6 ∨ k = 7) x.names
  have a4 := this (k = 3) y.names
  simp only [List.length_singleton] at a1
  omega
theorem namesL_append (a b : List Ex) : namesL (a ++ b) = namesL a ++ namesL b := by
  induction a with
  | nil => rfl
  | cons x a ih => rw [List.cons_append, namesL, namesL, ih, List.append_assoc]
theorem allL_append (a b : List Stm) : allL (a ++ b) = allL a ++ allL b := by
  induction a with
  | nil => rfl
  | cons x a ih => rw [List.cons_append, allL, allL, ih, List.append_assoc]
end FR

open Go Nm Go.Proofs
namespace FR
set_option linter.unusedSimpArgs false
set_option linter.unusedVariables false
noncomputable def S0 : Nat → List NV → Option NV := addS 11 [] (.bool true) noS
abbrev Ints (l : List Int) : List (List NV) := l.map fun z => [ii z]
abbrev Strs (l : List (List Nat)) : List (List NV) := l.map fun s => [.str s]
/-- the place of an element, or -1 -/
def fndI {α : Type} [DecidableEq α] (l : List α) (x : α) : Int := match l.findIdx? (fun a => decide (x = a)) with | some i => (i : Int) | none => -1
theorem fndI_some {α : Type} [DecidableEq α] {l : List α} {x : α} {i : Nat} (hi : i < l.length) (h : x = l[i]) (hn : ∀ j (hj : j < i), x ≠ l[j]'(by omega)) : fndI l x = i := by
  unfold fndI
  rw [List.findIdx?_eq_some_iff_getElem.mpr ⟨hi, by simp [h], fun j hj => by simpa using hn j hj⟩]
theorem fndI_none {α : Type} [DecidableEq α] {l : List α} {x : α} (hn : ∀ j (hj : j < l.length), x ≠ l[j]) : fndI l x = -1 := by
  unfold fndI
  rw [List.findIdx?_eq_none_iff.mpr]
  intro y hy
  obtain ⟨j, hj, rfl⟩ := List.getElem_of_mem hy
  simpa using hn j hj
theorem fndI_mem {α : Type} [DecidableEq α] {l : List α} {x : α} : 0 ≤ fndI l x ↔ x ∈ l := by
  constructor
  · intro h
    rcases Decidable.em (x ∈ l) with q | q
    · exact q
    · rw [fndI_none fun j hj e => q (by rw [e]; exact List.getElem_mem hj)] at h; omega
  · intro h
    unfold fndI
    cases hf : l.findIdx? (fun a => decide (x = a)) with
    | some i => dsimp only; omega
    | none => have := List.findIdx?_eq_none_iff.mp hf x h; simp at this
theorem fndI_lt {α : Type} [DecidableEq α] {l : List α} {x : α} : fndI l x < l.length ∧ -1 ≤ fndI l x := by
  unfold fndI
  cases hf : l.findIdx? (fun a => decide (x = a)) with
  | some i => obtain ⟨h, -⟩ := List.findIdx?_eq_some_iff_getElem.mp hf; dsimp only; omega
  | none => dsimp only; omega
theorem index_int {m : NH} {v : NV} {l : List Int} (hv : Sl m v 1 (Ints l)) (hsz : l.length ≤ 1099511627776) (x : Int) : Ret Try.prog S0 115 [v, ii x] m (ii (fndI l x)) m := by
  have h : ∃ r m', Ret Try.prog S0 115 [v, ii x] m r m' ∧ r = ii (fndI l x) ∧ m' = m := by
    refine WF.ex fun K hK => ?_
    refine WF.of_wpG (fun _ => rfl) nf115_eq (L := [(.a .e, ii x), (.e, v)]) rfl ?_
    unfold nf115
    have hlen := hv.len
    rw [List.length_map] at hlen
    simp (config := { maxSteps := 1000000 }) (disch := (first | assumption | omega | exact Nm.old_n (by omega) | exact Nm.old_hp (by assumption) | (simp only [List.length_set, List.length_cons, List.length_nil, List.length_append, List.length_map, List.length_replicate] <;> omega))) only [nmS0, nmS1, nmS2, nmS3, nmS4, nmS5, nmS6, nmS7, Nat.testBit, Nat.reduceShiftRight, Nat.reduceAnd, Nat.reduceBNe, cond_true, cond_false, NT.get_leaf, Nat.reduceSub, d_true, d_false, clsOf, beq_self_eq_true, Int.reduceToNat, Nat.reduceAdd, Nat.reduceMul, Nat.reduceEqDiff, decide_true, decide_false, if_true, if_false, ite_true, ite_false, reduceIte, reduceCtorEq, eq_self, true_and, and_true, true_implies, hlen]
    refine W.loop (fun k d => ∃ t i, d = ⟨t, [], none, hp [] 0 m⟩ ∧ NT.get D4.e t = some v ∧ NT.get D4.e.a t = some (ii x) ∧ NT.get D4.e.a.c t = some (ii l.length) ∧ NT.get D4.e.a.f t = some (ii (i : Nat)) ∧ i + k = l.length ∧ ∀ j (hj : j < i) (hl : j < l.length), x ≠ l[j]) ?_ l.length _ ⟨_, 0, rfl, by simp (config := { maxSteps := 1000000 }) (disch := (first | assumption | omega | exact Nm.old_n (by omega) | exact Nm.old_hp (by assumption) | (simp only [List.length_set, List.length_cons, List.length_nil, List.length_append, List.length_map, List.length_replicate] <;> omega))) only [nmS0, nmS1, nmS2, nmS3, nmS4, nmS5, nmS6, nmS7, Nat.testBit, Nat.reduceShiftRight, Nat.reduceAnd, Nat.reduceBNe, cond_true, cond_false, NT.get_leaf, Nat.reduceSub, d_true, d_false, clsOf, beq_self_eq_true, Int.reduceToNat, Nat.reduceAdd, Nat.reduceMul, Nat.reduceEqDiff, decide_true, decide_false, if_true, if_false, ite_true, ite_false, reduceIte, reduceCtorEq, eq_self, true_and, and_true, true_implies], by simp (config := { maxSteps := 1000000 }) (disch := (first | assumption | omega | exact Nm.old_n (by omega) | exact Nm.old_hp (by assumption) | (simp only [List.length_set, List.length_cons, List.length_nil, List.length_append, List.length_map, List.length_replicate] <;> omega))) only [nmS0, nmS1, nmS2, nmS3, nmS4, nmS5, nmS6, nmS7, Nat.testBit, Nat.reduceShiftRight, Nat.reduceAnd, Nat.reduceBNe, cond_true, cond_false, NT.get_leaf, Nat.reduceSub, d_true, d_false, clsOf, beq_self_eq_true, Int.reduceToNat, Nat.reduceAdd, Nat.reduceMul, Nat.reduceEqDiff, decide_true, decide_false, if_true, if_false, ite_true, ite_false, reduceIte, reduceCtorEq, eq_self, true_and, and_true, true_implies], by simp (config := { maxSteps := 1000000 }) (disch := (first | assumption | omega | exact Nm.old_n (by omega) | exact Nm.old_hp (by assumption) | (simp only [List.length_set, List.length_cons, List.length_nil, List.length_append, List.length_map, List.length_replicate] <;> omega))) only [nmS0, nmS1, nmS2, nmS3, nmS4, nmS5, nmS6, nmS7, Nat.testBit, Nat.reduceShiftRight, Nat.reduceAnd, Nat.reduceBNe, cond_true, cond_false, NT.get_leaf, Nat.reduceSub, d_true, d_false, clsOf, beq_self_eq_true, Int.reduceToNat, Nat.reduceAdd, Nat.reduceMul, Nat.reduceEqDiff, decide_true, decide_false, if_true, if_false, ite_true, ite_false, reduceIte, reduceCtorEq, eq_self, true_and, and_true, true_implies], by simp (config := { maxSteps := 1000000 }) (disch := (first | assumption | omega | exact Nm.old_n (by omega) | exact Nm.old_hp (by assumption) | (simp only [List.length_set, List.length_cons, List.length_nil, List.length_append, List.length_map, List.length_replicate] <;> omega))) only [nmS0, nmS1, nmS2, nmS3, nmS4, nmS5, nmS6, nmS7, Nat.testBit, Nat.reduceShiftRight, Nat.reduceAnd, Nat.reduceBNe, cond_true, cond_false, NT.get_leaf, Nat.reduceSub, d_true, d_false, clsOf, beq_self_eq_true, Int.reduceToNat, Nat.reduceAdd, Nat.reduceMul, Nat.reduceEqDiff, decide_true, decide_false, if_true, if_false, ite_true, ite_false, reduceIte, reduceCtorEq, eq_self, true_and, and_true, true_implies]; rfl, by omega, by simp⟩
    rintro k d ⟨t, i, rfl, g1, g2, g3, g4, hik, hn⟩
    apply wp_sound
    unfold nf115_l1
    change wp _ _ _ _ ⟨puts [] t, [], none, hp [] 0 m⟩ _
    by_cases hi : i < l.length
    · obtain ⟨id, off, w, c, a1, a2, a3, a4, a5⟩ := hv.at i (by simpa using hi)
      rw [List.getElem_map] at a5
      have c0 := cell_at a5 0 (by omega)
      rw [Nat.add_zero] at c0
      by_cases he : x = l[i]
      · have he' : decide (x = l[i]) = true := decide_eq_true he
        simp (config := { maxSteps := 1000000 }) (disch := (first | assumption | omega | exact Nm.old_n (by omega) | exact Nm.old_hp (by assumption) | (simp only [List.length_set, List.length_cons, List.length_nil, List.length_append, List.length_map, List.length_replicate] <;> omega))) only [nmS0, nmS1, nmS2, nmS3, nmS4, nmS5, nmS6, nmS7, Nat.testBit, Nat.reduceShiftRight, Nat.reduceAnd, Nat.reduceBNe, cond_true, cond_false, NT.get_leaf, Nat.reduceSub, d_true, d_false, clsOf, beq_self_eq_true, Int.reduceToNat, Nat.reduceAdd, Nat.reduceMul, Nat.reduceEqDiff, decide_true, decide_false, if_true, if_false, ite_true, ite_false, reduceIte, reduceCtorEq, eq_self, true_and, and_true, true_implies, g1, g2, g3, g4, a1, a2, c0, he']
        exact hK _ _ ⟨by rw [fndI_some hi he fun j hj => hn j hj (by omega)], hp_nil m⟩
      · have he' : decide (x = l[i]) = false := decide_eq_false he
        simp (config := { maxSteps := 1000000 }) (disch := (first | assumption | omega | exact Nm.old_n (by omega) | exact Nm.old_hp (by assumption) | (simp only [List.length_set, List.length_cons, List.length_nil, List.length_append, List.length_map, List.length_replicate] <;> omega))) only [nmS0, nmS1, nmS2, nmS3, nmS4, nmS5, nmS6, nmS7, Nat.testBit, Nat.reduceShiftRight, Nat.reduceAnd, Nat.reduceBNe, cond_true, cond_false, NT.get_leaf, Nat.reduceSub, d_true, d_false, clsOf, beq_self_eq_true, Int.reduceToNat, Nat.reduceAdd, Nat.reduceMul, Nat.reduceEqDiff, decide_true, decide_false, if_true, if_false, ite_true, ite_false, reduceIte, reduceCtorEq, eq_self, true_and, and_true, true_implies, g1, g2, g3, g4, a1, a2, c0, he']
        refine ⟨k - 1, by omega, _, i + 1, by rfl, ?_, ?_, ?_, ?_, by omega, ?_⟩
        · simp (config := { maxSteps := 1000000 }) (disch := (first | assumption | omega | exact Nm.old_n (by omega) | exact Nm.old_hp (by assumption) | (simp only [List.length_set, List.length_cons, List.length_nil, List.length_append, List.length_map, List.length_replicate] <;> omega))) only [nmS0, nmS1, nmS2, nmS3, nmS4, nmS5, nmS6, nmS7, Nat.testBit, Nat.reduceShiftRight, Nat.reduceAnd, Nat.reduceBNe, cond_true, cond_false, NT.get_leaf, Nat.reduceSub, d_true, d_false, clsOf, beq_self_eq_true, Int.reduceToNat, Nat.reduceAdd, Nat.reduceMul, Nat.reduceEqDiff, decide_true, decide_false, if_true, if_false, ite_true, ite_false, reduceIte, reduceCtorEq, eq_self, true_and, and_true, true_implies, g1]
        · simp (config := { maxSteps := 1000000 }) (disch := (first | assumption | omega | exact Nm.old_n (by omega) | exact Nm.old_hp (by assumption) | (simp only [List.length_set, List.length_cons, List.length_nil, List.length_append, List.length_map, List.length_replicate] <;> omega))) only [nmS0, nmS1, nmS2, nmS3, nmS4, nmS5, nmS6, nmS7, Nat.testBit, Nat.reduceShiftRight, Nat.reduceAnd, Nat.reduceBNe, cond_true, cond_false, NT.get_leaf, Nat.reduceSub, d_true, d_false, clsOf, beq_self_eq_true, Int.reduceToNat, Nat.reduceAdd, Nat.reduceMul, Nat.reduceEqDiff, decide_true, decide_false, if_true, if_false, ite_true, ite_false, reduceIte, reduceCtorEq, eq_self, true_and, and_true, true_implies, g2]
        · simp (config := { maxSteps := 1000000 }) (disch := (first | assumption | omega | exact Nm.old_n (by omega) | exact Nm.old_hp (by assumption) | (simp only [List.length_set, List.length_cons, List.length_nil, List.length_append, List.length_map, List.length_replicate] <;> omega))) only [nmS0, nmS1, nmS2, nmS3, nmS4, nmS5, nmS6, nmS7, Nat.testBit, Nat.reduceShiftRight, Nat.reduceAnd, Nat.reduceBNe, cond_true, cond_false, NT.get_leaf, Nat.reduceSub, d_true, d_false, clsOf, beq_self_eq_true, Int.reduceToNat, Nat.reduceAdd, Nat.reduceMul, Nat.reduceEqDiff, decide_true, decide_false, if_true, if_false, ite_true, ite_false, reduceIte, reduceCtorEq, eq_self, true_and, and_true, true_implies, g3]
        · simp (config := { maxSteps := 1000000 }) (disch := (first | assumption | omega | exact Nm.old_n (by omega) | exact Nm.old_hp (by assumption) | (simp only [List.length_set, List.length_cons, List.length_nil, List.length_append, List.length_map, List.length_replicate] <;> omega))) only [nmS0, nmS1, nmS2, nmS3, nmS4, nmS5, nmS6, nmS7, Nat.testBit, Nat.reduceShiftRight, Nat.reduceAnd, Nat.reduceBNe, cond_true, cond_false, NT.get_leaf, Nat.reduceSub, d_true, d_false, clsOf, beq_self_eq_true, Int.reduceToNat, Nat.reduceAdd, Nat.reduceMul, Nat.reduceEqDiff, decide_true, decide_false, if_true, if_false, ite_true, ite_false, reduceIte, reduceCtorEq, eq_self, true_and, and_true, true_implies]; rfl
        · intro j hj hl
          rcases Nat.lt_or_ge j i with h | h
          · exact hn j h hl
          · have : j = i := by omega
            subst this; exact he
    · simp (config := { maxSteps := 1000000 }) (disch := (first | assumption | omega | exact Nm.old_n (by omega) | exact Nm.old_hp (by assumption) | (simp only [List.length_set, List.length_cons, List.length_nil, List.length_append, List.length_map, List.length_replicate] <;> omega))) only [nmS0, nmS1, nmS2, nmS3, nmS4, nmS5, nmS6, nmS7, Nat.testBit, Nat.reduceShiftRight, Nat.reduceAnd, Nat.reduceBNe, cond_true, cond_false, NT.get_leaf, Nat.reduceSub, d_true, d_false, clsOf, beq_self_eq_true, Int.reduceToNat, Nat.reduceAdd, Nat.reduceMul, Nat.reduceEqDiff, decide_true, decide_false, if_true, if_false, ite_true, ite_false, reduceIte, reduceCtorEq, eq_self, true_and, and_true, true_implies, g1, g2, g3, g4]
      exact hK _ _ ⟨by rw [fndI_none fun j hj => hn j (by omega) hj], hp_nil m⟩
  obtain ⟨r, m', h1, rfl, rfl⟩ := h
  exact h1
theorem index_str {m : NH} {v : NV} {l : List (List Nat)} (hv : Sl m v 1 (Strs l)) (hsz : l.length ≤ 1099511627776) (x : List Nat) : Ret Try.prog S0 66 [v, (.str x)] m (ii (fndI l x)) m := by
  have h : ∃ r m', Ret Try.prog S0 66 [v, (.str x)] m r m' ∧ r = ii (fndI l x) ∧ m' = m := by
    refine WF.ex fun K hK => ?_
    refine WF.of_wpG (fun _ => rfl) nf66_eq (L := [(.a .e, (.str x)), (.e, v)]) rfl ?_
    unfold nf66
    have hlen := hv.len
    rw [List.length_map] at hlen
    simp (config := { maxSteps := 1000000 }) (disch := (first | assumption | omega | exact Nm.old_n (by omega) | exact Nm.old_hp (by assumption) | (simp only [List.length_set, List.length_cons, List.length_nil, List.length_append, List.length_map, List.length_replicate] <;> omega))) only [nmS0, nmS1, nmS2, nmS3, nmS4, nmS5, nmS6, nmS7, Nat.testBit, Nat.reduceShiftRight, Nat.reduceAnd, Nat.reduceBNe, cond_true, cond_false, NT.get_leaf, Nat.reduceSub, d_true, d_false, clsOf, beq_self_eq_true, Int.reduceToNat, Nat.reduceAdd, Nat.reduceMul, Nat.reduceEqDiff, decide_true, decide_false, if_true, if_false, ite_true, ite_false, reduceIte, reduceCtorEq, eq_self, true_and, and_true, true_implies, hlen]
    refine W.loop (fun k d => ∃ t i, d = ⟨t, [], none, hp [] 0 m⟩ ∧ NT.get D4.e t = some v ∧ NT.get D4.e.a t = some ((.str x)) ∧ NT.get D4.e.a.c t = some (ii l.length) ∧ NT.get D4.e.a.f t = some (ii (i : Nat)) ∧ i + k = l.length ∧ ∀ j (hj : j < i) (hl : j < l.length), x ≠ l[j]) ?_ l.length _ ⟨_, 0, rfl, by simp (config := { maxSteps := 1000000 }) (disch := (first | assumption | omega | exact Nm.old_n (by omega) | exact Nm.old_hp (by assumption) | (simp only [List.length_set, List.length_cons, List.length_nil, List.length_append, List.length_map, List.length_replicate] <;> omega))) only [nmS0, nmS1, nmS2, nmS3, nmS4, nmS5, nmS6, nmS7, Nat.testBit, Nat.reduceShiftRight, Nat.reduceAnd, Nat.reduceBNe, cond_true, cond_false, NT.get_leaf, Nat.reduceSub, d_true, d_false, clsOf, beq_self_eq_true, Int.reduceToNat, Nat.reduceAdd, Nat.reduceMul, Nat.reduceEqDiff, decide_true, decide_false, if_true, if_false, ite_true, ite_false, reduceIte, reduceCtorEq, eq_self, true_and, and_true, true_implies], by simp (config := { maxSteps := 1000000 }) (disch := (first | assumption | omega | exact Nm.old_n (by omega) | exact Nm.old_hp (by assumption) | (simp only [List.length_set, List.length_cons, List.length_nil, List.length_append, List.length_map, List.length_replicate] <;> omega))) only [nmS0, nmS1, nmS2, nmS3, nmS4, nmS5, nmS6, nmS7, Nat.testBit, Nat.reduceShiftRight, Nat.reduceAnd, Nat.reduceBNe, cond_true, cond_false, NT.get_leaf, Nat.reduceSub, d_true, d_false, clsOf, beq_self_eq_true, Int.reduceToNat, Nat.reduceAdd, Nat.reduceMul, Nat.reduceEqDiff, decide_true, decide_false, if_true, if_false, ite_true, ite_false, reduceIte, reduceCtorEq, eq_self, true_and, and_true, true_implies], by simp (config := { maxSteps := 1000000 }) (disch := (first | assumption | omega | exact Nm.old_n (by omega) | exact Nm.old_hp (by assumption) | (simp only [List.length_set, List.length_cons, List.length_nil, List.length_append, List.length_map, List.length_replicate] <;> omega))) only [nmS0, nmS1, nmS2, nmS3, nmS4, nmS5, nmS6, nmS7, Nat.testBit, Nat.reduceShiftRight, Nat.reduceAnd, Nat.reduceBNe, cond_true, cond_false, NT.get_leaf, Nat.reduceSub, d_true, d_false, clsOf, beq_self_eq_true, Int.reduceToNat, Nat.reduceAdd, Nat.reduceMul, Nat.reduceEqDiff, decide_true, decide_false, if_true, if_false, ite_true, ite_false, reduceIte, reduceCtorEq, eq_self, true_and, and_true, true_implies], by simp (config := { maxSteps := 1000000 }) (disch := (first | assumption | omega | exact Nm.old_n (by omega) | exact Nm.old_hp (by assumption) | (simp only [List.length_set, List.length_cons, List.length_nil, List.length_append, List.length_map, List.length_replicate] <;> omega))) only [nmS0, nmS1, nmS2, nmS3, nmS4, nmS5, nmS6, nmS7, Nat.testBit, Nat.reduceShiftRight, Nat.reduceAnd, Nat.reduceBNe, cond_true, cond_false, NT.get_leaf, Nat.reduceSub, d_true, d_false, clsOf, beq_self_eq_true, Int.reduceToNat, Nat.reduceAdd, Nat.reduceMul, Nat.reduceEqDiff, decide_true, decide_false, if_true, if_false, ite_true, ite_false, reduceIte, reduceCtorEq, eq_self, true_and, and_true, true_implies]; rfl, by omega, by simp⟩
    rintro k d ⟨t, i, rfl, g1, g2, g3, g4, hik, hn⟩
    apply wp_sound
    unfold nf66_l1
    change wp _ _ _ _ ⟨puts [] t, [], none, hp [] 0 m⟩ _
    by_cases hi : i < l.length
    · obtain ⟨id, off, w, c, a1, a2, a3, a4, a5⟩ := hv.at i (by simpa using hi)
      rw [List.getElem_map] at a5
      have c0 := cell_at a5 0 (by omega)
      rw [Nat.add_zero] at c0
      by_cases he : x = l[i]
      · have he' : decide (x = l[i]) = true := decide_eq_true he
        simp (config := { maxSteps := 1000000 }) (disch := (first | assumption | omega | exact Nm.old_n (by omega) | exact Nm.old_hp (by assumption) | (simp only [List.length_set, List.length_cons, List.length_nil, List.length_append, List.length_map, List.length_replicate] <;> omega))) only [nmS0, nmS1, nmS2, nmS3, nmS4, nmS5, nmS6, nmS7, Nat.testBit, Nat.reduceShiftRight, Nat.reduceAnd, Nat.reduceBNe, cond_true, cond_false, NT.get_leaf, Nat.reduceSub, d_true, d_false, clsOf, beq_self_eq_true, Int.reduceToNat, Nat.reduceAdd, Nat.reduceMul, Nat.reduceEqDiff, decide_true, decide_false, if_true, if_false, ite_true, ite_false, reduceIte, reduceCtorEq, eq_self, true_and, and_true, true_implies, g1, g2, g3, g4, a1, a2, c0, he']
        exact hK _ _ ⟨by rw [fndI_some hi he fun j hj => hn j hj (by omega)], hp_nil m⟩
      · have he' : decide (x = l[i]) = false := decide_eq_false he
        simp (config := { maxSteps := 1000000 }) (disch := (first | assumption | omega | exact Nm.old_n (by omega) | exact Nm.old_hp (by assumption) | (simp only [List.length_set, List.length_cons, List.length_nil, List.length_append, List.length_map, List.length_replicate] <;> omega))) only [nmS0, nmS1, nmS2, nmS3, nmS4, nmS5, nmS6, nmS7, Nat.testBit, Nat.reduceShiftRight, Nat.reduceAnd, Nat.reduceBNe, cond_true, cond_false, NT.get_leaf, Nat.reduceSub, d_true, d_false, clsOf, beq_self_eq_true, Int.reduceToNat, Nat.reduceAdd, Nat.reduceMul, Nat.reduceEqDiff, decide_true, decide_false, if_true, if_false, ite_true, ite_false, reduceIte, reduceCtorEq, eq_self, true_and, and_true, true_implies, g1, g2, g3, g4, a1, a2, c0, he']
        refine ⟨k - 1, by omega, _, i + 1, by rfl, ?_, ?_, ?_, ?_, by omega, ?_⟩
        · simp (config := { maxSteps := 1000000 }) (disch := (first | assumption | omega | exact Nm.old_n (by omega) | exact Nm.old_hp (by assumption) | (simp only [List.length_set, List.length_cons, List.length_nil, List.length_append, List.length_map, List.length_replicate] <;> omega))) only [nmS0, nmS1, nmS2, nmS3, nmS4, nmS5, nmS6, nmS7, Nat.testBit, Nat.reduceShiftRight, Nat.reduceAnd, Nat.reduceBNe, cond_true, cond_false, NT.get_leaf, Nat.reduceSub, d_true, d_false, clsOf, beq_self_eq_true, Int.reduceToNat, Nat.reduceAdd, Nat.reduceMul, Nat.reduceEqDiff, decide_true, decide_false, if_true, if_false, ite_true, ite_false, reduceIte, reduceCtorEq, eq_self, true_and, and_true, true_implies, g1]
        · simp (config := { maxSteps := 1000000 }) (disch := (first | assumption | omega | exact Nm.old_n (by omega) | exact Nm.old_hp (by assumption) | (simp only [List.length_set, List.length_cons, List.length_nil, List.length_append, List.length_map, List.length_replicate] <;> omega))) only [nmS0, nmS1, nmS2, nmS3, nmS4, nmS5, nmS6, nmS7, Nat.testBit, Nat.reduceShiftRight, Nat.reduceAnd, Nat.reduceBNe, cond_true, cond_false, NT.get_leaf, Nat.reduceSub, d_true, d_false, clsOf, beq_self_eq_true, Int.reduceToNat, Nat.reduceAdd, Nat.reduceMul, Nat.reduceEqDiff, decide_true, decide_false, if_true, if_false, ite_true, ite_false, reduceIte, reduceCtorEq, eq_self, true_and, and_true, true_implies, g2]
        · simp (config := { maxSteps := 1000000 }) (disch := (first | assumption | omega | exact Nm.old_n (by omega) | exact Nm.old_hp (by assumption) | (simp only [List.length_set, List.length_cons, List.length_nil, List.length_append, List.length_map, List.length_replicate] <;> omega))) only [nmS0, nmS1, nmS2, nmS3, nmS4, nmS5, nmS6, nmS7, Nat.testBit, Nat.reduceShiftRight, Nat.reduceAnd, Nat.reduceBNe, cond_true, cond_false, NT.get_leaf, Nat.reduceSub, d_true, d_false, clsOf, beq_self_eq_true, Int.reduceToNat, Nat.reduceAdd, Nat.reduceMul, Nat.reduceEqDiff, decide_true, decide_false, if_true, if_false, ite_true, ite_false, reduceIte, reduceCtorEq, eq_self, true_and, and_true, true_implies, g3]
        · simp (config := { maxSteps := 1000000 }) (disch := (first | assumption | omega | exact Nm.old_n (by omega) | exact Nm.old_hp (by assumption) | (simp only [List.length_set, List.length_cons, List.length_nil, List.length_append, List.length_map, List.length_replicate] <;> omega))) only [nmS0, nmS1, nmS2, nmS3, nmS4, nmS5, nmS6, nmS7, Nat.testBit, Nat.reduceShiftRight, Nat.reduceAnd, Nat.reduceBNe, cond_true, cond_false, NT.get_leaf, Nat.reduceSub, d_true, d_false, clsOf, beq_self_eq_true, Int.reduceToNat, Nat.reduceAdd, Nat.reduceMul, Nat.reduceEqDiff, decide_true, decide_false, if_true, if_false, ite_true, ite_false, reduceIte, reduceCtorEq, eq_self, true_and, and_true, true_implies]; rfl
        · intro j hj hl
          rcases Nat.lt_or_ge j i with h | h
          · exact hn j h hl
          · have : j = i := by omega
            subst this; exact he
    · simp (config := { maxSteps := 1000000 }) (disch := (first | assumption | omega | exact Nm.old_n (by omega) | exact Nm.old_hp (by assumption) | (simp only [List.length_set, List.length_cons, List.length_nil, List.length_append, List.length_map, List.length_replicate] <;> omega))) only [nmS0, nmS1, nmS2, nmS3, nmS4, nmS5, nmS6, nmS7, Nat.testBit, Nat.reduceShiftRight, Nat.reduceAnd, Nat.reduceBNe, cond_true, cond_false, NT.get_leaf, Nat.reduceSub, d_true, d_false, clsOf, beq_self_eq_true, Int.reduceToNat, Nat.reduceAdd, Nat.reduceMul, Nat.reduceEqDiff, decide_true, decide_false, if_true, if_false, ite_true, ite_false, reduceIte, reduceCtorEq, eq_self, true_and, and_true, true_implies, g1, g2, g3, g4]
      exact hK _ _ ⟨by rw [fndI_none fun j hj => hn j (by omega) hj], hp_nil m⟩
  obtain ⟨r, m', h1, rfl, rfl⟩ := h
  exact h1
theorem contains_int {m : NH} {v : NV} {l : List Int} (hv : Sl m v 1 (Ints l)) (hsz : l.length ≤ 1099511627776) (x : Int) : Ret Try.prog S0 136 [v, ii x] m (.bool (decide (x ∈ l))) m := by
  have h : ∃ r m', Ret Try.prog S0 136 [v, ii x] m r m' ∧ r = .bool (decide (x ∈ l)) ∧ m' = m := by
    refine WF.ex fun K hK => ?_
    refine WF.of_wpG (fun _ => rfl) nf136_eq (L := [(.a .e, ii x), (.e, v)]) rfl ?_
    unfold nf136
    simp (config := { maxSteps := 1000000 }) (disch := (first | assumption | omega | exact Nm.old_n (by omega) | exact Nm.old_hp (by assumption) | (simp only [List.length_set, List.length_cons, List.length_nil, List.length_append, List.length_map, List.length_replicate] <;> omega))) only [nmS0, nmS1, nmS2, nmS3, nmS4, nmS5, nmS6, nmS7, Nat.testBit, Nat.reduceShiftRight, Nat.reduceAnd, Nat.reduceBNe, cond_true, cond_false, NT.get_leaf, Nat.reduceSub, d_true, d_false, clsOf, beq_self_eq_true, Int.reduceToNat, Nat.reduceAdd, Nat.reduceMul, Nat.reduceEqDiff, decide_true, decide_false, if_true, if_false, ite_true, ite_false, reduceIte, reduceCtorEq, eq_self, true_and, and_true, true_implies, hp_nil, (index_int hv hsz x).wf']
    exact hK _ _ ⟨by simp only [fndI_mem], rfl⟩
  obtain ⟨r, m', h1, rfl, rfl⟩ := h
  exact h1
theorem contains_str {m : NH} {v : NV} {l : List (List Nat)} (hv : Sl m v 1 (Strs l)) (hsz : l.length ≤ 1099511627776) (x : List Nat) : Ret Try.prog S0 99 [v, (.str x)] m (.bool (decide (x ∈ l))) m := by
  have h : ∃ r m', Ret Try.prog S0 99 [v, (.str x)] m r m' ∧ r = .bool (decide (x ∈ l)) ∧ m' = m := by
    refine WF.ex fun K hK => ?_
    refine WF.of_wpG (fun _ => rfl) nf99_eq (L := [(.a .e, (.str x)), (.e, v)]) rfl ?_
    unfold nf99
    simp (config := { maxSteps := 1000000 }) (disch := (first | assumption | omega | exact Nm.old_n (by omega) | exact Nm.old_hp (by assumption) | (simp only [List.length_set, List.length_cons, List.length_nil, List.length_append, List.length_map, List.length_replicate] <;> omega))) only [nmS0, nmS1, nmS2, nmS3, nmS4, nmS5, nmS6, nmS7, Nat.testBit, Nat.reduceShiftRight, Nat.reduceAnd, Nat.reduceBNe, cond_true, cond_false, NT.get_leaf, Nat.reduceSub, d_true, d_false, clsOf, beq_self_eq_true, Int.reduceToNat, Nat.reduceAdd, Nat.reduceMul, Nat.reduceEqDiff, decide_true, decide_false, if_true, if_false, ite_true, ite_false, reduceIte, reduceCtorEq, eq_self, true_and, and_true, true_implies, hp_nil, (index_str hv hsz x).wf']
    exact hK _ _ ⟨by simp only [fndI_mem], rfl⟩
  obtain ⟨r, m', h1, rfl, rfl⟩ := h
  exact h1
/-- Has -/
theorem has_p (m : NH) {v : NV} {l : List Int} (hv : Sl m v 1 (Ints l)) (hsz : l.length ≤ 1099511627776) {k : Int} {c : List NV} (hc : c.length = 20) : ∃ m', Ret Try.prog S0 91 [.agg (ii k :: c), v] m (.bool (decide (k ∈ l))) m' ∧ Chg [] m m' := by
  have h : ∃ r m', Ret Try.prog S0 91 [.agg (ii k :: c), v] m r m' ∧ r = .bool (decide (k ∈ l)) ∧ Chg [] m m' := by
    refine WF.ex fun K hK => ?_
    refine WF.of_wpG (fun _ => rfl) nf91_eq (L := [(.a .e, v), (.e, .agg (ii k :: c))]) rfl ?_
    unfold nf91
    have hC : Chg [] m (hp [(.n 0, .cells true (ii k :: c))] 1 m) := hp_of rfl
    simp (config := { maxSteps := 1000000 }) (disch := (first | assumption | omega | exact Nm.old_n (by omega) | exact Nm.old_hp (by assumption) | (simp only [List.length_set, List.length_cons, List.length_nil, List.length_append, List.length_map, List.length_replicate] <;> omega))) only [nmS0, nmS1, nmS2, nmS3, nmS4, nmS5, nmS6, nmS7, Nat.testBit, Nat.reduceShiftRight, Nat.reduceAnd, Nat.reduceBNe, cond_true, cond_false, NT.get_leaf, Nat.reduceSub, d_true, d_false, clsOf, beq_self_eq_true, Int.reduceToNat, Nat.reduceAdd, Nat.reduceMul, Nat.reduceEqDiff, decide_true, decide_false, if_true, if_false, ite_true, ite_false, reduceIte, reduceCtorEq, eq_self, true_and, and_true, true_implies, (contains_int (hv.chg hC fun _ _ => by simp) hsz k).wf']
    exact hK _ _ ⟨rfl, hC⟩
  obtain ⟨r, m', h1, rfl, h2⟩ := h
  exact ⟨m', h1, h2⟩
end FR

open Go Nm Go.Proofs
namespace FR
set_option linter.unusedSimpArgs false
set_option linter.unusedVariables false
/-- what v' goes through v went through, or is new -/
def From (m : NH) (v v' : NV) : Prop := ∀ i ∈ ids v', i ∈ ids v ∨ ¬ Old m i
theorem From.refl (m : NH) (v : NV) : From m v v := fun _ h => Or.inl h
theorem From.trans {m m' : NH} {v v' v'' : NV} (h : From m v v') (h' : From m' v' v'') (ho : ∀ i, Old m i → Old m' i) : From m v v'' := fun i hi => by
  rcases h' i hi with q | q
  · exact h i q
  · exact Or.inr fun o => q (ho i o)
theorem From.chg {m m' m'' : NH} {v v' : NV} (h : From m v v') (hC : Chg (ids v) m m') (hC' : Chg (ids v') m' m'') : Chg (ids v) m m'' := hC.trans hC' fun i hi ho => (h i hi).elim _root_.id fun q => absurd ho q
theorem insN_le (l : List (List Nat)) (s : List Nat) : (insN l s).length ≤ l.length + 1 := by unfold insN; split <;> simp
theorem foldN_le (more : List (List Nat)) : ∀ l : List (List Nat), (more.foldl insN l).length ≤ l.length + more.length := by
  induction more with
  | nil => intro l; simp
  | cons s more ih => intro l; have := ih (insN l s); have := insN_le l s; simp only [List.foldl_cons, List.length_cons]; omega
theorem strs_app (l : List (List Nat)) (s : List Nat) : Strs (l ++ [s]) = Strs l ++ [[.str s]] := by simp
theorem join_loop {B m : NH} {v w : NV} {l more : List (List Nat)} (hv : Own B m v 1 (Strs l)) (hw : Sl m w 1 (Strs more)) (hd : ∀ i ∈ ids w, i ∉ ids v) (hB : ∀ id, Old B id → Old m id) (hsz : l.length + more.length ≤ 1000000000) {t : Tm}
    (g1 : NT.get D4.e t = some v) (g2 : NT.get D4.e.a.c t = some w) (g3 : NT.get D4.e.a.f t = some (ii more.length)) (g4 : NT.get D4.e.b.a t = some (ii 0)) {Q : Out → Dyn → Prop}
    (hQ : ∀ t' M v', NT.get D4.e t' = some v' → Own B M v' 1 (Strs (more.foldl insN l)) → Chg (ids v) m M → From m v v' → Q (.exit 0) ⟨puts [] t', [], none, M⟩) :
    W Try.prog S0 none nf54_l1.loop ⟨t, [], none, m⟩ Q := by
  refine W.loop (fun k d => ∃ t M i v', d = ⟨t, [], none, M⟩ ∧ NT.get D4.e t = some v' ∧ NT.get D4.e.a.c t = some w ∧ NT.get D4.e.a.f t = some (ii more.length) ∧ NT.get D4.e.b.a t = some (ii (i : Nat)) ∧ i + k = more.length ∧ Own B M v' 1 (Strs ((more.take i).foldl insN l)) ∧ Chg (ids v) m M ∧ From m v v') ?_ more.length _ ⟨t, m, 0, v, rfl, g1, g2, g3, g4, by omega, hv, (Chg.refl m).weak (by simp), From.refl m v⟩
  rintro k d ⟨t, M, i, v', rfl, g1, g2, g3, g4, hik, hv, hC, hF⟩
  apply wp_sound
  unfold nf54_l1
  change wp _ _ _ _ ⟨puts [] t, [], none, M⟩ _
  by_cases hi : i < more.length
  · have hwM := hw.chg hC hd
    obtain ⟨id, off, wr, c, a1, a2, a3, a4, a5⟩ := hwM.at i (by simpa using hi)
    rw [List.getElem_map] at a5
    have c0 := cell_at a5 0 (by omega)
    rw [Nat.add_zero] at c0
    have hle := foldN_le (more.take i) l
    rw [List.length_take] at hle
    have hct := contains_str hv.sl (by omega) more[i]
    have htk : (more.take (i + 1)).foldl insN l = insN ((more.take i).foldl insN l) more[i] := by
      rw [List.take_add_one, List.getElem?_eq_getElem hi, Option.toList_some, List.foldl_append]; rfl
    by_cases hin : more[i] ∈ (more.take i).foldl insN l
    · rw [decide_eq_true hin] at hct
      simp (config := { maxSteps := 1000000 }) (disch := (first | assumption | omega | exact Nm.old_n (by omega) | exact Nm.old_hp (by assumption) | (simp only [List.length_set, List.length_cons, List.length_nil, List.length_append, List.length_map, List.length_replicate] <;> omega))) only [nmS0, nmS1, nmS2, nmS3, nmS4, nmS5, nmS6, nmS7, Nat.testBit, Nat.reduceShiftRight, Nat.reduceAnd, Nat.reduceBNe, cond_true, cond_false, NT.get_leaf, Nat.reduceSub, d_true, d_false, clsOf, beq_self_eq_true, Int.reduceToNat, Nat.reduceAdd, Nat.reduceMul, Nat.reduceEqDiff, decide_true, decide_false, if_true, if_false, ite_true, ite_false, reduceIte, reduceCtorEq, eq_self, true_and, and_true, true_implies, g1, g2, g3, g4, a1, a2, c0, hct.wf']
      refine ⟨k - 1, by omega, _, M, i + 1, v', by rfl, ?_, ?_, ?_, ?_, by omega, ?_, hC, hF⟩
      · simp (config := { maxSteps := 1000000 }) (disch := (first | assumption | omega | exact Nm.old_n (by omega) | exact Nm.old_hp (by assumption) | (simp only [List.length_set, List.length_cons, List.length_nil, List.length_append, List.length_map, List.length_replicate] <;> omega))) only [nmS0, nmS1, nmS2, nmS3, nmS4, nmS5, nmS6, nmS7, Nat.testBit, Nat.reduceShiftRight, Nat.reduceAnd, Nat.reduceBNe, cond_true, cond_false, NT.get_leaf, Nat.reduceSub, d_true, d_false, clsOf, beq_self_eq_true, Int.reduceToNat, Nat.reduceAdd, Nat.reduceMul, Nat.reduceEqDiff, decide_true, decide_false, if_true, if_false, ite_true, ite_false, reduceIte, reduceCtorEq, eq_self, true_and, and_true, true_implies, g1]
      · simp (config := { maxSteps := 1000000 }) (disch := (first | assumption | omega | exact Nm.old_n (by omega) | exact Nm.old_hp (by assumption) | (simp only [List.length_set, List.length_cons, List.length_nil, List.length_append, List.length_map, List.length_replicate] <;> omega))) only [nmS0, nmS1, nmS2, nmS3, nmS4, nmS5, nmS6, nmS7, Nat.testBit, Nat.reduceShiftRight, Nat.reduceAnd, Nat.reduceBNe, cond_true, cond_false, NT.get_leaf, Nat.reduceSub, d_true, d_false, clsOf, beq_self_eq_true, Int.reduceToNat, Nat.reduceAdd, Nat.reduceMul, Nat.reduceEqDiff, decide_true, decide_false, if_true, if_false, ite_true, ite_false, reduceIte, reduceCtorEq, eq_self, true_and, and_true, true_implies, g2]
      · simp (config := { maxSteps := 1000000 }) (disch := (first | assumption | omega | exact Nm.old_n (by omega) | exact Nm.old_hp (by assumption) | (simp only [List.length_set, List.length_cons, List.length_nil, List.length_append, List.length_map, List.length_replicate] <;> omega))) only [nmS0, nmS1, nmS2, nmS3, nmS4, nmS5, nmS6, nmS7, Nat.testBit, Nat.reduceShiftRight, Nat.reduceAnd, Nat.reduceBNe, cond_true, cond_false, NT.get_leaf, Nat.reduceSub, d_true, d_false, clsOf, beq_self_eq_true, Int.reduceToNat, Nat.reduceAdd, Nat.reduceMul, Nat.reduceEqDiff, decide_true, decide_false, if_true, if_false, ite_true, ite_false, reduceIte, reduceCtorEq, eq_self, true_and, and_true, true_implies, g3]
      · simp (config := { maxSteps := 1000000 }) (disch := (first | assumption | omega | exact Nm.old_n (by omega) | exact Nm.old_hp (by assumption) | (simp only [List.length_set, List.length_cons, List.length_nil, List.length_append, List.length_map, List.length_replicate] <;> omega))) only [nmS0, nmS1, nmS2, nmS3, nmS4, nmS5, nmS6, nmS7, Nat.testBit, Nat.reduceShiftRight, Nat.reduceAnd, Nat.reduceBNe, cond_true, cond_false, NT.get_leaf, Nat.reduceSub, d_true, d_false, clsOf, beq_self_eq_true, Int.reduceToNat, Nat.reduceAdd, Nat.reduceMul, Nat.reduceEqDiff, decide_true, decide_false, if_true, if_false, ite_true, ite_false, reduceIte, reduceCtorEq, eq_self, true_and, and_true, true_implies]; rfl
      · rw [htk, show insN _ _ = _ from if_pos hin]; exact hv
    · rw [decide_eq_false hin] at hct
      rw [← hp_nil M] at hct ⊢
      simp (config := { maxSteps := 1000000 }) (disch := (first | assumption | omega | exact Nm.old_n (by omega) | exact Nm.old_hp (by assumption) | (simp only [List.length_set, List.length_cons, List.length_nil, List.length_append, List.length_map, List.length_replicate] <;> omega))) only [nmS0, nmS1, nmS2, nmS3, nmS4, nmS5, nmS6, nmS7, Nat.testBit, Nat.reduceShiftRight, Nat.reduceAnd, Nat.reduceBNe, cond_true, cond_false, NT.get_leaf, Nat.reduceSub, d_true, d_false, clsOf, beq_self_eq_true, Int.reduceToNat, Nat.reduceAdd, Nat.reduceMul, Nat.reduceEqDiff, decide_true, decide_false, if_true, if_false, ite_true, ite_false, reduceIte, reduceCtorEq, eq_self, true_and, and_true, true_implies, g1, g2, g3, g4, a1, a2, c0, hct.wf']
      have hC1 : Chg [] M (hp [(.n 0, .cells true [.str more[i]])] 1 M) := hp_of rfl
      refine wNT_app2 (hv.chg hC1 fun _ _ => by simp) h_getN (old_n (by omega)) rfl (fun i hi => hC1.old (hC.old (hB i hi))) (by simp; omega) (by simp; omega) ?_
      intro v2 M2 hv2 hC2 hF2
      simp (config := { maxSteps := 1000000 }) (disch := (first | assumption | omega | exact Nm.old_n (by omega) | exact Nm.old_hp (by assumption) | (simp only [List.length_set, List.length_cons, List.length_nil, List.length_append, List.length_map, List.length_replicate] <;> omega))) only [nmS0, nmS1, nmS2, nmS3, nmS4, nmS5, nmS6, nmS7, Nat.testBit, Nat.reduceShiftRight, Nat.reduceAnd, Nat.reduceBNe, cond_true, cond_false, NT.get_leaf, Nat.reduceSub, d_true, d_false, clsOf, beq_self_eq_true, Int.reduceToNat, Nat.reduceAdd, Nat.reduceMul, Nat.reduceEqDiff, decide_true, decide_false, if_true, if_false, ite_true, ite_false, reduceIte, reduceCtorEq, eq_self, true_and, and_true, true_implies, g1, g2, g3, g4]
      have hF1 : From M v' v2 := fun i hi => (hF2 i hi).imp _root_.id fun q o => q (hC1.old o)
      have hC3 : Chg (ids v') M M2 := (hC1.weak (by simp)).trans hC2 fun _ h _ => h
      refine ⟨k - 1, by omega, _, M2, i + 1, v2, by rfl, ?_, ?_, ?_, ?_, by omega, ?_, hF.chg hC hC3, hF.trans hF1 fun i hi => hC.old hi⟩
      · simp (config := { maxSteps := 1000000 }) (disch := (first | assumption | omega | exact Nm.old_n (by omega) | exact Nm.old_hp (by assumption) | (simp only [List.length_set, List.length_cons, List.length_nil, List.length_append, List.length_map, List.length_replicate] <;> omega))) only [nmS0, nmS1, nmS2, nmS3, nmS4, nmS5, nmS6, nmS7, Nat.testBit, Nat.reduceShiftRight, Nat.reduceAnd, Nat.reduceBNe, cond_true, cond_false, NT.get_leaf, Nat.reduceSub, d_true, d_false, clsOf, beq_self_eq_true, Int.reduceToNat, Nat.reduceAdd, Nat.reduceMul, Nat.reduceEqDiff, decide_true, decide_false, if_true, if_false, ite_true, ite_false, reduceIte, reduceCtorEq, eq_self, true_and, and_true, true_implies]
      · simp (config := { maxSteps := 1000000 }) (disch := (first | assumption | omega | exact Nm.old_n (by omega) | exact Nm.old_hp (by assumption) | (simp only [List.length_set, List.length_cons, List.length_nil, List.length_append, List.length_map, List.length_replicate] <;> omega))) only [nmS0, nmS1, nmS2, nmS3, nmS4, nmS5, nmS6, nmS7, Nat.testBit, Nat.reduceShiftRight, Nat.reduceAnd, Nat.reduceBNe, cond_true, cond_false, NT.get_leaf, Nat.reduceSub, d_true, d_false, clsOf, beq_self_eq_true, Int.reduceToNat, Nat.reduceAdd, Nat.reduceMul, Nat.reduceEqDiff, decide_true, decide_false, if_true, if_false, ite_true, ite_false, reduceIte, reduceCtorEq, eq_self, true_and, and_true, true_implies, g2]
      · simp (config := { maxSteps := 1000000 }) (disch := (first | assumption | omega | exact Nm.old_n (by omega) | exact Nm.old_hp (by assumption) | (simp only [List.length_set, List.length_cons, List.length_nil, List.length_append, List.length_map, List.length_replicate] <;> omega))) only [nmS0, nmS1, nmS2, nmS3, nmS4, nmS5, nmS6, nmS7, Nat.testBit, Nat.reduceShiftRight, Nat.reduceAnd, Nat.reduceBNe, cond_true, cond_false, NT.get_leaf, Nat.reduceSub, d_true, d_false, clsOf, beq_self_eq_true, Int.reduceToNat, Nat.reduceAdd, Nat.reduceMul, Nat.reduceEqDiff, decide_true, decide_false, if_true, if_false, ite_true, ite_false, reduceIte, reduceCtorEq, eq_self, true_and, and_true, true_implies, g3]
      · simp (config := { maxSteps := 1000000 }) (disch := (first | assumption | omega | exact Nm.old_n (by omega) | exact Nm.old_hp (by assumption) | (simp only [List.length_set, List.length_cons, List.length_nil, List.length_append, List.length_map, List.length_replicate] <;> omega))) only [nmS0, nmS1, nmS2, nmS3, nmS4, nmS5, nmS6, nmS7, Nat.testBit, Nat.reduceShiftRight, Nat.reduceAnd, Nat.reduceBNe, cond_true, cond_false, NT.get_leaf, Nat.reduceSub, d_true, d_false, clsOf, beq_self_eq_true, Int.reduceToNat, Nat.reduceAdd, Nat.reduceMul, Nat.reduceEqDiff, decide_true, decide_false, if_true, if_false, ite_true, ite_false, reduceIte, reduceCtorEq, eq_self, true_and, and_true, true_implies]; rfl
      · rw [htk, show insN _ _ = _ from if_neg hin, strs_app]; exact hv2
  · simp (config := { maxSteps := 1000000 }) (disch := (first | assumption | omega | exact Nm.old_n (by omega) | exact Nm.old_hp (by assumption) | (simp only [List.length_set, List.length_cons, List.length_nil, List.length_append, List.length_map, List.length_replicate] <;> omega))) only [nmS0, nmS1, nmS2, nmS3, nmS4, nmS5, nmS6, nmS7, Nat.testBit, Nat.reduceShiftRight, Nat.reduceAnd, Nat.reduceBNe, cond_true, cond_false, NT.get_leaf, Nat.reduceSub, d_true, d_false, clsOf, beq_self_eq_true, Int.reduceToNat, Nat.reduceAdd, Nat.reduceMul, Nat.reduceEqDiff, decide_true, decide_false, if_true, if_false, ite_true, ite_false, reduceIte, reduceCtorEq, eq_self, true_and, and_true, true_implies, g1, g2, g3, g4]
    have e : (more.take i) = more := List.take_of_length_le (by omega)
    rw [e] at hv
    refine hQ _ _ v' ?_ hv hC hF
    simp (config := { maxSteps := 1000000 }) (disch := (first | assumption | omega | exact Nm.old_n (by omega) | exact Nm.old_hp (by assumption) | (simp only [List.length_set, List.length_cons, List.length_nil, List.length_append, List.length_map, List.length_replicate] <;> omega))) only [nmS0, nmS1, nmS2, nmS3, nmS4, nmS5, nmS6, nmS7, Nat.testBit, Nat.reduceShiftRight, Nat.reduceAnd, Nat.reduceBNe, cond_true, cond_false, NT.get_leaf, Nat.reduceSub, d_true, d_false, clsOf, beq_self_eq_true, Int.reduceToNat, Nat.reduceAdd, Nat.reduceMul, Nat.reduceEqDiff, decide_true, decide_false, if_true, if_false, ite_true, ite_false, reduceIte, reduceCtorEq, eq_self, true_and, and_true, true_implies, put_puts, g1]
theorem join_p {B m : NH} {v w : NV} {l more : List (List Nat)} (hv : Own B m v 1 (Strs l)) (hw : Sl m w 1 (Strs more)) (hd : ∀ i ∈ ids w, i ∉ ids v) (hB : ∀ id, Old B id → Old m id) (hsz : l.length + more.length ≤ 1000000000) :
    ∃ v' m', Ret Try.prog S0 54 [v, w] m v' m' ∧ Own B m' v' 1 (Strs (more.foldl insN l)) ∧ Chg (ids v) m m' ∧ From m v v' := by
  refine WF.ex fun K hK => ?_
  refine WF.of_wpG (fun _ => rfl) nf54_eq (L := [(.a .e, w), (.e, v)]) rfl ?_
  unfold nf54
  have hlen := hw.len
  rw [List.length_map] at hlen
  simp (config := { maxSteps := 1000000 }) (disch := (first | assumption | omega | exact Nm.old_n (by omega) | exact Nm.old_hp (by assumption) | (simp only [List.length_set, List.length_cons, List.length_nil, List.length_append, List.length_map, List.length_replicate] <;> omega))) only [nmS0, nmS1, nmS2, nmS3, nmS4, nmS5, nmS6, nmS7, Nat.testBit, Nat.reduceShiftRight, Nat.reduceAnd, Nat.reduceBNe, cond_true, cond_false, NT.get_leaf, Nat.reduceSub, d_true, d_false, clsOf, beq_self_eq_true, Int.reduceToNat, Nat.reduceAdd, Nat.reduceMul, Nat.reduceEqDiff, decide_true, decide_false, if_true, if_false, ite_true, ite_false, reduceIte, reduceCtorEq, eq_self, true_and, and_true, true_implies, hlen, hp_nil]
  refine join_loop hv hw hd hB hsz (by simp (config := { maxSteps := 1000000 }) (disch := (first | assumption | omega | exact Nm.old_n (by omega) | exact Nm.old_hp (by assumption) | (simp only [List.length_set, List.length_cons, List.length_nil, List.length_append, List.length_map, List.length_replicate] <;> omega))) only [nmS0, nmS1, nmS2, nmS3, nmS4, nmS5, nmS6, nmS7, Nat.testBit, Nat.reduceShiftRight, Nat.reduceAnd, Nat.reduceBNe, cond_true, cond_false, NT.get_leaf, Nat.reduceSub, d_true, d_false, clsOf, beq_self_eq_true, Int.reduceToNat, Nat.reduceAdd, Nat.reduceMul, Nat.reduceEqDiff, decide_true, decide_false, if_true, if_false, ite_true, ite_false, reduceIte, reduceCtorEq, eq_self, true_and, and_true, true_implies]) (by simp (config := { maxSteps := 1000000 }) (disch := (first | assumption | omega | exact Nm.old_n (by omega) | exact Nm.old_hp (by assumption) | (simp only [List.length_set, List.length_cons, List.length_nil, List.length_append, List.length_map, List.length_replicate] <;> omega))) only [nmS0, nmS1, nmS2, nmS3, nmS4, nmS5, nmS6, nmS7, Nat.testBit, Nat.reduceShiftRight, Nat.reduceAnd, Nat.reduceBNe, cond_true, cond_false, NT.get_leaf, Nat.reduceSub, d_true, d_false, clsOf, beq_self_eq_true, Int.reduceToNat, Nat.reduceAdd, Nat.reduceMul, Nat.reduceEqDiff, decide_true, decide_false, if_true, if_false, ite_true, ite_false, reduceIte, reduceCtorEq, eq_self, true_and, and_true, true_implies]) (by simp (config := { maxSteps := 1000000 }) (disch := (first | assumption | omega | exact Nm.old_n (by omega) | exact Nm.old_hp (by assumption) | (simp only [List.length_set, List.length_cons, List.length_nil, List.length_append, List.length_map, List.length_replicate] <;> omega))) only [nmS0, nmS1, nmS2, nmS3, nmS4, nmS5, nmS6, nmS7, Nat.testBit, Nat.reduceShiftRight, Nat.reduceAnd, Nat.reduceBNe, cond_true, cond_false, NT.get_leaf, Nat.reduceSub, d_true, d_false, clsOf, beq_self_eq_true, Int.reduceToNat, Nat.reduceAdd, Nat.reduceMul, Nat.reduceEqDiff, decide_true, decide_false, if_true, if_false, ite_true, ite_false, reduceIte, reduceCtorEq, eq_self, true_and, and_true, true_implies]) (by simp (config := { maxSteps := 1000000 }) (disch := (first | assumption | omega | exact Nm.old_n (by omega) | exact Nm.old_hp (by assumption) | (simp only [List.length_set, List.length_cons, List.length_nil, List.length_append, List.length_map, List.length_replicate] <;> omega))) only [nmS0, nmS1, nmS2, nmS3, nmS4, nmS5, nmS6, nmS7, Nat.testBit, Nat.reduceShiftRight, Nat.reduceAnd, Nat.reduceBNe, cond_true, cond_false, NT.get_leaf, Nat.reduceSub, d_true, d_false, clsOf, beq_self_eq_true, Int.reduceToNat, Nat.reduceAdd, Nat.reduceMul, Nat.reduceEqDiff, decide_true, decide_false, if_true, if_false, ite_true, ite_false, reduceIte, reduceCtorEq, eq_self, true_and, and_true, true_implies]) ?_
  intro t' M v' g1 h1 h2 h3
  simp (config := { maxSteps := 1000000 }) (disch := (first | assumption | omega | exact Nm.old_n (by omega) | exact Nm.old_hp (by assumption) | (simp only [List.length_set, List.length_cons, List.length_nil, List.length_append, List.length_map, List.length_replicate] <;> omega))) only [nmS0, nmS1, nmS2, nmS3, nmS4, nmS5, nmS6, nmS7, Nat.testBit, Nat.reduceShiftRight, Nat.reduceAnd, Nat.reduceBNe, cond_true, cond_false, NT.get_leaf, Nat.reduceSub, d_true, d_false, clsOf, beq_self_eq_true, Int.reduceToNat, Nat.reduceAdd, Nat.reduceMul, Nat.reduceEqDiff, decide_true, decide_false, if_true, if_false, ite_true, ite_false, reduceIte, reduceCtorEq, eq_self, true_and, and_true, true_implies, g1]
  exact hK _ _ ⟨h1, h2, h3⟩
end FR

open Go Nm Go.Proofs
namespace FR
set_option linter.unusedSimpArgs false
set_option linter.unusedVariables false
/-- what inExpr does for an expression -/
def InE (x : Ex) : Prop := ∀ {m0 : NH} {T : D4 → Prop} {c : List NV} {B m : NH} {v : NV} {l : List (List Nat)}, RE m0 T x c → Chg [] m0 m → Own B m v 1 (Strs l) → (∀ i, Old m0 i → Old B i) → (∀ i, Old B i → Old m i) → l.length + x.sz ≤ 1000000000 →
  ∃ v' m', Ret Try.prog S0 100 [v, .agg c] m v' m' ∧ Own B m' v' 1 (Strs (l ++ x.names)) ∧ Chg (ids v) m m' ∧ From m v v'
theorem own_base {m0 B m m' : NH} {v : NV} {e : Nat} {C : List (List NV)} (hv : Own B m v e C) (h0 : ∀ i, Old m0 i → Old B i) (hC0 : Chg [] m0 m) (hC : Chg (ids v) m m') : Chg [] m0 m' :=
  hC0.trans hC fun i hi ho => absurd (h0 i ho) (hv.new i hi)
theorem take_succ_names {ks : List Ex} {i : Nat} (hi : i < ks.length) : namesL (ks.take (i + 1)) = namesL (ks.take i) ++ ks[i].names := by
  rw [List.take_add_one, List.getElem?_eq_getElem hi, Option.toList_some, namesL_append, namesL, namesL, List.append_nil]
theorem szL_take (ks : List Ex) (i : Nat) (hi : i < ks.length) : (namesL (ks.take i)).length + ks[i].sz ≤ szL ks := by
  induction ks generalizing i with
  | nil => simp at hi
  | cons x ks ih =>
    cases i with
    | zero => simp [namesL, szL]
    | succ i =>
      have h1 := names_le x
      have := ih i (by simpa using hi)
      simp only [List.take_succ_cons, namesL, szL, List.length_append, List.getElem_cons_succ]; omega
theorem inExpr_loop {m0 : NH} {T : D4 → Prop} {ks : List Ex} {vk : NV} {C : List (List NV)} (hS : SE m0 T vk ks C) (ih : ∀ x ∈ ks, InE x) {B m : NH} {v : NV} {l : List (List Nat)} (hC0 : Chg [] m0 m) (hv : Own B m v 1 (Strs l)) (h0 : ∀ i, Old m0 i → Old B i) (hB : ∀ i, Old B i → Old m i)
    (hsz : l.length + szL ks ≤ 1000000000) {t : Tm} (g1 : NT.get D4.e t = some v) (g2 : NT.get D4.e.f.c t = some vk) (g3 : NT.get D4.e.f.f t = some (ii ks.length)) (g4 : NT.get D4.e.a.a.a t = some (ii 0)) {Q : Out → Dyn → Prop}
    (hQ : ∀ t' M v', NT.get D4.e t' = some v' → Own B M v' 1 (Strs (l ++ namesL ks)) → Chg (ids v) m M → From m v v' → Q (.exit 1) ⟨puts [] t', [], none, M⟩) :
    W Try.prog S0 none nf100_l1.loop ⟨t, [], none, m⟩ Q := by
  refine W.loop (fun k d => ∃ t M i v', d = ⟨t, [], none, M⟩ ∧ NT.get D4.e t = some v' ∧ NT.get D4.e.f.c t = some vk ∧ NT.get D4.e.f.f t = some (ii ks.length) ∧ NT.get D4.e.a.a.a t = some (ii (i : Nat)) ∧ i + k = ks.length ∧ Own B M v' 1 (Strs (l ++ namesL (ks.take i))) ∧ Chg (ids v) m M ∧ From m v v') ?_ ks.length _ ⟨t, m, 0, v, rfl, g1, g2, g3, g4, by omega, by simpa [namesL] using hv, (Chg.refl m).weak (by simp), From.refl m v⟩
  rintro k d ⟨t, M, i, v', rfl, g1, g2, g3, g4, hik, hv', hC, hF⟩
  apply wp_sound
  unfold nf100_l1
  change wp _ _ _ _ ⟨puts [] t, [], none, M⟩ _
  have hCM := own_base hv h0 hC0 hC
  by_cases hi : i < ks.length
  · have hSM := (hS.stays (stN hCM T))
    obtain ⟨cx, hcx, hRx⟩ := hS.at i hi
    obtain ⟨id, off, wr, c, a1, a2, a3, a4, a5⟩ := hSM.sl.at i (by rw [hS.len]; exact hi)
    have ecx : C[i]'(by rw [hS.len]; exact hi) = cx := by
      have := List.getElem?_eq_getElem (l := C) (i := i) (by rw [hS.len]; exact hi)
      rw [this] at hcx; injection hcx
    rw [ecx] at a5
    obtain ⟨vx, Cx, rfl, -⟩ := hRx.inv'
    have hszi := szL_take ks i hi
    rw [← hp_nil M]
    have hl5 : (ks[i].l vx).length = 5 := rfl
    have hls := len_szL ks
    have hl5' : (ks[i].l vx).take 5 = ks[i].l vx := rfl
    simp (config := { maxSteps := 1000000 }) (disch := (first | assumption | omega | exact Nm.old_n (by omega) | exact Nm.old_hp (by assumption) | (simp only [List.length_set, List.length_cons, List.length_nil, List.length_append, List.length_map, List.length_replicate] <;> omega))) only [nmS0, nmS1, nmS2, nmS3, nmS4, nmS5, nmS6, nmS7, Nat.testBit, Nat.reduceShiftRight, Nat.reduceAnd, Nat.reduceBNe, cond_true, cond_false, NT.get_leaf, Nat.reduceSub, d_true, d_false, clsOf, beq_self_eq_true, Int.reduceToNat, Nat.reduceAdd, Nat.reduceMul, Nat.reduceEqDiff, decide_true, decide_false, if_true, if_false, ite_true, ite_false, reduceIte, reduceCtorEq, eq_self, true_and, and_true, true_implies, g1, g2, g3, g4, a1, a2, a5, hl5, hl5']
    generalize hM1 : hp _ 1 M = M1
    have hC1 : Chg [] M M1 := by rw [← hM1]; exact hp_of rfl
    refine WF.use (ih ks[i] (List.getElem_mem hi) hRx (hCM.trans hC1 (by simp)) (hv'.chg hC1 fun _ _ => by simp) h0 (fun i hi => hC1.old (hC.old (hB i hi))) (by rw [List.length_append]; omega)) ?_
    rintro v2 M2 ⟨hv2, hC2, hF2⟩
    simp (config := { maxSteps := 1000000 }) (disch := (first | assumption | omega | exact Nm.old_n (by omega) | exact Nm.old_hp (by assumption) | (simp only [List.length_set, List.length_cons, List.length_nil, List.length_append, List.length_map, List.length_replicate] <;> omega))) only [nmS0, nmS1, nmS2, nmS3, nmS4, nmS5, nmS6, nmS7, Nat.testBit, Nat.reduceShiftRight, Nat.reduceAnd, Nat.reduceBNe, cond_true, cond_false, NT.get_leaf, Nat.reduceSub, d_true, d_false, clsOf, beq_self_eq_true, Int.reduceToNat, Nat.reduceAdd, Nat.reduceMul, Nat.reduceEqDiff, decide_true, decide_false, if_true, if_false, ite_true, ite_false, reduceIte, reduceCtorEq, eq_self, true_and, and_true, true_implies, g1, g2, g3, g4]
    have hC3 : Chg (ids v') M M2 := (hC1.weak (by simp)).trans hC2 fun _ h _ => h
    refine ⟨k - 1, by omega, _, M2, i + 1, v2, by rfl, ?_, ?_, ?_, ?_, by omega, ?_, hF.chg hC hC3, hF.trans (fun i hi => (hF2 i hi).imp _root_.id fun q o => q (hC1.old o)) fun i hi => hC.old hi⟩
    · simp (config := { maxSteps := 1000000 }) (disch := (first | assumption | omega | exact Nm.old_n (by omega) | exact Nm.old_hp (by assumption) | (simp only [List.length_set, List.length_cons, List.length_nil, List.length_append, List.length_map, List.length_replicate] <;> omega))) only [nmS0, nmS1, nmS2, nmS3, nmS4, nmS5, nmS6, nmS7, Nat.testBit, Nat.reduceShiftRight, Nat.reduceAnd, Nat.reduceBNe, cond_true, cond_false, NT.get_leaf, Nat.reduceSub, d_true, d_false, clsOf, beq_self_eq_true, Int.reduceToNat, Nat.reduceAdd, Nat.reduceMul, Nat.reduceEqDiff, decide_true, decide_false, if_true, if_false, ite_true, ite_false, reduceIte, reduceCtorEq, eq_self, true_and, and_true, true_implies]
    · simp (config := { maxSteps := 1000000 }) (disch := (first | assumption | omega | exact Nm.old_n (by omega) | exact Nm.old_hp (by assumption) | (simp only [List.length_set, List.length_cons, List.length_nil, List.length_append, List.length_map, List.length_replicate] <;> omega))) only [nmS0, nmS1, nmS2, nmS3, nmS4, nmS5, nmS6, nmS7, Nat.testBit, Nat.reduceShiftRight, Nat.reduceAnd, Nat.reduceBNe, cond_true, cond_false, NT.get_leaf, Nat.reduceSub, d_true, d_false, clsOf, beq_self_eq_true, Int.reduceToNat, Nat.reduceAdd, Nat.reduceMul, Nat.reduceEqDiff, decide_true, decide_false, if_true, if_false, ite_true, ite_false, reduceIte, reduceCtorEq, eq_self, true_and, and_true, true_implies, g2]
    · simp (config := { maxSteps := 1000000 }) (disch := (first | assumption | omega | exact Nm.old_n (by omega) | exact Nm.old_hp (by assumption) | (simp only [List.length_set, List.length_cons, List.length_nil, List.length_append, List.length_map, List.length_replicate] <;> omega))) only [nmS0, nmS1, nmS2, nmS3, nmS4, nmS5, nmS6, nmS7, Nat.testBit, Nat.reduceShiftRight, Nat.reduceAnd, Nat.reduceBNe, cond_true, cond_false, NT.get_leaf, Nat.reduceSub, d_true, d_false, clsOf, beq_self_eq_true, Int.reduceToNat, Nat.reduceAdd, Nat.reduceMul, Nat.reduceEqDiff, decide_true, decide_false, if_true, if_false, ite_true, ite_false, reduceIte, reduceCtorEq, eq_self, true_and, and_true, true_implies, g3]
    · simp (config := { maxSteps := 1000000 }) (disch := (first | assumption | omega | exact Nm.old_n (by omega) | exact Nm.old_hp (by assumption) | (simp only [List.length_set, List.length_cons, List.length_nil, List.length_append, List.length_map, List.length_replicate] <;> omega))) only [nmS0, nmS1, nmS2, nmS3, nmS4, nmS5, nmS6, nmS7, Nat.testBit, Nat.reduceShiftRight, Nat.reduceAnd, Nat.reduceBNe, cond_true, cond_false, NT.get_leaf, Nat.reduceSub, d_true, d_false, clsOf, beq_self_eq_true, Int.reduceToNat, Nat.reduceAdd, Nat.reduceMul, Nat.reduceEqDiff, decide_true, decide_false, if_true, if_false, ite_true, ite_false, reduceIte, reduceCtorEq, eq_self, true_and, and_true, true_implies]; rfl
    · rw [take_succ_names hi, ← List.append_assoc]; exact hv2
  · simp (config := { maxSteps := 1000000 }) (disch := (first | assumption | omega | exact Nm.old_n (by omega) | exact Nm.old_hp (by assumption) | (simp only [List.length_set, List.length_cons, List.length_nil, List.length_append, List.length_map, List.length_replicate] <;> omega))) only [nmS0, nmS1, nmS2, nmS3, nmS4, nmS5, nmS6, nmS7, Nat.testBit, Nat.reduceShiftRight, Nat.reduceAnd, Nat.reduceBNe, cond_true, cond_false, NT.get_leaf, Nat.reduceSub, d_true, d_false, clsOf, beq_self_eq_true, Int.reduceToNat, Nat.reduceAdd, Nat.reduceMul, Nat.reduceEqDiff, decide_true, decide_false, if_true, if_false, ite_true, ite_false, reduceIte, reduceCtorEq, eq_self, true_and, and_true, true_implies, g1, g2, g3, g4]
    have e : (ks.take i) = ks := List.take_of_length_le (by omega)
    rw [e] at hv'
    refine hQ _ _ v' ?_ hv' hC hF
    simp (config := { maxSteps := 1000000 }) (disch := (first | assumption | omega | exact Nm.old_n (by omega) | exact Nm.old_hp (by assumption) | (simp only [List.length_set, List.length_cons, List.length_nil, List.length_append, List.length_map, List.length_replicate] <;> omega))) only [nmS0, nmS1, nmS2, nmS3, nmS4, nmS5, nmS6, nmS7, Nat.testBit, Nat.reduceShiftRight, Nat.reduceAnd, Nat.reduceBNe, cond_true, cond_false, NT.get_leaf, Nat.reduceSub, d_true, d_false, clsOf, beq_self_eq_true, Int.reduceToNat, Nat.reduceAdd, Nat.reduceMul, Nat.reduceEqDiff, decide_true, decide_false, if_true, if_false, ite_true, ite_false, reduceIte, reduceCtorEq, eq_self, true_and, and_true, true_implies, put_puts, g1]
theorem inExpr_p : ∀ x, InE x := by
  apply Ex.ind
  intro kd n o s ks ih m0 T c B m v l hR hC0 hv h0 hB hsz
  obtain ⟨vk, C, rfl, hS⟩ := hR.inv
  rw [Ex.sz] at hsz
  refine WF.ex fun K hK => ?_
  refine WF.of_wpG (fun _ => rfl) nf100_eq (L := [(.a .e, .agg [ii kd, u64 n, u8 o, .str s, vk]), (.e, v)]) rfl ?_
  unfold nf100
  have hC1 : Chg [] m (hp [(.n 0, .cells true [ii kd, u64 n, u8 o, .str s, vk])] 1 m) := hp_of rfl
  have hlen := (hS.stays (stN (hC0.trans hC1 (by simp)) T)).sl.len
  rw [hS.len] at hlen
  by_cases h1 : kd = 1
  · subst h1
    simp (config := { maxSteps := 1000000 }) (disch := (first | assumption | omega | exact Nm.old_n (by omega) | exact Nm.old_hp (by assumption) | (simp only [List.length_set, List.length_cons, List.length_nil, List.length_append, List.length_map, List.length_replicate] <;> omega))) only [nmS0, nmS1, nmS2, nmS3, nmS4, nmS5, nmS6, nmS7, Nat.testBit, Nat.reduceShiftRight, Nat.reduceAnd, Nat.reduceBNe, cond_true, cond_false, NT.get_leaf, Nat.reduceSub, d_true, d_false, clsOf, beq_self_eq_true, Int.reduceToNat, Nat.reduceAdd, Nat.reduceMul, Nat.reduceEqDiff, decide_true, decide_false, if_true, if_false, ite_true, ite_false, reduceIte, reduceCtorEq, eq_self, true_and, and_true, true_implies]
    have hC2 : Chg [] m (hp [(.n 1, .cells true [.str s]), (.n 0, .cells true [ii 1, u64 n, u8 o, .str s, vk])] 2 m) := hp_of rfl
    refine wNT_app2 (hv.chg hC2 fun _ _ => by simp) h_getN (old_n (by omega)) rfl (fun i hi => hC2.old (hB i hi)) (by simp; omega) (by simp; omega) ?_
    intro v2 M2 hv2 hC3 hF2
    simp (config := { maxSteps := 1000000 }) (disch := (first | assumption | omega | exact Nm.old_n (by omega) | exact Nm.old_hp (by assumption) | (simp only [List.length_set, List.length_cons, List.length_nil, List.length_append, List.length_map, List.length_replicate] <;> omega))) only [nmS0, nmS1, nmS2, nmS3, nmS4, nmS5, nmS6, nmS7, Nat.testBit, Nat.reduceShiftRight, Nat.reduceAnd, Nat.reduceBNe, cond_true, cond_false, NT.get_leaf, Nat.reduceSub, d_true, d_false, clsOf, beq_self_eq_true, Int.reduceToNat, Nat.reduceAdd, Nat.reduceMul, Nat.reduceEqDiff, decide_true, decide_false, if_true, if_false, ite_true, ite_false, reduceIte, reduceCtorEq, eq_self, true_and, and_true, true_implies]
    refine hK _ _ ⟨?_, (hC2.weak (by simp)).trans hC3 fun _ h _ => h, fun i hi => (hF2 i hi).imp _root_.id fun q o => q (hC2.old o)⟩
    rw [Ex.names, if_pos rfl, strs_app]; exact hv2
  · by_cases h2 : kd = 2
    · subst h2
      simp (config := { maxSteps := 1000000 }) (disch := (first | assumption | omega | exact Nm.old_n (by omega) | exact Nm.old_hp (by assumption) | (simp only [List.length_set, List.length_cons, List.length_nil, List.length_append, List.length_map, List.length_replicate] <;> omega))) only [nmS0, nmS1, nmS2, nmS3, nmS4, nmS5, nmS6, nmS7, Nat.testBit, Nat.reduceShiftRight, Nat.reduceAnd, Nat.reduceBNe, cond_true, cond_false, NT.get_leaf, Nat.reduceSub, d_true, d_false, clsOf, beq_self_eq_true, Int.reduceToNat, Nat.reduceAdd, Nat.reduceMul, Nat.reduceEqDiff, decide_true, decide_false, if_true, if_false, ite_true, ite_false, reduceIte, reduceCtorEq, eq_self, true_and, and_true, true_implies, hlen]
      refine inExpr_loop hS ih (hC0.trans hC1 (by simp)) (hv.chg hC1 fun _ _ => by simp) h0 (fun i hi => hC1.old (hB i hi)) (by omega) (by simp (config := { maxSteps := 1000000 }) (disch := (first | assumption | omega | exact Nm.old_n (by omega) | exact Nm.old_hp (by assumption) | (simp only [List.length_set, List.length_cons, List.length_nil, List.length_append, List.length_map, List.length_replicate] <;> omega))) only [nmS0, nmS1, nmS2, nmS3, nmS4, nmS5, nmS6, nmS7, Nat.testBit, Nat.reduceShiftRight, Nat.reduceAnd, Nat.reduceBNe, cond_true, cond_false, NT.get_leaf, Nat.reduceSub, d_true, d_false, clsOf, beq_self_eq_true, Int.reduceToNat, Nat.reduceAdd, Nat.reduceMul, Nat.reduceEqDiff, decide_true, decide_false, if_true, if_false, ite_true, ite_false, reduceIte, reduceCtorEq, eq_self, true_and, and_true, true_implies]) (by simp (config := { maxSteps := 1000000 }) (disch := (first | assumption | omega | exact Nm.old_n (by omega) | exact Nm.old_hp (by assumption) | (simp only [List.length_set, List.length_cons, List.length_nil, List.length_append, List.length_map, List.length_replicate] <;> omega))) only [nmS0, nmS1, nmS2, nmS3, nmS4, nmS5, nmS6, nmS7, Nat.testBit, Nat.reduceShiftRight, Nat.reduceAnd, Nat.reduceBNe, cond_true, cond_false, NT.get_leaf, Nat.reduceSub, d_true, d_false, clsOf, beq_self_eq_true, Int.reduceToNat, Nat.reduceAdd, Nat.reduceMul, Nat.reduceEqDiff, decide_true, decide_false, if_true, if_false, ite_true, ite_false, reduceIte, reduceCtorEq, eq_self, true_and, and_true, true_implies]) (by simp (config := { maxSteps := 1000000 }) (disch := (first | assumption | omega | exact Nm.old_n (by omega) | exact Nm.old_hp (by assumption) | (simp only [List.length_set, List.length_cons, List.length_nil, List.length_append, List.length_map, List.length_replicate] <;> omega))) only [nmS0, nmS1, nmS2, nmS3, nmS4, nmS5, nmS6, nmS7, Nat.testBit, Nat.reduceShiftRight, Nat.reduceAnd, Nat.reduceBNe, cond_true, cond_false, NT.get_leaf, Nat.reduceSub, d_true, d_false, clsOf, beq_self_eq_true, Int.reduceToNat, Nat.reduceAdd, Nat.reduceMul, Nat.reduceEqDiff, decide_true, decide_false, if_true, if_false, ite_true, ite_false, reduceIte, reduceCtorEq, eq_self, true_and, and_true, true_implies]) (by simp (config := { maxSteps := 1000000 }) (disch := (first | assumption | omega | exact Nm.old_n (by omega) | exact Nm.old_hp (by assumption) | (simp only [List.length_set, List.length_cons, List.length_nil, List.length_append, List.length_map, List.length_replicate] <;> omega))) only [nmS0, nmS1, nmS2, nmS3, nmS4, nmS5, nmS6, nmS7, Nat.testBit, Nat.reduceShiftRight, Nat.reduceAnd, Nat.reduceBNe, cond_true, cond_false, NT.get_leaf, Nat.reduceSub, d_true, d_false, clsOf, beq_self_eq_true, Int.reduceToNat, Nat.reduceAdd, Nat.reduceMul, Nat.reduceEqDiff, decide_true, decide_false, if_true, if_false, ite_true, ite_false, reduceIte, reduceCtorEq, eq_self, true_and, and_true, true_implies]) ?_
      intro t' M v' g1 q1 q2 q3
      simp (config := { maxSteps := 1000000 }) (disch := (first | assumption | omega | exact Nm.old_n (by omega) | exact Nm.old_hp (by assumption) | (simp only [List.length_set, List.length_cons, List.length_nil, List.length_append, List.length_map, List.length_replicate] <;> omega))) only [nmS0, nmS1, nmS2, nmS3, nmS4, nmS5, nmS6, nmS7, Nat.testBit, Nat.reduceShiftRight, Nat.reduceAnd, Nat.reduceBNe, cond_true, cond_false, NT.get_leaf, Nat.reduceSub, d_true, d_false, clsOf, beq_self_eq_true, Int.reduceToNat, Nat.reduceAdd, Nat.reduceMul, Nat.reduceEqDiff, decide_true, decide_false, if_true, if_false, ite_true, ite_false, reduceIte, reduceCtorEq, eq_self, true_and, and_true, true_implies, g1]
      refine hK _ _ ⟨?_, (hC1.weak (by simp)).trans q2 fun _ h _ => h, fun i hi => (q3 i hi).imp _root_.id fun q o => q (hC1.old o)⟩
      rw [Ex.names, if_neg (by omega), if_pos rfl]; exact q1
    · simp (config := { maxSteps := 1000000 }) (disch := (first | assumption | omega | exact Nm.old_n (by omega) | exact Nm.old_hp (by assumption) | (simp only [List.length_set, List.length_cons, List.length_nil, List.length_append, List.length_map, List.length_replicate] <;> omega))) only [nmS0, nmS1, nmS2, nmS3, nmS4, nmS5, nmS6, nmS7, Nat.testBit, Nat.reduceShiftRight, Nat.reduceAnd, Nat.reduceBNe, cond_true, cond_false, NT.get_leaf, Nat.reduceSub, d_true, d_false, clsOf, beq_self_eq_true, Int.reduceToNat, Nat.reduceAdd, Nat.reduceMul, Nat.reduceEqDiff, decide_true, decide_false, if_true, if_false, ite_true, ite_false, reduceIte, reduceCtorEq, eq_self, true_and, and_true, true_implies]
      refine hK _ _ ⟨?_, hC1.weak (by simp), From.refl m v⟩
      rw [Ex.names, if_neg h1, if_neg h2, List.append_nil]; exact hv.chg hC1 fun _ _ => by simp
end FR

open Go Nm Go.Proofs
namespace FR
set_option linter.unusedSimpArgs false
set_option linter.unusedVariables false
/-- a statement's cells, with the rows it has -/
structure SV where
  (vi vx vy vb ve : NV)
def Stm.k : Stm → Int | .mk k _ _ _ _ _ _ _ _ => k
def Stm.a : Stm → Int | .mk _ a _ _ _ _ _ _ _ => a
def Stm.nm : Stm → List Nat | .mk _ _ s _ _ _ _ _ _ => s
def Stm.ce : Stm → List Nat | .mk _ _ _ s _ _ _ _ _ => s
def Stm.i : Stm → Ex | .mk _ _ _ _ x _ _ _ _ => x
def Stm.x : Stm → Ex | .mk _ _ _ _ _ x _ _ _ => x
def Stm.y : Stm → Ex | .mk _ _ _ _ _ _ x _ _ => x
def Stm.b : Stm → List Stm | .mk _ _ _ _ _ _ _ b _ => b
def Stm.e : Stm → List Stm | .mk _ _ _ _ _ _ _ _ e => e
abbrev Stm.l (s : Stm) (w : SV) : List NV := [ii s.k, ii s.a, .str s.nm, .str s.ce, ii s.i.k, u64 s.i.n, u8 s.i.o, .str s.i.s, w.vi, ii s.x.k, u64 s.x.n, u8 s.x.o, .str s.x.s, w.vx, ii s.y.k, u64 s.y.n, u8 s.y.o, .str s.y.s, w.vy, w.vb, w.ve]
/-- a statement's parts -/
structure SP (m : NH) (T : D4 → Prop) (s : Stm) (w : SV) : Prop where
  i : RE m T s.i (s.i.l w.vi)
  x : RE m T s.x (s.x.l w.vx)
  y : RE m T s.y (s.y.l w.vy)
  b : ∃ B, SS m T w.vb s.b B
  e : ∃ E, SS m T w.ve s.e E
theorem RS.inv' {m : NH} {T : D4 → Prop} {s : Stm} {c : List NV} (h : RS m T s c) : ∃ w, c = s.l w ∧ SP m T s w := by
  cases s
  obtain ⟨vi, vx, vy, vb, ve, B, E, rfl, h1, h2, h3, h4, h5⟩ := h.inv
  exact ⟨⟨vi, vx, vy, vb, ve⟩, rfl, h1, h2, h3, ⟨B, h4⟩, ⟨E, h5⟩⟩
theorem own_eq (s : Stm) : s.own = (if s.k = 0 ∨ s.k = 1 ∨ s.k = 3 then [s.nm] else []) ++ ((if s.k = 1 ∨ s.k = 2 ∨ s.k = 3 then s.i.names else []) ++ ((if s.k = 0 ∨ s.k = 2 ∨ s.k = 3 ∨ s.k = 5 ∨ s.k = 6 ∨ s.k = 7 then s.x.names else []) ++ (if s.k = 3 then s.y.names else []))) := by cases s; rfl
theorem sz_eq (s : Stm) : s.sz = 1 + s.i.sz + s.x.sz + s.y.sz + szB s.b + szB s.e := by cases s; rfl
theorem ints_flat (l : List Int) : (Ints l).flatten = l.map ii := by
  induction l with
  | nil => rfl
  | cons a l ih => show [ii a] ++ (Ints l).flatten = _; rw [ih]; rfl
theorem has_w (M : NH) {k : Int} (l : List Int) {n : Nat} {c : List NV} (hc : c.length = 20) (hn : n = l.length) (hl : l.length ≤ 10) : ∃ m', Ret Try.prog S0 91 [.agg (ii k :: c), .slc M.next 0 n 1 n] (M.add (.cells true (l.map ii))) (.bool (decide (k ∈ l))) m' ∧ Chg [] M m' := by
  subst hn
  have h : Sl (M.add (.cells true (l.map ii))) (.slc M.next 0 l.length 1 l.length) 1 (Ints l) :=
    (Own.of (B := M) (by simp) (fun q => Nat.lt_irrefl _ q) (NH.get_add_same M _) (old_next M _) (ints_flat l).symm (by simp) (by simp)).sl
  obtain ⟨m', h1, h2⟩ := has_p _ h (by omega) (k := k) hc
  exact ⟨m', h1, (Chg.add M _).trans h2 (by simp)⟩
theorem names_p {m0 m : NH} {T : D4 → Prop} {s : Stm} {c : List NV} (hR : RS m0 T s c) (hC0 : Chg [] m0 m) (hsz : s.sz ≤ 100000000) :
    ∃ v m', Ret Try.prog S0 55 [.agg c] m v m' ∧ Own m m' v 1 (Strs s.own) ∧ Chg [] m m' := by
  obtain ⟨w, rfl, hP⟩ := hR.inv'
  refine WF.ex fun K hK => ?_
  refine WF.of_wpG (fun _ => rfl) nf55_eq (L := [(.e, .agg (s.l w))]) rfl ?_
  unfold nf55
  rw [sz_eq] at hsz
  have hni := names_le s.i
  have hnx := names_le s.x
  have hny := names_le s.y
  generalize hm1 : hp [(.n 0, .cells true (s.l w))] 1 m = m1
  have hC1 : Chg [] m m1 := by rw [← hm1]; exact hp_of rfl
  have hC01 : Chg [] m0 m1 := hC0.trans hC1 (by simp)
  have hg0 : m1.get (na m 0) = some (.cells true (s.l w)) := by rw [← hm1]; exact h_getN
  have ho0 : Old m1 (na m 0) := by rw [← hm1]; exact old_n (by omega)
  let Φ : List (List Nat) → Dyn → Prop := fun l d => ∃ t M v, d = ⟨t, [], none, M⟩ ∧ NT.get D4.e.a t = some (.ptr (na m 0) 0) ∧ NT.get D4.e.c t = some v ∧ Own m1 M v 1 (Strs l) ∧ Chg [] m1 M
  have hl21 : (s.l w).length = 21 := rfl
  have hl21' : (s.l w).take 21 = s.l w := rfl
  have hins : ∀ {M M' : NH} {v : NV} {l : List (List Nat)} {x : Ex} {c : List NV}, Chg [] m1 M → Chg [] M M' → Own m1 M v 1 (Strs l) → RE m0 T x c → l.length + x.sz ≤ 1000000000 → ∃ v' M'', Ret Try.prog S0 100 [v, .agg c] M' v' M'' ∧ Own m1 M'' v' 1 (Strs (l ++ x.names)) ∧ Chg [] m1 M'' := by
    intro M M' v l x c h1 h2 h3 h4 h5
    have hC' := h1.trans h2 (by simp)
    obtain ⟨v', M'', q1, q2, q3, -⟩ := inExpr_p x h4 (hC01.trans hC' (by simp)) (h3.chg h2 fun _ _ => by simp) (fun i hi => hC01.old hi) (fun i hi => hC'.old hi) h5
    exact ⟨v', M'', q1, q2, own_base h3 (fun i hi => hi) h1 ((h2.weak (by simp)).trans q3 fun _ h _ => h)⟩
  refine cutK (fun d => d = ⟨puts [(.a .e, .ptr (na m 0) 0), (.b .e, .nils), (.e, .agg (s.l w))] .leaf, [], none, m1⟩) (fun R hR => ?_) ?_
  · simp (config := { maxSteps := 1000000 }) (disch := (first | assumption | omega | exact Nm.old_n (by omega) | exact Nm.old_hp (by assumption) | (simp only [List.length_set, List.length_cons, List.length_nil, List.length_append, List.length_map, List.length_replicate] <;> omega))) only [nmS0, nmS1, nmS2, nmS3, nmS4, nmS5, nmS6, nmS7, Nat.testBit, Nat.reduceShiftRight, Nat.reduceAnd, Nat.reduceBNe, cond_true, cond_false, NT.get_leaf, Nat.reduceSub, d_true, d_false, clsOf, beq_self_eq_true, Int.reduceToNat, Nat.reduceAdd, Nat.reduceMul, Nat.reduceEqDiff, decide_true, decide_false, if_true, if_false, ite_true, ite_false, reduceIte, reduceCtorEq, eq_self, true_and, and_true, true_implies, hm1]
    exact hR _ rfl
  rintro d rfl
  refine cutK (Φ []) (fun R hR => ?_) ?_
  · simp (config := { maxSteps := 1000000 }) (disch := (first | assumption | omega | exact Nm.old_n (by omega) | exact Nm.old_hp (by assumption) | (simp only [List.length_set, List.length_cons, List.length_nil, List.length_append, List.length_map, List.length_replicate] <;> omega))) only [nmS0, nmS1, nmS2, nmS3, nmS4, nmS5, nmS6, nmS7, Nat.testBit, Nat.reduceShiftRight, Nat.reduceAnd, Nat.reduceBNe, cond_true, cond_false, NT.get_leaf, Nat.reduceSub, d_true, d_false, clsOf, beq_self_eq_true, Int.reduceToNat, Nat.reduceAdd, Nat.reduceMul, Nat.reduceEqDiff, decide_true, decide_false, if_true, if_false, ite_true, ite_false, reduceIte, reduceCtorEq, eq_self, true_and, and_true, true_implies]
    exact hR _ ⟨_, _, .nils, rfl, by simp (config := { maxSteps := 1000000 }) (disch := (first | assumption | omega | exact Nm.old_n (by omega) | exact Nm.old_hp (by assumption) | (simp only [List.length_set, List.length_cons, List.length_nil, List.length_append, List.length_map, List.length_replicate] <;> omega))) only [nmS0, nmS1, nmS2, nmS3, nmS4, nmS5, nmS6, nmS7, Nat.testBit, Nat.reduceShiftRight, Nat.reduceAnd, Nat.reduceBNe, cond_true, cond_false, NT.get_leaf, Nat.reduceSub, d_true, d_false, clsOf, beq_self_eq_true, Int.reduceToNat, Nat.reduceAdd, Nat.reduceMul, Nat.reduceEqDiff, decide_true, decide_false, if_true, if_false, ite_true, ite_false, reduceIte, reduceCtorEq, eq_self, true_and, and_true, true_implies], by simp (config := { maxSteps := 1000000 }) (disch := (first | assumption | omega | exact Nm.old_n (by omega) | exact Nm.old_hp (by assumption) | (simp only [List.length_set, List.length_cons, List.length_nil, List.length_append, List.length_map, List.length_replicate] <;> omega))) only [nmS0, nmS1, nmS2, nmS3, nmS4, nmS5, nmS6, nmS7, Nat.testBit, Nat.reduceShiftRight, Nat.reduceAnd, Nat.reduceBNe, cond_true, cond_false, NT.get_leaf, Nat.reduceSub, d_true, d_false, clsOf, beq_self_eq_true, Int.reduceToNat, Nat.reduceAdd, Nat.reduceMul, Nat.reduceEqDiff, decide_true, decide_false, if_true, if_false, ite_true, ite_false, reduceIte, reduceCtorEq, eq_self, true_and, and_true, true_implies], Own.nil, Chg.refl m1⟩
  rintro d ⟨t, M, v, rfl, g1, g2, hv, hC⟩
  change wp _ _ _ _ ⟨puts [] t, [], none, M⟩ _
  refine cutK (Φ (if s.k = 0 ∨ s.k = 1 ∨ s.k = 3 then [s.nm] else [])) (fun R hR => ?_) ?_
  · have hgM := (hC.get ho0 (by simp)).trans hg0
    simp (config := { maxSteps := 1000000 }) (disch := (first | assumption | omega | exact Nm.old_n (by omega) | exact Nm.old_hp (by assumption) | (simp only [List.length_set, List.length_cons, List.length_nil, List.length_append, List.length_map, List.length_replicate] <;> omega))) only [nmS0, nmS1, nmS2, nmS3, nmS4, nmS5, nmS6, nmS7, Nat.testBit, Nat.reduceShiftRight, Nat.reduceAnd, Nat.reduceBNe, cond_true, cond_false, NT.get_leaf, Nat.reduceSub, d_true, d_false, clsOf, beq_self_eq_true, Int.reduceToNat, Nat.reduceAdd, Nat.reduceMul, Nat.reduceEqDiff, decide_true, decide_false, if_true, if_false, ite_true, ite_false, reduceIte, reduceCtorEq, eq_self, true_and, and_true, true_implies, g1, g2, hgM, hl21, hl21']
    refine WF.use1H (has_w M [0, 1, 3] rfl rfl (by decide)) ?_
    intro M' hC'
    have hgM' := (hC'.get (hC.old ho0) (by simp)).trans hgM
    have hoM' := hC'.old (hC.old ho0)
    by_cases hk : s.k ∈ [0, 1, 3]
    · rw [decide_eq_true hk]
      simp (config := { maxSteps := 1000000 }) (disch := (first | assumption | omega | exact Nm.old_n (by omega) | exact Nm.old_hp (by assumption) | (simp only [List.length_set, List.length_cons, List.length_nil, List.length_append, List.length_map, List.length_replicate] <;> omega))) only [nmS0, nmS1, nmS2, nmS3, nmS4, nmS5, nmS6, nmS7, Nat.testBit, Nat.reduceShiftRight, Nat.reduceAnd, Nat.reduceBNe, cond_true, cond_false, NT.get_leaf, Nat.reduceSub, d_true, d_false, clsOf, beq_self_eq_true, Int.reduceToNat, Nat.reduceAdd, Nat.reduceMul, Nat.reduceEqDiff, decide_true, decide_false, if_true, if_false, ite_true, ite_false, reduceIte, reduceCtorEq, eq_self, true_and, and_true, true_implies, g1, g2, hgM', hoM']
      have hC2 : Chg [] M' (hp [(.n 0, .cells true [.str s.nm])] 1 M') := hp_of rfl
      have hC3 := hC'.trans hC2 (by simp)
      refine wNT_app2 (C := []) (B := m1) (hv.chg hC3 fun _ _ => by simp) h_getN (old_n (by omega)) rfl (fun i hi => hC3.old (hC.old hi)) (by simp) (by simp) ?_
      intro v2 M2 hv2 hC4 hF
      simp (config := { maxSteps := 1000000 }) (disch := (first | assumption | omega | exact Nm.old_n (by omega) | exact Nm.old_hp (by assumption) | (simp only [List.length_set, List.length_cons, List.length_nil, List.length_append, List.length_map, List.length_replicate] <;> omega))) only [nmS0, nmS1, nmS2, nmS3, nmS4, nmS5, nmS6, nmS7, Nat.testBit, Nat.reduceShiftRight, Nat.reduceAnd, Nat.reduceBNe, cond_true, cond_false, NT.get_leaf, Nat.reduceSub, d_true, d_false, clsOf, beq_self_eq_true, Int.reduceToNat, Nat.reduceAdd, Nat.reduceMul, Nat.reduceEqDiff, decide_true, decide_false, if_true, if_false, ite_true, ite_false, reduceIte, reduceCtorEq, eq_self, true_and, and_true, true_implies, g1, g2]
      refine hR _ ⟨_, _, v2, rfl, by simp (config := { maxSteps := 1000000 }) (disch := (first | assumption | omega | exact Nm.old_n (by omega) | exact Nm.old_hp (by assumption) | (simp only [List.length_set, List.length_cons, List.length_nil, List.length_append, List.length_map, List.length_replicate] <;> omega))) only [nmS0, nmS1, nmS2, nmS3, nmS4, nmS5, nmS6, nmS7, Nat.testBit, Nat.reduceShiftRight, Nat.reduceAnd, Nat.reduceBNe, cond_true, cond_false, NT.get_leaf, Nat.reduceSub, d_true, d_false, clsOf, beq_self_eq_true, Int.reduceToNat, Nat.reduceAdd, Nat.reduceMul, Nat.reduceEqDiff, decide_true, decide_false, if_true, if_false, ite_true, ite_false, reduceIte, reduceCtorEq, eq_self, true_and, and_true, true_implies, g1], by simp (config := { maxSteps := 1000000 }) (disch := (first | assumption | omega | exact Nm.old_n (by omega) | exact Nm.old_hp (by assumption) | (simp only [List.length_set, List.length_cons, List.length_nil, List.length_append, List.length_map, List.length_replicate] <;> omega))) only [nmS0, nmS1, nmS2, nmS3, nmS4, nmS5, nmS6, nmS7, Nat.testBit, Nat.reduceShiftRight, Nat.reduceAnd, Nat.reduceBNe, cond_true, cond_false, NT.get_leaf, Nat.reduceSub, d_true, d_false, clsOf, beq_self_eq_true, Int.reduceToNat, Nat.reduceAdd, Nat.reduceMul, Nat.reduceEqDiff, decide_true, decide_false, if_true, if_false, ite_true, ite_false, reduceIte, reduceCtorEq, eq_self, true_and, and_true, true_implies], ?_, ?_⟩
      · rw [if_pos (by simpa using hk)]; exact hv2
      · exact own_base hv (fun i hi => hi) hC ((hC3.weak (by simp)).trans hC4 fun _ h _ => h)
    · rw [decide_eq_false hk]
      simp (config := { maxSteps := 1000000 }) (disch := (first | assumption | omega | exact Nm.old_n (by omega) | exact Nm.old_hp (by assumption) | (simp only [List.length_set, List.length_cons, List.length_nil, List.length_append, List.length_map, List.length_replicate] <;> omega))) only [nmS0, nmS1, nmS2, nmS3, nmS4, nmS5, nmS6, nmS7, Nat.testBit, Nat.reduceShiftRight, Nat.reduceAnd, Nat.reduceBNe, cond_true, cond_false, NT.get_leaf, Nat.reduceSub, d_true, d_false, clsOf, beq_self_eq_true, Int.reduceToNat, Nat.reduceAdd, Nat.reduceMul, Nat.reduceEqDiff, decide_true, decide_false, if_true, if_false, ite_true, ite_false, reduceIte, reduceCtorEq, eq_self, true_and, and_true, true_implies, g1, g2, hp_nil]
      refine hR _ ⟨_, _, v, rfl, by simp (config := { maxSteps := 1000000 }) (disch := (first | assumption | omega | exact Nm.old_n (by omega) | exact Nm.old_hp (by assumption) | (simp only [List.length_set, List.length_cons, List.length_nil, List.length_append, List.length_map, List.length_replicate] <;> omega))) only [nmS0, nmS1, nmS2, nmS3, nmS4, nmS5, nmS6, nmS7, Nat.testBit, Nat.reduceShiftRight, Nat.reduceAnd, Nat.reduceBNe, cond_true, cond_false, NT.get_leaf, Nat.reduceSub, d_true, d_false, clsOf, beq_self_eq_true, Int.reduceToNat, Nat.reduceAdd, Nat.reduceMul, Nat.reduceEqDiff, decide_true, decide_false, if_true, if_false, ite_true, ite_false, reduceIte, reduceCtorEq, eq_self, true_and, and_true, true_implies, g1], by simp (config := { maxSteps := 1000000 }) (disch := (first | assumption | omega | exact Nm.old_n (by omega) | exact Nm.old_hp (by assumption) | (simp only [List.length_set, List.length_cons, List.length_nil, List.length_append, List.length_map, List.length_replicate] <;> omega))) only [nmS0, nmS1, nmS2, nmS3, nmS4, nmS5, nmS6, nmS7, Nat.testBit, Nat.reduceShiftRight, Nat.reduceAnd, Nat.reduceBNe, cond_true, cond_false, NT.get_leaf, Nat.reduceSub, d_true, d_false, clsOf, beq_self_eq_true, Int.reduceToNat, Nat.reduceAdd, Nat.reduceMul, Nat.reduceEqDiff, decide_true, decide_false, if_true, if_false, ite_true, ite_false, reduceIte, reduceCtorEq, eq_self, true_and, and_true, true_implies, g2], ?_, hC.trans hC' (by simp)⟩
      rw [if_neg (by simpa using hk)]; exact hv.chg hC' fun _ _ => by simp
  clear g1 g2 hv hC
  rintro d ⟨t, M, v, rfl, g1, g2, hv, hC⟩
  change wp _ _ _ _ ⟨puts [] t, [], none, M⟩ _
  generalize hL1 : (if s.k = 0 ∨ s.k = 1 ∨ s.k = 3 then [s.nm] else []) = L1 at hv
  have hn1 : L1.length ≤ 1 := by rw [← hL1]; split <;> simp
  refine cutK (Φ (L1 ++ if s.k = 1 ∨ s.k = 2 ∨ s.k = 3 then s.i.names else [])) (fun R hR => ?_) ?_
  · have hgM := (hC.get ho0 (by simp)).trans hg0
    simp (config := { maxSteps := 1000000 }) (disch := (first | assumption | omega | exact Nm.old_n (by omega) | exact Nm.old_hp (by assumption) | (simp only [List.length_set, List.length_cons, List.length_nil, List.length_append, List.length_map, List.length_replicate] <;> omega))) only [nmS0, nmS1, nmS2, nmS3, nmS4, nmS5, nmS6, nmS7, Nat.testBit, Nat.reduceShiftRight, Nat.reduceAnd, Nat.reduceBNe, cond_true, cond_false, NT.get_leaf, Nat.reduceSub, d_true, d_false, clsOf, beq_self_eq_true, Int.reduceToNat, Nat.reduceAdd, Nat.reduceMul, Nat.reduceEqDiff, decide_true, decide_false, if_true, if_false, ite_true, ite_false, reduceIte, reduceCtorEq, eq_self, true_and, and_true, true_implies, g1, g2, hgM, hl21, hl21']
    refine WF.use1H (has_w M [1, 2, 3] rfl rfl (by decide)) ?_
    intro M' hC'
    have hgM' := (hC'.get (hC.old ho0) (by simp)).trans hgM
    have hoM' := hC'.old (hC.old ho0)
    by_cases hk : s.k ∈ [1, 2, 3]
    · rw [decide_eq_true hk]
      simp (config := { maxSteps := 1000000 }) (disch := (first | assumption | omega | exact Nm.old_n (by omega) | exact Nm.old_hp (by assumption) | (simp only [List.length_set, List.length_cons, List.length_nil, List.length_append, List.length_map, List.length_replicate] <;> omega))) only [nmS0, nmS1, nmS2, nmS3, nmS4, nmS5, nmS6, nmS7, Nat.testBit, Nat.reduceShiftRight, Nat.reduceAnd, Nat.reduceBNe, cond_true, cond_false, NT.get_leaf, Nat.reduceSub, d_true, d_false, clsOf, beq_self_eq_true, Int.reduceToNat, Nat.reduceAdd, Nat.reduceMul, Nat.reduceEqDiff, decide_true, decide_false, if_true, if_false, ite_true, ite_false, reduceIte, reduceCtorEq, eq_self, true_and, and_true, true_implies, g1, g2, hgM', hoM', hp_nil]
      refine WF.use (hins hC hC' hv hP.i (by omega)) ?_
      rintro v2 M2 ⟨hv2, hC2⟩
      simp (config := { maxSteps := 1000000 }) (disch := (first | assumption | omega | exact Nm.old_n (by omega) | exact Nm.old_hp (by assumption) | (simp only [List.length_set, List.length_cons, List.length_nil, List.length_append, List.length_map, List.length_replicate] <;> omega))) only [nmS0, nmS1, nmS2, nmS3, nmS4, nmS5, nmS6, nmS7, Nat.testBit, Nat.reduceShiftRight, Nat.reduceAnd, Nat.reduceBNe, cond_true, cond_false, NT.get_leaf, Nat.reduceSub, d_true, d_false, clsOf, beq_self_eq_true, Int.reduceToNat, Nat.reduceAdd, Nat.reduceMul, Nat.reduceEqDiff, decide_true, decide_false, if_true, if_false, ite_true, ite_false, reduceIte, reduceCtorEq, eq_self, true_and, and_true, true_implies, g1, g2]
      refine hR _ ⟨_, _, v2, rfl, by simp (config := { maxSteps := 1000000 }) (disch := (first | assumption | omega | exact Nm.old_n (by omega) | exact Nm.old_hp (by assumption) | (simp only [List.length_set, List.length_cons, List.length_nil, List.length_append, List.length_map, List.length_replicate] <;> omega))) only [nmS0, nmS1, nmS2, nmS3, nmS4, nmS5, nmS6, nmS7, Nat.testBit, Nat.reduceShiftRight, Nat.reduceAnd, Nat.reduceBNe, cond_true, cond_false, NT.get_leaf, Nat.reduceSub, d_true, d_false, clsOf, beq_self_eq_true, Int.reduceToNat, Nat.reduceAdd, Nat.reduceMul, Nat.reduceEqDiff, decide_true, decide_false, if_true, if_false, ite_true, ite_false, reduceIte, reduceCtorEq, eq_self, true_and, and_true, true_implies, g1], by simp (config := { maxSteps := 1000000 }) (disch := (first | assumption | omega | exact Nm.old_n (by omega) | exact Nm.old_hp (by assumption) | (simp only [List.length_set, List.length_cons, List.length_nil, List.length_append, List.length_map, List.length_replicate] <;> omega))) only [nmS0, nmS1, nmS2, nmS3, nmS4, nmS5, nmS6, nmS7, Nat.testBit, Nat.reduceShiftRight, Nat.reduceAnd, Nat.reduceBNe, cond_true, cond_false, NT.get_leaf, Nat.reduceSub, d_true, d_false, clsOf, beq_self_eq_true, Int.reduceToNat, Nat.reduceAdd, Nat.reduceMul, Nat.reduceEqDiff, decide_true, decide_false, if_true, if_false, ite_true, ite_false, reduceIte, reduceCtorEq, eq_self, true_and, and_true, true_implies], ?_, hC2⟩
      rw [if_pos (by simpa using hk)]; exact hv2
    · rw [decide_eq_false hk]
      simp (config := { maxSteps := 1000000 }) (disch := (first | assumption | omega | exact Nm.old_n (by omega) | exact Nm.old_hp (by assumption) | (simp only [List.length_set, List.length_cons, List.length_nil, List.length_append, List.length_map, List.length_replicate] <;> omega))) only [nmS0, nmS1, nmS2, nmS3, nmS4, nmS5, nmS6, nmS7, Nat.testBit, Nat.reduceShiftRight, Nat.reduceAnd, Nat.reduceBNe, cond_true, cond_false, NT.get_leaf, Nat.reduceSub, d_true, d_false, clsOf, beq_self_eq_true, Int.reduceToNat, Nat.reduceAdd, Nat.reduceMul, Nat.reduceEqDiff, decide_true, decide_false, if_true, if_false, ite_true, ite_false, reduceIte, reduceCtorEq, eq_self, true_and, and_true, true_implies, g1, g2, hp_nil]
      refine hR _ ⟨_, _, v, rfl, by simp (config := { maxSteps := 1000000 }) (disch := (first | assumption | omega | exact Nm.old_n (by omega) | exact Nm.old_hp (by assumption) | (simp only [List.length_set, List.length_cons, List.length_nil, List.length_append, List.length_map, List.length_replicate] <;> omega))) only [nmS0, nmS1, nmS2, nmS3, nmS4, nmS5, nmS6, nmS7, Nat.testBit, Nat.reduceShiftRight, Nat.reduceAnd, Nat.reduceBNe, cond_true, cond_false, NT.get_leaf, Nat.reduceSub, d_true, d_false, clsOf, beq_self_eq_true, Int.reduceToNat, Nat.reduceAdd, Nat.reduceMul, Nat.reduceEqDiff, decide_true, decide_false, if_true, if_false, ite_true, ite_false, reduceIte, reduceCtorEq, eq_self, true_and, and_true, true_implies, g1], by simp (config := { maxSteps := 1000000 }) (disch := (first | assumption | omega | exact Nm.old_n (by omega) | exact Nm.old_hp (by assumption) | (simp only [List.length_set, List.length_cons, List.length_nil, List.length_append, List.length_map, List.length_replicate] <;> omega))) only [nmS0, nmS1, nmS2, nmS3, nmS4, nmS5, nmS6, nmS7, Nat.testBit, Nat.reduceShiftRight, Nat.reduceAnd, Nat.reduceBNe, cond_true, cond_false, NT.get_leaf, Nat.reduceSub, d_true, d_false, clsOf, beq_self_eq_true, Int.reduceToNat, Nat.reduceAdd, Nat.reduceMul, Nat.reduceEqDiff, decide_true, decide_false, if_true, if_false, ite_true, ite_false, reduceIte, reduceCtorEq, eq_self, true_and, and_true, true_implies, g2], ?_, hC.trans hC' (by simp)⟩
      rw [if_neg (by simpa using hk), List.append_nil]; exact hv.chg hC' fun _ _ => by simp
  clear g1 g2 hv hC
  rintro d ⟨t, M, v, rfl, g1, g2, hv, hC⟩
  change wp _ _ _ _ ⟨puts [] t, [], none, M⟩ _
  generalize hL2 : (L1 ++ if s.k = 1 ∨ s.k = 2 ∨ s.k = 3 then s.i.names else []) = L2 at hv
  have hn2 : L2.length ≤ 1 + s.i.sz := by rw [← hL2, List.length_append]; split <;> first | omega | (rw [List.length_nil]; omega)
  refine cutK (Φ (L2 ++ if s.k = 0 ∨ s.k = 2 ∨ s.k = 3 ∨ s.k = 5 ∨ s.k = 6 ∨ s.k = 7 then s.x.names else [])) (fun R hR => ?_) ?_
  · have hgM := (hC.get ho0 (by simp)).trans hg0
    simp (config := { maxSteps := 1000000 }) (disch := (first | assumption | omega | exact Nm.old_n (by omega) | exact Nm.old_hp (by assumption) | (simp only [List.length_set, List.length_cons, List.length_nil, List.length_append, List.length_map, List.length_replicate] <;> omega))) only [nmS0, nmS1, nmS2, nmS3, nmS4, nmS5, nmS6, nmS7, Nat.testBit, Nat.reduceShiftRight, Nat.reduceAnd, Nat.reduceBNe, cond_true, cond_false, NT.get_leaf, Nat.reduceSub, d_true, d_false, clsOf, beq_self_eq_true, Int.reduceToNat, Nat.reduceAdd, Nat.reduceMul, Nat.reduceEqDiff, decide_true, decide_false, if_true, if_false, ite_true, ite_false, reduceIte, reduceCtorEq, eq_self, true_and, and_true, true_implies, g1, g2, hgM, hl21, hl21']
    refine WF.use1H (has_w M [0, 2, 3, 5, 6, 7] rfl rfl (by decide)) ?_
    intro M' hC'
    have hgM' := (hC'.get (hC.old ho0) (by simp)).trans hgM
    have hoM' := hC'.old (hC.old ho0)
    by_cases hk : s.k ∈ [0, 2, 3, 5, 6, 7]
    · rw [decide_eq_true hk]
      simp (config := { maxSteps := 1000000 }) (disch := (first | assumption | omega | exact Nm.old_n (by omega) | exact Nm.old_hp (by assumption) | (simp only [List.length_set, List.length_cons, List.length_nil, List.length_append, List.length_map, List.length_replicate] <;> omega))) only [nmS0, nmS1, nmS2, nmS3, nmS4, nmS5, nmS6, nmS7, Nat.testBit, Nat.reduceShiftRight, Nat.reduceAnd, Nat.reduceBNe, cond_true, cond_false, NT.get_leaf, Nat.reduceSub, d_true, d_false, clsOf, beq_self_eq_true, Int.reduceToNat, Nat.reduceAdd, Nat.reduceMul, Nat.reduceEqDiff, decide_true, decide_false, if_true, if_false, ite_true, ite_false, reduceIte, reduceCtorEq, eq_self, true_and, and_true, true_implies, g1, g2, hgM', hoM', hp_nil]
      refine WF.use (hins hC hC' hv hP.x (by omega)) ?_
      rintro v2 M2 ⟨hv2, hC2⟩
      simp (config := { maxSteps := 1000000 }) (disch := (first | assumption | omega | exact Nm.old_n (by omega) | exact Nm.old_hp (by assumption) | (simp only [List.length_set, List.length_cons, List.length_nil, List.length_append, List.length_map, List.length_replicate] <;> omega))) only [nmS0, nmS1, nmS2, nmS3, nmS4, nmS5, nmS6, nmS7, Nat.testBit, Nat.reduceShiftRight, Nat.reduceAnd, Nat.reduceBNe, cond_true, cond_false, NT.get_leaf, Nat.reduceSub, d_true, d_false, clsOf, beq_self_eq_true, Int.reduceToNat, Nat.reduceAdd, Nat.reduceMul, Nat.reduceEqDiff, decide_true, decide_false, if_true, if_false, ite_true, ite_false, reduceIte, reduceCtorEq, eq_self, true_and, and_true, true_implies, g1, g2]
      refine hR _ ⟨_, _, v2, rfl, by simp (config := { maxSteps := 1000000 }) (disch := (first | assumption | omega | exact Nm.old_n (by omega) | exact Nm.old_hp (by assumption) | (simp only [List.length_set, List.length_cons, List.length_nil, List.length_append, List.length_map, List.length_replicate] <;> omega))) only [nmS0, nmS1, nmS2, nmS3, nmS4, nmS5, nmS6, nmS7, Nat.testBit, Nat.reduceShiftRight, Nat.reduceAnd, Nat.reduceBNe, cond_true, cond_false, NT.get_leaf, Nat.reduceSub, d_true, d_false, clsOf, beq_self_eq_true, Int.reduceToNat, Nat.reduceAdd, Nat.reduceMul, Nat.reduceEqDiff, decide_true, decide_false, if_true, if_false, ite_true, ite_false, reduceIte, reduceCtorEq, eq_self, true_and, and_true, true_implies, g1], by simp (config := { maxSteps := 1000000 }) (disch := (first | assumption | omega | exact Nm.old_n (by omega) | exact Nm.old_hp (by assumption) | (simp only [List.length_set, List.length_cons, List.length_nil, List.length_append, List.length_map, List.length_replicate] <;> omega))) only [nmS0, nmS1, nmS2, nmS3, nmS4, nmS5, nmS6, nmS7, Nat.testBit, Nat.reduceShiftRight, Nat.reduceAnd, Nat.reduceBNe, cond_true, cond_false, NT.get_leaf, Nat.reduceSub, d_true, d_false, clsOf, beq_self_eq_true, Int.reduceToNat, Nat.reduceAdd, Nat.reduceMul, Nat.reduceEqDiff, decide_true, decide_false, if_true, if_false, ite_true, ite_false, reduceIte, reduceCtorEq, eq_self, true_and, and_true, true_implies], ?_, hC2⟩
      rw [if_pos (by simpa using hk)]; exact hv2
    · rw [decide_eq_false hk]
      simp (config := { maxSteps := 1000000 }) (disch := (first | assumption | omega | exact Nm.old_n (by omega) | exact Nm.old_hp (by assumption) | (simp only [List.length_set, List.length_cons, List.length_nil, List.length_append, List.length_map, List.length_replicate] <;> omega))) only [nmS0, nmS1, nmS2, nmS3, nmS4, nmS5, nmS6, nmS7, Nat.testBit, Nat.reduceShiftRight, Nat.reduceAnd, Nat.reduceBNe, cond_true, cond_false, NT.get_leaf, Nat.reduceSub, d_true, d_false, clsOf, beq_self_eq_true, Int.reduceToNat, Nat.reduceAdd, Nat.reduceMul, Nat.reduceEqDiff, decide_true, decide_false, if_true, if_false, ite_true, ite_false, reduceIte, reduceCtorEq, eq_self, true_and, and_true, true_implies, g1, g2, hp_nil]
      refine hR _ ⟨_, _, v, rfl, by simp (config := { maxSteps := 1000000 }) (disch := (first | assumption | omega | exact Nm.old_n (by omega) | exact Nm.old_hp (by assumption) | (simp only [List.length_set, List.length_cons, List.length_nil, List.length_append, List.length_map, List.length_replicate] <;> omega))) only [nmS0, nmS1, nmS2, nmS3, nmS4, nmS5, nmS6, nmS7, Nat.testBit, Nat.reduceShiftRight, Nat.reduceAnd, Nat.reduceBNe, cond_true, cond_false, NT.get_leaf, Nat.reduceSub, d_true, d_false, clsOf, beq_self_eq_true, Int.reduceToNat, Nat.reduceAdd, Nat.reduceMul, Nat.reduceEqDiff, decide_true, decide_false, if_true, if_false, ite_true, ite_false, reduceIte, reduceCtorEq, eq_self, true_and, and_true, true_implies, g1], by simp (config := { maxSteps := 1000000 }) (disch := (first | assumption | omega | exact Nm.old_n (by omega) | exact Nm.old_hp (by assumption) | (simp only [List.length_set, List.length_cons, List.length_nil, List.length_append, List.length_map, List.length_replicate] <;> omega))) only [nmS0, nmS1, nmS2, nmS3, nmS4, nmS5, nmS6, nmS7, Nat.testBit, Nat.reduceShiftRight, Nat.reduceAnd, Nat.reduceBNe, cond_true, cond_false, NT.get_leaf, Nat.reduceSub, d_true, d_false, clsOf, beq_self_eq_true, Int.reduceToNat, Nat.reduceAdd, Nat.reduceMul, Nat.reduceEqDiff, decide_true, decide_false, if_true, if_false, ite_true, ite_false, reduceIte, reduceCtorEq, eq_self, true_and, and_true, true_implies, g2], ?_, hC.trans hC' (by simp)⟩
      rw [if_neg (by simpa using hk), List.append_nil]; exact hv.chg hC' fun _ _ => by simp
  clear g1 g2 hv hC
  rintro d ⟨t, M, v, rfl, g1, g2, hv, hC⟩
  change wp _ _ _ _ ⟨puts [] t, [], none, M⟩ _
  generalize hL3 : (L2 ++ if s.k = 0 ∨ s.k = 2 ∨ s.k = 3 ∨ s.k = 5 ∨ s.k = 6 ∨ s.k = 7 then s.x.names else []) = L3 at hv
  have hn3 : L3.length ≤ 1 + s.i.sz + s.x.sz := by rw [← hL3, List.length_append]; split <;> first | omega | (rw [List.length_nil]; omega)
  have hown : s.own = L3 ++ if s.k = 3 then s.y.names else [] := by rw [own_eq, ← hL3, ← hL2, ← hL1]; simp only [List.append_assoc]
  have hgM := (hC.get ho0 (by simp)).trans hg0
  have fin : ∀ {v M}, Own m1 M v 1 (Strs s.own) → Chg [] m1 M → Own m M v 1 (Strs s.own) ∧ Chg [] m M := fun h1 h2 => ⟨h1.back fun i hi => hC1.old hi, hC1.trans h2 (by simp)⟩
  by_cases hk : s.k = 3
  · rw [if_pos hk] at hown
    have hd : decide (s.k = 3) = true := decide_eq_true hk
    simp (config := { maxSteps := 1000000 }) (disch := (first | assumption | omega | exact Nm.old_n (by omega) | exact Nm.old_hp (by assumption) | (simp only [List.length_set, List.length_cons, List.length_nil, List.length_append, List.length_map, List.length_replicate] <;> omega))) only [nmS0, nmS1, nmS2, nmS3, nmS4, nmS5, nmS6, nmS7, Nat.testBit, Nat.reduceShiftRight, Nat.reduceAnd, Nat.reduceBNe, cond_true, cond_false, NT.get_leaf, Nat.reduceSub, d_true, d_false, clsOf, beq_self_eq_true, Int.reduceToNat, Nat.reduceAdd, Nat.reduceMul, Nat.reduceEqDiff, decide_true, decide_false, if_true, if_false, ite_true, ite_false, reduceIte, reduceCtorEq, eq_self, true_and, and_true, true_implies, g1, g2, hgM, hl21, hl21', hd]
    refine WF.use (hins hC (Chg.refl M) hv hP.y (by omega)) ?_
    rintro v2 M2 ⟨hv2, hC2⟩
    simp (config := { maxSteps := 1000000 }) (disch := (first | assumption | omega | exact Nm.old_n (by omega) | exact Nm.old_hp (by assumption) | (simp only [List.length_set, List.length_cons, List.length_nil, List.length_append, List.length_map, List.length_replicate] <;> omega))) only [nmS0, nmS1, nmS2, nmS3, nmS4, nmS5, nmS6, nmS7, Nat.testBit, Nat.reduceShiftRight, Nat.reduceAnd, Nat.reduceBNe, cond_true, cond_false, NT.get_leaf, Nat.reduceSub, d_true, d_false, clsOf, beq_self_eq_true, Int.reduceToNat, Nat.reduceAdd, Nat.reduceMul, Nat.reduceEqDiff, decide_true, decide_false, if_true, if_false, ite_true, ite_false, reduceIte, reduceCtorEq, eq_self, true_and, and_true, true_implies, g1, g2]
    rw [← hown] at hv2
    exact hK _ _ (fin hv2 hC2)
  · rw [if_neg hk, List.append_nil] at hown
    have hd : decide (s.k = 3) = false := decide_eq_false hk
    simp (config := { maxSteps := 1000000 }) (disch := (first | assumption | omega | exact Nm.old_n (by omega) | exact Nm.old_hp (by assumption) | (simp only [List.length_set, List.length_cons, List.length_nil, List.length_append, List.length_map, List.length_replicate] <;> omega))) only [nmS0, nmS1, nmS2, nmS3, nmS4, nmS5, nmS6, nmS7, Nat.testBit, Nat.reduceShiftRight, Nat.reduceAnd, Nat.reduceBNe, cond_true, cond_false, NT.get_leaf, Nat.reduceSub, d_true, d_false, clsOf, beq_self_eq_true, Int.reduceToNat, Nat.reduceAdd, Nat.reduceMul, Nat.reduceEqDiff, decide_true, decide_false, if_true, if_false, ite_true, ite_false, reduceIte, reduceCtorEq, eq_self, true_and, and_true, true_implies, g1, g2, hgM, hl21, hl21', hd]
    rw [← hown] at hv
    exact hK _ _ (fin hv hC)
end FR

open Go Nm Go.Proofs
namespace FR
set_option linter.unusedSimpArgs false
set_option linter.unusedVariables false
/-- a walk that may be ended -/
def foldS {σ : Type} (f : σ → Stm → σ × Bool) : List Stm → σ → σ × Bool
  | [], s => (s, true)
  | x :: l, s => if (f s x).2 then foldS f l (f s x).1 else f s x
theorem foldS_append {σ : Type} (f : σ → Stm → σ × Bool) (a b : List Stm) : ∀ s, foldS f (a ++ b) s = if (foldS f a s).2 then foldS f b (foldS f a s).1 else foldS f a s := by
  induction a with
  | nil => intro s; simp [foldS]
  | cons x a ih =>
    intro s
    simp only [List.cons_append, foldS]
    split
    · exact ih _
    · rename_i h; simp [h]
/-- what holds of each statement that the walk comes to -/
def Al {σ : Type} (A : σ → Stm → Prop) (f : σ → Stm → σ × Bool) : List Stm → σ → Prop
  | [], _ => True
  | x :: l, s => A s x ∧ ((f s x).2 = true → Al A f l (f s x).1)
theorem Al_append {σ : Type} {A : σ → Stm → Prop} {f : σ → Stm → σ × Bool} (a b : List Stm) : ∀ s, Al A f (a ++ b) s ↔ Al A f a s ∧ ((foldS f a s).2 = true → Al A f b (foldS f a s).1) := by
  induction a with
  | nil => intro s; simp [Al, foldS]
  | cons x a ih =>
    intro s
    simp only [List.cons_append, Al, foldS, ih]
    constructor
    · rintro ⟨h1, h2⟩
      refine ⟨⟨h1, fun h => (h2 h).1⟩, fun h => ?_⟩
      cases hb : (f s x).2 with
      | true => rw [hb] at h; simp only [if_true] at h ⊢; exact (h2 hb).2 h
      | false => rw [hb] at h; simp [hb] at h
    · rintro ⟨⟨h1, h2⟩, h3⟩
      refine ⟨h1, fun h => ⟨h2 h, fun h4 => ?_⟩⟩
      rw [h] at h3; simp only [if_true] at h3; exact h3 h4
/-- what a loop's body does with statements; F: the objects that it has for itself -/
structure Ylds {σ : Type} (q : D4) (m0 : NH) (T : D4 → Prop) (A : σ → Stm → Prop) (f : σ → Stm → σ × Bool) (Φ : σ → List D4 → NH → Prop) : Prop where
  base : ∀ {s F N}, Φ s F N → Chg [] m0 N
  old : ∀ {s F N}, Φ s F N → ∀ i ∈ F, Old N i
  grow : ∀ {s F N N'}, Φ s F N → Chg [] N N' → Φ s F N'
  y : ∀ {s F N x c}, Φ s F N → RS m0 T x c → A s x → ∃ N', RetY Try.prog S0 q [.agg c] N (.bool (f s x).2) N' ∧ ∃ F', Φ (f s x).1 F' N' ∧ Chg F N N' ∧ ∀ i ∈ F', i ∈ F ∨ ¬ Old N i
section
variable {σ : Type} {q : D4} {m0 : NH} {T : D4 → Prop} {A : σ → Stm → Prop} {f : σ → Stm → σ × Bool} {Φ : σ → List D4 → NH → Prop}
def EachL (q : D4) (m0 : NH) (T : D4 → Prop) (A : σ → Stm → Prop) (f : σ → Stm → σ × Bool) (Φ : σ → List D4 → NH → Prop) (l : List Stm) : Prop :=
  ∀ {v C N s F}, SS m0 T v l C → Φ s F N → Al A f (allL l) s → szB l ≤ 1000000000 →
    ∃ N', Ret Try.prog S0 98 [v, .yld q] N (.bool (foldS f (allL l) s).2) N' ∧ ∃ F', Φ (foldS f (allL l) s).1 F' N' ∧ Chg F N N' ∧ ∀ i ∈ F', i ∈ F ∨ ¬ Old N i
theorem all_eq (x : Stm) : x.all = x :: ((if x.k = 6 ∨ x.k = 7 then allL x.b else []) ++ (if x.k = 6 then allL x.e else [])) := by cases x; rfl
theorem allL_take {l : List Stm} {i : Nat} (hi : i < l.length) : allL (l.take (i + 1)) = allL (l.take i) ++ l[i].all := by
  rw [List.take_add_one, List.getElem?_eq_getElem hi, Option.toList_some, allL_append, allL, allL, List.append_nil]
theorem mem_allL {l : List Stm} {x y : Stm} (hx : x ∈ l) (hy : y ∈ x.all) : y ∈ allL l := by
  induction l with
  | nil => simp at hx
  | cons a l ih =>
    rw [allL, List.mem_append]
    rcases List.mem_cons.mp hx with rfl | hx
    · exact Or.inl hy
    · exact Or.inr (ih hx)
theorem szB_mem {l : List Stm} {x : Stm} (hx : x ∈ l) : x.sz ≤ szB l := by
  induction l with
  | nil => simp at hx
  | cons a l ih =>
    rw [szB]
    rcases List.mem_cons.mp hx with rfl | hx
    · omega
    · have := ih hx; omega
/-- a round of each -/
theorem each_round (hy : Ylds q m0 T A f Φ) {x : Stm} {w : SV} (hR : RS m0 T x (x.l w)) (hP : SP m0 T x w) (hb : EachL q m0 T A f Φ x.b) (he : EachL q m0 T A f Φ x.e) {s : σ} (hA : Al A f x.all s) (hsz : x.sz ≤ 1000000000)
    {v : NV} {N : NH} {F : List D4} (hΦ : Φ s F N) {i n : Nat} {id : D4} {off : Nat} {wr : Bool} {C : List NV} (hi : i < n) (hn : n ≤ 1000000000) (a1 : idxV 21 v (ii i) = .val (.ptr id off)) (a2 : N.get id = some (.cells wr C)) (a3 : Old N id) (a4 : off + 21 ≤ C.length) (a5 : (C.drop off).take 21 = x.l w) {t : Tm}
    (g1 : NT.get D4.e.a t = some (.yld q)) (g2 : NT.get D4.e.a.c t = some v) (g3 : NT.get D4.e.a.f t = some (ii n)) (g4 : NT.get D4.e.b.a t = some (ii i)) {Q : Out → Dyn → Prop}
    (hN : (foldS f x.all s).2 = true → ∀ t' N' F', Φ (foldS f x.all s).1 F' N' → Chg F N N' → (∀ i ∈ F', i ∈ F ∨ ¬ Old N i) → NT.get D4.e.a t' = some (.yld q) → NT.get D4.e.a.c t' = some v → NT.get D4.e.a.f t' = some (ii n) → NT.get D4.e.b.a t' = some (ii (i + 1 : Nat)) → Q .norm ⟨t', [], none, N'⟩)
    (hF : (foldS f x.all s).2 = false → ∀ t' N' F', Φ (foldS f x.all s).1 F' N' → Chg F N N' → (∀ i ∈ F', i ∈ F ∨ ¬ Old N i) → NT.get D4.e.f t' = some (.bool false) → Q .ret ⟨puts [] t', [], none, N'⟩) :
    wp Try.prog S0 none nf98_l1 ⟨puts [] t, [], none, N⟩ Q := by
  unfold nf98_l1
  have hl21 : (x.l w).length = 21 := rfl
  have hl21' : (x.l w).take 21 = x.l w := rfl
  rw [← hp_nil N]
  simp (config := { maxSteps := 1000000 }) (disch := (first | assumption | omega | exact Nm.old_n (by omega) | exact Nm.old_hp (by assumption) | (simp only [List.length_set, List.length_cons, List.length_nil, List.length_append, List.length_map, List.length_replicate] <;> omega))) only [nmS0, nmS1, nmS2, nmS3, nmS4, nmS5, nmS6, nmS7, Nat.testBit, Nat.reduceShiftRight, Nat.reduceAnd, Nat.reduceBNe, cond_true, cond_false, NT.get_leaf, Nat.reduceSub, d_true, d_false, clsOf, beq_self_eq_true, Int.reduceToNat, Nat.reduceAdd, Nat.reduceMul, Nat.reduceEqDiff, decide_true, decide_false, if_true, if_false, ite_true, ite_false, reduceIte, reduceCtorEq, eq_self, true_and, and_true, true_implies, g1, g2, g3, g4, a1, a2, a5, hl21, hl21']
  generalize hM1 : hp _ 1 N = M1
  have hC1 : Chg [] N M1 := by rw [← hM1]; exact hp_of rfl
  have hg0 : M1.get (na N 0) = some (.cells true (x.l w)) := by rw [← hM1]; exact h_getN
  have ho0 : Old M1 (na N 0) := by rw [← hM1]; exact old_n (by omega)
  have hal := all_eq x
  rw [hal] at hA
  refine WY.use1 (hy.y (hy.grow hΦ hC1) hR hA.1) ?_
  rintro M2 ⟨F2, hΦ2, hC2, hF2⟩
  have hn0 : na N 0 ∉ F := fun h => (hy.old hΦ _ h).ne 0 rfl
  have hg2 := (hC2.get ho0 hn0).trans hg0
  have ho2 := hC2.old ho0
  have hC02 : Chg F N M2 := (hC1.weak (by simp)).trans hC2 fun _ h _ => h
  have hN2 : ∀ i ∈ F2, i ∈ F ∨ ¬ Old N i := fun i hi => (hF2 i hi).imp _root_.id fun q o => q (hC1.old o)
  cases hb1 : (f s x).2 with
  | false =>
    have hfo : foldS f x.all s = f s x := by rw [hal, foldS, hb1]; rfl
    simp (config := { maxSteps := 1000000 }) (disch := (first | assumption | omega | exact Nm.old_n (by omega) | exact Nm.old_hp (by assumption) | (simp only [List.length_set, List.length_cons, List.length_nil, List.length_append, List.length_map, List.length_replicate] <;> omega))) only [nmS0, nmS1, nmS2, nmS3, nmS4, nmS5, nmS6, nmS7, Nat.testBit, Nat.reduceShiftRight, Nat.reduceAnd, Nat.reduceBNe, cond_true, cond_false, NT.get_leaf, Nat.reduceSub, d_true, d_false, clsOf, beq_self_eq_true, Int.reduceToNat, Nat.reduceAdd, Nat.reduceMul, Nat.reduceEqDiff, decide_true, decide_false, if_true, if_false, ite_true, ite_false, reduceIte, reduceCtorEq, eq_self, true_and, and_true, true_implies, g1, g2, g3, g4, hg2, ho2]
    rw [hfo] at hF
    exact hF hb1 _ M2 F2 hΦ2 hC02 hN2 (by simp (config := { maxSteps := 1000000 }) (disch := (first | assumption | omega | exact Nm.old_n (by omega) | exact Nm.old_hp (by assumption) | (simp only [List.length_set, List.length_cons, List.length_nil, List.length_append, List.length_map, List.length_replicate] <;> omega))) only [nmS0, nmS1, nmS2, nmS3, nmS4, nmS5, nmS6, nmS7, Nat.testBit, Nat.reduceShiftRight, Nat.reduceAnd, Nat.reduceBNe, cond_true, cond_false, NT.get_leaf, Nat.reduceSub, d_true, d_false, clsOf, beq_self_eq_true, Int.reduceToNat, Nat.reduceAdd, Nat.reduceMul, Nat.reduceEqDiff, decide_true, decide_false, if_true, if_false, ite_true, ite_false, reduceIte, reduceCtorEq, eq_self, true_and, and_true, true_implies])
  | true =>
    have hfo : foldS f x.all s = foldS f ((if x.k = 6 ∨ x.k = 7 then allL x.b else []) ++ (if x.k = 6 then allL x.e else [])) (f s x).1 := by rw [hal, foldS, hb1]; rfl
    rw [hfo] at hN hF
    simp (config := { maxSteps := 1000000 }) (disch := (first | assumption | omega | exact Nm.old_n (by omega) | exact Nm.old_hp (by assumption) | (simp only [List.length_set, List.length_cons, List.length_nil, List.length_append, List.length_map, List.length_replicate] <;> omega))) only [nmS0, nmS1, nmS2, nmS3, nmS4, nmS5, nmS6, nmS7, Nat.testBit, Nat.reduceShiftRight, Nat.reduceAnd, Nat.reduceBNe, cond_true, cond_false, NT.get_leaf, Nat.reduceSub, d_true, d_false, clsOf, beq_self_eq_true, Int.reduceToNat, Nat.reduceAdd, Nat.reduceMul, Nat.reduceEqDiff, decide_true, decide_false, if_true, if_false, ite_true, ite_false, reduceIte, reduceCtorEq, eq_self, true_and, and_true, true_implies, g1, g2, g3, g4, hg2, ho2, hl21, hl21']
    refine WF.use1 (has_w M2 [6, 7] rfl rfl (by decide)) ?_
    intro M3 hC3
    have hΦ3 := hy.grow hΦ2 hC3
    have hg3 := (hC3.get ho2 (by simp)).trans hg2
    have ho3 := hC3.old ho2
    have hC03 : Chg F N M3 := hC02.trans hC3 (by simp)
    have hrb := sz_eq x
    by_cases hk : x.k = 6 ∨ x.k = 7
    · rw [decide_eq_true (by simpa using hk : x.k ∈ [6, 7])]
      rw [if_pos hk] at hN hF hal
      obtain ⟨B, hB⟩ := hP.b
      obtain ⟨E, hE⟩ := hP.e
      have hA2 := hA.2 hb1
      rw [if_pos hk, Al_append] at hA2
      have hAb := hA2.1
      simp (config := { maxSteps := 1000000 }) (disch := (first | assumption | omega | exact Nm.old_n (by omega) | exact Nm.old_hp (by assumption) | (simp only [List.length_set, List.length_cons, List.length_nil, List.length_append, List.length_map, List.length_replicate] <;> omega))) only [nmS0, nmS1, nmS2, nmS3, nmS4, nmS5, nmS6, nmS7, Nat.testBit, Nat.reduceShiftRight, Nat.reduceAnd, Nat.reduceBNe, cond_true, cond_false, NT.get_leaf, Nat.reduceSub, d_true, d_false, clsOf, beq_self_eq_true, Int.reduceToNat, Nat.reduceAdd, Nat.reduceMul, Nat.reduceEqDiff, decide_true, decide_false, if_true, if_false, ite_true, ite_false, reduceIte, reduceCtorEq, eq_self, true_and, and_true, true_implies, g1, g2, g3, g4, hg3, ho3]
      refine WF.use1 (hb hB hΦ3 hAb (by omega)) ?_
      rintro M4 ⟨F4, hΦ4, hC4, hF4⟩
      have hn3 : na N 0 ∉ F2 := fun h => (hN2 _ h).elim hn0 fun q => by
        rcases hF2 _ h with h | h
        · exact hn0 h
        · exact h ho0
      have hg4 := (hC4.get ho3 hn3).trans hg3
      have ho4 := hC4.old ho3
      have hC04 : Chg F N M4 := hC03.trans hC4 fun i hi ho => (hN2 i hi).elim _root_.id fun q => absurd ho q
      have hN4 : ∀ i ∈ F4, i ∈ F ∨ ¬ Old N i := fun i hi => (hF4 i hi).elim (hN2 i) fun q => Or.inr fun o => q (hC03.old o)
      rw [foldS_append] at hN hF
      cases hb2 : (foldS f (allL x.b) (f s x).1).2 with
      | false =>
        rw [hb2] at hF
        simp (config := { maxSteps := 1000000 }) (disch := (first | assumption | omega | exact Nm.old_n (by omega) | exact Nm.old_hp (by assumption) | (simp only [List.length_set, List.length_cons, List.length_nil, List.length_append, List.length_map, List.length_replicate] <;> omega))) only [nmS0, nmS1, nmS2, nmS3, nmS4, nmS5, nmS6, nmS7, Nat.testBit, Nat.reduceShiftRight, Nat.reduceAnd, Nat.reduceBNe, cond_true, cond_false, NT.get_leaf, Nat.reduceSub, d_true, d_false, clsOf, beq_self_eq_true, Int.reduceToNat, Nat.reduceAdd, Nat.reduceMul, Nat.reduceEqDiff, decide_true, decide_false, if_true, if_false, ite_true, ite_false, reduceIte, reduceCtorEq, eq_self, true_and, and_true, true_implies, g1, g2, g3, g4, hg4, ho4]
        refine hF hb2 _ M4 F4 hΦ4 hC04 hN4 (by simp (config := { maxSteps := 1000000 }) (disch := (first | assumption | omega | exact Nm.old_n (by omega) | exact Nm.old_hp (by assumption) | (simp only [List.length_set, List.length_cons, List.length_nil, List.length_append, List.length_map, List.length_replicate] <;> omega))) only [nmS0, nmS1, nmS2, nmS3, nmS4, nmS5, nmS6, nmS7, Nat.testBit, Nat.reduceShiftRight, Nat.reduceAnd, Nat.reduceBNe, cond_true, cond_false, NT.get_leaf, Nat.reduceSub, d_true, d_false, clsOf, beq_self_eq_true, Int.reduceToNat, Nat.reduceAdd, Nat.reduceMul, Nat.reduceEqDiff, decide_true, decide_false, if_true, if_false, ite_true, ite_false, reduceIte, reduceCtorEq, eq_self, true_and, and_true, true_implies])
      | true =>
        rw [hb2, if_pos rfl] at hN hF
        by_cases h6 : x.k = 6
        · rw [if_pos h6] at hN hF hal
          have hAe := hA2.2 hb2
          rw [if_pos h6] at hAe
          have hd : decide (x.k = 6) = true := decide_eq_true h6
          simp (config := { maxSteps := 1000000 }) (disch := (first | assumption | omega | exact Nm.old_n (by omega) | exact Nm.old_hp (by assumption) | (simp only [List.length_set, List.length_cons, List.length_nil, List.length_append, List.length_map, List.length_replicate] <;> omega))) only [nmS0, nmS1, nmS2, nmS3, nmS4, nmS5, nmS6, nmS7, Nat.testBit, Nat.reduceShiftRight, Nat.reduceAnd, Nat.reduceBNe, cond_true, cond_false, NT.get_leaf, Nat.reduceSub, d_true, d_false, clsOf, beq_self_eq_true, Int.reduceToNat, Nat.reduceAdd, Nat.reduceMul, Nat.reduceEqDiff, decide_true, decide_false, if_true, if_false, ite_true, ite_false, reduceIte, reduceCtorEq, eq_self, true_and, and_true, true_implies, g1, g2, g3, g4, hg4, ho4, hd]
          refine WF.use1 (he hE hΦ4 hAe (by omega)) ?_
          rintro M5 ⟨F5, hΦ5, hC5, hF5⟩
          have hC05 : Chg F N M5 := hC04.trans hC5 fun i hi ho => (hN4 i hi).elim _root_.id fun q => absurd ho q
          have hN5 : ∀ i ∈ F5, i ∈ F ∨ ¬ Old N i := fun i hi => (hF5 i hi).elim (hN4 i) fun q => Or.inr fun o => q (hC04.old o)
          cases hb3 : (foldS f (allL x.e) (foldS f (allL x.b) (f s x).1).1).2 with
          | false =>
            simp (config := { maxSteps := 1000000 }) (disch := (first | assumption | omega | exact Nm.old_n (by omega) | exact Nm.old_hp (by assumption) | (simp only [List.length_set, List.length_cons, List.length_nil, List.length_append, List.length_map, List.length_replicate] <;> omega))) only [nmS0, nmS1, nmS2, nmS3, nmS4, nmS5, nmS6, nmS7, Nat.testBit, Nat.reduceShiftRight, Nat.reduceAnd, Nat.reduceBNe, cond_true, cond_false, NT.get_leaf, Nat.reduceSub, d_true, d_false, clsOf, beq_self_eq_true, Int.reduceToNat, Nat.reduceAdd, Nat.reduceMul, Nat.reduceEqDiff, decide_true, decide_false, if_true, if_false, ite_true, ite_false, reduceIte, reduceCtorEq, eq_self, true_and, and_true, true_implies, g1, g2, g3, g4]
            refine hF hb3 _ M5 F5 hΦ5 hC05 hN5 (by simp (config := { maxSteps := 1000000 }) (disch := (first | assumption | omega | exact Nm.old_n (by omega) | exact Nm.old_hp (by assumption) | (simp only [List.length_set, List.length_cons, List.length_nil, List.length_append, List.length_map, List.length_replicate] <;> omega))) only [nmS0, nmS1, nmS2, nmS3, nmS4, nmS5, nmS6, nmS7, Nat.testBit, Nat.reduceShiftRight, Nat.reduceAnd, Nat.reduceBNe, cond_true, cond_false, NT.get_leaf, Nat.reduceSub, d_true, d_false, clsOf, beq_self_eq_true, Int.reduceToNat, Nat.reduceAdd, Nat.reduceMul, Nat.reduceEqDiff, decide_true, decide_false, if_true, if_false, ite_true, ite_false, reduceIte, reduceCtorEq, eq_self, true_and, and_true, true_implies])
          | true =>
            simp (config := { maxSteps := 1000000 }) (disch := (first | assumption | omega | exact Nm.old_n (by omega) | exact Nm.old_hp (by assumption) | (simp only [List.length_set, List.length_cons, List.length_nil, List.length_append, List.length_map, List.length_replicate] <;> omega))) only [nmS0, nmS1, nmS2, nmS3, nmS4, nmS5, nmS6, nmS7, Nat.testBit, Nat.reduceShiftRight, Nat.reduceAnd, Nat.reduceBNe, cond_true, cond_false, NT.get_leaf, Nat.reduceSub, d_true, d_false, clsOf, beq_self_eq_true, Int.reduceToNat, Nat.reduceAdd, Nat.reduceMul, Nat.reduceEqDiff, decide_true, decide_false, if_true, if_false, ite_true, ite_false, reduceIte, reduceCtorEq, eq_self, true_and, and_true, true_implies, g1, g2, g3, g4]
            refine hN hb3 _ M5 F5 hΦ5 hC05 hN5 (by simp (config := { maxSteps := 1000000 }) (disch := (first | assumption | omega | exact Nm.old_n (by omega) | exact Nm.old_hp (by assumption) | (simp only [List.length_set, List.length_cons, List.length_nil, List.length_append, List.length_map, List.length_replicate] <;> omega))) only [nmS0, nmS1, nmS2, nmS3, nmS4, nmS5, nmS6, nmS7, Nat.testBit, Nat.reduceShiftRight, Nat.reduceAnd, Nat.reduceBNe, cond_true, cond_false, NT.get_leaf, Nat.reduceSub, d_true, d_false, clsOf, beq_self_eq_true, Int.reduceToNat, Nat.reduceAdd, Nat.reduceMul, Nat.reduceEqDiff, decide_true, decide_false, if_true, if_false, ite_true, ite_false, reduceIte, reduceCtorEq, eq_self, true_and, and_true, true_implies, g1]) (by simp (config := { maxSteps := 1000000 }) (disch := (first | assumption | omega | exact Nm.old_n (by omega) | exact Nm.old_hp (by assumption) | (simp only [List.length_set, List.length_cons, List.length_nil, List.length_append, List.length_map, List.length_replicate] <;> omega))) only [nmS0, nmS1, nmS2, nmS3, nmS4, nmS5, nmS6, nmS7, Nat.testBit, Nat.reduceShiftRight, Nat.reduceAnd, Nat.reduceBNe, cond_true, cond_false, NT.get_leaf, Nat.reduceSub, d_true, d_false, clsOf, beq_self_eq_true, Int.reduceToNat, Nat.reduceAdd, Nat.reduceMul, Nat.reduceEqDiff, decide_true, decide_false, if_true, if_false, ite_true, ite_false, reduceIte, reduceCtorEq, eq_self, true_and, and_true, true_implies, g2]) (by simp (config := { maxSteps := 1000000 }) (disch := (first | assumption | omega | exact Nm.old_n (by omega) | exact Nm.old_hp (by assumption) | (simp only [List.length_set, List.length_cons, List.length_nil, List.length_append, List.length_map, List.length_replicate] <;> omega))) only [nmS0, nmS1, nmS2, nmS3, nmS4, nmS5, nmS6, nmS7, Nat.testBit, Nat.reduceShiftRight, Nat.reduceAnd, Nat.reduceBNe, cond_true, cond_false, NT.get_leaf, Nat.reduceSub, d_true, d_false, clsOf, beq_self_eq_true, Int.reduceToNat, Nat.reduceAdd, Nat.reduceMul, Nat.reduceEqDiff, decide_true, decide_false, if_true, if_false, ite_true, ite_false, reduceIte, reduceCtorEq, eq_self, true_and, and_true, true_implies, g3]) (by simp (config := { maxSteps := 1000000 }) (disch := (first | assumption | omega | exact Nm.old_n (by omega) | exact Nm.old_hp (by assumption) | (simp only [List.length_set, List.length_cons, List.length_nil, List.length_append, List.length_map, List.length_replicate] <;> omega))) only [nmS0, nmS1, nmS2, nmS3, nmS4, nmS5, nmS6, nmS7, Nat.testBit, Nat.reduceShiftRight, Nat.reduceAnd, Nat.reduceBNe, cond_true, cond_false, NT.get_leaf, Nat.reduceSub, d_true, d_false, clsOf, beq_self_eq_true, Int.reduceToNat, Nat.reduceAdd, Nat.reduceMul, Nat.reduceEqDiff, decide_true, decide_false, if_true, if_false, ite_true, ite_false, reduceIte, reduceCtorEq, eq_self, true_and, and_true, true_implies]; rfl)
        · rw [if_neg h6] at hN hF
          have hd : decide (x.k = 6) = false := decide_eq_false h6
          simp (config := { maxSteps := 1000000 }) (disch := (first | assumption | omega | exact Nm.old_n (by omega) | exact Nm.old_hp (by assumption) | (simp only [List.length_set, List.length_cons, List.length_nil, List.length_append, List.length_map, List.length_replicate] <;> omega))) only [nmS0, nmS1, nmS2, nmS3, nmS4, nmS5, nmS6, nmS7, Nat.testBit, Nat.reduceShiftRight, Nat.reduceAnd, Nat.reduceBNe, cond_true, cond_false, NT.get_leaf, Nat.reduceSub, d_true, d_false, clsOf, beq_self_eq_true, Int.reduceToNat, Nat.reduceAdd, Nat.reduceMul, Nat.reduceEqDiff, decide_true, decide_false, if_true, if_false, ite_true, ite_false, reduceIte, reduceCtorEq, eq_self, true_and, and_true, true_implies, g1, g2, g3, g4, hg4, ho4, hd]
          refine hN rfl _ M4 F4 hΦ4 hC04 hN4 (by simp (config := { maxSteps := 1000000 }) (disch := (first | assumption | omega | exact Nm.old_n (by omega) | exact Nm.old_hp (by assumption) | (simp only [List.length_set, List.length_cons, List.length_nil, List.length_append, List.length_map, List.length_replicate] <;> omega))) only [nmS0, nmS1, nmS2, nmS3, nmS4, nmS5, nmS6, nmS7, Nat.testBit, Nat.reduceShiftRight, Nat.reduceAnd, Nat.reduceBNe, cond_true, cond_false, NT.get_leaf, Nat.reduceSub, d_true, d_false, clsOf, beq_self_eq_true, Int.reduceToNat, Nat.reduceAdd, Nat.reduceMul, Nat.reduceEqDiff, decide_true, decide_false, if_true, if_false, ite_true, ite_false, reduceIte, reduceCtorEq, eq_self, true_and, and_true, true_implies, g1]) (by simp (config := { maxSteps := 1000000 }) (disch := (first | assumption | omega | exact Nm.old_n (by omega) | exact Nm.old_hp (by assumption) | (simp only [List.length_set, List.length_cons, List.length_nil, List.length_append, List.length_map, List.length_replicate] <;> omega))) only [nmS0, nmS1, nmS2, nmS3, nmS4, nmS5, nmS6, nmS7, Nat.testBit, Nat.reduceShiftRight, Nat.reduceAnd, Nat.reduceBNe, cond_true, cond_false, NT.get_leaf, Nat.reduceSub, d_true, d_false, clsOf, beq_self_eq_true, Int.reduceToNat, Nat.reduceAdd, Nat.reduceMul, Nat.reduceEqDiff, decide_true, decide_false, if_true, if_false, ite_true, ite_false, reduceIte, reduceCtorEq, eq_self, true_and, and_true, true_implies, g2]) (by simp (config := { maxSteps := 1000000 }) (disch := (first | assumption | omega | exact Nm.old_n (by omega) | exact Nm.old_hp (by assumption) | (simp only [List.length_set, List.length_cons, List.length_nil, List.length_append, List.length_map, List.length_replicate] <;> omega))) only [nmS0, nmS1, nmS2, nmS3, nmS4, nmS5, nmS6, nmS7, Nat.testBit, Nat.reduceShiftRight, Nat.reduceAnd, Nat.reduceBNe, cond_true, cond_false, NT.get_leaf, Nat.reduceSub, d_true, d_false, clsOf, beq_self_eq_true, Int.reduceToNat, Nat.reduceAdd, Nat.reduceMul, Nat.reduceEqDiff, decide_true, decide_false, if_true, if_false, ite_true, ite_false, reduceIte, reduceCtorEq, eq_self, true_and, and_true, true_implies, g3]) (by simp (config := { maxSteps := 1000000 }) (disch := (first | assumption | omega | exact Nm.old_n (by omega) | exact Nm.old_hp (by assumption) | (simp only [List.length_set, List.length_cons, List.length_nil, List.length_append, List.length_map, List.length_replicate] <;> omega))) only [nmS0, nmS1, nmS2, nmS3, nmS4, nmS5, nmS6, nmS7, Nat.testBit, Nat.reduceShiftRight, Nat.reduceAnd, Nat.reduceBNe, cond_true, cond_false, NT.get_leaf, Nat.reduceSub, d_true, d_false, clsOf, beq_self_eq_true, Int.reduceToNat, Nat.reduceAdd, Nat.reduceMul, Nat.reduceEqDiff, decide_true, decide_false, if_true, if_false, ite_true, ite_false, reduceIte, reduceCtorEq, eq_self, true_and, and_true, true_implies]; rfl)
    · rw [decide_eq_false (by simpa using hk : x.k ∉ [6, 7])]
      have h6 : x.k ≠ 6 := fun e => hk (Or.inl e)
      rw [if_neg hk, if_neg h6] at hN hF
      have hd : decide (x.k = 6) = false := decide_eq_false h6
      simp (config := { maxSteps := 1000000 }) (disch := (first | assumption | omega | exact Nm.old_n (by omega) | exact Nm.old_hp (by assumption) | (simp only [List.length_set, List.length_cons, List.length_nil, List.length_append, List.length_map, List.length_replicate] <;> omega))) only [nmS0, nmS1, nmS2, nmS3, nmS4, nmS5, nmS6, nmS7, Nat.testBit, Nat.reduceShiftRight, Nat.reduceAnd, Nat.reduceBNe, cond_true, cond_false, NT.get_leaf, Nat.reduceSub, d_true, d_false, clsOf, beq_self_eq_true, Int.reduceToNat, Nat.reduceAdd, Nat.reduceMul, Nat.reduceEqDiff, decide_true, decide_false, if_true, if_false, ite_true, ite_false, reduceIte, reduceCtorEq, eq_self, true_and, and_true, true_implies, g1, g2, g3, g4, hg3, ho3, hd]
      refine hN rfl _ M3 F2 hΦ3 hC03 hN2 (by simp (config := { maxSteps := 1000000 }) (disch := (first | assumption | omega | exact Nm.old_n (by omega) | exact Nm.old_hp (by assumption) | (simp only [List.length_set, List.length_cons, List.length_nil, List.length_append, List.length_map, List.length_replicate] <;> omega))) only [nmS0, nmS1, nmS2, nmS3, nmS4, nmS5, nmS6, nmS7, Nat.testBit, Nat.reduceShiftRight, Nat.reduceAnd, Nat.reduceBNe, cond_true, cond_false, NT.get_leaf, Nat.reduceSub, d_true, d_false, clsOf, beq_self_eq_true, Int.reduceToNat, Nat.reduceAdd, Nat.reduceMul, Nat.reduceEqDiff, decide_true, decide_false, if_true, if_false, ite_true, ite_false, reduceIte, reduceCtorEq, eq_self, true_and, and_true, true_implies, g1]) (by simp (config := { maxSteps := 1000000 }) (disch := (first | assumption | omega | exact Nm.old_n (by omega) | exact Nm.old_hp (by assumption) | (simp only [List.length_set, List.length_cons, List.length_nil, List.length_append, List.length_map, List.length_replicate] <;> omega))) only [nmS0, nmS1, nmS2, nmS3, nmS4, nmS5, nmS6, nmS7, Nat.testBit, Nat.reduceShiftRight, Nat.reduceAnd, Nat.reduceBNe, cond_true, cond_false, NT.get_leaf, Nat.reduceSub, d_true, d_false, clsOf, beq_self_eq_true, Int.reduceToNat, Nat.reduceAdd, Nat.reduceMul, Nat.reduceEqDiff, decide_true, decide_false, if_true, if_false, ite_true, ite_false, reduceIte, reduceCtorEq, eq_self, true_and, and_true, true_implies, g2]) (by simp (config := { maxSteps := 1000000 }) (disch := (first | assumption | omega | exact Nm.old_n (by omega) | exact Nm.old_hp (by assumption) | (simp only [List.length_set, List.length_cons, List.length_nil, List.length_append, List.length_map, List.length_replicate] <;> omega))) only [nmS0, nmS1, nmS2, nmS3, nmS4, nmS5, nmS6, nmS7, Nat.testBit, Nat.reduceShiftRight, Nat.reduceAnd, Nat.reduceBNe, cond_true, cond_false, NT.get_leaf, Nat.reduceSub, d_true, d_false, clsOf, beq_self_eq_true, Int.reduceToNat, Nat.reduceAdd, Nat.reduceMul, Nat.reduceEqDiff, decide_true, decide_false, if_true, if_false, ite_true, ite_false, reduceIte, reduceCtorEq, eq_self, true_and, and_true, true_implies, g3]) (by simp (config := { maxSteps := 1000000 }) (disch := (first | assumption | omega | exact Nm.old_n (by omega) | exact Nm.old_hp (by assumption) | (simp only [List.length_set, List.length_cons, List.length_nil, List.length_append, List.length_map, List.length_replicate] <;> omega))) only [nmS0, nmS1, nmS2, nmS3, nmS4, nmS5, nmS6, nmS7, Nat.testBit, Nat.reduceShiftRight, Nat.reduceAnd, Nat.reduceBNe, cond_true, cond_false, NT.get_leaf, Nat.reduceSub, d_true, d_false, clsOf, beq_self_eq_true, Int.reduceToNat, Nat.reduceAdd, Nat.reduceMul, Nat.reduceEqDiff, decide_true, decide_false, if_true, if_false, ite_true, ite_false, reduceIte, reduceCtorEq, eq_self, true_and, and_true, true_implies]; rfl)
end
end FR

open Go Nm Go.Proofs
namespace FR
set_option linter.unusedSimpArgs false
set_option linter.unusedVariables false
section
variable {σ : Type} {q : D4} {m0 : NH} {T : D4 → Prop} {A : σ → Stm → Prop} {f : σ → Stm → σ × Bool} {Φ : σ → List D4 → NH → Prop}
theorem allL_split (l : List Stm) (i : Nat) (hi : i < l.length) : allL l = allL (l.take i) ++ (l[i].all ++ allL (l.drop (i + 1))) := by
  conv => lhs; rw [← List.take_append_drop i l, List.drop_eq_getElem_cons hi]
  rw [allL_append, allL]
theorem each_list (hy : Ylds q m0 T A f Φ) {l : List Stm} (ih : ∀ x ∈ l, EachL q m0 T A f Φ x.b ∧ EachL q m0 T A f Φ x.e) : EachL q m0 T A f Φ l := by
  intro v C N s F hS hΦ hA hsz
  refine WF.ex1 fun K hK => ?_
  refine WF.of_wpG (fun _ => rfl) nf98_eq (L := [(.a .e, .yld q), (.e, v)]) rfl ?_
  unfold nf98
  have hlen := (hS.stays (stN (hy.base hΦ) T)).sl.len
  rw [hS.len] at hlen
  have hll := len_szB l
  simp (config := { maxSteps := 1000000 }) (disch := (first | assumption | omega | exact Nm.old_n (by omega) | exact Nm.old_hp (by assumption) | (simp only [List.length_set, List.length_cons, List.length_nil, List.length_append, List.length_map, List.length_replicate] <;> omega))) only [nmS0, nmS1, nmS2, nmS3, nmS4, nmS5, nmS6, nmS7, Nat.testBit, Nat.reduceShiftRight, Nat.reduceAnd, Nat.reduceBNe, cond_true, cond_false, NT.get_leaf, Nat.reduceSub, d_true, d_false, clsOf, beq_self_eq_true, Int.reduceToNat, Nat.reduceAdd, Nat.reduceMul, Nat.reduceEqDiff, decide_true, decide_false, if_true, if_false, ite_true, ite_false, reduceIte, reduceCtorEq, eq_self, true_and, and_true, true_implies, hlen, hp_nil]
  refine W.loop (fun k d => ∃ t M i F', d = ⟨t, [], none, M⟩ ∧ NT.get D4.e.a t = some (.yld q) ∧ NT.get D4.e.a.c t = some v ∧ NT.get D4.e.a.f t = some (ii l.length) ∧ NT.get D4.e.b.a t = some (ii (i : Nat)) ∧ i + k = l.length ∧ (foldS f (allL (l.take i)) s).2 = true ∧ Φ (foldS f (allL (l.take i)) s).1 F' M ∧ Chg F N M ∧ (∀ i ∈ F', i ∈ F ∨ ¬ Old N i)) ?_ l.length _ ⟨_, N, 0, F, rfl, by simp (config := { maxSteps := 1000000 }) (disch := (first | assumption | omega | exact Nm.old_n (by omega) | exact Nm.old_hp (by assumption) | (simp only [List.length_set, List.length_cons, List.length_nil, List.length_append, List.length_map, List.length_replicate] <;> omega))) only [nmS0, nmS1, nmS2, nmS3, nmS4, nmS5, nmS6, nmS7, Nat.testBit, Nat.reduceShiftRight, Nat.reduceAnd, Nat.reduceBNe, cond_true, cond_false, NT.get_leaf, Nat.reduceSub, d_true, d_false, clsOf, beq_self_eq_true, Int.reduceToNat, Nat.reduceAdd, Nat.reduceMul, Nat.reduceEqDiff, decide_true, decide_false, if_true, if_false, ite_true, ite_false, reduceIte, reduceCtorEq, eq_self, true_and, and_true, true_implies], by simp (config := { maxSteps := 1000000 }) (disch := (first | assumption | omega | exact Nm.old_n (by omega) | exact Nm.old_hp (by assumption) | (simp only [List.length_set, List.length_cons, List.length_nil, List.length_append, List.length_map, List.length_replicate] <;> omega))) only [nmS0, nmS1, nmS2, nmS3, nmS4, nmS5, nmS6, nmS7, Nat.testBit, Nat.reduceShiftRight, Nat.reduceAnd, Nat.reduceBNe, cond_true, cond_false, NT.get_leaf, Nat.reduceSub, d_true, d_false, clsOf, beq_self_eq_true, Int.reduceToNat, Nat.reduceAdd, Nat.reduceMul, Nat.reduceEqDiff, decide_true, decide_false, if_true, if_false, ite_true, ite_false, reduceIte, reduceCtorEq, eq_self, true_and, and_true, true_implies], by simp (config := { maxSteps := 1000000 }) (disch := (first | assumption | omega | exact Nm.old_n (by omega) | exact Nm.old_hp (by assumption) | (simp only [List.length_set, List.length_cons, List.length_nil, List.length_append, List.length_map, List.length_replicate] <;> omega))) only [nmS0, nmS1, nmS2, nmS3, nmS4, nmS5, nmS6, nmS7, Nat.testBit, Nat.reduceShiftRight, Nat.reduceAnd, Nat.reduceBNe, cond_true, cond_false, NT.get_leaf, Nat.reduceSub, d_true, d_false, clsOf, beq_self_eq_true, Int.reduceToNat, Nat.reduceAdd, Nat.reduceMul, Nat.reduceEqDiff, decide_true, decide_false, if_true, if_false, ite_true, ite_false, reduceIte, reduceCtorEq, eq_self, true_and, and_true, true_implies], by simp (config := { maxSteps := 1000000 }) (disch := (first | assumption | omega | exact Nm.old_n (by omega) | exact Nm.old_hp (by assumption) | (simp only [List.length_set, List.length_cons, List.length_nil, List.length_append, List.length_map, List.length_replicate] <;> omega))) only [nmS0, nmS1, nmS2, nmS3, nmS4, nmS5, nmS6, nmS7, Nat.testBit, Nat.reduceShiftRight, Nat.reduceAnd, Nat.reduceBNe, cond_true, cond_false, NT.get_leaf, Nat.reduceSub, d_true, d_false, clsOf, beq_self_eq_true, Int.reduceToNat, Nat.reduceAdd, Nat.reduceMul, Nat.reduceEqDiff, decide_true, decide_false, if_true, if_false, ite_true, ite_false, reduceIte, reduceCtorEq, eq_self, true_and, and_true, true_implies]; rfl, by omega, rfl, hΦ, (Chg.refl N).weak (by simp), fun _ h => Or.inl h⟩
  rintro k d ⟨t, M, i, F', rfl, g1, g2, g3, g4, hik, hb, hΦ', hC, hF⟩
  apply wp_sound
  change wp _ _ _ _ ⟨puts [] t, [], none, M⟩ _
  by_cases hi : i < l.length
  · have hCM := hy.base hΦ'
    have hSM := hS.stays (stN hCM T)
    obtain ⟨cx, hcx, hRx⟩ := hS.at i hi
    obtain ⟨id, off, wr, c, a1, a2, a3, a4, a5⟩ := hSM.sl.at i (by rw [hS.len]; exact hi)
    have ecx : C[i]'(by rw [hS.len]; exact hi) = cx := by
      have := List.getElem?_eq_getElem (l := C) (i := i) (by rw [hS.len]; exact hi)
      rw [this] at hcx; injection hcx
    rw [ecx] at a5
    obtain ⟨w, rfl, hP⟩ := hRx.inv'
    have hsx := szB_mem (List.getElem_mem hi)
    obtain ⟨h1, h2⟩ := ih _ (List.getElem_mem hi)
    have hst : foldS f (allL (l.take (i + 1))) s = foldS f l[i].all (foldS f (allL (l.take i)) s).1 := by rw [allL_take hi, foldS_append, hb, if_pos rfl]
    rw [allL_split l i hi, Al_append, Al_append] at hA
    have hAi := (hA.2 hb).1
    refine each_round hy hRx hP h1 h2 hAi (by omega) hΦ' (n := l.length) hi (by omega) a1 a2 a3 a4 a5 g1 g2 g3 g4 ?_ ?_
    · intro hb2 t' N' F2 hΦ2 hC2 hF2 g1 g2 g3 g4
      refine ⟨k - 1, by omega, t', N', i + 1, F2, rfl, g1, g2, g3, g4, by omega, ?_, ?_, hC.trans hC2 fun j hj ho => (hF j hj).elim _root_.id fun q => absurd ho q, fun j hj => (hF2 j hj).elim (hF j) fun q => Or.inr fun o => q (hC.old o)⟩
      · rw [hst]; exact hb2
      · rw [hst]; exact hΦ2
    · intro hb2 t' N' F2 hΦ2 hC2 hF2 g1
      have hfin : foldS f (allL l) s = foldS f l[i].all (foldS f (allL (l.take i)) s).1 := by
        rw [allL_split l i hi, foldS_append, hb, if_pos rfl, foldS_append, hb2]; rfl
      simp (config := { maxSteps := 1000000 }) (disch := (first | assumption | omega | exact Nm.old_n (by omega) | exact Nm.old_hp (by assumption) | (simp only [List.length_set, List.length_cons, List.length_nil, List.length_append, List.length_map, List.length_replicate] <;> omega))) only [nmS0, nmS1, nmS2, nmS3, nmS4, nmS5, nmS6, nmS7, Nat.testBit, Nat.reduceShiftRight, Nat.reduceAnd, Nat.reduceBNe, cond_true, cond_false, NT.get_leaf, Nat.reduceSub, d_true, d_false, clsOf, beq_self_eq_true, Int.reduceToNat, Nat.reduceAdd, Nat.reduceMul, Nat.reduceEqDiff, decide_true, decide_false, if_true, if_false, ite_true, ite_false, reduceIte, reduceCtorEq, eq_self, true_and, and_true, true_implies, g1]
      rw [hfin] at hK
      rw [← hb2]
      exact hK _ ⟨F2, hΦ2, hC.trans hC2 fun j hj ho => (hF j hj).elim _root_.id fun q => absurd ho q, fun j hj => (hF2 j hj).elim (hF j) fun q => Or.inr fun o => q (hC.old o)⟩
  · have e : (l.take i) = l := List.take_of_length_le (by omega)
    rw [e] at hb hΦ'
    rw [hb] at hK
    unfold nf98_l1
    simp (config := { maxSteps := 1000000 }) (disch := (first | assumption | omega | exact Nm.old_n (by omega) | exact Nm.old_hp (by assumption) | (simp only [List.length_set, List.length_cons, List.length_nil, List.length_append, List.length_map, List.length_replicate] <;> omega))) only [nmS0, nmS1, nmS2, nmS3, nmS4, nmS5, nmS6, nmS7, Nat.testBit, Nat.reduceShiftRight, Nat.reduceAnd, Nat.reduceBNe, cond_true, cond_false, NT.get_leaf, Nat.reduceSub, d_true, d_false, clsOf, beq_self_eq_true, Int.reduceToNat, Nat.reduceAdd, Nat.reduceMul, Nat.reduceEqDiff, decide_true, decide_false, if_true, if_false, ite_true, ite_false, reduceIte, reduceCtorEq, eq_self, true_and, and_true, true_implies, g1, g2, g3, g4]
    exact hK _ ⟨F', hΦ', hC, hF⟩
theorem each_all (hy : Ylds q m0 T A f Φ) : ∀ l : List Stm, EachL q m0 T A f Φ l := by
  have key : ∀ x : Stm, EachL q m0 T A f Φ x.b ∧ EachL q m0 T A f Φ x.e := by
    apply Stm.ind
    intro k a nm ce i x y b e hb he
    exact ⟨each_list hy hb, each_list hy he⟩
  exact fun l => each_list hy fun x _ => key x
/-- the iterator's code -/
theorem all_it (hy : Ylds q m0 T A f Φ) {l : List Stm} {v : NV} {C : List (List NV)} {N : NH} {s : σ} {F : List D4} {id : D4} (hg : N.get id = some (.cells true [v])) (hS : SS m0 T v l C) (hΦ : Φ s F N) (hA : Al A f (allL l) s) (hsz : szB l ≤ 1000000000) :
    ∃ N', Ret Try.prog S0 97 [.yld q, .ptr id 0] N (.tup []) N' ∧ ∃ F', Φ (foldS f (allL l) s).1 F' N' ∧ Chg F N N' ∧ ∀ i ∈ F', i ∈ F ∨ ¬ Old N i := by
  refine WF.ex1 fun K hK => ?_
  refine WF.of_wpG (fun _ => rfl) nf97_eq (L := [(.a .e, .ptr id 0), (.e, .yld q)]) rfl ?_
  unfold nf97
  simp (config := { maxSteps := 1000000 }) (disch := (first | assumption | omega | exact Nm.old_n (by omega) | exact Nm.old_hp (by assumption) | (simp only [List.length_set, List.length_cons, List.length_nil, List.length_append, List.length_map, List.length_replicate] <;> omega))) only [nmS0, nmS1, nmS2, nmS3, nmS4, nmS5, nmS6, nmS7, Nat.testBit, Nat.reduceShiftRight, Nat.reduceAnd, Nat.reduceBNe, cond_true, cond_false, NT.get_leaf, Nat.reduceSub, d_true, d_false, clsOf, beq_self_eq_true, Int.reduceToNat, Nat.reduceAdd, Nat.reduceMul, Nat.reduceEqDiff, decide_true, decide_false, if_true, if_false, ite_true, ite_false, reduceIte, reduceCtorEq, eq_self, true_and, and_true, true_implies, hg, hp_nil]
  refine WF.use1 (each_all hy l hS hΦ hA hsz) ?_
  intro N' h
  simp (config := { maxSteps := 1000000 }) (disch := (first | assumption | omega | exact Nm.old_n (by omega) | exact Nm.old_hp (by assumption) | (simp only [List.length_set, List.length_cons, List.length_nil, List.length_append, List.length_map, List.length_replicate] <;> omega))) only [nmS0, nmS1, nmS2, nmS3, nmS4, nmS5, nmS6, nmS7, Nat.testBit, Nat.reduceShiftRight, Nat.reduceAnd, Nat.reduceBNe, cond_true, cond_false, NT.get_leaf, Nat.reduceSub, d_true, d_false, clsOf, beq_self_eq_true, Int.reduceToNat, Nat.reduceAdd, Nat.reduceMul, Nat.reduceEqDiff, decide_true, decide_false, if_true, if_false, ite_true, ite_false, reduceIte, reduceCtorEq, eq_self, true_and, and_true, true_implies]
  exact hK _ h
end
/-- All: the iterator -/
theorem all_p (m : NH) {v : NV} (hv : cellsOf v = some [v]) : Ret Try.prog S0 53 [v] m (.fn 97 [.ptr (na m 0) 0]) (hp [(.n 0, .cells true [v])] 1 m) := by
  have h : ∃ r m', Ret Try.prog S0 53 [v] m r m' ∧ r = .fn 97 [.ptr (na m 0) 0] ∧ m' = (hp [(.n 0, .cells true [v])] 1 m) := by
    refine WF.ex fun K hK => ?_
    refine WF.of_wpG (fun _ => rfl) nf53_eq (L := [(.e, v)]) rfl ?_
    unfold nf53
    simp (config := { maxSteps := 1000000 }) (disch := (first | assumption | omega | exact Nm.old_n (by omega) | exact Nm.old_hp (by assumption) | (simp only [List.length_set, List.length_cons, List.length_nil, List.length_append, List.length_map, List.length_replicate] <;> omega))) only [nmS0, nmS1, nmS2, nmS3, nmS4, nmS5, nmS6, nmS7, Nat.testBit, Nat.reduceShiftRight, Nat.reduceAnd, Nat.reduceBNe, cond_true, cond_false, NT.get_leaf, Nat.reduceSub, d_true, d_false, clsOf, beq_self_eq_true, Int.reduceToNat, Nat.reduceAdd, Nat.reduceMul, Nat.reduceEqDiff, decide_true, decide_false, if_true, if_false, ite_true, ite_false, reduceIte, reduceCtorEq, eq_self, true_and, and_true, true_implies, hv]
    exact hK _ _ ⟨rfl, rfl⟩
  obtain ⟨r, m', h1, rfl, rfl⟩ := h
  exact h1
end FR

open Go Nm Go.Proofs
namespace FR
set_option linter.unusedSimpArgs false
set_option linter.unusedVariables false
/-- what the loop of Locals has -/
def LcΦ (q o : D4) (t : Tm) (M1 : NH) (st : List (List Nat) × Nat) (F : List D4) (N : NH) : Prop := ∃ u, F = q :: o :: ids u ∧ Chg [q, o] M1 N ∧ N.get q = some (.loop 0 .none t [D4.e.a.c] nf17_a1 nf17_r2) ∧ N.get o = some (.cells true [u]) ∧ Own M1 N u 1 (Strs st.1) ∧ st.1.length ≤ st.2
def LcA (st : List (List Nat) × Nat) (x : Stm) : Prop := x.sz ≤ 100000000 ∧ st.2 + x.own.length ≤ 100000000
def Lcf (st : List (List Nat) × Nat) (x : Stm) : (List (List Nat) × Nat) × Bool := ((x.own.foldl insN st.1, st.2 + x.own.length), true)
theorem lc_ylds {m0 M1 : NH} {T : D4 → Prop} {q o : D4} {t : Tm} (h1 : NT.get D4.e.c t = some (.ptr o 0)) (h0 : ∀ S, Chg [q, o] M1 S → Chg [] m0 S) (hoq : o ≠ q) (hqo : Old M1 q) (hoo : Old M1 o) : Ylds q m0 T LcA Lcf (LcΦ q o t M1) := by
  refine ⟨?_, ?_, ?_, ?_⟩
  · rintro s F N ⟨u, rfl, hC, hq, ho, hu, hl⟩; exact h0 _ hC
  · rintro s F N ⟨u, rfl, hC, hq, ho, hu, hl⟩ i hi
    rcases List.mem_cons.mp hi with rfl | hi
    · exact hC.old hqo
    · rcases List.mem_cons.mp hi with rfl | hi
      · exact hC.old hoo
      · exact hu.sl.old i hi
  · rintro s F N N' ⟨u, rfl, hC, hq, ho, hu, hl⟩ hC'
    exact ⟨u, rfl, hC.trans hC' (by simp), (hC'.get (hC.old hqo) (by simp)).trans hq, (hC'.get (hC.old hoo) (by simp)).trans ho, hu.chg hC' fun _ _ => by simp, hl⟩
  · rintro s F N x c ⟨u, rfl, hC, hq, ho, hu, hl⟩ hR ⟨hA1, hA2⟩
    obtain ⟨w, rfl, hP⟩ := hR.inv'
    refine WY.ex1 fun K hK => ?_
    refine WY.of_wp hq rfl nf17_a1.eq_1 nf17_r2.eq_1 ?_
    change wp _ _ _ _ ⟨puts [(D4.e.a.c, .agg (x.l w))] t, [], none, hp [] 0 N⟩ _
    have hl21 : (x.l w).length = 21 := rfl
    have hl21' : (x.l w).take 21 = x.l w := rfl
    have oq := hC.old hqo
    have oo := hC.old hoo
    have hqo' : q ≠ o := fun e => hoq e.symm
    simp (config := { maxSteps := 1000000 }) (disch := (first | assumption | omega | exact Nm.old_n (by omega) | exact Nm.old_hp (by assumption) | (simp only [List.length_set, List.length_cons, List.length_nil, List.length_append, List.length_map, List.length_replicate] <;> omega))) only [nmS0, nmS1, nmS2, nmS3, nmS4, nmS5, nmS6, nmS7, Nat.testBit, Nat.reduceShiftRight, Nat.reduceAnd, Nat.reduceBNe, cond_true, cond_false, NT.get_leaf, Nat.reduceSub, d_true, d_false, clsOf, beq_self_eq_true, Int.reduceToNat, Nat.reduceAdd, Nat.reduceMul, Nat.reduceEqDiff, decide_true, decide_false, if_true, if_false, ite_true, ite_false, reduceIte, reduceCtorEq, eq_self, true_and, and_true, true_implies, h1, hq, ho, hl21, hl21']
    generalize hM2 : hp _ 1 N = M2
    have hC2 : Chg [q] N M2 := by rw [← hM2]; exact hp_of rfl
    have q2 : M2.get q = some (.loop 1 .none t [D4.e.a.c] nf17_a1 nf17_r2) := by rw [← hM2]; exact (h_getO oq).trans h_lookOs
    have o2 : M2.get o = some (.cells true [u]) := (hC2.get oo (by simpa using hoq)).trans ho
    have b2 : M2.get (na N 0) = some (.cells true (x.l w)) := by rw [← hM2]; exact h_getN
    have ob2 : Old M2 (na N 0) := by rw [← hM2]; exact old_n (by omega)
    have hC02 : Chg [] m0 M2 := h0 _ (hC.trans (hC2.weak (T := [q, o]) (by simp)) fun _ h _ => h)
    refine WF.use (names_p hR hC02 hA1) ?_
    rintro v3 M3 ⟨hv3, hC3⟩
    have q3 := (hC3.get (hC2.old oq) (by simp)).trans q2
    have o3 := (hC3.get (hC2.old oo) (by simp)).trans o2
    have b3 := (hC3.get ob2 (by simp)).trans b2
    have hqu : q ∉ ids u := fun h => hu.new _ h hqo
    have hou : o ∉ ids u := fun h => hu.new _ h hoo
    have hu3 : Own M1 M3 u 1 (Strs s.1) := (hu.chg hC2 fun i hi => by simp; rintro rfl; exact hqu hi).chg hC3 fun _ _ => by simp
    have hus : sameV 4 u u = true := hu.sl.same
    simp (config := { maxSteps := 1000000 }) (disch := (first | assumption | omega | exact Nm.old_n (by omega) | exact Nm.old_hp (by assumption) | (simp only [List.length_set, List.length_cons, List.length_nil, List.length_append, List.length_map, List.length_replicate] <;> omega))) only [nmS0, nmS1, nmS2, nmS3, nmS4, nmS5, nmS6, nmS7, Nat.testBit, Nat.reduceShiftRight, Nat.reduceAnd, Nat.reduceBNe, cond_true, cond_false, NT.get_leaf, Nat.reduceSub, d_true, d_false, clsOf, beq_self_eq_true, Int.reduceToNat, Nat.reduceAdd, Nat.reduceMul, Nat.reduceEqDiff, decide_true, decide_false, if_true, if_false, ite_true, ite_false, reduceIte, reduceCtorEq, eq_self, true_and, and_true, true_implies, h1, q3, o3, b3, hl21, hl21', hus]
    refine WF.use (join_p hu3 hv3.sl (fun i hi hiu => hv3.new i hi (hC2.old (hu.sl.old i hiu))) (fun i hi => hC3.old (hC2.old (hC.old hi))) (by omega)) ?_
    rintro v4 M4 ⟨hv4, hC4, hF4⟩
    have q4 := (hC4.get (hC3.old (hC2.old oq)) hqu).trans q3
    have o4 := (hC4.get (hC3.old (hC2.old oo)) hou).trans o3
    have oq4 := hC4.old (hC3.old (hC2.old oq))
    have oo4 := hC4.old (hC3.old (hC2.old oo))
    rw [← hp_nil M4]
    simp (config := { maxSteps := 1000000 }) (disch := (first | assumption | omega | exact Nm.old_n (by omega) | exact Nm.old_hp (by assumption) | (simp only [List.length_set, List.length_cons, List.length_nil, List.length_append, List.length_map, List.length_replicate] <;> omega))) only [nmS0, nmS1, nmS2, nmS3, nmS4, nmS5, nmS6, nmS7, Nat.testBit, Nat.reduceShiftRight, Nat.reduceAnd, Nat.reduceBNe, cond_true, cond_false, NT.get_leaf, Nat.reduceSub, d_true, d_false, clsOf, beq_self_eq_true, Int.reduceToNat, Nat.reduceAdd, Nat.reduceMul, Nat.reduceEqDiff, decide_true, decide_false, if_true, if_false, ite_true, ite_false, reduceIte, reduceCtorEq, eq_self, true_and, and_true, true_implies, h1, q4, o4, b3, hl21, hl21', hus, hv4.sl.one]
    generalize hM5 : hp _ 0 M4 = M5
    have hC5 : Chg [q, o] M4 M5 := by rw [← hM5]; exact hp_of rfl
    have hqv : q ∉ ids v4 := fun h => hv4.new _ h hqo
    have hov : o ∉ ids v4 := fun h => hv4.new _ h hoo
    have hCN : Chg (q :: o :: ids u) N M5 := (((hC2.weak (T := q :: o :: ids u) (by simp)).trans hC3 (by simp)).trans hC4 (fun _ h _ => by simp [h])).trans hC5 (fun i h _ => by simp at h ⊢; rcases h with h | h <;> simp [h])
    refine hK _ ⟨_, ⟨v4, rfl, ?_, ?_, ?_, ?_, ?_⟩, hCN, ?_⟩
    · refine hC.trans hCN fun i hi ho => ?_
      simp only [List.mem_cons] at hi
      rcases hi with rfl | rfl | hi
      · simp
      · simp
      · exact absurd ho (hu.new i hi)
    · rw [← hM5]; exact (h_getO oq4).trans h_lookOs
    · rw [← hM5]; exact (h_getO oo4).trans ((h_lookOo hoq).trans h_lookOs)
    · refine hv4.chg hC5 fun i hi => ?_
      simp only [List.mem_cons, List.not_mem_nil, or_false, not_or]
      exact ⟨fun e => hqv (e ▸ hi), fun e => hov (e ▸ hi)⟩
    · have := foldN_le x.own s.1
      show _ ≤ s.2 + x.own.length
      simp only [Lcf]
      omega
    · intro i hi
      simp only [List.mem_cons] at hi ⊢
      rcases hi with rfl | rfl | hi
      · simp
      · simp
      · rcases hF4 i hi with h | h
        · exact Or.inl (Or.inr (Or.inr h))
        · exact Or.inr fun ho => h (hC3.old (hC2.old ho))
theorem lc_fold (l : List Stm) : ∀ st, foldS Lcf l st = (((l.flatMap Stm.own).foldl insN st.1, st.2 + (l.flatMap Stm.own).length), true) := by
  induction l with
  | nil => intro st; rfl
  | cons x l ih =>
    intro st
    show (if true then foldS Lcf l (Lcf st x).1 else _) = _
    rw [if_pos rfl, ih]
    simp only [Lcf, List.flatMap_cons, List.foldl_append, List.length_append]
    rw [Nat.add_assoc]
theorem lc_al (l : List Stm) : ∀ st : List (List Nat) × Nat, (∀ x ∈ l, x.sz ≤ 100000000) → st.2 + (l.flatMap Stm.own).length ≤ 100000000 → Al LcA Lcf l st := by
  induction l with
  | nil => intro st _ _; trivial
  | cons x l ih =>
    intro st h1 h2
    rw [List.flatMap_cons, List.length_append] at h2
    exact ⟨⟨h1 x (List.mem_cons_self ..), by omega⟩, fun _ => ih _ (fun y hy => h1 y (List.mem_cons_of_mem _ hy)) (by simp only [Lcf]; omega)⟩
theorem all_sz : ∀ x : Stm, (∀ y ∈ x.all, y.sz ≤ x.sz) ∧ (x.all.flatMap Stm.own).length ≤ 2 * x.sz := by
  apply Stm.ind
  intro k a nm ce i x y b e hb he
  have key : ∀ l : List Stm, (∀ s ∈ l, (∀ y ∈ s.all, y.sz ≤ s.sz) ∧ (s.all.flatMap Stm.own).length ≤ 2 * s.sz) → (∀ y ∈ allL l, y.sz ≤ szB l) ∧ ((allL l).flatMap Stm.own).length ≤ 2 * szB l := by
    intro l
    induction l with
    | nil => intro _; exact ⟨by simp [allL], by simp [allL]⟩
    | cons s l ih =>
      intro h
      obtain ⟨h1, h2⟩ := h s (List.mem_cons_self ..)
      obtain ⟨h3, h4⟩ := ih fun y hy => h y (List.mem_cons_of_mem _ hy)
      rw [allL, szB, List.flatMap_append, List.length_append]
      refine ⟨fun y hy => ?_, by omega⟩
      rcases List.mem_append.mp hy with hy | hy
      · have := h1 y hy; omega
      · have := h3 y hy; omega
  obtain ⟨b1, b2⟩ := key b hb
  obtain ⟨e1, e2⟩ := key e he
  have hi := names_le i
  have hx := names_le x
  have hy := names_le y
  have ho : (Stm.mk k a nm ce i x y b e).own.length ≤ 1 + i.sz + x.sz + y.sz := by
    rw [Stm.own]
    simp only [List.length_append]
    have : ∀ (p : Prop) [Decidable p] (l : List (List Nat)), (if p then l else []).length ≤ l.length := by intro p _ l; split <;> simp
    have a1 := this (k = 0 ∨ k = 1 ∨ k = 3) [nm]
    have a2 := this (k = 1 ∨ k = 2 ∨ k = 3) i.names
    have a3 := this (k = 0 ∨ k = 2 ∨ k = 3 ∨ k = 5 ∨ k = 6 ∨ k = 7) x.names
    have a4 := this (k = 3) y.names
    simp only [List.length_singleton] at a1
    omega
  rw [Stm.all, Stm.sz]
  constructor
  · intro z hz
    rcases List.mem_cons.mp hz with rfl | hz
    · rw [Stm.sz]; omega
    · rcases List.mem_append.mp hz with hz | hz
      · split at hz
        · have := b1 z hz; omega
        · simp at hz
      · split at hz
        · have := e1 z hz; omega
        · simp at hz
  · rw [List.flatMap_cons, List.flatMap_append, List.length_append, List.length_append]
    have c1 : ((if k = 6 ∨ k = 7 then allL b else []).flatMap Stm.own).length ≤ 2 * szB b := by split <;> first | exact b2 | simp
    have c2 : ((if k = 6 then allL e else []).flatMap Stm.own).length ≤ 2 * szB e := by split <;> first | exact e2 | simp
    omega
theorem allL_sz (l : List Stm) : (∀ y ∈ allL l, y.sz ≤ szB l) ∧ ((allL l).flatMap Stm.own).length ≤ 2 * szB l := by
  induction l with
  | nil => exact ⟨by simp [allL], by simp [allL]⟩
  | cons s l ih =>
    obtain ⟨h1, h2⟩ := all_sz s
    obtain ⟨h3, h4⟩ := ih
    rw [allL, szB, List.flatMap_append, List.length_append]
    refine ⟨fun y hy => ?_, by omega⟩
    rcases List.mem_append.mp hy with hy | hy
    · have := h1 y hy; omega
    · have := h3 y hy; omega
/-- Locals -/
theorem locals_p {m0 m : NH} {T : D4 → Prop} {v : NV} {l : List Stm} {C : List (List NV)} (hS : SS m0 T v l C) (hC0 : Chg [] m0 m) (hsz : szB l ≤ 10000000) :
    ∃ r m', Ret Try.prog S0 17 [v] m r m' ∧ Own m m' r 1 (Strs (locals l)) ∧ Chg [] m m' := by
  refine WF.ex fun K hK => ?_
  refine WF.of_wpM (fun _ => rfl) nf17_eq (L := [(.e, v)]) rfl ?_
  unfold nf17
  simp (config := { maxSteps := 1000000 }) (disch := (first | assumption | omega | exact Nm.old_n (by omega) | exact Nm.old_hp (by assumption) | (simp only [List.length_set, List.length_cons, List.length_nil, List.length_append, List.length_map, List.length_replicate] <;> omega))) only [nmS0, nmS1, nmS2, nmS3, nmS4, nmS5, nmS6, nmS7, Nat.testBit, Nat.reduceShiftRight, Nat.reduceAnd, Nat.reduceBNe, cond_true, cond_false, NT.get_leaf, Nat.reduceSub, d_true, d_false, clsOf, beq_self_eq_true, Int.reduceToNat, Nat.reduceAdd, Nat.reduceMul, Nat.reduceEqDiff, decide_true, decide_false, if_true, if_false, ite_true, ite_false, reduceIte, reduceCtorEq, eq_self, true_and, and_true, true_implies, (all_p _ hS.sl.one).wf']
  generalize hM0 : hp [(.n 0, .cells true [.nils])] 1 m = M0
  have hC1 : Chg [] m M0 := by rw [← hM0]; exact hp_of rfl
  have go0 : M0.get (na m 0) = some (.cells true [.nils]) := by rw [← hM0]; exact h_getN
  have oo0 : Old M0 (na m 0) := by rw [← hM0]; exact old_n (by omega)
  generalize hM : hp [(.n 0, .cells true [v])] 1 M0 = M
  have hC2 : Chg [] M0 M := by rw [← hM]; exact hp_of rfl
  have gz : M.get (na M0 0) = some (.cells true [v]) := by rw [← hM]; exact h_getN
  have oz : Old M (na M0 0) := by rw [← hM]; exact old_n (by omega)
  have go := (hC2.get oo0 (by simp)).trans go0
  have oo := hC2.old oo0
  have hCm : Chg [] m M := hC1.trans hC2 (by simp)
  generalize ht : puts [(D4.e.a.b, NV.fn 97 [NV.ptr (na M0 0) 0]), (D4.e.a.a, v), (D4.e.c, NV.ptr (na m 0) 0), (D4.e.b, NV.nils), (D4.e, v)] NT.leaf = t
  have g1 : NT.get D4.e.c t = some (.ptr (na m 0) 0) := by rw [← ht]; simp (config := { maxSteps := 1000000 }) (disch := (first | assumption | omega | exact Nm.old_n (by omega) | exact Nm.old_hp (by assumption) | (simp only [List.length_set, List.length_cons, List.length_nil, List.length_append, List.length_map, List.length_replicate] <;> omega))) only [nmS0, nmS1, nmS2, nmS3, nmS4, nmS5, nmS6, nmS7, Nat.testBit, Nat.reduceShiftRight, Nat.reduceAnd, Nat.reduceBNe, cond_true, cond_false, NT.get_leaf, Nat.reduceSub, d_true, d_false, clsOf, beq_self_eq_true, Int.reduceToNat, Nat.reduceAdd, Nat.reduceMul, Nat.reduceEqDiff, decide_true, decide_false, if_true, if_false, ite_true, ite_false, reduceIte, reduceCtorEq, eq_self, true_and, and_true, true_implies]
  have g2 : NT.get D4.e.a.b t = some (.fn 97 [.ptr (na M0 0) 0]) := by rw [← ht]; simp (config := { maxSteps := 1000000 }) (disch := (first | assumption | omega | exact Nm.old_n (by omega) | exact Nm.old_hp (by assumption) | (simp only [List.length_set, List.length_cons, List.length_nil, List.length_append, List.length_map, List.length_replicate] <;> omega))) only [nmS0, nmS1, nmS2, nmS3, nmS4, nmS5, nmS6, nmS7, Nat.testBit, Nat.reduceShiftRight, Nat.reduceAnd, Nat.reduceBNe, cond_true, cond_false, NT.get_leaf, Nat.reduceSub, d_true, d_false, clsOf, beq_self_eq_true, Int.reduceToNat, Nat.reduceAdd, Nat.reduceMul, Nat.reduceEqDiff, decide_true, decide_false, if_true, if_false, ite_true, ite_false, reduceIte, reduceCtorEq, eq_self, true_and, and_true, true_implies]
  clear ht
  generalize hM1 : hp [(.n 1, .loop 0 .none t [D4.e.a.c] nf17_a1 nf17_r2), (.n 0, .defd true)] 2 M = M1
  have hG : Chg [] M M1 := by rw [← hM1]; exact hp_of rfl
  have oq : Old M1 (na M 1) := by rw [← hM1]; exact old_n (by omega)
  have om : Old M1 (na M 0) := by rw [← hM1]; exact old_n (by omega)
  have gq : M1.get (na M 1) = some (.loop 0 .none t [D4.e.a.c] nf17_a1 nf17_r2) := by rw [← hM1]; exact h_getN
  have gm : M1.get (na M 0) = some (.defd true) := by rw [← hM1]; exact h_getN
  have hoq : na m 0 ≠ na M 1 := oo.ne 1
  have hCm1 : Chg [] m M1 := hCm.trans hG (by simp)
  have h0 : ∀ S, Chg [na M 1, na m 0] M1 S → Chg [] m0 S := fun S h => (hC0.trans hCm1 (by simp)).trans h fun i hi ho => by
    simp only [List.mem_cons, List.not_mem_nil, or_false] at hi
    rcases hi with rfl | rfl
    · exact absurd (hCm.old (hC0.old ho)) na_old
    · exact absurd (hC0.old ho) na_old
  have hY := lc_ylds (T := T) g1 h0 hoq oq (hG.old oo)
  obtain ⟨hA1, hA2⟩ := allL_sz l
  obtain ⟨m', hr, F', ⟨u, rfl, hC3, hq3, ho3, hu3, -⟩, hC4, -⟩ := all_it hY (s := ([], 0)) (F := [na M 1, na m 0]) (id := na M0 0) ((hG.get oz (by simp)).trans gz) hS ⟨.nils, rfl, (Chg.refl M1).weak (by simp), gq, (hG.get oo (by simp)).trans go, Own.nil, by simp⟩ (lc_al _ _ (fun x hx => by have := hA1 x hx; omega) (by show 0 + _ ≤ _; omega)) (by omega)
  rw [lc_fold] at hu3
  refine W.rangeN g2 (hM1 ▸ hr) hq3 ?_ (hC3.old oq)
  have gm3 : m'.get (na M 0) = some (.defd true) := (hC3.get om (by
    simp only [List.mem_cons, List.not_mem_nil, or_false, not_or]
    exact ⟨fun e => by have := na_inj e; omega, fun e => oo.ne 0 e.symm⟩)).trans gm
  have om3 := hC3.old om
  have oo3 := hC3.old (hG.old oo)
  have hne : na M 0 ≠ na M 1 := fun e => by have := na_inj e; omega
  change onExit _ _ _ ⟨puts [] t, _, _, _⟩
  simp (config := { maxSteps := 1000000 }) (disch := (first | assumption | omega | exact Nm.old_n (by omega) | exact Nm.old_hp (by assumption) | (simp only [List.length_set, List.length_cons, List.length_nil, List.length_append, List.length_map, List.length_replicate] <;> omega))) only [nmS0, nmS1, nmS2, nmS3, nmS4, nmS5, nmS6, nmS7, Nat.testBit, Nat.reduceShiftRight, Nat.reduceAnd, Nat.reduceBNe, cond_true, cond_false, NT.get_leaf, Nat.reduceSub, d_true, d_false, clsOf, beq_self_eq_true, Int.reduceToNat, Nat.reduceAdd, Nat.reduceMul, Nat.reduceEqDiff, decide_true, decide_false, if_true, if_false, ite_true, ite_false, reduceIte, reduceCtorEq, eq_self, true_and, and_true, true_implies, g1, gm3, om3, ho3, oo3, hoq, hne]
  generalize hMe : hp _ 0 m' = Me
  have hCe : Chg [na M 1, na M 0] m' Me := by rw [← hMe]; exact (hp_of rfl : Chg [na M 0, na M 1] m' _).weak (by intro i hi _; simp at hi ⊢; exact hi.symm)
  refine hK _ _ ⟨?_, ?_⟩
  · refine (hu3.chg hCe fun i hi => ?_).back fun i hi => hCm1.old hi
    simp only [List.mem_cons, List.not_mem_nil, or_false, not_or]
    exact ⟨fun e => hu3.new i hi (e ▸ oq), fun e => hu3.new i hi (e ▸ om)⟩
  · refine ((hCm1.weak (T := [na M 1, na m 0, na M 0]) (by simp)).trans hC3 fun i h _ => by simp at h ⊢; rcases h with h | h <;> simp [h]).trans hCe (fun i h _ => by simp at h ⊢; rcases h with h | h <;> simp [h]) |>.weak fun i hi ho => ?_
    simp only [List.mem_cons, List.not_mem_nil, or_false] at hi
    rcases hi with rfl | rfl | rfl
    · exact absurd (hCm.old ho) na_old
    · exact absurd ho na_old
    · exact absurd (hCm.old ho) na_old
end FR

open Go Nm Go.Proofs
namespace FR
set_option linter.unusedSimpArgs false
set_option linter.unusedVariables false
/-- SameStrings -/
theorem sameStrings_r {m : NH} {u v : NV} {a b : List (List Nat)} (hu : Sl m u 1 (Strs a)) (hv : Sl m v 1 (Strs b)) (hsz : a.length ≤ 1000000000) : Ret Try.prog S0 16 [u, v] m (.bool (decide (a = b))) m := by
  have h : ∃ r m', Ret Try.prog S0 16 [u, v] m r m' ∧ r = (.bool (decide (a = b))) ∧ m' = m := by
    refine WF.ex fun K hK => ?_
    refine WF.of_wpG (fun _ => rfl) nf16_eq (L := [(.a .e, v), (.e, u)]) rfl ?_
    unfold nf16
    have hlu := hu.len
    have hlv := hv.len
    rw [List.length_map] at hlu hlv
    by_cases hl : a.length = b.length
    · simp (config := { maxSteps := 1000000 }) (disch := (first | assumption | omega | exact Nm.old_n (by omega) | exact Nm.old_hp (by assumption) | (simp only [List.length_set, List.length_cons, List.length_nil, List.length_append, List.length_map, List.length_replicate] <;> omega))) only [nmS0, nmS1, nmS2, nmS3, nmS4, nmS5, nmS6, nmS7, Nat.testBit, Nat.reduceShiftRight, Nat.reduceAnd, Nat.reduceBNe, cond_true, cond_false, NT.get_leaf, Nat.reduceSub, d_true, d_false, clsOf, beq_self_eq_true, Int.reduceToNat, Nat.reduceAdd, Nat.reduceMul, Nat.reduceEqDiff, decide_true, decide_false, if_true, if_false, ite_true, ite_false, reduceIte, reduceCtorEq, eq_self, true_and, and_true, true_implies, hlu, hlv]
      refine W.loop (fun k d => ∃ t i, d = ⟨t, [], none, hp [] 0 m⟩ ∧ NT.get D4.e t = some u ∧ NT.get D4.e.a t = some v ∧ NT.get D4.e.a.a t = some (ii (i : Nat)) ∧ i + k = a.length ∧ a.take i = b.take i) ?_ a.length _ ⟨_, 0, rfl, by simp (config := { maxSteps := 1000000 }) (disch := (first | assumption | omega | exact Nm.old_n (by omega) | exact Nm.old_hp (by assumption) | (simp only [List.length_set, List.length_cons, List.length_nil, List.length_append, List.length_map, List.length_replicate] <;> omega))) only [nmS0, nmS1, nmS2, nmS3, nmS4, nmS5, nmS6, nmS7, Nat.testBit, Nat.reduceShiftRight, Nat.reduceAnd, Nat.reduceBNe, cond_true, cond_false, NT.get_leaf, Nat.reduceSub, d_true, d_false, clsOf, beq_self_eq_true, Int.reduceToNat, Nat.reduceAdd, Nat.reduceMul, Nat.reduceEqDiff, decide_true, decide_false, if_true, if_false, ite_true, ite_false, reduceIte, reduceCtorEq, eq_self, true_and, and_true, true_implies], by simp (config := { maxSteps := 1000000 }) (disch := (first | assumption | omega | exact Nm.old_n (by omega) | exact Nm.old_hp (by assumption) | (simp only [List.length_set, List.length_cons, List.length_nil, List.length_append, List.length_map, List.length_replicate] <;> omega))) only [nmS0, nmS1, nmS2, nmS3, nmS4, nmS5, nmS6, nmS7, Nat.testBit, Nat.reduceShiftRight, Nat.reduceAnd, Nat.reduceBNe, cond_true, cond_false, NT.get_leaf, Nat.reduceSub, d_true, d_false, clsOf, beq_self_eq_true, Int.reduceToNat, Nat.reduceAdd, Nat.reduceMul, Nat.reduceEqDiff, decide_true, decide_false, if_true, if_false, ite_true, ite_false, reduceIte, reduceCtorEq, eq_self, true_and, and_true, true_implies], by simp (config := { maxSteps := 1000000 }) (disch := (first | assumption | omega | exact Nm.old_n (by omega) | exact Nm.old_hp (by assumption) | (simp only [List.length_set, List.length_cons, List.length_nil, List.length_append, List.length_map, List.length_replicate] <;> omega))) only [nmS0, nmS1, nmS2, nmS3, nmS4, nmS5, nmS6, nmS7, Nat.testBit, Nat.reduceShiftRight, Nat.reduceAnd, Nat.reduceBNe, cond_true, cond_false, NT.get_leaf, Nat.reduceSub, d_true, d_false, clsOf, beq_self_eq_true, Int.reduceToNat, Nat.reduceAdd, Nat.reduceMul, Nat.reduceEqDiff, decide_true, decide_false, if_true, if_false, ite_true, ite_false, reduceIte, reduceCtorEq, eq_self, true_and, and_true, true_implies]; rfl, by omega, by simp⟩
      rintro k d ⟨t, i, rfl, g1, g2, g3, hik, hn⟩
      apply wp_sound
      unfold nf16_l1
      change wp _ _ _ _ ⟨puts [] t, [], none, hp [] 0 m⟩ _
      by_cases hi : i < a.length
      · obtain ⟨id, off, w, c, a1, a2, a3, a4, a5⟩ := hu.at i (by simpa using hi)
        obtain ⟨id2, off2, w2, c2, b1, b2, b3, b4, b5⟩ := hv.at i (by simp; omega)
        rw [List.getElem_map] at a5 b5
        have c0 : c[off]? = some (.str a[i]) := cell_at a5 0 (by omega)
        have d0 : c2[off2]? = some (.str b[i]) := cell_at b5 0 (by omega)
        by_cases he : a[i] = b[i]
        · have he' : decide (a[i] ≠ b[i]) = false := decide_eq_false (by simpa using he)
          simp (config := { maxSteps := 1000000 }) (disch := (first | assumption | omega | exact Nm.old_n (by omega) | exact Nm.old_hp (by assumption) | (simp only [List.length_set, List.length_cons, List.length_nil, List.length_append, List.length_map, List.length_replicate] <;> omega))) only [nmS0, nmS1, nmS2, nmS3, nmS4, nmS5, nmS6, nmS7, Nat.testBit, Nat.reduceShiftRight, Nat.reduceAnd, Nat.reduceBNe, cond_true, cond_false, NT.get_leaf, Nat.reduceSub, d_true, d_false, clsOf, beq_self_eq_true, Int.reduceToNat, Nat.reduceAdd, Nat.reduceMul, Nat.reduceEqDiff, decide_true, decide_false, if_true, if_false, ite_true, ite_false, reduceIte, reduceCtorEq, eq_self, true_and, and_true, true_implies, g1, g2, g3, hlu, hlv, a1, a2, c0, b1, b2, d0, he']
          refine ⟨k - 1, by omega, _, i + 1, by rfl, ?_, ?_, ?_, by omega, ?_⟩
          · simp (config := { maxSteps := 1000000 }) (disch := (first | assumption | omega | exact Nm.old_n (by omega) | exact Nm.old_hp (by assumption) | (simp only [List.length_set, List.length_cons, List.length_nil, List.length_append, List.length_map, List.length_replicate] <;> omega))) only [nmS0, nmS1, nmS2, nmS3, nmS4, nmS5, nmS6, nmS7, Nat.testBit, Nat.reduceShiftRight, Nat.reduceAnd, Nat.reduceBNe, cond_true, cond_false, NT.get_leaf, Nat.reduceSub, d_true, d_false, clsOf, beq_self_eq_true, Int.reduceToNat, Nat.reduceAdd, Nat.reduceMul, Nat.reduceEqDiff, decide_true, decide_false, if_true, if_false, ite_true, ite_false, reduceIte, reduceCtorEq, eq_self, true_and, and_true, true_implies, g1]
          · simp (config := { maxSteps := 1000000 }) (disch := (first | assumption | omega | exact Nm.old_n (by omega) | exact Nm.old_hp (by assumption) | (simp only [List.length_set, List.length_cons, List.length_nil, List.length_append, List.length_map, List.length_replicate] <;> omega))) only [nmS0, nmS1, nmS2, nmS3, nmS4, nmS5, nmS6, nmS7, Nat.testBit, Nat.reduceShiftRight, Nat.reduceAnd, Nat.reduceBNe, cond_true, cond_false, NT.get_leaf, Nat.reduceSub, d_true, d_false, clsOf, beq_self_eq_true, Int.reduceToNat, Nat.reduceAdd, Nat.reduceMul, Nat.reduceEqDiff, decide_true, decide_false, if_true, if_false, ite_true, ite_false, reduceIte, reduceCtorEq, eq_self, true_and, and_true, true_implies, g2]
          · simp (config := { maxSteps := 1000000 }) (disch := (first | assumption | omega | exact Nm.old_n (by omega) | exact Nm.old_hp (by assumption) | (simp only [List.length_set, List.length_cons, List.length_nil, List.length_append, List.length_map, List.length_replicate] <;> omega))) only [nmS0, nmS1, nmS2, nmS3, nmS4, nmS5, nmS6, nmS7, Nat.testBit, Nat.reduceShiftRight, Nat.reduceAnd, Nat.reduceBNe, cond_true, cond_false, NT.get_leaf, Nat.reduceSub, d_true, d_false, clsOf, beq_self_eq_true, Int.reduceToNat, Nat.reduceAdd, Nat.reduceMul, Nat.reduceEqDiff, decide_true, decide_false, if_true, if_false, ite_true, ite_false, reduceIte, reduceCtorEq, eq_self, true_and, and_true, true_implies]; rfl
          · rw [List.take_add_one, List.take_add_one, hn, List.getElem?_eq_getElem hi, List.getElem?_eq_getElem (by omega), he]
        · have he' : decide (a[i] ≠ b[i]) = true := decide_eq_true he
          simp (config := { maxSteps := 1000000 }) (disch := (first | assumption | omega | exact Nm.old_n (by omega) | exact Nm.old_hp (by assumption) | (simp only [List.length_set, List.length_cons, List.length_nil, List.length_append, List.length_map, List.length_replicate] <;> omega))) only [nmS0, nmS1, nmS2, nmS3, nmS4, nmS5, nmS6, nmS7, Nat.testBit, Nat.reduceShiftRight, Nat.reduceAnd, Nat.reduceBNe, cond_true, cond_false, NT.get_leaf, Nat.reduceSub, d_true, d_false, clsOf, beq_self_eq_true, Int.reduceToNat, Nat.reduceAdd, Nat.reduceMul, Nat.reduceEqDiff, decide_true, decide_false, if_true, if_false, ite_true, ite_false, reduceIte, reduceCtorEq, eq_self, true_and, and_true, true_implies, g1, g2, g3, hlu, hlv, a1, a2, c0, b1, b2, d0, he', hp_nil]
          exact hK _ _ ⟨by rw [decide_eq_false fun e => he (by subst e; rfl)], rfl⟩
      · simp (config := { maxSteps := 1000000 }) (disch := (first | assumption | omega | exact Nm.old_n (by omega) | exact Nm.old_hp (by assumption) | (simp only [List.length_set, List.length_cons, List.length_nil, List.length_append, List.length_map, List.length_replicate] <;> omega))) only [nmS0, nmS1, nmS2, nmS3, nmS4, nmS5, nmS6, nmS7, Nat.testBit, Nat.reduceShiftRight, Nat.reduceAnd, Nat.reduceBNe, cond_true, cond_false, NT.get_leaf, Nat.reduceSub, d_true, d_false, clsOf, beq_self_eq_true, Int.reduceToNat, Nat.reduceAdd, Nat.reduceMul, Nat.reduceEqDiff, decide_true, decide_false, if_true, if_false, ite_true, ite_false, reduceIte, reduceCtorEq, eq_self, true_and, and_true, true_implies, g1, g2, g3, hlu, hlv, hp_nil]
        rw [List.take_of_length_le (by omega), List.take_of_length_le (by omega)] at hn
        exact hK _ _ ⟨by rw [decide_eq_true hn], rfl⟩
    · simp (config := { maxSteps := 1000000 }) (disch := (first | assumption | omega | exact Nm.old_n (by omega) | exact Nm.old_hp (by assumption) | (simp only [List.length_set, List.length_cons, List.length_nil, List.length_append, List.length_map, List.length_replicate] <;> omega))) only [nmS0, nmS1, nmS2, nmS3, nmS4, nmS5, nmS6, nmS7, Nat.testBit, Nat.reduceShiftRight, Nat.reduceAnd, Nat.reduceBNe, cond_true, cond_false, NT.get_leaf, Nat.reduceSub, d_true, d_false, clsOf, beq_self_eq_true, Int.reduceToNat, Nat.reduceAdd, Nat.reduceMul, Nat.reduceEqDiff, decide_true, decide_false, if_true, if_false, ite_true, ite_false, reduceIte, reduceCtorEq, eq_self, true_and, and_true, true_implies, hlu, hlv, hp_nil]
      exact hK _ _ ⟨by rw [decide_eq_false fun e => hl (by rw [e])], rfl⟩
  obtain ⟨r, m', h1, rfl, rfl⟩ := h
  exact h1
end FR

open Go Nm Go.Proofs
namespace FR
set_option linter.unusedSimpArgs false
set_option linter.unusedVariables false
theorem and15 (z : Int) : binV .num .and (ii z) (ii 15) = some (ii (z % 16)) := by
  refine (b_of rfl).trans ((and_low (k := .i64) (p := 4) (by decide) z).trans ?_)
  rfl
set_option maxRecDepth 100000 in
theorem ty_ints {m : NH} {l : List NV} (h : Ty Try.prog m 43 l) : ∃ v b, l = [v] ∧ Sl m v 1 (Ints b) := by
  obtain ⟨v, C, rfl, hS, hm, hall⟩ := h.inv_slc Try.underlying43
  have key : ∀ C : List (List NV), (∀ c ∈ C, Ty Try.prog m 3 c) → ∃ b : List Int, C = Ints b := by
    intro C
    induction C with
    | nil => intro _; exact ⟨[], rfl⟩
    | cons c C ih =>
      intro h
      obtain ⟨n, rfl, hw⟩ := (h c (List.mem_cons_self ..)).inv_int Try.underlying3
      obtain ⟨l, rfl⟩ := ih fun x hx => h x (List.mem_cons_of_mem _ hx)
      exact ⟨n :: l, rfl⟩
  obtain ⟨b, rfl⟩ := key C hall
  exact ⟨v, b, rfl, hS⟩
/-- the statements that are made -/
def zE : Ex := .mk 0 0 0 [] []
def outS (n : List Nat) : Stm := .mk 5 0 [] [] zE (.mk 1 0 0 n []) zE [] []
def outC (n : List Nat) : List NV := [ii 5, ii 0, .str [], .str [], ii 0, u64 0, u8 0, .str [], .nils, ii 1, u64 0, u8 0, .str n, .nils, ii 0, u64 0, u8 0, .str [], .nils, .nils, .nils]
theorem re0 (m : NH) (T : D4 → Prop) (k : Int) (n o : Nat) (s : List Nat) : RE m T (.mk k n o s []) [ii k, u64 n, u8 o, .str s, .nils] := .mk (C := []) Sl.nil (by simp [ids]) rfl (by simp)
theorem rs_out (m : NH) (T : D4 → Prop) (n : List Nat) : RS m T (outS n) (outC n) :=
  .mk (B := []) (E := []) (re0 m T 0 0 0 []) (re0 m T 1 0 0 n) (re0 m T 0 0 0 []) Sl.nil (by simp [ids]) rfl (by simp) Sl.nil (by simp [ids]) rfl (by simp)
theorem ss_out {m : NH} {v : NV} {ns : List (List Nat)} (h : Sl m v 21 (ns.map outC)) : SS m (fun _ => True) v (ns.map outS) (ns.map outC) := by
  refine ⟨h, fun _ _ => trivial, by simp, fun i x c h1 h2 => ?_⟩
  rw [List.getElem?_map] at h1 h2
  cases hn : ns[i]? with
  | none => rw [hn] at h1; cases h1
  | some n => rw [hn] at h1 h2; cases h1; cases h2; exact rs_out m _ n
theorem locals_out (ns : List (List Nat)) : locals (ns.map outS) = ns.foldl insN [] := by
  have h : ∀ ns : List (List Nat), (allL (ns.map outS)).flatMap Stm.own = ns := by
    intro ns
    induction ns with
    | nil => rfl
    | cons n ns ih =>
      show ((outS n).all ++ allL (ns.map outS)).flatMap Stm.own = _
      have e1 : (outS n).all = [outS n] := by simp [outS, Stm.all]
      have e2 : (outS n).own = [n] := by simp [outS, Stm.own, Ex.names]
      rw [e1, List.flatMap_append, ih]
      simp [e2]
  unfold locals
  rw [h]
theorem sz_out (ns : List (List Nat)) : szB (ns.map outS) = 4 * ns.length := by
  induction ns with
  | nil => rfl
  | cons n ns ih =>
    rw [List.map_cons, szB, ih, List.length_cons]
    have : (outS n).sz = 4 := by simp [outS, Stm.sz, Ex.sz, szL, szB, zE]
    omega
def loopS (l : List Stm) : Stm := .mk 7 0 [] [] zE (.mk 0 1 0 [] []) zE l []
theorem locals_loop (l : List Stm) : locals [loopS l] = locals l := by
  unfold locals
  have e : (allL [loopS l]).flatMap Stm.own = (allL l).flatMap Stm.own := by
    simp [loopS, allL, Stm.all, Stm.own, Ex.names]
  rw [e]
theorem had_loop {m : NH} {v vb vw : NV} {Z : List (List Nat)} {n : List Nat} {x : Int} (hw : Sl m vw 1 (Strs Z)) (hsz : Z.length ≤ 1000000) {t : Tm} (g1 : NT.get D4.e t = some v) (g2 : NT.get D4.e.f t = some vb) (g3 : NT.get D4.e.a.a t = some vw) (g4 : NT.get D4.e.a.b t = some (ii x)) (g5 : NT.get D4.e.a.f t = some (.str n)) (g6 : NT.get D4.e.b.a t = some (.bool false)) (g7 : NT.get D4.e.b.b t = some (ii 0)) {Q : Out → Dyn → Prop}
    (hQ : ∀ t', NT.get D4.e t' = some v → NT.get D4.e.f t' = some vb → NT.get D4.e.a.a t' = some vw → NT.get D4.e.a.b t' = some (ii x) → NT.get D4.e.a.f t' = some (.str n) → NT.get D4.e.b.a t' = some (.bool (decide (n ∈ Z))) → Q (.exit 2) ⟨puts [] t', [], none, m⟩) :
    W Try.prog S0 none nf4_l1.loop ⟨t, [], none, m⟩ Q := by
  refine W.loop (fun k d => ∃ t i, d = ⟨t, [], none, m⟩ ∧ NT.get D4.e t = some v ∧ NT.get D4.e.f t = some vb ∧ NT.get D4.e.a.a t = some vw ∧ NT.get D4.e.a.b t = some (ii x) ∧ NT.get D4.e.a.f t = some (.str n) ∧ NT.get D4.e.b.a t = some (.bool (decide (n ∈ Z.take i))) ∧ NT.get D4.e.b.b t = some (ii (i : Nat)) ∧ i + k = Z.length) ?_ Z.length _ ⟨t, 0, rfl, g1, g2, g3, g4, g5, by simpa using g6, g7, by omega⟩
  rintro k d ⟨t, i, rfl, g1, g2, g3, g4, g5, g6, g7, hik⟩
  apply wp_sound
  unfold nf4_l1
  change wp _ _ _ _ ⟨puts [] t, [], none, m⟩ _
  have hlen := hw.len
  rw [List.length_map] at hlen
  by_cases hi : i < Z.length
  · obtain ⟨id, off, wr, c, a1, a2, a3, a4, a5⟩ := hw.at i (by simpa using hi)
    rw [List.getElem_map] at a5
    have c0 : c[off]? = some (.str Z[i]) := cell_at a5 0 (by omega)
    have htk : (n ∈ Z.take (i + 1)) = (n ∈ Z.take i ∨ Z[i] = n) := by
      rw [List.take_add_one, List.getElem?_eq_getElem hi]; simp only [List.mem_append, Option.toList_some, List.mem_singleton]; exact propext ⟨Or.imp_right Eq.symm, Or.imp_right Eq.symm⟩
    cases hq : decide (n ∈ Z.take i) with
    | true =>
      rw [hq] at g6
      simp (config := { maxSteps := 1000000 }) (disch := (first | assumption | omega | exact Nm.old_n (by omega) | exact Nm.old_hp (by assumption) | (simp only [List.length_set, List.length_cons, List.length_nil, List.length_append, List.length_map, List.length_replicate] <;> omega))) only [nmS0, nmS1, nmS2, nmS3, nmS4, nmS5, nmS6, nmS7, Nat.testBit, Nat.reduceShiftRight, Nat.reduceAnd, Nat.reduceBNe, cond_true, cond_false, NT.get_leaf, Nat.reduceSub, d_true, d_false, clsOf, beq_self_eq_true, Int.reduceToNat, Nat.reduceAdd, Nat.reduceMul, Nat.reduceEqDiff, decide_true, decide_false, if_true, if_false, ite_true, ite_false, reduceIte, reduceCtorEq, eq_self, true_and, and_true, true_implies, g1, g2, g3, g4, g5, g6, g7, hlen]
      refine ⟨k - 1, by omega, _, i + 1, by rfl, by simp (config := { maxSteps := 1000000 }) (disch := (first | assumption | omega | exact Nm.old_n (by omega) | exact Nm.old_hp (by assumption) | (simp only [List.length_set, List.length_cons, List.length_nil, List.length_append, List.length_map, List.length_replicate] <;> omega))) only [nmS0, nmS1, nmS2, nmS3, nmS4, nmS5, nmS6, nmS7, Nat.testBit, Nat.reduceShiftRight, Nat.reduceAnd, Nat.reduceBNe, cond_true, cond_false, NT.get_leaf, Nat.reduceSub, d_true, d_false, clsOf, beq_self_eq_true, Int.reduceToNat, Nat.reduceAdd, Nat.reduceMul, Nat.reduceEqDiff, decide_true, decide_false, if_true, if_false, ite_true, ite_false, reduceIte, reduceCtorEq, eq_self, true_and, and_true, true_implies, g1], by simp (config := { maxSteps := 1000000 }) (disch := (first | assumption | omega | exact Nm.old_n (by omega) | exact Nm.old_hp (by assumption) | (simp only [List.length_set, List.length_cons, List.length_nil, List.length_append, List.length_map, List.length_replicate] <;> omega))) only [nmS0, nmS1, nmS2, nmS3, nmS4, nmS5, nmS6, nmS7, Nat.testBit, Nat.reduceShiftRight, Nat.reduceAnd, Nat.reduceBNe, cond_true, cond_false, NT.get_leaf, Nat.reduceSub, d_true, d_false, clsOf, beq_self_eq_true, Int.reduceToNat, Nat.reduceAdd, Nat.reduceMul, Nat.reduceEqDiff, decide_true, decide_false, if_true, if_false, ite_true, ite_false, reduceIte, reduceCtorEq, eq_self, true_and, and_true, true_implies, g2], by simp (config := { maxSteps := 1000000 }) (disch := (first | assumption | omega | exact Nm.old_n (by omega) | exact Nm.old_hp (by assumption) | (simp only [List.length_set, List.length_cons, List.length_nil, List.length_append, List.length_map, List.length_replicate] <;> omega))) only [nmS0, nmS1, nmS2, nmS3, nmS4, nmS5, nmS6, nmS7, Nat.testBit, Nat.reduceShiftRight, Nat.reduceAnd, Nat.reduceBNe, cond_true, cond_false, NT.get_leaf, Nat.reduceSub, d_true, d_false, clsOf, beq_self_eq_true, Int.reduceToNat, Nat.reduceAdd, Nat.reduceMul, Nat.reduceEqDiff, decide_true, decide_false, if_true, if_false, ite_true, ite_false, reduceIte, reduceCtorEq, eq_self, true_and, and_true, true_implies, g3], by simp (config := { maxSteps := 1000000 }) (disch := (first | assumption | omega | exact Nm.old_n (by omega) | exact Nm.old_hp (by assumption) | (simp only [List.length_set, List.length_cons, List.length_nil, List.length_append, List.length_map, List.length_replicate] <;> omega))) only [nmS0, nmS1, nmS2, nmS3, nmS4, nmS5, nmS6, nmS7, Nat.testBit, Nat.reduceShiftRight, Nat.reduceAnd, Nat.reduceBNe, cond_true, cond_false, NT.get_leaf, Nat.reduceSub, d_true, d_false, clsOf, beq_self_eq_true, Int.reduceToNat, Nat.reduceAdd, Nat.reduceMul, Nat.reduceEqDiff, decide_true, decide_false, if_true, if_false, ite_true, ite_false, reduceIte, reduceCtorEq, eq_self, true_and, and_true, true_implies, g4], by simp (config := { maxSteps := 1000000 }) (disch := (first | assumption | omega | exact Nm.old_n (by omega) | exact Nm.old_hp (by assumption) | (simp only [List.length_set, List.length_cons, List.length_nil, List.length_append, List.length_map, List.length_replicate] <;> omega))) only [nmS0, nmS1, nmS2, nmS3, nmS4, nmS5, nmS6, nmS7, Nat.testBit, Nat.reduceShiftRight, Nat.reduceAnd, Nat.reduceBNe, cond_true, cond_false, NT.get_leaf, Nat.reduceSub, d_true, d_false, clsOf, beq_self_eq_true, Int.reduceToNat, Nat.reduceAdd, Nat.reduceMul, Nat.reduceEqDiff, decide_true, decide_false, if_true, if_false, ite_true, ite_false, reduceIte, reduceCtorEq, eq_self, true_and, and_true, true_implies, g5], ?_, by simp (config := { maxSteps := 1000000 }) (disch := (first | assumption | omega | exact Nm.old_n (by omega) | exact Nm.old_hp (by assumption) | (simp only [List.length_set, List.length_cons, List.length_nil, List.length_append, List.length_map, List.length_replicate] <;> omega))) only [nmS0, nmS1, nmS2, nmS3, nmS4, nmS5, nmS6, nmS7, Nat.testBit, Nat.reduceShiftRight, Nat.reduceAnd, Nat.reduceBNe, cond_true, cond_false, NT.get_leaf, Nat.reduceSub, d_true, d_false, clsOf, beq_self_eq_true, Int.reduceToNat, Nat.reduceAdd, Nat.reduceMul, Nat.reduceEqDiff, decide_true, decide_false, if_true, if_false, ite_true, ite_false, reduceIte, reduceCtorEq, eq_self, true_and, and_true, true_implies]; rfl, by omega⟩
      simp (config := { maxSteps := 1000000 }) (disch := (first | assumption | omega | exact Nm.old_n (by omega) | exact Nm.old_hp (by assumption) | (simp only [List.length_set, List.length_cons, List.length_nil, List.length_append, List.length_map, List.length_replicate] <;> omega))) only [nmS0, nmS1, nmS2, nmS3, nmS4, nmS5, nmS6, nmS7, Nat.testBit, Nat.reduceShiftRight, Nat.reduceAnd, Nat.reduceBNe, cond_true, cond_false, NT.get_leaf, Nat.reduceSub, d_true, d_false, clsOf, beq_self_eq_true, Int.reduceToNat, Nat.reduceAdd, Nat.reduceMul, Nat.reduceEqDiff, decide_true, decide_false, if_true, if_false, ite_true, ite_false, reduceIte, reduceCtorEq, eq_self, true_and, and_true, true_implies, htk, Bool.decide_or, hq, Bool.true_or]
    | false =>
      rw [hq] at g6
      simp (config := { maxSteps := 1000000 }) (disch := (first | assumption | omega | exact Nm.old_n (by omega) | exact Nm.old_hp (by assumption) | (simp only [List.length_set, List.length_cons, List.length_nil, List.length_append, List.length_map, List.length_replicate] <;> omega))) only [nmS0, nmS1, nmS2, nmS3, nmS4, nmS5, nmS6, nmS7, Nat.testBit, Nat.reduceShiftRight, Nat.reduceAnd, Nat.reduceBNe, cond_true, cond_false, NT.get_leaf, Nat.reduceSub, d_true, d_false, clsOf, beq_self_eq_true, Int.reduceToNat, Nat.reduceAdd, Nat.reduceMul, Nat.reduceEqDiff, decide_true, decide_false, if_true, if_false, ite_true, ite_false, reduceIte, reduceCtorEq, eq_self, true_and, and_true, true_implies, g1, g2, g3, g4, g5, g6, g7, hlen, a1, a2, c0]
      refine ⟨k - 1, by omega, _, i + 1, by rfl, by simp (config := { maxSteps := 1000000 }) (disch := (first | assumption | omega | exact Nm.old_n (by omega) | exact Nm.old_hp (by assumption) | (simp only [List.length_set, List.length_cons, List.length_nil, List.length_append, List.length_map, List.length_replicate] <;> omega))) only [nmS0, nmS1, nmS2, nmS3, nmS4, nmS5, nmS6, nmS7, Nat.testBit, Nat.reduceShiftRight, Nat.reduceAnd, Nat.reduceBNe, cond_true, cond_false, NT.get_leaf, Nat.reduceSub, d_true, d_false, clsOf, beq_self_eq_true, Int.reduceToNat, Nat.reduceAdd, Nat.reduceMul, Nat.reduceEqDiff, decide_true, decide_false, if_true, if_false, ite_true, ite_false, reduceIte, reduceCtorEq, eq_self, true_and, and_true, true_implies, g1], by simp (config := { maxSteps := 1000000 }) (disch := (first | assumption | omega | exact Nm.old_n (by omega) | exact Nm.old_hp (by assumption) | (simp only [List.length_set, List.length_cons, List.length_nil, List.length_append, List.length_map, List.length_replicate] <;> omega))) only [nmS0, nmS1, nmS2, nmS3, nmS4, nmS5, nmS6, nmS7, Nat.testBit, Nat.reduceShiftRight, Nat.reduceAnd, Nat.reduceBNe, cond_true, cond_false, NT.get_leaf, Nat.reduceSub, d_true, d_false, clsOf, beq_self_eq_true, Int.reduceToNat, Nat.reduceAdd, Nat.reduceMul, Nat.reduceEqDiff, decide_true, decide_false, if_true, if_false, ite_true, ite_false, reduceIte, reduceCtorEq, eq_self, true_and, and_true, true_implies, g2], by simp (config := { maxSteps := 1000000 }) (disch := (first | assumption | omega | exact Nm.old_n (by omega) | exact Nm.old_hp (by assumption) | (simp only [List.length_set, List.length_cons, List.length_nil, List.length_append, List.length_map, List.length_replicate] <;> omega))) only [nmS0, nmS1, nmS2, nmS3, nmS4, nmS5, nmS6, nmS7, Nat.testBit, Nat.reduceShiftRight, Nat.reduceAnd, Nat.reduceBNe, cond_true, cond_false, NT.get_leaf, Nat.reduceSub, d_true, d_false, clsOf, beq_self_eq_true, Int.reduceToNat, Nat.reduceAdd, Nat.reduceMul, Nat.reduceEqDiff, decide_true, decide_false, if_true, if_false, ite_true, ite_false, reduceIte, reduceCtorEq, eq_self, true_and, and_true, true_implies, g3], by simp (config := { maxSteps := 1000000 }) (disch := (first | assumption | omega | exact Nm.old_n (by omega) | exact Nm.old_hp (by assumption) | (simp only [List.length_set, List.length_cons, List.length_nil, List.length_append, List.length_map, List.length_replicate] <;> omega))) only [nmS0, nmS1, nmS2, nmS3, nmS4, nmS5, nmS6, nmS7, Nat.testBit, Nat.reduceShiftRight, Nat.reduceAnd, Nat.reduceBNe, cond_true, cond_false, NT.get_leaf, Nat.reduceSub, d_true, d_false, clsOf, beq_self_eq_true, Int.reduceToNat, Nat.reduceAdd, Nat.reduceMul, Nat.reduceEqDiff, decide_true, decide_false, if_true, if_false, ite_true, ite_false, reduceIte, reduceCtorEq, eq_self, true_and, and_true, true_implies, g4], by simp (config := { maxSteps := 1000000 }) (disch := (first | assumption | omega | exact Nm.old_n (by omega) | exact Nm.old_hp (by assumption) | (simp only [List.length_set, List.length_cons, List.length_nil, List.length_append, List.length_map, List.length_replicate] <;> omega))) only [nmS0, nmS1, nmS2, nmS3, nmS4, nmS5, nmS6, nmS7, Nat.testBit, Nat.reduceShiftRight, Nat.reduceAnd, Nat.reduceBNe, cond_true, cond_false, NT.get_leaf, Nat.reduceSub, d_true, d_false, clsOf, beq_self_eq_true, Int.reduceToNat, Nat.reduceAdd, Nat.reduceMul, Nat.reduceEqDiff, decide_true, decide_false, if_true, if_false, ite_true, ite_false, reduceIte, reduceCtorEq, eq_self, true_and, and_true, true_implies, g5], ?_, by simp (config := { maxSteps := 1000000 }) (disch := (first | assumption | omega | exact Nm.old_n (by omega) | exact Nm.old_hp (by assumption) | (simp only [List.length_set, List.length_cons, List.length_nil, List.length_append, List.length_map, List.length_replicate] <;> omega))) only [nmS0, nmS1, nmS2, nmS3, nmS4, nmS5, nmS6, nmS7, Nat.testBit, Nat.reduceShiftRight, Nat.reduceAnd, Nat.reduceBNe, cond_true, cond_false, NT.get_leaf, Nat.reduceSub, d_true, d_false, clsOf, beq_self_eq_true, Int.reduceToNat, Nat.reduceAdd, Nat.reduceMul, Nat.reduceEqDiff, decide_true, decide_false, if_true, if_false, ite_true, ite_false, reduceIte, reduceCtorEq, eq_self, true_and, and_true, true_implies]; rfl, by omega⟩
      simp (config := { maxSteps := 1000000 }) (disch := (first | assumption | omega | exact Nm.old_n (by omega) | exact Nm.old_hp (by assumption) | (simp only [List.length_set, List.length_cons, List.length_nil, List.length_append, List.length_map, List.length_replicate] <;> omega))) only [nmS0, nmS1, nmS2, nmS3, nmS4, nmS5, nmS6, nmS7, Nat.testBit, Nat.reduceShiftRight, Nat.reduceAnd, Nat.reduceBNe, cond_true, cond_false, NT.get_leaf, Nat.reduceSub, d_true, d_false, clsOf, beq_self_eq_true, Int.reduceToNat, Nat.reduceAdd, Nat.reduceMul, Nat.reduceEqDiff, decide_true, decide_false, if_true, if_false, ite_true, ite_false, reduceIte, reduceCtorEq, eq_self, true_and, and_true, true_implies, htk, Bool.decide_or, hq, Bool.false_or]
  · simp (config := { maxSteps := 1000000 }) (disch := (first | assumption | omega | exact Nm.old_n (by omega) | exact Nm.old_hp (by assumption) | (simp only [List.length_set, List.length_cons, List.length_nil, List.length_append, List.length_map, List.length_replicate] <;> omega))) only [nmS0, nmS1, nmS2, nmS3, nmS4, nmS5, nmS6, nmS7, Nat.testBit, Nat.reduceShiftRight, Nat.reduceAnd, Nat.reduceBNe, cond_true, cond_false, NT.get_leaf, Nat.reduceSub, d_true, d_false, clsOf, beq_self_eq_true, Int.reduceToNat, Nat.reduceAdd, Nat.reduceMul, Nat.reduceEqDiff, decide_true, decide_false, if_true, if_false, ite_true, ite_false, reduceIte, reduceCtorEq, eq_self, true_and, and_true, true_implies, g1, g2, g3, g4, g5, g6, g7, hlen]
    rw [List.take_of_length_le (by omega)] at g6
    exact hQ _ (by simp (config := { maxSteps := 1000000 }) (disch := (first | assumption | omega | exact Nm.old_n (by omega) | exact Nm.old_hp (by assumption) | (simp only [List.length_set, List.length_cons, List.length_nil, List.length_append, List.length_map, List.length_replicate] <;> omega))) only [nmS0, nmS1, nmS2, nmS3, nmS4, nmS5, nmS6, nmS7, Nat.testBit, Nat.reduceShiftRight, Nat.reduceAnd, Nat.reduceBNe, cond_true, cond_false, NT.get_leaf, Nat.reduceSub, d_true, d_false, clsOf, beq_self_eq_true, Int.reduceToNat, Nat.reduceAdd, Nat.reduceMul, Nat.reduceEqDiff, decide_true, decide_false, if_true, if_false, ite_true, ite_false, reduceIte, reduceCtorEq, eq_self, true_and, and_true, true_implies, g1]) (by simp (config := { maxSteps := 1000000 }) (disch := (first | assumption | omega | exact Nm.old_n (by omega) | exact Nm.old_hp (by assumption) | (simp only [List.length_set, List.length_cons, List.length_nil, List.length_append, List.length_map, List.length_replicate] <;> omega))) only [nmS0, nmS1, nmS2, nmS3, nmS4, nmS5, nmS6, nmS7, Nat.testBit, Nat.reduceShiftRight, Nat.reduceAnd, Nat.reduceBNe, cond_true, cond_false, NT.get_leaf, Nat.reduceSub, d_true, d_false, clsOf, beq_self_eq_true, Int.reduceToNat, Nat.reduceAdd, Nat.reduceMul, Nat.reduceEqDiff, decide_true, decide_false, if_true, if_false, ite_true, ite_false, reduceIte, reduceCtorEq, eq_self, true_and, and_true, true_implies, g2]) (by simp (config := { maxSteps := 1000000 }) (disch := (first | assumption | omega | exact Nm.old_n (by omega) | exact Nm.old_hp (by assumption) | (simp only [List.length_set, List.length_cons, List.length_nil, List.length_append, List.length_map, List.length_replicate] <;> omega))) only [nmS0, nmS1, nmS2, nmS3, nmS4, nmS5, nmS6, nmS7, Nat.testBit, Nat.reduceShiftRight, Nat.reduceAnd, Nat.reduceBNe, cond_true, cond_false, NT.get_leaf, Nat.reduceSub, d_true, d_false, clsOf, beq_self_eq_true, Int.reduceToNat, Nat.reduceAdd, Nat.reduceMul, Nat.reduceEqDiff, decide_true, decide_false, if_true, if_false, ite_true, ite_false, reduceIte, reduceCtorEq, eq_self, true_and, and_true, true_implies, g3]) (by simp (config := { maxSteps := 1000000 }) (disch := (first | assumption | omega | exact Nm.old_n (by omega) | exact Nm.old_hp (by assumption) | (simp only [List.length_set, List.length_cons, List.length_nil, List.length_append, List.length_map, List.length_replicate] <;> omega))) only [nmS0, nmS1, nmS2, nmS3, nmS4, nmS5, nmS6, nmS7, Nat.testBit, Nat.reduceShiftRight, Nat.reduceAnd, Nat.reduceBNe, cond_true, cond_false, NT.get_leaf, Nat.reduceSub, d_true, d_false, clsOf, beq_self_eq_true, Int.reduceToNat, Nat.reduceAdd, Nat.reduceMul, Nat.reduceEqDiff, decide_true, decide_false, if_true, if_false, ite_true, ite_false, reduceIte, reduceCtorEq, eq_self, true_and, and_true, true_implies, g4]) (by simp (config := { maxSteps := 1000000 }) (disch := (first | assumption | omega | exact Nm.old_n (by omega) | exact Nm.old_hp (by assumption) | (simp only [List.length_set, List.length_cons, List.length_nil, List.length_append, List.length_map, List.length_replicate] <;> omega))) only [nmS0, nmS1, nmS2, nmS3, nmS4, nmS5, nmS6, nmS7, Nat.testBit, Nat.reduceShiftRight, Nat.reduceAnd, Nat.reduceBNe, cond_true, cond_false, NT.get_leaf, Nat.reduceSub, d_true, d_false, clsOf, beq_self_eq_true, Int.reduceToNat, Nat.reduceAdd, Nat.reduceMul, Nat.reduceEqDiff, decide_true, decide_false, if_true, if_false, ite_true, ite_false, reduceIte, reduceCtorEq, eq_self, true_and, and_true, true_implies, g5]) (by simp (config := { maxSteps := 1000000 }) (disch := (first | assumption | omega | exact Nm.old_n (by omega) | exact Nm.old_hp (by assumption) | (simp only [List.length_set, List.length_cons, List.length_nil, List.length_append, List.length_map, List.length_replicate] <;> omega))) only [nmS0, nmS1, nmS2, nmS3, nmS4, nmS5, nmS6, nmS7, Nat.testBit, Nat.reduceShiftRight, Nat.reduceAnd, Nat.reduceBNe, cond_true, cond_false, NT.get_leaf, Nat.reduceSub, d_true, d_false, clsOf, beq_self_eq_true, Int.reduceToNat, Nat.reduceAdd, Nat.reduceMul, Nat.reduceEqDiff, decide_true, decide_false, if_true, if_false, ite_true, ite_false, reduceIte, reduceCtorEq, eq_self, true_and, and_true, true_implies, g6])
theorem checkLocals (m : NH) (l : List NV) (h : TyA Try.prog m [43] l) : ∃ m', Ret Try.prog S0 4 l m (.bool true) m' := by
  obtain ⟨x, r, rfl, h1, h⟩ := h.inv1 (by intro fs q; rw [Try.underlying43] at q; simp at q)
  obtain rfl := h.inv0
  obtain ⟨v, zs, hx, hv⟩ := ty_ints h1
  have hxv : v = x := by simpa using hx.symm
  subst hxv
  have hlen := hv.len
  rw [List.length_map] at hlen
  have hal : ∀ m, Ret Try.prog S0 11 [] m (.bool true) m := fun m => Ret.kept rfl m
  have h : ∃ v' m', Ret Try.prog S0 4 [v] m v' m' ∧ v' = .bool true := by
    refine WF.ex fun K hK => ?_
    refine WF.of_wpG (fun _ => rfl) nf4_eq (L := [(.e, v)]) rfl ?_
    unfold nf4
    by_cases h40 : zs.length ≤ 40
    · simp (config := { maxSteps := 1000000 }) (disch := (first | assumption | omega | exact Nm.old_n (by omega) | exact Nm.old_hp (by assumption) | (simp only [List.length_set, List.length_cons, List.length_nil, List.length_append, List.length_map, List.length_replicate] <;> omega))) only [nmS0, nmS1, nmS2, nmS3, nmS4, nmS5, nmS6, nmS7, Nat.testBit, Nat.reduceShiftRight, Nat.reduceAnd, Nat.reduceBNe, cond_true, cond_false, NT.get_leaf, Nat.reduceSub, d_true, d_false, clsOf, beq_self_eq_true, Int.reduceToNat, Nat.reduceAdd, Nat.reduceMul, Nat.reduceEqDiff, decide_true, decide_false, if_true, if_false, ite_true, ite_false, reduceIte, reduceCtorEq, eq_self, true_and, and_true, true_implies, hp_nil, (hal _).wf', hlen]
      refine W.loop (fun k d => ∃ t M i vb vw ns, d = ⟨t, [], none, M⟩ ∧ NT.get D4.e t = some v ∧ NT.get D4.e.f t = some vb ∧ NT.get D4.e.a.a t = some vw ∧ NT.get D4.e.a.b t = some (ii (i : Nat)) ∧ i + k = zs.length ∧ ns.length = i ∧ Own m M vb 21 (ns.map outC) ∧ Own m M vw 1 (Strs (ns.foldl insN [])) ∧ (∀ j ∈ ids vb, j ∉ ids vw) ∧ Chg [] m M) ?_ zs.length _ ⟨_, m, 0, .nils, .nils, [], rfl, by simp (config := { maxSteps := 1000000 }) (disch := (first | assumption | omega | exact Nm.old_n (by omega) | exact Nm.old_hp (by assumption) | (simp only [List.length_set, List.length_cons, List.length_nil, List.length_append, List.length_map, List.length_replicate] <;> omega))) only [nmS0, nmS1, nmS2, nmS3, nmS4, nmS5, nmS6, nmS7, Nat.testBit, Nat.reduceShiftRight, Nat.reduceAnd, Nat.reduceBNe, cond_true, cond_false, NT.get_leaf, Nat.reduceSub, d_true, d_false, clsOf, beq_self_eq_true, Int.reduceToNat, Nat.reduceAdd, Nat.reduceMul, Nat.reduceEqDiff, decide_true, decide_false, if_true, if_false, ite_true, ite_false, reduceIte, reduceCtorEq, eq_self, true_and, and_true, true_implies], by simp (config := { maxSteps := 1000000 }) (disch := (first | assumption | omega | exact Nm.old_n (by omega) | exact Nm.old_hp (by assumption) | (simp only [List.length_set, List.length_cons, List.length_nil, List.length_append, List.length_map, List.length_replicate] <;> omega))) only [nmS0, nmS1, nmS2, nmS3, nmS4, nmS5, nmS6, nmS7, Nat.testBit, Nat.reduceShiftRight, Nat.reduceAnd, Nat.reduceBNe, cond_true, cond_false, NT.get_leaf, Nat.reduceSub, d_true, d_false, clsOf, beq_self_eq_true, Int.reduceToNat, Nat.reduceAdd, Nat.reduceMul, Nat.reduceEqDiff, decide_true, decide_false, if_true, if_false, ite_true, ite_false, reduceIte, reduceCtorEq, eq_self, true_and, and_true, true_implies], by simp (config := { maxSteps := 1000000 }) (disch := (first | assumption | omega | exact Nm.old_n (by omega) | exact Nm.old_hp (by assumption) | (simp only [List.length_set, List.length_cons, List.length_nil, List.length_append, List.length_map, List.length_replicate] <;> omega))) only [nmS0, nmS1, nmS2, nmS3, nmS4, nmS5, nmS6, nmS7, Nat.testBit, Nat.reduceShiftRight, Nat.reduceAnd, Nat.reduceBNe, cond_true, cond_false, NT.get_leaf, Nat.reduceSub, d_true, d_false, clsOf, beq_self_eq_true, Int.reduceToNat, Nat.reduceAdd, Nat.reduceMul, Nat.reduceEqDiff, decide_true, decide_false, if_true, if_false, ite_true, ite_false, reduceIte, reduceCtorEq, eq_self, true_and, and_true, true_implies], by simp (config := { maxSteps := 1000000 }) (disch := (first | assumption | omega | exact Nm.old_n (by omega) | exact Nm.old_hp (by assumption) | (simp only [List.length_set, List.length_cons, List.length_nil, List.length_append, List.length_map, List.length_replicate] <;> omega))) only [nmS0, nmS1, nmS2, nmS3, nmS4, nmS5, nmS6, nmS7, Nat.testBit, Nat.reduceShiftRight, Nat.reduceAnd, Nat.reduceBNe, cond_true, cond_false, NT.get_leaf, Nat.reduceSub, d_true, d_false, clsOf, beq_self_eq_true, Int.reduceToNat, Nat.reduceAdd, Nat.reduceMul, Nat.reduceEqDiff, decide_true, decide_false, if_true, if_false, ite_true, ite_false, reduceIte, reduceCtorEq, eq_self, true_and, and_true, true_implies]; rfl, by omega, rfl, Own.nil, Own.nil, by simp [ids], Chg.refl m⟩
      rintro k d ⟨t, M, i, vb, vw, ns, rfl, g1, g2, g3, g4, hik, hni, hb, hw, hd, hC⟩
      apply wp_sound
      unfold nf4_l2
      change wp _ _ _ _ ⟨puts [] t, [], none, M⟩ _
      rw [← hp_nil M]
      by_cases hi : i < zs.length
      · obtain ⟨id, off, wr, c, a1, a2, a3, a4, a5⟩ := hv.at i (by simpa using hi)
        rw [List.getElem_map] at a5
        have c0 : c[off]? = some (ii zs[i]) := cell_at a5 0 (by omega)
        have a2' := (hC.get a3 (by simp)).trans a2
        have a3' := hC.old a3
        have h15 := and15 zs[i]
        simp (config := { maxSteps := 1000000 }) (disch := (first | assumption | omega | exact Nm.old_n (by omega) | exact Nm.old_hp (by assumption) | (simp only [List.length_set, List.length_cons, List.length_nil, List.length_append, List.length_map, List.length_replicate] <;> omega))) only [nmS0, nmS1, nmS2, nmS3, nmS4, nmS5, nmS6, nmS7, Nat.testBit, Nat.reduceShiftRight, Nat.reduceAnd, Nat.reduceBNe, cond_true, cond_false, NT.get_leaf, Nat.reduceSub, d_true, d_false, clsOf, beq_self_eq_true, Int.reduceToNat, Nat.reduceAdd, Nat.reduceMul, Nat.reduceEqDiff, decide_true, decide_false, if_true, if_false, ite_true, ite_false, reduceIte, reduceCtorEq, eq_self, true_and, and_true, true_implies, g1, g2, g3, g4, hlen, a1, a2', c0, h15]
        generalize hn : List.drop (zs[i] % 16).toNat _ = n
        have hnl : (ns.foldl insN []).length ≤ ns.length := by have := foldN_le ns []; simpa using this
        have hC1 : Chg [] M (hp [(.n 0, .cells true (outC n))] 1 M) := hp_of rfl
        refine wNT_app2 (cs := outC n) (hb.chg hC1 fun _ _ => by simp) h_getN (old_n (by omega)) rfl (fun i hi => hC1.old (hC.old hi)) (by simp; omega) (by simp; omega) ?_
        intro vb2 M2 hb2 hC2 hF2
        have hbo := hb.sl.old
        have hwo := hw.sl.old
        have hw2 : Own m M2 vw 1 (Strs (ns.foldl insN [])) := (hw.chg hC1 fun _ _ => by simp).chg hC2 fun j hj hjb => hd j hjb hj
        have hd2 : ∀ j ∈ ids vb2, j ∉ ids vw := fun j hj hjw => (hF2 j hj).elim (fun h => hd j h hjw) fun q => q (hC1.old (hwo j hjw))
        have hC02 : Chg [] m M2 := (hC.trans hC1 (by simp)).trans hC2 fun j hj ho => absurd ho (hb.new j hj)
        rw [show ns.map outC ++ [outC n] = (ns ++ [n]).map outC by simp] at hb2
        simp (config := { maxSteps := 1000000 }) (disch := (first | assumption | omega | exact Nm.old_n (by omega) | exact Nm.old_hp (by assumption) | (simp only [List.length_set, List.length_cons, List.length_nil, List.length_append, List.length_map, List.length_replicate] <;> omega))) only [nmS0, nmS1, nmS2, nmS3, nmS4, nmS5, nmS6, nmS7, Nat.testBit, Nat.reduceShiftRight, Nat.reduceAnd, Nat.reduceBNe, cond_true, cond_false, NT.get_leaf, Nat.reduceSub, d_true, d_false, clsOf, beq_self_eq_true, Int.reduceToNat, Nat.reduceAdd, Nat.reduceMul, Nat.reduceEqDiff, decide_true, decide_false, if_true, if_false, ite_true, ite_false, reduceIte, reduceCtorEq, eq_self, true_and, and_true, true_implies, g1, g2, g3, g4]
        refine had_loop (v := v) (vb := vb2) (n := n) (x := i) hw2.sl (by omega) (by simp (config := { maxSteps := 1000000 }) (disch := (first | assumption | omega | exact Nm.old_n (by omega) | exact Nm.old_hp (by assumption) | (simp only [List.length_set, List.length_cons, List.length_nil, List.length_append, List.length_map, List.length_replicate] <;> omega))) only [nmS0, nmS1, nmS2, nmS3, nmS4, nmS5, nmS6, nmS7, Nat.testBit, Nat.reduceShiftRight, Nat.reduceAnd, Nat.reduceBNe, cond_true, cond_false, NT.get_leaf, Nat.reduceSub, d_true, d_false, clsOf, beq_self_eq_true, Int.reduceToNat, Nat.reduceAdd, Nat.reduceMul, Nat.reduceEqDiff, decide_true, decide_false, if_true, if_false, ite_true, ite_false, reduceIte, reduceCtorEq, eq_self, true_and, and_true, true_implies, g1]) (by simp (config := { maxSteps := 1000000 }) (disch := (first | assumption | omega | exact Nm.old_n (by omega) | exact Nm.old_hp (by assumption) | (simp only [List.length_set, List.length_cons, List.length_nil, List.length_append, List.length_map, List.length_replicate] <;> omega))) only [nmS0, nmS1, nmS2, nmS3, nmS4, nmS5, nmS6, nmS7, Nat.testBit, Nat.reduceShiftRight, Nat.reduceAnd, Nat.reduceBNe, cond_true, cond_false, NT.get_leaf, Nat.reduceSub, d_true, d_false, clsOf, beq_self_eq_true, Int.reduceToNat, Nat.reduceAdd, Nat.reduceMul, Nat.reduceEqDiff, decide_true, decide_false, if_true, if_false, ite_true, ite_false, reduceIte, reduceCtorEq, eq_self, true_and, and_true, true_implies]) (by simp (config := { maxSteps := 1000000 }) (disch := (first | assumption | omega | exact Nm.old_n (by omega) | exact Nm.old_hp (by assumption) | (simp only [List.length_set, List.length_cons, List.length_nil, List.length_append, List.length_map, List.length_replicate] <;> omega))) only [nmS0, nmS1, nmS2, nmS3, nmS4, nmS5, nmS6, nmS7, Nat.testBit, Nat.reduceShiftRight, Nat.reduceAnd, Nat.reduceBNe, cond_true, cond_false, NT.get_leaf, Nat.reduceSub, d_true, d_false, clsOf, beq_self_eq_true, Int.reduceToNat, Nat.reduceAdd, Nat.reduceMul, Nat.reduceEqDiff, decide_true, decide_false, if_true, if_false, ite_true, ite_false, reduceIte, reduceCtorEq, eq_self, true_and, and_true, true_implies, g3]) (by simp (config := { maxSteps := 1000000 }) (disch := (first | assumption | omega | exact Nm.old_n (by omega) | exact Nm.old_hp (by assumption) | (simp only [List.length_set, List.length_cons, List.length_nil, List.length_append, List.length_map, List.length_replicate] <;> omega))) only [nmS0, nmS1, nmS2, nmS3, nmS4, nmS5, nmS6, nmS7, Nat.testBit, Nat.reduceShiftRight, Nat.reduceAnd, Nat.reduceBNe, cond_true, cond_false, NT.get_leaf, Nat.reduceSub, d_true, d_false, clsOf, beq_self_eq_true, Int.reduceToNat, Nat.reduceAdd, Nat.reduceMul, Nat.reduceEqDiff, decide_true, decide_false, if_true, if_false, ite_true, ite_false, reduceIte, reduceCtorEq, eq_self, true_and, and_true, true_implies, g4]) (by simp (config := { maxSteps := 1000000 }) (disch := (first | assumption | omega | exact Nm.old_n (by omega) | exact Nm.old_hp (by assumption) | (simp only [List.length_set, List.length_cons, List.length_nil, List.length_append, List.length_map, List.length_replicate] <;> omega))) only [nmS0, nmS1, nmS2, nmS3, nmS4, nmS5, nmS6, nmS7, Nat.testBit, Nat.reduceShiftRight, Nat.reduceAnd, Nat.reduceBNe, cond_true, cond_false, NT.get_leaf, Nat.reduceSub, d_true, d_false, clsOf, beq_self_eq_true, Int.reduceToNat, Nat.reduceAdd, Nat.reduceMul, Nat.reduceEqDiff, decide_true, decide_false, if_true, if_false, ite_true, ite_false, reduceIte, reduceCtorEq, eq_self, true_and, and_true, true_implies]) (by simp (config := { maxSteps := 1000000 }) (disch := (first | assumption | omega | exact Nm.old_n (by omega) | exact Nm.old_hp (by assumption) | (simp only [List.length_set, List.length_cons, List.length_nil, List.length_append, List.length_map, List.length_replicate] <;> omega))) only [nmS0, nmS1, nmS2, nmS3, nmS4, nmS5, nmS6, nmS7, Nat.testBit, Nat.reduceShiftRight, Nat.reduceAnd, Nat.reduceBNe, cond_true, cond_false, NT.get_leaf, Nat.reduceSub, d_true, d_false, clsOf, beq_self_eq_true, Int.reduceToNat, Nat.reduceAdd, Nat.reduceMul, Nat.reduceEqDiff, decide_true, decide_false, if_true, if_false, ite_true, ite_false, reduceIte, reduceCtorEq, eq_self, true_and, and_true, true_implies]) (by simp (config := { maxSteps := 1000000 }) (disch := (first | assumption | omega | exact Nm.old_n (by omega) | exact Nm.old_hp (by assumption) | (simp only [List.length_set, List.length_cons, List.length_nil, List.length_append, List.length_map, List.length_replicate] <;> omega))) only [nmS0, nmS1, nmS2, nmS3, nmS4, nmS5, nmS6, nmS7, Nat.testBit, Nat.reduceShiftRight, Nat.reduceAnd, Nat.reduceBNe, cond_true, cond_false, NT.get_leaf, Nat.reduceSub, d_true, d_false, clsOf, beq_self_eq_true, Int.reduceToNat, Nat.reduceAdd, Nat.reduceMul, Nat.reduceEqDiff, decide_true, decide_false, if_true, if_false, ite_true, ite_false, reduceIte, reduceCtorEq, eq_self, true_and, and_true, true_implies]) ?_
        clear g1 g2 g3 g4
        intro t' g1 g2 g3 g4 g5 g6
        have hfl : (ns ++ [n]).foldl insN [] = insN (ns.foldl insN []) n := by rw [List.foldl_append]; rfl
        by_cases hin : n ∈ ns.foldl insN []
        · rw [decide_eq_true hin] at g6
          simp (config := { maxSteps := 1000000 }) (disch := (first | assumption | omega | exact Nm.old_n (by omega) | exact Nm.old_hp (by assumption) | (simp only [List.length_set, List.length_cons, List.length_nil, List.length_append, List.length_map, List.length_replicate] <;> omega))) only [nmS0, nmS1, nmS2, nmS3, nmS4, nmS5, nmS6, nmS7, Nat.testBit, Nat.reduceShiftRight, Nat.reduceAnd, Nat.reduceBNe, cond_true, cond_false, NT.get_leaf, Nat.reduceSub, d_true, d_false, clsOf, beq_self_eq_true, Int.reduceToNat, Nat.reduceAdd, Nat.reduceMul, Nat.reduceEqDiff, decide_true, decide_false, if_true, if_false, ite_true, ite_false, reduceIte, reduceCtorEq, eq_self, true_and, and_true, true_implies, g1, g2, g3, g4, g5, g6]
          refine ⟨k - 1, by omega, _, M2, i + 1, vb2, vw, ns ++ [n], by rfl, by simp (config := { maxSteps := 1000000 }) (disch := (first | assumption | omega | exact Nm.old_n (by omega) | exact Nm.old_hp (by assumption) | (simp only [List.length_set, List.length_cons, List.length_nil, List.length_append, List.length_map, List.length_replicate] <;> omega))) only [nmS0, nmS1, nmS2, nmS3, nmS4, nmS5, nmS6, nmS7, Nat.testBit, Nat.reduceShiftRight, Nat.reduceAnd, Nat.reduceBNe, cond_true, cond_false, NT.get_leaf, Nat.reduceSub, d_true, d_false, clsOf, beq_self_eq_true, Int.reduceToNat, Nat.reduceAdd, Nat.reduceMul, Nat.reduceEqDiff, decide_true, decide_false, if_true, if_false, ite_true, ite_false, reduceIte, reduceCtorEq, eq_self, true_and, and_true, true_implies, g1], by simp (config := { maxSteps := 1000000 }) (disch := (first | assumption | omega | exact Nm.old_n (by omega) | exact Nm.old_hp (by assumption) | (simp only [List.length_set, List.length_cons, List.length_nil, List.length_append, List.length_map, List.length_replicate] <;> omega))) only [nmS0, nmS1, nmS2, nmS3, nmS4, nmS5, nmS6, nmS7, Nat.testBit, Nat.reduceShiftRight, Nat.reduceAnd, Nat.reduceBNe, cond_true, cond_false, NT.get_leaf, Nat.reduceSub, d_true, d_false, clsOf, beq_self_eq_true, Int.reduceToNat, Nat.reduceAdd, Nat.reduceMul, Nat.reduceEqDiff, decide_true, decide_false, if_true, if_false, ite_true, ite_false, reduceIte, reduceCtorEq, eq_self, true_and, and_true, true_implies, g2], by simp (config := { maxSteps := 1000000 }) (disch := (first | assumption | omega | exact Nm.old_n (by omega) | exact Nm.old_hp (by assumption) | (simp only [List.length_set, List.length_cons, List.length_nil, List.length_append, List.length_map, List.length_replicate] <;> omega))) only [nmS0, nmS1, nmS2, nmS3, nmS4, nmS5, nmS6, nmS7, Nat.testBit, Nat.reduceShiftRight, Nat.reduceAnd, Nat.reduceBNe, cond_true, cond_false, NT.get_leaf, Nat.reduceSub, d_true, d_false, clsOf, beq_self_eq_true, Int.reduceToNat, Nat.reduceAdd, Nat.reduceMul, Nat.reduceEqDiff, decide_true, decide_false, if_true, if_false, ite_true, ite_false, reduceIte, reduceCtorEq, eq_self, true_and, and_true, true_implies, g3], by simp (config := { maxSteps := 1000000 }) (disch := (first | assumption | omega | exact Nm.old_n (by omega) | exact Nm.old_hp (by assumption) | (simp only [List.length_set, List.length_cons, List.length_nil, List.length_append, List.length_map, List.length_replicate] <;> omega))) only [nmS0, nmS1, nmS2, nmS3, nmS4, nmS5, nmS6, nmS7, Nat.testBit, Nat.reduceShiftRight, Nat.reduceAnd, Nat.reduceBNe, cond_true, cond_false, NT.get_leaf, Nat.reduceSub, d_true, d_false, clsOf, beq_self_eq_true, Int.reduceToNat, Nat.reduceAdd, Nat.reduceMul, Nat.reduceEqDiff, decide_true, decide_false, if_true, if_false, ite_true, ite_false, reduceIte, reduceCtorEq, eq_self, true_and, and_true, true_implies]; rfl, by omega, by simp; omega, hb2, ?_, hd2, hC02⟩
          rw [hfl, show insN _ _ = _ from if_pos hin]; exact hw2
        · rw [decide_eq_false hin] at g6
          rw [← hp_nil M2]
          simp (config := { maxSteps := 1000000 }) (disch := (first | assumption | omega | exact Nm.old_n (by omega) | exact Nm.old_hp (by assumption) | (simp only [List.length_set, List.length_cons, List.length_nil, List.length_append, List.length_map, List.length_replicate] <;> omega))) only [nmS0, nmS1, nmS2, nmS3, nmS4, nmS5, nmS6, nmS7, Nat.testBit, Nat.reduceShiftRight, Nat.reduceAnd, Nat.reduceBNe, cond_true, cond_false, NT.get_leaf, Nat.reduceSub, d_true, d_false, clsOf, beq_self_eq_true, Int.reduceToNat, Nat.reduceAdd, Nat.reduceMul, Nat.reduceEqDiff, decide_true, decide_false, if_true, if_false, ite_true, ite_false, reduceIte, reduceCtorEq, eq_self, true_and, and_true, true_implies, g1, g2, g3, g4, g5, g6]
          have hC3 : Chg [] M2 (hp [(.n 0, .cells true [.str n])] 1 M2) := hp_of rfl
          refine wNT_app2 (hw2.chg hC3 fun _ _ => by simp) h_getN (old_n (by omega)) rfl (fun i hi => hC3.old (hC02.old hi)) (by simp; omega) (by simp; omega) ?_
          intro vw2 M3 hw3 hC4 hF3
          have hb3 := (hb2.chg hC3 fun _ _ => by simp).chg hC4 fun j hj hjw => hd2 j hj hjw
          have hd3 : ∀ j ∈ ids vb2, j ∉ ids vw2 := fun j hj hjw => (hF3 j hjw).elim (fun h => hd2 j hj h) fun q => q (hC3.old (hb2.sl.old j hj))
          simp (config := { maxSteps := 1000000 }) (disch := (first | assumption | omega | exact Nm.old_n (by omega) | exact Nm.old_hp (by assumption) | (simp only [List.length_set, List.length_cons, List.length_nil, List.length_append, List.length_map, List.length_replicate] <;> omega))) only [nmS0, nmS1, nmS2, nmS3, nmS4, nmS5, nmS6, nmS7, Nat.testBit, Nat.reduceShiftRight, Nat.reduceAnd, Nat.reduceBNe, cond_true, cond_false, NT.get_leaf, Nat.reduceSub, d_true, d_false, clsOf, beq_self_eq_true, Int.reduceToNat, Nat.reduceAdd, Nat.reduceMul, Nat.reduceEqDiff, decide_true, decide_false, if_true, if_false, ite_true, ite_false, reduceIte, reduceCtorEq, eq_self, true_and, and_true, true_implies, g1, g2, g3, g4, g5, g6]
          refine ⟨k - 1, by omega, _, M3, i + 1, vb2, vw2, ns ++ [n], by rfl, by simp (config := { maxSteps := 1000000 }) (disch := (first | assumption | omega | exact Nm.old_n (by omega) | exact Nm.old_hp (by assumption) | (simp only [List.length_set, List.length_cons, List.length_nil, List.length_append, List.length_map, List.length_replicate] <;> omega))) only [nmS0, nmS1, nmS2, nmS3, nmS4, nmS5, nmS6, nmS7, Nat.testBit, Nat.reduceShiftRight, Nat.reduceAnd, Nat.reduceBNe, cond_true, cond_false, NT.get_leaf, Nat.reduceSub, d_true, d_false, clsOf, beq_self_eq_true, Int.reduceToNat, Nat.reduceAdd, Nat.reduceMul, Nat.reduceEqDiff, decide_true, decide_false, if_true, if_false, ite_true, ite_false, reduceIte, reduceCtorEq, eq_self, true_and, and_true, true_implies, g1], by simp (config := { maxSteps := 1000000 }) (disch := (first | assumption | omega | exact Nm.old_n (by omega) | exact Nm.old_hp (by assumption) | (simp only [List.length_set, List.length_cons, List.length_nil, List.length_append, List.length_map, List.length_replicate] <;> omega))) only [nmS0, nmS1, nmS2, nmS3, nmS4, nmS5, nmS6, nmS7, Nat.testBit, Nat.reduceShiftRight, Nat.reduceAnd, Nat.reduceBNe, cond_true, cond_false, NT.get_leaf, Nat.reduceSub, d_true, d_false, clsOf, beq_self_eq_true, Int.reduceToNat, Nat.reduceAdd, Nat.reduceMul, Nat.reduceEqDiff, decide_true, decide_false, if_true, if_false, ite_true, ite_false, reduceIte, reduceCtorEq, eq_self, true_and, and_true, true_implies, g2], by simp (config := { maxSteps := 1000000 }) (disch := (first | assumption | omega | exact Nm.old_n (by omega) | exact Nm.old_hp (by assumption) | (simp only [List.length_set, List.length_cons, List.length_nil, List.length_append, List.length_map, List.length_replicate] <;> omega))) only [nmS0, nmS1, nmS2, nmS3, nmS4, nmS5, nmS6, nmS7, Nat.testBit, Nat.reduceShiftRight, Nat.reduceAnd, Nat.reduceBNe, cond_true, cond_false, NT.get_leaf, Nat.reduceSub, d_true, d_false, clsOf, beq_self_eq_true, Int.reduceToNat, Nat.reduceAdd, Nat.reduceMul, Nat.reduceEqDiff, decide_true, decide_false, if_true, if_false, ite_true, ite_false, reduceIte, reduceCtorEq, eq_self, true_and, and_true, true_implies], by simp (config := { maxSteps := 1000000 }) (disch := (first | assumption | omega | exact Nm.old_n (by omega) | exact Nm.old_hp (by assumption) | (simp only [List.length_set, List.length_cons, List.length_nil, List.length_append, List.length_map, List.length_replicate] <;> omega))) only [nmS0, nmS1, nmS2, nmS3, nmS4, nmS5, nmS6, nmS7, Nat.testBit, Nat.reduceShiftRight, Nat.reduceAnd, Nat.reduceBNe, cond_true, cond_false, NT.get_leaf, Nat.reduceSub, d_true, d_false, clsOf, beq_self_eq_true, Int.reduceToNat, Nat.reduceAdd, Nat.reduceMul, Nat.reduceEqDiff, decide_true, decide_false, if_true, if_false, ite_true, ite_false, reduceIte, reduceCtorEq, eq_self, true_and, and_true, true_implies]; rfl, by omega, by simp; omega, hb3, ?_, hd3, (hC02.trans hC3 (by simp)).trans hC4 fun j hj ho => absurd ho (hw2.new j hj)⟩
          rw [hfl, show insN _ _ = _ from if_neg hin, strs_app]; exact hw3
      · simp (config := { maxSteps := 1000000 }) (disch := (first | assumption | omega | exact Nm.old_n (by omega) | exact Nm.old_hp (by assumption) | (simp only [List.length_set, List.length_cons, List.length_nil, List.length_append, List.length_map, List.length_replicate] <;> omega))) only [nmS0, nmS1, nmS2, nmS3, nmS4, nmS5, nmS6, nmS7, Nat.testBit, Nat.reduceShiftRight, Nat.reduceAnd, Nat.reduceBNe, cond_true, cond_false, NT.get_leaf, Nat.reduceSub, d_true, d_false, clsOf, beq_self_eq_true, Int.reduceToNat, Nat.reduceAdd, Nat.reduceMul, Nat.reduceEqDiff, decide_true, decide_false, if_true, if_false, ite_true, ite_false, reduceIte, reduceCtorEq, eq_self, true_and, and_true, true_implies, g1, g2, g3, g4, hlen]
        rw [hp_nil]
        have hSS := ss_out hb.sl
        have hszb := sz_out ns
        refine WF.use (locals_p hSS (Chg.refl M) (by omega)) ?_
        rintro u1 M1 ⟨hu1, hC1⟩
        rw [locals_out] at hu1
        have hw1 := hw.chg hC1 fun _ _ => by simp
        have hnl : (ns.foldl insN []).length ≤ ns.length := by have := foldN_le ns []; simpa using this
        have hss := sameStrings_r hu1.sl hw1.sl (by omega)
        rw [decide_eq_true rfl] at hss
        simp (config := { maxSteps := 1000000 }) (disch := (first | assumption | omega | exact Nm.old_n (by omega) | exact Nm.old_hp (by assumption) | (simp only [List.length_set, List.length_cons, List.length_nil, List.length_append, List.length_map, List.length_replicate] <;> omega))) only [nmS0, nmS1, nmS2, nmS3, nmS4, nmS5, nmS6, nmS7, Nat.testBit, Nat.reduceShiftRight, Nat.reduceAnd, Nat.reduceBNe, cond_true, cond_false, NT.get_leaf, Nat.reduceSub, d_true, d_false, clsOf, beq_self_eq_true, Int.reduceToNat, Nat.reduceAdd, Nat.reduceMul, Nat.reduceEqDiff, decide_true, decide_false, if_true, if_false, ite_true, ite_false, reduceIte, reduceCtorEq, eq_self, true_and, and_true, true_implies, g1, g2, g3, g4, hlen, hss.wf, hb.sl.one]
        generalize hM2 : hp _ 1 M1 = M2
        have hC2 : Chg [] M1 M2 := by rw [← hM2]; exact hp_of rfl
        have hb2 := ((hb.chg hC1 fun _ _ => by simp).chg hC2 fun _ _ => by simp)
        have gL : M2.get (na M1 0) = some (.cells true [ii 7, ii 0, .str [], .str [], ii 0, u64 0, u8 0, .str [], .nils, ii 0, u64 1, u8 0, .str [], .nils, ii 0, u64 0, u8 0, .str [], .nils, vb, .nils]) := by rw [← hM2]; exact h_getN
        have oL : Old M2 (na M1 0) := by rw [← hM2]; exact old_n (by omega)
        have hSL : SS M2 (fun _ => True) (.slc (na M1 0) 0 1 21 1) [loopS (ns.map outS)] [[ii 7, ii 0, .str [], .str [], ii 0, u64 0, u8 0, .str [], .nils, ii 0, u64 1, u8 0, .str [], .nils, ii 0, u64 0, u8 0, .str [], .nils, vb, .nils]] := by
          refine ⟨(Own.of (B := M1) (by simp) na_old gL oL (by simp) rfl rfl).sl, fun _ _ => trivial, rfl, fun i x c h1 h2 => ?_⟩
          cases i with
          | zero =>
            cases h1; cases h2
            have hS2 := ss_out hb2.sl
            exact .mk (E := []) (re0 M2 _ 0 0 0 []) (re0 M2 _ 0 1 0 []) (re0 M2 _ 0 0 0 []) hS2.sl hS2.hT hS2.len hS2.R Sl.nil (by simp [ids]) rfl (by simp)
          | succ i => simp at h1
        have hsz2 : szB [loopS (ns.map outS)] ≤ 10000000 := by
          have : szB [loopS (ns.map outS)] = 4 + szB (ns.map outS) := by simp [szB, loopS, Stm.sz, Ex.sz, szL, zE]
          omega
        refine WF.use (locals_p hSL (Chg.refl M2) hsz2) ?_
        rintro u3 M3 ⟨hu3, hC3⟩
        rw [locals_loop, locals_out] at hu3
        have hw3 := (hw1.chg hC2 fun _ _ => by simp).chg hC3 fun _ _ => by simp
        have hss3 := sameStrings_r hu3.sl hw3.sl (by omega)
        rw [decide_eq_true rfl] at hss3
        simp (config := { maxSteps := 1000000 }) (disch := (first | assumption | omega | exact Nm.old_n (by omega) | exact Nm.old_hp (by assumption) | (simp only [List.length_set, List.length_cons, List.length_nil, List.length_append, List.length_map, List.length_replicate] <;> omega))) only [nmS0, nmS1, nmS2, nmS3, nmS4, nmS5, nmS6, nmS7, Nat.testBit, Nat.reduceShiftRight, Nat.reduceAnd, Nat.reduceBNe, cond_true, cond_false, NT.get_leaf, Nat.reduceSub, d_true, d_false, clsOf, beq_self_eq_true, Int.reduceToNat, Nat.reduceAdd, Nat.reduceMul, Nat.reduceEqDiff, decide_true, decide_false, if_true, if_false, ite_true, ite_false, reduceIte, reduceCtorEq, eq_self, true_and, and_true, true_implies, g1, g2, g3, g4, hss3.wf]
        exact hK _ _ rfl
    · simp (config := { maxSteps := 1000000 }) (disch := (first | assumption | omega | exact Nm.old_n (by omega) | exact Nm.old_hp (by assumption) | (simp only [List.length_set, List.length_cons, List.length_nil, List.length_append, List.length_map, List.length_replicate] <;> omega))) only [nmS0, nmS1, nmS2, nmS3, nmS4, nmS5, nmS6, nmS7, Nat.testBit, Nat.reduceShiftRight, Nat.reduceAnd, Nat.reduceBNe, cond_true, cond_false, NT.get_leaf, Nat.reduceSub, d_true, d_false, clsOf, beq_self_eq_true, Int.reduceToNat, Nat.reduceAdd, Nat.reduceMul, Nat.reduceEqDiff, decide_true, decide_false, if_true, if_false, ite_true, ite_false, reduceIte, reduceCtorEq, eq_self, true_and, and_true, true_implies, hp_nil, (hal _).wf', hlen]
      exact hK _ _ rfl
  obtain ⟨v', m', h, rfl⟩ := h
  exact ⟨m', h⟩
end FR

