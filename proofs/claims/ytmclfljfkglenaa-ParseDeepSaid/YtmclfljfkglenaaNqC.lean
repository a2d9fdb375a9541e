/- A machine that runs the given program with memory and order of evaluation taken apart from the model's, and the proof that what it answers is what the model answers. Part 3 of 3. -/
import Derived.Defers
import Derived.RangeFuncRecord
import Derived.Laws.Externs
import Derived.Below
import Derived.Test.YtmclfljfkglenaaNqB
namespace Nm
open Go
variable [Val]

/-! # what a region that draws was laid from -/
omit [Val] in
theorem NT.get_del_same {α : Type} (d : D4) (t : NT α) : NT.get d (NT.del d t) = none := by
  induction d generalizing t with
  | e => cases t <;> rfl
  | a d ih => cases t <;> first | rfl | exact ih _
  | b d ih => cases t <;> first | rfl | exact ih _
  | c d ih => cases t <;> first | rfl | exact ih _
  | f d ih => cases t <;> first | rfl | exact ih _
omit [Val] in
theorem NT.get_del_ne {α : Type} {d i : D4} (h : i ≠ d) (t : NT α) : NT.get i (NT.del d t) = NT.get i t := by
  induction d generalizing t i with
  | e => cases i <;> first | exact absurd rfl h | (cases t <;> rfl)
  | a d ih => cases i <;> cases t <;> first | rfl | exact ih (fun x => h (by rw [x])) _
  | b d ih => cases i <;> cases t <;> first | rfl | exact ih (fun x => h (by rw [x])) _
  | c d ih => cases i <;> cases t <;> first | rfl | exact ih (fun x => h (by rw [x])) _
  | f d ih => cases i <;> cases t <;> first | rfl | exact ih (fun x => h (by rw [x])) _
omit [Val] in
theorem delsT_get : ∀ {l : List NOper} {t : Tm} {k : D4} {v : NV}, NT.get k (delsT l t) = some v → NT.get k t = some v ∧ ∀ o ∈ l, o.dst ≠ some k := by
  intro l
  induction l with
  | nil => intro t k v h; exact ⟨h, by simp⟩
  | cons o l ih =>
    intro t k v h
    have h' : NT.get k (match o.dst with | some d => NT.del d (delsT l t) | none => delsT l t) = some v := h
    cases hd : o.dst with
    | none =>
      rw [hd] at h'
      obtain ⟨h1, h2⟩ := ih h'
      refine ⟨h1, fun o' ho => ?_⟩
      rcases List.mem_cons.1 ho with rfl | ho
      · rw [hd]; simp
      · exact h2 o' ho
    | some d =>
      rw [hd] at h'
      dsimp only at h'
      have hne : k ≠ d := fun e => by rw [e, NT.get_del_same] at h'; cases h'
      rw [NT.get_del_ne hne] at h'
      obtain ⟨h1, h2⟩ := ih h'
      refine ⟨h1, fun o' ho => ?_⟩
      rcases List.mem_cons.1 ho with rfl | ho
      · rw [hd]; exact fun e => hne (Option.some.inj e).symm
      · exact h2 o' ho

structure Lay (P : Program) (ops : Array Oper) (l : List NOper) : Prop where
  mem : ∀ no ∈ l, ∃ o, ops[no.idx]? = some o ∧ no.dst = o.dst.map D4.of ∧ (compOp P o.op = some no.op ∨ no.op = .fail) ∧ GuardR ops o.guard no.guard ∧ no.pre = bef ops no.idx
  nodup : (l.map (·.idx)).Nodup
  all : ∀ i, i < ops.size → ∃ no ∈ l, no.idx = i
  pre : ∀ l1 o l2, l = l1 ++ o :: l2 → ∀ j, o.pre.testBit j = true → ∃ o' ∈ l1, o'.idx = j
  once : ∀ (i j : Nat) (oi oj : Oper) (t : Nat), ops[i]? = some oi → ops[j]? = some oj → oi.dst = some t → oj.dst = some t → i = j

omit [Val] in
theorem compOpers_mem {P : Program} {ops : Array Oper} : ∀ (l : List Oper) (i : Nat) (nl : List NOper) (pre : List Nat), (∀ j, l[j]? = ops[i + j]?) → (∀ j, pre.getD j 0 = bef ops (i + j)) → compOpers P ops l i pre = some nl →
    ∀ no ∈ nl, ∃ o, ops[no.idx]? = some o ∧ no.dst = o.dst.map D4.of ∧ (compOp P o.op = some no.op ∨ no.op = .fail) ∧ GuardR ops o.guard no.guard ∧ no.pre = bef ops no.idx := by
  intro l
  induction l with
  | nil => intro i nl pre _ _ hc no hno; cases hc; cases hno
  | cons o1 l ih =>
    intro i nl pre hl hp hc no hno
    have hc' : (match compOper P ops o1 (pre.headD 0) i, compOpers P ops l (Nat.succ i) pre.tail with | some o, some l => some (o :: l) | _, _ => none) = some nl := hc
    split at hc'
    · rename_i no' nl' h1 h2
      cases hc'
      rcases List.mem_cons.1 hno with rfl | hno
      · obtain ⟨i1, i2, i3, i4, i5⟩ := compOper_inv h1
        have ho : ops[i]? = some o1 := by have := hl 0; simpa using this.symm
        have hpi : pre.headD 0 = bef ops i := by have := hp 0; cases pre <;> simpa using this
        exact ⟨o1, by rw [i5]; exact ho, i1, i2, i3, by rw [i4, i5, hpi]⟩
      · refine ih (Nat.succ i) nl' pre.tail (fun j => ?_) (fun j => ?_) h2 no hno
        · have := hl (j + 1); simp at this; rw [this]; congr 1; omega
        · have := hp (j + 1)
          rw [show Nat.succ i + j = i + (j + 1) by omega, ← this]
          cases pre <;> simp
    · cases hc'

omit [Val] in
theorem pickL_mem {k : Nat} {es : List Nat} {eff : Bool} {rest : List NOper} : ∀ {l : List NOper} {o : NOper}, o ∈ pickL k es eff l rest → o ∈ l ∨ o ∈ rest := by
  intro l
  induction l with
  | nil => intro o h; exact .inr h
  | cons a l ih =>
    intro o h
    have h' : o ∈ (Bool.rec (pickL k es eff l rest) (a :: pickL k es eff l rest) (Bool.rec false (Nat.beq (lvlOf a.pre es) k) (Bool.rec (Bool.rec true false eff) eff (isEff (clsOf a.op)))) : List NOper) := h
    generalize (Bool.rec false (Nat.beq (lvlOf a.pre es) k) (Bool.rec (Bool.rec true false eff) eff (isEff (clsOf a.op))) : Bool) = c at h'
    cases c with
    | false => rcases ih h' with h | h <;> simp [h]
    | true =>
      rcases List.mem_cons.1 h' with rfl | h'
      · simp
      · rcases ih h' with h | h <;> simp [h]
omit [Val] in
theorem eagerL_mem {es : List Nat} {l : List NOper} : ∀ {ks : List Nat} {k : Nat} {o : NOper}, o ∈ eagerL es l ks k → o ∈ l := by
  intro ks
  induction ks with
  | nil =>
    intro k o h
    rcases pickL_mem (show o ∈ pickL k es false l [] from h) with h | h
    · exact h
    · cases h
  | cons a ks ih =>
    intro k o h
    have h' : o ∈ pickL k es false l (pickL k es true l (forceN (Nat.succ k) (eagerL es l ks))) := h
    rw [forceN_eq] at h'
    rcases pickL_mem h' with h | h
    · exact h
    · rcases pickL_mem h with h | h
      · exact h
      · exact ih h
omit [Val] in
theorem forceL_eq {α R : Type} (l : List α) (K : List α → R) : forceL l K = K l := by
  induction l generalizing K with
  | nil => rfl
  | cons a l ih => exact ih fun t => K (a :: t)

omit [Val] in
theorem dstIs_cons (t : Nat) (o : Oper) (l : List Oper) : dstIs t (o :: l) = if o.dst = some t then dstIs t l + 1 else dstIs t l := by
  have e : dstIs t (o :: l) = (match o.dst with | some d => Bool.rec (dstIs t l) (Nat.succ (dstIs t l)) (Nat.beq d t) | none => dstIs t l) := rfl
  rw [e]
  cases o.dst with
  | none => simp
  | some d =>
    dsimp only
    cases h : Nat.beq d t with
    | true => have := Nat.eq_of_beq_eq_true h; simp [this]
    | false => have := Nat.ne_of_beq_eq_false h; simp [this]
omit [Val] in
theorem dstIs_pos {t : Nat} : ∀ {l : List Oper} {i : Nat} {o : Oper}, l[i]? = some o → o.dst = some t → 1 ≤ dstIs t l := by
  intro l
  induction l with
  | nil => intro i o h; simp at h
  | cons a l ih =>
    intro i o h hd
    rw [dstIs_cons]
    cases i with
    | zero => simp at h; subst h; rw [if_pos hd]; omega
    | succ i => have := ih (by simpa using h) hd; split <;> omega
omit [Val] in
theorem dstIs_two {t : Nat} : ∀ {l : List Oper} {i j : Nat} {o o' : Oper}, i < j → l[i]? = some o → l[j]? = some o' → o.dst = some t → o'.dst = some t → 2 ≤ dstIs t l := by
  intro l
  induction l with
  | nil => intro i j o o' _ h; simp at h
  | cons a l ih =>
    intro i j o o' hij h h' hd hd'
    rw [dstIs_cons]
    cases j with
    | zero => omega
    | succ j =>
      cases i with
      | zero => simp at h; subst h; rw [if_pos hd]; have := dstIs_pos (l := l) (by simpa using h') hd'; omega
      | succ i => have := ih (i := i) (j := j) (by omega) (by simpa using h) (by simpa using h') hd hd'; split <;> omega
omit [Val] in
theorem onceOk_go {all : List Oper} : ∀ {l : List Oper}, (List.rec (motive := fun _ => List Oper → Bool) (fun _ => true) (fun o _ r all => match o.dst with
    | some t => cond (Nat.beq (dstIs t all) 1) (r all) false
    | none => r all) l all : Bool) = true → ∀ o ∈ l, ∀ t, o.dst = some t → dstIs t all = 1 := by
  intro l
  induction l with
  | nil => intro _ o h; cases h
  | cons a l ih =>
    intro h o ho t ht
    dsimp only at h
    cases ha : a.dst with
    | none =>
      rw [ha] at h
      rcases List.mem_cons.1 ho with rfl | ho
      · rw [ha] at ht; cases ht
      · exact ih h o ho t ht
    | some d =>
      rw [ha] at h
      obtain ⟨h1, h2⟩ := condB h
      rcases List.mem_cons.1 ho with rfl | ho
      · rw [ha] at ht; cases ht; exact Nat.eq_of_beq_eq_true h1
      · exact ih h2 o ho t ht
omit [Val] in
theorem onceOk_inv {ops : Array Oper} (h : onceOk ops.toList = true) (i j : Nat) (oi oj : Oper) (t : Nat) (hi : ops[i]? = some oi) (hj : ops[j]? = some oj) (ti : oi.dst = some t) (tj : oj.dst = some t) : i = j := by
  have h1 := onceOk_go h oi (by rw [Array.mem_toList_iff]; exact Array.mem_of_getElem? hi) t ti
  rcases Nat.lt_trichotomy i j with hlt | he | hlt
  · have := dstIs_two (l := ops.toList) hlt (by simpa using hi) (by simpa using hj) ti tj; omega
  · exact he
  · have := dstIs_two (l := ops.toList) hlt (by simpa using hj) (by simpa using hi) tj ti; omega

omit [Val] in
theorem isSome2_inv {o : Option Nat} {k : Nat} (h : isSome2 o k = true) : o = some k := by
  cases o with
  | none => cases h
  | some m => rw [Nat.eq_of_beq_eq_true h]

omit [Val] in
theorem lay_of {P : Program} {ops : Array Oper} {nc : NC} {id : Nat} (h : compC P (.region id ops true) = some nc) : ∃ l, nc = .regD l ∧ Lay P ops l := by
  have h' : (match compOpers P ops ops.toList 0 (Region.before ops).toList with
    | some l => forceL (eager l) fun e => cond (isSome2 (permL e 0) (Nat.sub (Nat.pow 2 ops.size) 1) && onceOk ops.toList) (some (.regD e)) none
    | none => none) = some nc := h
  split at h'
  · rename_i l0 hl0
    rw [forceL_eq] at h'
    obtain ⟨hb, hc⟩ := condO_inv h'
    cases hc
    rw [Bool.and_eq_true] at hb
    obtain ⟨hb1, hb2⟩ := hb
    have hm := compOpers_mem ops.toList 0 l0 _ (fun j => by simp) (fun j => by unfold bef; simp [Array.getD_eq_getD_getElem?, List.getD_eq_getElem?_getD]) hl0
    obtain ⟨p1, p2, p3, p4⟩ := permL_inv (isSome2_inv hb1)
    refine ⟨_, rfl, ⟨fun no hno => hm no (eagerL_mem hno), p2, fun i hi => ?_, fun l1 o l2 he j hj => ?_, onceOk_inv hb2⟩⟩
    · have hbit : (Nat.sub (Nat.pow 2 ops.size) 1).testBit i = true := by
        have e : Nat.sub (Nat.pow 2 ops.size) 1 = 2 ^ ops.size - 1 := rfl
        rw [e, Nat.testBit_two_pow_sub_one]; simpa using hi
      rcases (p1 i).1 hbit with h | h
      · simp at h
      · exact h
    · rcases p4 l1 o l2 he j hj with h | h
      · simp at h
      · exact h
  · cases h'

/-! ## who writes a temporary, and who reads it -/
def addW (n : Nat) (w : Array (List (Tmp × Nat))) (p : Oper × Nat) : Array (List (Tmp × Nat)) := match p.1.dst with
  | some d => w.modify (d % n) ((d, p.2) :: ·)
  | none => w
omit [Val] in
theorem addW_size {n : Nat} {w : Array (List (Tmp × Nat))} {p : Oper × Nat} : (addW n w p).size = w.size := by unfold addW; split <;> simp
omit [Val] in
theorem addW_keep {n : Nat} {w : Array (List (Tmp × Nat))} {p : Oper × Nat} {k : Nat} {x : Tmp × Nat} (h : x ∈ w.getD k []) : x ∈ (addW n w p).getD k [] := by
  unfold addW
  split
  · rename_i d _
    rw [Array.getD_eq_getD_getElem?] at h ⊢
    rw [Array.getElem?_modify]
    split
    · rename_i he
      cases hw : w[k]? with
      | none => rw [hw] at h; simp at h
      | some l => rw [hw] at h; simp at h ⊢; exact .inr h
    · exact h
  · exact h
omit [Val] in
theorem addW_mem {n : Nat} {x : Tmp × Nat} {k : Nat} : ∀ (L : List (Oper × Nat)) (w : Array (List (Tmp × Nat))), x ∈ w.getD k [] → x ∈ (L.foldl (addW n) w).getD k [] := by
  intro L
  induction L with
  | nil => exact fun w h => h
  | cons p L ih => exact fun w h => ih _ (addW_keep h)
omit [Val] in
theorem addW_new {n : Nat} {o : Oper} {i d : Nat} (hd : o.dst = some d) (hn : 0 < n) : ∀ (L : List (Oper × Nat)) (w : Array (List (Tmp × Nat))), w.size = n → (o, i) ∈ L → (d, i) ∈ (L.foldl (addW n) w).getD (d % n) [] := by
  intro L
  induction L with
  | nil => intro w _ h; cases h
  | cons p L ih =>
    intro w hw h
    rcases List.mem_cons.1 h with rfl | h
    · refine addW_mem L _ ?_
      unfold addW
      dsimp only
      rw [hd]
      dsimp only
      rw [Array.getD_eq_getD_getElem?, Array.getElem?_modify, if_pos rfl, Array.getElem?_eq_getElem (by rw [hw]; exact Nat.mod_lt _ hn)]
      simp
    · exact ih _ (by rw [addW_size]; exact hw) h
omit [Val] in
theorem tmpsOk {ops : Array Oper} {b : Array Nat} (h : Region.temporariesOk ops b = true) {i j : Nat} {oi oj : Oper} {t : Nat} (hi : ops[i]? = some oi) (hj : ops[j]? = some oj) (ht : oi.dst = some t) (hr : Operand.tmp t ∈ oj.op.operands.toList) :
    i = j ∨ (b.getD (max i j) 0).testBit (min i j) = true := by
  unfold Region.temporariesOk at h
  have hz : ∀ (k : Nat) (o : Oper), ops[k]? = some o → (o, k) ∈ ops.toList.zipIdx := fun k o ho => by
    rw [List.mem_zipIdx_iff_getElem?]; simpa using ho
  rw [List.all_eq_true] at h
  have h1 := h (oj, j) (hz j oj hj)
  dsimp only at h1
  rw [List.all_eq_true] at h1
  have h2 := h1 t (by
    rw [List.mem_append]; right
    rw [List.mem_filterMap]
    exact ⟨.tmp t, hr, rfl⟩)
  rw [List.all_eq_true] at h2
  have hn : 0 < ops.size := by have := (Array.getElem?_eq_some_iff.1 hi).1; omega
  have h3 := h2 (t, i) (addW_new (n := ops.size) ht hn ops.toList.zipIdx (Array.replicate ops.size []) (by simp) (hz i oi hi))
  simp only [Bool.or_eq_true, beq_iff_eq, bne_iff_ne, ne_eq, not_true_eq_false, false_or] at h3
  exact h3
end Nm

namespace Nm
open Go
variable [Val]

/-! # rows of records -/
section chain
variable {P : Program} {S : Nat → List NV → Option NV} {self : Option D4 → NC → Dyn → Res} {rnd : Option D4}

omit [Val] in
theorem chain_inv {r : Rec} {R : List Rec} {d d' : Dyn} (h : Chain P S self rnd d (r :: R) d') : d = r.st ∧ r.ok P S self rnd ∧ Chain P S self rnd r.nx R d' := by
  cases h with
  | cons _ _ _ h c => exact ⟨rfl, h, c⟩
omit [Val] in
theorem chain_nil {d d' : Dyn} (h : Chain P S self rnd d [] d') : d' = d := by cases h; rfl
omit [Val] in
theorem chain_split : ∀ {R1 R2 : List Rec} {d d' : Dyn}, Chain P S self rnd d (R1 ++ R2) d' → ∃ dm, Chain P S self rnd d R1 dm ∧ Chain P S self rnd dm R2 d' := by
  intro R1
  induction R1 with
  | nil => intro R2 d d' h; exact ⟨d, .nil d, h⟩
  | cons r R1 ih =>
    intro R2 d d' h
    obtain ⟨rfl, hok, hc⟩ := chain_inv (show Chain P S self rnd d (r :: (R1 ++ R2)) d' from h)
    obtain ⟨dm, h1, h2⟩ := ih hc
    exact ⟨dm, .cons r R1 dm hok h1, h2⟩
omit [Val] in
theorem chain_join : ∀ {R1 R2 : List Rec} {d dm d' : Dyn}, Chain P S self rnd d R1 dm → Chain P S self rnd dm R2 d' → Chain P S self rnd d (R1 ++ R2) d' := by
  intro R1
  induction R1 with
  | nil => intro R2 d dm d' h h'; rw [chain_nil h] at h'; exact h'
  | cons r R1 ih =>
    intro R2 d dm d' h h'
    obtain ⟨rfl, hok, hc⟩ := chain_inv h
    exact .cons r (R1 ++ R2) d' hok (ih hc h')

omit [Val] in
theorem nx_t (r : Rec) : r.nx.t = tputP r.o.dst r.val r.t := by unfold Rec.nx; cases r.k <;> rfl
omit [Val] in
theorem tputP_ne {d : Option D4} {k : D4} (h : d ≠ some k) (v : NV) (t : Tm) : NT.get k (tputP d v t) = NT.get k t := by
  cases d with
  | none => rfl
  | some d => exact NT.get_put_ne (fun e => h (by rw [e])) v t
omit [Val] in
theorem tputP_same {d : Option D4} {k : D4} (h : d = some k) (v : NV) (t : Tm) : NT.get k (tputP d v t) = some v := by rw [h]; exact NT.get_put_same _ _ _
omit [Val] in
theorem chain_none {k : D4} : ∀ {R : List Rec} {d d' : Dyn}, Chain P S self rnd d R d' → (∀ w ∈ R, w.o.dst ≠ some k) → NT.get k d'.t = NT.get k d.t := by
  intro R
  induction R with
  | nil => intro d d' h _; rw [chain_nil h]
  | cons r R ih =>
    intro d d' h hn
    obtain ⟨rfl, _, hc⟩ := chain_inv h
    rw [ih hc fun w hw => hn w (by simp [hw]), nx_t, tputP_ne (hn r (by simp))]; rfl
omit [Val] in
theorem chain_some {k : D4} {A C : List Rec} {w : Rec} {d d' : Dyn} (h : Chain P S self rnd d (A ++ w :: C) d') (hw : w.o.dst = some k) (hn : ∀ x ∈ C, x.o.dst ≠ some k) : NT.get k d'.t = some w.val := by
  obtain ⟨dm, _, h2⟩ := chain_split h
  obtain ⟨_, _, hc⟩ := chain_inv h2
  rw [chain_none hc hn, nx_t, tputP_same hw]

omit [Val] in
/-- an operation that makes an object -/
theorem nalloc {n : NOp} (hc : clsOf n = .alloc) {t : Tm} {h h' : NH} {v : NV} (e : opRun n t h = .mem v h') : ∃ o, h' = h.add o := by
  have fin : ∀ {o : NO} {f : D4 → NV}, (h.new o fun id h => NR.mem (f id) h) = .mem v h' → ∃ o, h' = h.add o := by
    intro o f e
    rw [NH.new_eq] at e
    injection e with _ e
    exact ⟨o, e.symm⟩
  have ne : NR.mem v h' ≠ .fail := by simp
  cases n with
  | alloc z T => exact fin (f := fun id => .ptr id 0) e
  | box x T =>
    obtain ⟨u, _, h2⟩ := wV_inv e ne
    obtain ⟨cs, _, h4⟩ := wOpt_inv h2 ne
    exact fin (f := fun id => .ptr id 0) h4
  | buildSlice z n len T ps =>
    obtain ⟨cs, _, h4⟩ := wOpt_inv (show wOpt (fillN t ps 0 z) _ = _ from e) ne
    exact fin (f := fun id => .slc id 0 len n len) h4
  | mkMap => exact fin (f := fun id => .map id) e
  | mkSlice z n b T l c =>
    obtain ⟨k, m, _, h2⟩ := wNat_inv e ne
    obtain ⟨k', m', _, h3⟩ := wNat_inv h2 ne
    obtain ⟨_, h4⟩ := cond_inv h3 ne
    obtain ⟨_, h5⟩ := cond_inv h4 ne
    rw [lrep_eq] at h5
    exact fin (f := fun id => .slc id 0 m n m') h5
  | strToBytes T x =>
    obtain ⟨u, _, h2⟩ := wV_inv e ne
    cases u with
    | str s =>
      dsimp only at h2
      rw [kList_eq, llen_eq] at h2
      obtain ⟨_, h3⟩ := cond_inv h2 ne
      exact fin (f := fun id => .slc id 0 s.length 1 s.length) h3
    | _ => cases h2
  | _ => cases hc

/-- each number in it is an old one -/
def Fr (h : NH) : Prop := ∀ i o, h.get i = some o → i.toNat < h.next.toNat
omit [Val] in
theorem Fr.add {h : NH} (hf : Fr h) (o : NO) : Fr (h.add o) := by
  intro i u hu
  show i.toNat < h.next.nxt.toNat
  rw [D4.toNat_nxt]
  by_cases e : i = h.next
  · subst e; omega
  · rw [NH.get_add_ne _ _ e] at hu; have := hf i u hu; omega

omit [Val] in
theorem skip_split : ∀ (T : List Rec), ∃ T1 T2, T = T1 ++ T2 ∧ (∀ r ∈ T1, ¬ r.isE) ∧ (∀ r T', T2 = r :: T' → r.isE) := by
  intro T
  induction T with
  | nil => exact ⟨[], [], rfl, by simp, fun r T' h => by cases h⟩
  | cons r T ih =>
    by_cases h : r.isE
    · exact ⟨[], r :: T, rfl, by simp, fun r' T' e => by cases e; exact h⟩
    · obtain ⟨T1, T2, h1, h2, h3⟩ := ih
      exact ⟨r :: T1, T2, by rw [h1]; rfl, fun r' hr => by
        rcases List.mem_cons.1 hr with rfl | hr
        · exact h
        · exact h2 r' hr, h3⟩

structure Skip (D D' : Dyn) (T : List Rec) : Prop where
  dfs : D'.dfs = D.dfs
  ctx : D'.ctx = D.ctx
  fresh : Fr D'.h
  next : D.h.next.toNat ≤ D'.h.next.toNat
  get : ∀ i, i.toNat < D.h.next.toNat → D'.h.get i = D.h.get i
  fr : ∀ r ∈ T, Fr r.h
  al : ∀ r ∈ T, ∀ v h, r.k = .alloc v h → D.h.next.toNat ≤ r.h.next.toNat ∧ r.h.next.toNat < D'.h.next.toNat ∧ D'.h.get r.h.next = h.get r.h.next
  dist : ∀ r ∈ T, ∀ r' ∈ T, ∀ v h v' h', r.k = .alloc v h → r'.k = .alloc v' h' → r.h.next = r'.h.next → r.o.idx = r'.o.idx

omit [Val] in
theorem skip_keep : ∀ {T : List Rec} {D D' : Dyn}, Chain P S self rnd D T D' → (∀ r ∈ T, ¬ r.isE) → Fr D.h → Skip D D' T := by
  intro T
  induction T with
  | nil =>
    intro D D' h _ hf
    rw [chain_nil h]
    exact ⟨rfl, rfl, hf, Nat.le_refl _, fun _ _ => rfl, by simp, by simp, by simp⟩
  | cons r T ih =>
    intro D D' h hn hf
    obtain ⟨rfl, hok, hc⟩ := chain_inv h
    have hn' : ∀ r ∈ T, ¬ r.isE := fun x hx => hn x (by simp [hx])
    have same : (∀ v h, r.k ≠ .alloc v h) → r.nx.dfs = r.dfs → r.nx.ctx = r.ctx → r.nx.h = r.h → Skip r.st D' (r :: T) := by
      intro hk e1 e2 e3
      have k := ih hc hn' (by rw [e3]; exact hf)
      refine ⟨k.dfs.trans e1, k.ctx.trans e2, k.fresh, by have := k.next; rw [e3] at this; exact this, fun i hi => by have := k.get i (by rw [e3]; exact hi); rw [e3] at this; exact this, ?_, ?_, ?_⟩
      · intro x hx
        rcases List.mem_cons.1 hx with rfl | hx
        · exact hf
        · exact k.fr x hx
      · intro x hx v h e
        rcases List.mem_cons.1 hx with rfl | hx'
        · exact absurd e (hk _ _)
        · have := k.al x hx' v h e; rw [e3] at this; exact this
      · intro x hx y hy v h v' h' ex ey
        rcases List.mem_cons.1 hx with rfl | hx'
        · exact absurd ex (hk _ _)
        · rcases List.mem_cons.1 hy with rfl | hy'
          · exact absurd ey (hk _ _)
          · exact k.dist x hx' y hy' v h v' h' ex ey
    cases hk : r.k with
    | off => exact same (by simp [hk]) (by simp [Rec.nx, hk]) (by simp [Rec.nx, hk]) (by simp [Rec.nx, hk])
    | pure v => exact same (by simp [hk]) (by simp [Rec.nx, hk]) (by simp [Rec.nx, hk]) (by simp [Rec.nx, hk])
    | read v => exact same (by simp [hk]) (by simp [Rec.nx, hk]) (by simp [Rec.nx, hk]) (by simp [Rec.nx, hk])
    | eff v dfs ctx h => exact absurd (show r.isE by unfold Rec.isE; rw [hk]; trivial) (hn r (by simp))
    | alloc v h0 =>
      have hok' : guardOn r.t r.o.guard = some true ∧ clsOf r.o.op = .alloc ∧ opRun r.o.op r.t r.h = .mem v h0 := by unfold Rec.ok at hok; rw [hk] at hok; exact hok
      obtain ⟨_, o2, o3⟩ := hok'
      obtain ⟨ob, rfl⟩ := nalloc o2 o3
      have e1 : r.nx.dfs = r.dfs := by simp [Rec.nx, hk]
      have e2 : r.nx.ctx = r.ctx := by simp [Rec.nx, hk]
      have e3 : r.nx.h = r.h.add ob := by simp [Rec.nx, hk]
      have hf' : Fr r.h := hf
      have k := ih hc hn' (by rw [e3]; exact hf'.add ob)
      have kn := k.next
      rw [e3] at kn
      have kn' : r.h.next.nxt.toNat ≤ D'.h.next.toNat := kn
      rw [D4.toNat_nxt] at kn'
      have hnx : (r.h.add ob).next.toNat = r.h.next.toNat + 1 := D4.toNat_nxt _
      have kg : ∀ i, i.toNat < r.h.next.toNat + 1 → D'.h.get i = (r.h.add ob).get i := fun i hi => by
        have := k.get i (by rw [e3, hnx]; exact hi); rw [e3] at this; exact this
      have kal : ∀ x ∈ T, ∀ v h, x.k = .alloc v h → r.h.next.toNat + 1 ≤ x.h.next.toNat ∧ x.h.next.toNat < D'.h.next.toNat ∧ D'.h.get x.h.next = h.get x.h.next := fun x hx v h e => by
        have := k.al x hx v h e; rw [e3, hnx] at this; exact this
      refine ⟨k.dfs.trans e1, k.ctx.trans e2, k.fresh, show r.h.next.toNat ≤ _ by omega, fun i hi => ?_, ?_, ?_, ?_⟩
      · have hi' : i.toNat < r.h.next.toNat := hi
        rw [kg i (by omega)]
        exact NH.get_add_ne _ _ (fun e => by rw [e] at hi'; omega)
      · intro x hx
        rcases List.mem_cons.1 hx with rfl | hx
        · exact hf
        · exact k.fr x hx
      · intro x hx v1 h1 e
        rcases List.mem_cons.1 hx with rfl | hx
        · rw [hk] at e; cases e
          exact ⟨Nat.le_refl _, by omega, kg _ (by omega)⟩
        · obtain ⟨a1, a2, a3⟩ := kal x hx v1 h1 e
          exact ⟨show r.h.next.toNat ≤ _ by omega, a2, a3⟩
      · intro x hx y hy v1 h1 v2 h2 ex ey he
        rcases List.mem_cons.1 hx with rfl | hx'
        · rcases List.mem_cons.1 hy with rfl | hy'
          · rfl
          · have := (kal y hy' v2 h2 ey).1; rw [← he] at this; omega
        · rcases List.mem_cons.1 hy with rfl | hy'
          · have := (kal x hx' v1 h1 ex).1; rw [he] at this; omega
          · exact k.dist x hx' y hy' v1 h1 v2 h2 ex ey he

omit [Val] in
/-- a read that answers the same behind each effect answers the same in the end -/
theorem read_keep {n : NOp} (hc : clsOf n = .read) {t : Tm} {v : NV} : ∀ {T : List Rec} {D D' : Dyn}, Chain P S self rnd D T D' → (∀ r ∈ T, Fr r.h) → opRun n t D.h = .val v →
    (∀ r ∈ T, ∀ u dfs ctx h, r.k = .eff u dfs ctx h → opRun n t h = .val v) → opRun n t D'.h = .val v := by
  intro T
  induction T with
  | nil => intro D D' h _ e _; rw [chain_nil h]; exact e
  | cons r T ih =>
    intro D D' h hf e he
    obtain ⟨rfl, hok, hch⟩ := chain_inv h
    refine ih hch (fun x hx => hf x (by simp [hx])) ?_ fun x hx => he x (by simp [hx])
    cases hk : r.k with
    | off => rw [show r.nx.h = r.h by simp [Rec.nx, hk]]; exact e
    | pure u => rw [show r.nx.h = r.h by simp [Rec.nx, hk]]; exact e
    | read u => rw [show r.nx.h = r.h by simp [Rec.nx, hk]]; exact e
    | eff u dfs ctx h => rw [show r.nx.h = h by simp [Rec.nx, hk]]; exact he r (by simp) u dfs ctx h hk
    | alloc u h0 =>
      have hok' : guardOn r.t r.o.guard = some true ∧ clsOf r.o.op = .alloc ∧ opRun r.o.op r.t r.h = .mem u h0 := by unfold Rec.ok at hok; rw [hk] at hok; exact hok
      obtain ⟨ob, rfl⟩ := nalloc hok'.2.1 hok'.2.2
      rw [show r.nx.h = r.h.add ob by simp [Rec.nx, hk]]
      exact read_ext hc (HExt.add (hf r (by simp)) ob) e
end chain

/-! # memory -/
theorem Rel.frh {P : Program} {ι : Inj} {B : Nat} {h : NH} {w : World} (r : Rel P ι B h w) : Fr h := r.fresh
theorem Rel.lt_next {P : Program} {ι : Inj} {B : Nat} {h : NH} {w : World} (r : Rel P ι B h w) {i : D4} {p : Pl} (hi : ι i = some p) : i.toNat < h.next.toNat := by
  obtain ⟨o, h1, _⟩ := r.obj i p hi; exact r.fresh i o h1
/-- more objects for which nothing stands -/
theorem Rel.more {P : Program} {ι : Inj} {B : Nat} {h h' : NH} {w : World} (r : Rel P ι B h w) (hg : ∀ i, i.toNat < h.next.toNat → h'.get i = h.get i) (hf : Fr h') : Rel P ι B h' w where
  obj := fun i p hi => by rw [hg i (r.lt_next hi)]; exact r.obj i p hi
  inj := fun i j p q hi hj hij d1 d2 => r.inj i j p q hi hj hij (by rw [← hg i (r.lt_next hi)]; exact d1) (by rw [← hg j (r.lt_next hj)]; exact d2)
  base := fun i p hi d => r.base i p hi (by rw [← hg i (r.lt_next hi)]; exact d)
  lt := r.lt
  fresh := hf
theorem Grow.more {P : Program} {B : Nat} {ι0 ι : Inj} {h0 h h' : NH} {w0 w : World} (g : Grow ι0 h0 w0 ι h w) (r : Rel P ι B h w) (hn : h.next.toNat ≤ h'.next.toNat) (hg : ∀ i, i.toNat < h.next.toNat → h'.get i = h.get i) : Grow ι0 h0 w0 ι h' w where
  le := g.le
  next := Nat.le_trans g.next hn
  new := g.new
  blk := fun i p hi d => g.blk i p hi (by rw [← hg i (r.lt_next hi)]; exact d)
  keep := fun i hi hl => by rw [hg i (Nat.lt_of_lt_of_le hl g.next)]; exact g.keep i hi hl
  size := g.size
  os := g.os
  tape := g.tape
  output := g.output
  frame := g.frame

def Inj.set (ι : Inj) (n : D4) (p : Pl) : Inj := fun i => if i.toNat = n.toNat then some p else ι i
omit [Val] in
theorem Inj.set_same (ι : Inj) (n : D4) (p : Pl) : ι.set n p n = some p := if_pos rfl
omit [Val] in
theorem Inj.set_ne (ι : Inj) {n i : D4} (p : Pl) (h : i ≠ n) : ι.set n p i = ι i := if_neg fun e => h (D4.toNat_inj e)
omit [Val] in
theorem Inj.set_le {ι : Inj} {n : D4} {p : Pl} (hn : ι n = none) : ι.le (ι.set n p) := fun i q hi => by
  rw [Inj.set_ne _ _ (fun e => by rw [e, hn] at hi; cases hi)]; exact hi
omit [Val] in
theorem Inj.set_cases {ι : Inj} {n i : D4} {p q : Pl} (h : ι.set n p i = some q) : (i = n ∧ q = p) ∨ (i ≠ n ∧ ι i = some q) := by
  by_cases e : i = n
  · subst e; rw [Inj.set_same] at h; exact .inl ⟨rfl, (Option.some.inj h).symm⟩
  · rw [Inj.set_ne _ _ e] at h; exact .inr ⟨e, h⟩

/-- an object that is there already comes to lie in a new block -/
theorem Rel.at {P : Program} {ι : Inj} {B : Nat} {h : NH} {w : World} (r : Rel P ι B h w) (hB : B ≤ w.heap.size) {n : D4} {o : NO} (hn : ι n = none) (hg : h.get n = some o) {O : Obj} {p : Pl} (hp : p.b = w.heap.size)
    (ho : ∀ ι', ι.le ι' → OR P ι' (w.alloc O) p o) : Rel P (ι.set n p) B h (w.alloc O) := by
  have hle : ι.le (ι.set n p) := Inj.set_le hn
  refine ⟨?_, ?_, ?_, ?_, r.fresh⟩
  · intro i q hi
    rcases Inj.set_cases hi with ⟨rfl, rfl⟩ | ⟨hne', hi⟩
    · exact ⟨o, hg, ho _ hle⟩
    · obtain ⟨u, h1, h2⟩ := r.obj i q hi
      exact ⟨u, h1, h2.mono hle (alloc_old w O _ (r.lt i q hi))⟩
  · intro i j q1 q2 hi hj hij d1 d2
    rcases Inj.set_cases hi with ⟨e1, e2⟩ | ⟨h1, hi'⟩
    · rcases Inj.set_cases hj with ⟨e3, e4⟩ | ⟨h2, hj'⟩
      · exact absurd (e1.trans e3.symm) hij
      · have := r.lt j q2 hj'; rw [e2]; omega
    · rcases Inj.set_cases hj with ⟨e3, e4⟩ | ⟨h2, hj'⟩
      · have := r.lt i q1 hi'; rw [e4]; omega
      · exact r.inj i j q1 q2 hi' hj' hij d1 d2
  · intro i q hi d
    rcases Inj.set_cases hi with ⟨rfl, rfl⟩ | ⟨h1, hi⟩
    · omega
    · exact r.base i q hi d
  · intro i q hi
    rcases Inj.set_cases hi with ⟨rfl, rfl⟩ | ⟨h1, hi⟩
    · simp; omega
    · have := r.lt i q hi; simp; omega
omit [Val] in
theorem Grow.at {ι0 ι : Inj} {h0 h : NH} {w0 w : World} (g : Grow ι0 h0 w0 ι h w) {n : D4} (hn : ι n = none) (h1 : h0.next.toNat ≤ n.toNat) {O : Obj} {p : Pl} (hp : p.b = w.heap.size) : Grow ι0 h0 w0 (ι.set n p) h (w.alloc O) where
  le := g.le.trans (Inj.set_le hn)
  next := g.next
  new := fun i q hi => by
    rcases Inj.set_cases hi with ⟨rfl, rfl⟩ | ⟨_, hi⟩
    · exact .inr h1
    · exact g.new i q hi
  blk := fun i q hi d => by
    rcases Inj.set_cases hi with ⟨rfl, rfl⟩ | ⟨_, hi⟩
    · have := g.size; exact .inl (by omega)
    · exact g.blk i q hi d
  keep := g.keep
  size := by have := g.size; simp; omega
  os := g.os
  tape := g.tape
  output := g.output
  frame := fun k hk hq => by
    rw [alloc_old w O k (Nat.lt_of_lt_of_le hk g.size)]; exact g.frame k hk hq
end Nm

namespace Nm
open Go
variable [Val]

/-! # one step of the real run of a region that draws -/
/-- a table cut down to some operands -/
noncomputable def cutT (l : List NOpd) (t : Tm) : Tm := match l with
  | [] => .leaf
  | .tmp d :: l => match NT.get d t with | some v => NT.put d v (cutT l t) | none => cutT l t
  | .const _ :: l => cutT l t
omit [Val] in
theorem cutT_get {l : List NOpd} {t : Tm} {k : D4} {v : NV} (h : NT.get k (cutT l t) = some v) : NOpd.tmp k ∈ l ∧ NT.get k t = some v := by
  induction l with
  | nil => rw [show cutT [] t = .leaf from rfl, NT.get_leaf] at h; cases h
  | cons x l ih =>
    cases x with
    | const u => obtain ⟨h1, h2⟩ := ih h; exact ⟨by simp [h1], h2⟩
    | tmp d =>
      have h' : NT.get k (match NT.get d t with | some v => NT.put d v (cutT l t) | none => cutT l t) = some v := h
      cases hd : NT.get d t with
      | none => rw [hd] at h'; obtain ⟨h1, h2⟩ := ih h'; exact ⟨by simp [h1], h2⟩
      | some u =>
        rw [hd] at h'
        dsimp only at h'
        by_cases e : k = d
        · subst e; rw [NT.get_put_same] at h'; exact ⟨by simp, by rw [hd]; exact h'⟩
        · rw [NT.get_put_ne e] at h'; obtain ⟨h1, h2⟩ := ih h'; exact ⟨by simp [h1], h2⟩
omit [Val] in
theorem cutT_of {l : List NOpd} {t : Tm} {k : D4} (h : NOpd.tmp k ∈ l) : NT.get k (cutT l t) = NT.get k t := by
  induction l with
  | nil => cases h
  | cons x l ih =>
    cases x with
    | const u => rcases List.mem_cons.1 h with h | h; cases h; exact ih h
    | tmp d =>
      show NT.get k (match NT.get d t with | some v => NT.put d v (cutT l t) | none => cutT l t) = _
      by_cases e : k = d
      · subst e
        cases hd : NT.get k t with
        | some u => exact NT.get_put_same _ _ _
        | none =>
          dsimp only
          cases hk : NT.get k (cutT l t) with
          | none => rfl
          | some v => have := (cutT_get hk).2; rw [hd] at this; cases this
      · have hl : NOpd.tmp k ∈ l := by
          rcases List.mem_cons.1 h with h | h
          · injection h with h; exact absurd h e
          · exact h
        cases hd : NT.get d t with
        | none => exact ih hl
        | some u => dsimp only; rw [NT.get_put_ne e]; exact ih hl
omit [Val] in
theorem cutT_ρ {l : List NOpd} {t : Tm} : ∀ x ∈ l, ρ (cutT l t) x = ρ t x := by
  intro x hx
  cases x with
  | const v => rfl
  | tmp d => exact cutT_of hx

/-- what holds while some operations are done, X -/
structure Inv (P : Program) (S : Nat → List NV → Option NV) (go : Option D4 → NC → Dyn → Res) (rnd : Option D4) (B : Nat) (b : Frame) (ops : Array Oper) (d0 dE : Dyn) (R : List Rec) (ι0 : Inj) (cs0 : List Frame) (w0 : World) (size : Nat)
    (X : Nat → Prop) (R1 R2 : List Rec) (D : Dyn) (ι : Inj) (a : Act) (cs : List Frame) (w : World) : Prop where
  down : ∀ i, X i → EdgesIn ops X i
  inR : ∀ i, X i → ∃ r ∈ R, r.o.idx = i
  split : R = R1 ++ R2
  c1 : Chain P S go rnd d0 R1 D
  c2 : Chain P S go rnd D R2 dE
  effs : ∀ r ∈ R1, r.isE → X r.o.idx
  head : ∀ r R2', R2 = r :: R2' → r.isE ∧ ¬ X r.o.idx
  mv : Mv P B rnd b ι0 d0.ctx d0.h cs0 w0 ι D.dfs D.ctx D.h a.defers cs w
  pend : ∀ r ∈ R1, ∀ v h, r.k = .alloc v h → ¬ X r.o.idx → ι r.h.next = none ∧ D.h.get r.h.next = h.get r.h.next ∧ r.h.next.toNat < D.h.next.toNat ∧ d0.h.next.toNat ≤ r.h.next.toNat
  dist : ∀ r ∈ R1, ∀ r' ∈ R1, ∀ v h v' h', r.k = .alloc v h → r'.k = .alloc v' h' → ¬ X r.o.idx → ¬ X r'.o.idx → r.h.next = r'.h.next → r.o.idx = r'.o.idx
  fr : ∀ r ∈ R1, Fr r.h
  tw : ∀ r ∈ R, X r.o.idx → ∀ t, r.o.dst = some (D4.of t) → ∃ v', a.tmps[t]? = some v' ∧ VR ι r.val v'
  ti : ∀ k, (∀ r ∈ R, X r.o.idx → r.o.dst ≠ some (D4.of k)) → ∀ v, NT.get (D4.of k) d0.t = some v → ∃ v', a.tmps[k]? = some v' ∧ VR ι v v'
  size : a.tmps.size = size

section
variable {P : Program} {S : Nat → List NV → Option NV} {self : Option D4 → NC → Dyn → Res} {rnd : Option D4} {B : Nat} {b : Frame} {k : List Item} {ops : Array Oper} {fn : Func} {l : List NOper}
  {d0 dE : Dyn} {R : List Rec} {ι0 : Inj} {cs0 : List Frame} {w0 : World} {size : Nat} {X : Nat → Prop} {R1 R2 : List Rec} {D : Dyn} {ι : Inj} {a : Act} {cs : List Frame} {w : World}

omit [Val] in
/-- numbers tell operations apart -/
theorem idx_uniq (hL : Lay P ops l) {x y : NOper} (hx : x ∈ l) (hy : y ∈ l) (h : x.idx = y.idx) : x = y := by
  have hn := hL.nodup
  clear hL
  induction l with
  | nil => cases hx
  | cons z l ih =>
    rw [List.map_cons, List.nodup_cons] at hn
    rcases List.mem_cons.1 hx with rfl | hx'
    · rcases List.mem_cons.1 hy with rfl | hy'
      · rfl
      · exact absurd (List.mem_map.2 ⟨y, hy', h.symm⟩) hn.1
    · rcases List.mem_cons.1 hy with rfl | hy'
      · exact absurd (List.mem_map.2 ⟨x, by assumption, h⟩) hn.1
      · exact ih (by assumption) hy' hn.2
omit [Val] in
/-- what stands behind is not ahead -/
theorem idx_apart (hL : Lay P ops l) {A C : List NOper} {x : NOper} (h : l = A ++ x :: C) {y : NOper} (hy : y ∈ C) {z : NOper} (hz : z ∈ A ++ [x]) : z.idx ≠ y.idx := by
  intro e
  have hn := hL.nodup
  rw [h, show A ++ x :: C = (A ++ [x]) ++ C by simp, List.map_append, List.nodup_append] at hn
  exact hn.2.2 z.idx (List.mem_map.2 ⟨z, hz, rfl⟩) y.idx (List.mem_map.2 ⟨y, hy, rfl⟩) e

omit [Val] in
theorem bef_X (hr : RegOK P fn ops) (hd : ∀ i, X i → EdgesIn ops X i) {i : Nat} {o : Oper} (ho : ops[i]? = some o) (he : EdgesIn ops X i) {j : Nat} (hj : (bef ops i).testBit j = true) : X j :=
  bef_in hr hd i o ho he j hj

/-- a temporary that is written ahead of its reader in each order, or behind it -/
theorem known (hr : RegOK P fn ops) (hL : Lay P ops l) (hRl : ∀ r ∈ R, r.o ∈ l) (I : Inv P S self rnd B b ops d0 dE R ι0 cs0 w0 size X R1 R2 D ι a cs w)
    {A : List Rec} {no : NOper} {rest : List NOper} (hl : l = A.map (·.o) ++ no :: rest) (hA : ∀ r ∈ A, r ∈ R) {D1 : Dyn} (hc : Chain P S self rnd d0 A D1) {o : Oper} (ho : ops[no.idx]? = some o) (hE : EdgesIn ops X no.idx) (hnX : ¬ X no.idx)
    {t : Nat} (ht : ∀ j oj, ops[j]? = some oj → oj.dst = some t → j = no.idx ∨ (bef ops (max j no.idx)).testBit (min j no.idx) = true) {v : NV} (hv : NT.get (D4.of t) D1.t = some v) : ∃ v', a.tmps[t]? = some v' ∧ VR ι v v' := by
  have hno : no ∈ l := by rw [hl]; simp
  -- a writer of t, other than the reader, is ahead or behind
  have hord : ∀ x ∈ l, x.dst = some (D4.of t) → x.idx ≠ no.idx → (bef ops no.idx).testBit x.idx = true ∨ (bef ops x.idx).testBit no.idx = true := by
    intro x hx hd hne
    obtain ⟨ox, m1, m2, _⟩ := hL.mem x hx
    rw [m2] at hd
    have hox : ox.dst = some t := by
      cases h : ox.dst with
      | none => rw [h] at hd; cases hd
      | some u => rw [h] at hd; injection hd with hd; rw [D4.of_inj hd]
    rcases ht x.idx ox m1 hox with h | h
    · exact absurd h hne
    · rcases Nat.lt_or_ge x.idx no.idx with hlt | hge
      · rw [Nat.max_eq_right (by omega), Nat.min_eq_left (by omega)] at h; exact .inl h
      · rw [Nat.max_eq_left (by omega), Nat.min_eq_right (by omega)] at h; exact .inr h
  by_cases hw : ∃ r ∈ A, r.o.dst = some (D4.of t)
  · obtain ⟨r, hrA, hrd⟩ := hw
    obtain ⟨A1, A2, rfl⟩ := List.append_of_mem hrA
    have hrl : r.o ∈ l := hRl r (hA r hrA)
    have hne : r.o.idx ≠ no.idx := by
      intro e
      have hl' : l = A1.map (·.o) ++ r.o :: (A2.map (·.o) ++ no :: rest) := by rw [hl]; simp
      exact idx_apart hL hl' (y := no) (by simp) (z := r.o) (by simp) e
    -- no other writer
    have honly : ∀ x ∈ A2, x.o.dst ≠ some (D4.of t) := by
      intro x hx hd
      have hxl : x.o ∈ l := hRl x (hA x (by simp [hx]))
      obtain ⟨o1, m1, m2, _⟩ := hL.mem r.o hrl
      obtain ⟨o2, n1, n2, _⟩ := hL.mem x.o hxl
      have f : ∀ {q : Option Nat}, q.map D4.of = some (D4.of t) → q = some t := by
        intro q hq
        cases q with
        | none => cases hq
        | some u => injection hq with hq; rw [D4.of_inj hq]
      have he := hL.once r.o.idx x.o.idx o1 o2 t m1 n1 (f (by rw [← m2]; exact hrd)) (f (by rw [← n2]; exact hd))
      have hl' : l = A1.map (·.o) ++ r.o :: (A2.map (·.o) ++ no :: rest) := by rw [hl]; simp
      exact idx_apart hL hl' (y := x.o) (by simp; exact .inl ⟨x, hx, rfl⟩) (z := r.o) (by simp) he
    rw [chain_some hc hrd honly] at hv
    cases hv
    rcases hord r.o hrl hrd hne with h | h
    · exact I.tw r (hA r hrA) (bef_X hr I.down ho hE h) t hrd
    · exfalso
      have hl' : l = A1.map (·.o) ++ r.o :: (A2.map (·.o) ++ no :: rest) := by rw [hl]; simp
      obtain ⟨_, _, _, _, _, hp⟩ := hL.mem r.o hrl
      obtain ⟨o', h1, h2⟩ := hL.pre _ _ _ hl' no.idx (by rw [hp]; exact h)
      exact idx_apart hL hl' (y := no) (by simp) (z := o') (by simp at h1 ⊢; exact .inl h1) h2
  · rw [chain_none hc (fun x hx hd => hw ⟨x, hx, hd⟩)] at hv
    refine I.ti t (fun x hx hX hd => ?_) v hv
    have hxl : x.o ∈ l := hRl x hx
    have hne : x.o.idx ≠ no.idx := fun e => hnX (e ▸ hX)
    have hxnA : x ∉ A := fun h => hw ⟨x, h, hd⟩
    rcases hord x.o hxl hd hne with h | h
    · obtain ⟨_, _, _, _, _, hp⟩ := hL.mem no hno
      obtain ⟨o', h1, h2⟩ := hL.pre _ _ _ hl x.o.idx (by rw [hp]; exact h)
      have ho'l : o' ∈ l := by rw [hl]; simp only [List.mem_append]; exact .inl h1
      have := idx_uniq hL ho'l hxl h2
      subst this
      obtain ⟨r', hr', he⟩ := List.mem_map.1 h1
      exact hw ⟨r', hr', by rw [he]; exact hd⟩
    · obtain ⟨ox, m1, _⟩ := hL.mem x.o hxl
      exact hnX (bef_X hr I.down m1 (I.down _ hX) h)

/-- the operands of the operation that comes next -/
theorem known_cut (hr : RegOK P fn ops) (hL : Lay P ops l) (hRl : ∀ r ∈ R, r.o ∈ l) (I : Inv P S self rnd B b ops d0 dE R ι0 cs0 w0 size X R1 R2 D ι a cs w)
    {A : List Rec} {no : NOper} {rest : List NOper} (hl : l = A.map (·.o) ++ no :: rest) (hA : ∀ r ∈ A, r ∈ R) {D1 : Dyn} (hc : Chain P S self rnd d0 A D1) {o : Oper} (ho : ops[no.idx]? = some o) (hE : EdgesIn ops X no.idx) (hnX : ¬ X no.idx)
    (hcp : compOp P o.op = some no.op) : TR ι (cutT (opsOf no.op) D1.t) a.tmps := by
  intro t v hv
  obtain ⟨h1, h2⟩ := cutT_get hv
  have hop := op_tmps hcp h1
  refine known hr hL hRl I hl hA hc ho hE hnX (t := t) (fun j oj hj hd => ?_) h2
  rcases tmpsOk hr.tmps hj ho hd hop with h | h
  · exact .inl h
  · exact .inr h
/-- its guard -/
theorem known_guard (hr : RegOK P fn ops) (hL : Lay P ops l) (hRl : ∀ r ∈ R, r.o ∈ l) (I : Inv P S self rnd B b ops d0 dE R ι0 cs0 w0 size X R1 R2 D ι a cs w)
    {A : List Rec} {no : NOper} {rest : List NOper} (hl : l = A.map (·.o) ++ no :: rest) (hA : ∀ r ∈ A, r ∈ R) {D1 : Dyn} (hc : Chain P S self rnd d0 A D1) {o : Oper} (ho : ops[no.idx]? = some o) (hE : EdgesIn ops X no.idx) (hnX : ¬ X no.idx)
    (hG : GuardR ops o.guard no.guard) {on : Bool} (h : guardOn D1.t no.guard = some on) : Region.wanted o (yielded ops a.tmps) = on := by
  refine guard_sound hG (ι := ι) (fun t c hg v hv => ?_) h
  cases hog : o.guard with
  | none => rw [hog, hg] at hG; exact hG.elim
  | some jb =>
    obtain ⟨j, bb⟩ := jb
    rw [hog, hg] at hG
    obtain ⟨_, u, hu, hk⟩ := hG
    have := D4.of_inj hk
    subst this
    obtain ⟨⟨e, he1, he2, he3⟩, _⟩ := hr.guard _ o j bb ho hog
    have hXj : X j := by rw [← he2]; exact hE o ho e he1 he3
    have hjd : ∃ oj, ops[j]? = some oj ∧ oj.dst = some t := by
      unfold dstOf at hu
      split at hu
      · rename_i oj hoj; exact ⟨oj, hoj, hu⟩
      · cases hu
    obtain ⟨oj, hoj, hjt⟩ := hjd
    obtain ⟨r, hrR, hri⟩ := I.inR j hXj
    have hrd : r.o.dst = some (D4.of t) := by
      obtain ⟨o2, m1, m2, _⟩ := hL.mem r.o (hRl r hrR)
      rw [hri, hoj] at m1; cases m1
      rw [m2, hjt]; rfl
    -- the record of the guard is ahead
    have hjb : (bef ops no.idx).testBit j = true := by
      unfold bef
      rw [before_eq]
      obtain ⟨acc, h1, h2, h3⟩ := foldPush_get (fun acc (o : Oper) => o.after.foldl (fun s e => if Region.binds .any e then s ||| 2 ^ e.on ||| acc.getD e.on 0 else s) 0) ops.toList no.idx o (by simpa using ho)
      rw [Array.getD_eq_getD_getElem?, h1]
      simp only [Option.getD_some]
      rw [← Array.foldl_toList]
      have hfold : ∀ (L : List Edge) (s : Nat), (e ∈ L ∨ s.testBit j = true) → (L.foldl (fun s e => if Region.binds .any e then s ||| 2 ^ e.on ||| acc.getD e.on 0 else s) s).testBit j = true := by
        intro L
        induction L with
        | nil => intro s h; rcases h with h | h; cases h; exact h
        | cons x L ih =>
          intro s h
          rw [List.foldl_cons]
          refine ih _ ?_
          rcases h with h | h
          · rcases List.mem_cons.1 h with h | h
            · right; rw [← h, if_pos he3, Nat.testBit_or, Nat.testBit_or, he2, Nat.testBit_two_pow]; simp
            · exact .inl h
          · right
            split
            · rw [Nat.testBit_or, Nat.testBit_or, h]; rfl
            · exact h
      exact hfold _ 0 (.inl he1)
    refine known hr hL hRl I hl hA hc ho hE hnX (t := t) (fun j' oj' hj' hd' => ?_) hv
    have := hL.once j' j oj' oj t hj' hoj hd' hjt
    subst this
    right
    have hlt := hr.edge no.idx o e ho he1 he3
    rw [he2] at hlt
    rw [Nat.max_eq_right (by omega), Nat.min_eq_left (by omega)]
    exact hjb

/-- the temporaries, behind one more operation -/
theorem temps_put (hL : Lay P ops l) (hRl : ∀ r ∈ R, r.o ∈ l) {ι' : Inj} (hle : ι.le ι') {r : Rec} (hr : r ∈ R) {o : Oper} (ho : ops[r.o.idx]? = some o) {v' : Value} (hv : VR ι' r.val v') (hb : ∀ d, o.dst = some d → d < a.tmps.size)
    (tw : ∀ r ∈ R, X r.o.idx → ∀ t, r.o.dst = some (D4.of t) → ∃ v', a.tmps[t]? = some v' ∧ VR ι r.val v')
    (ti : ∀ k, (∀ r ∈ R, X r.o.idx → r.o.dst ≠ some (D4.of k)) → ∀ v, NT.get (D4.of k) d0.t = some v → ∃ v', a.tmps[k]? = some v' ∧ VR ι v v')
    (hRR : ∀ x ∈ R, x.o.idx = r.o.idx → x = r) :
    (∀ x ∈ R, (X x.o.idx ∨ x.o.idx = r.o.idx) → ∀ t, x.o.dst = some (D4.of t) → ∃ v'', (a.put o.dst v').tmps[t]? = some v'' ∧ VR ι' x.val v'') ∧
    (∀ k, (∀ x ∈ R, (X x.o.idx ∨ x.o.idx = r.o.idx) → x.o.dst ≠ some (D4.of k)) → ∀ v, NT.get (D4.of k) d0.t = some v → ∃ v'', (a.put o.dst v').tmps[k]? = some v'' ∧ VR ι' v v'') := by
  have hod : r.o.dst = o.dst.map D4.of := by
    obtain ⟨o2, m1, m2, _⟩ := hL.mem r.o (hRl r hr); rw [ho] at m1; cases m1; exact m2
  have hput : ∀ t, o.dst ≠ some t → (a.put o.dst v').tmps[t]? = a.tmps[t]? := by
    intro t ht
    cases hd : o.dst with
    | none => rfl
    | some d =>
      show (a.tmps.setIfInBounds d v')[t]? = _
      rw [Array.getElem?_setIfInBounds_ne (fun e => ht (by rw [hd, e]))]
  have hown : ∀ t, o.dst = some t → (a.put o.dst v').tmps[t]? = some v' := by
    intro t ht
    have := hb t ht
    rw [ht]
    show (a.tmps.setIfInBounds t v')[t]? = _
    simp [this]
  constructor
  · intro x hx hX t ht
    by_cases he : x.o.idx = r.o.idx
    · have := hRR x hx he
      subst this
      have hot : o.dst = some t := by
        rw [hod] at ht
        cases h : o.dst with
        | none => rw [h] at ht; cases ht
        | some u => rw [h] at ht; injection ht with ht; rw [D4.of_inj ht]
      exact ⟨v', hown t hot, hv⟩
    · have hX' : X x.o.idx := hX.resolve_right he
      obtain ⟨u, h1, h2⟩ := tw x hx hX' t ht
      refine ⟨u, ?_, h2.mono hle⟩
      rw [hput t ?_]; exact h1
      intro hot
      obtain ⟨o2, m1, m2, _⟩ := hL.mem x.o (hRl x hx)
      have : o2.dst = some t := by
        rw [m2] at ht
        cases h : o2.dst with
        | none => rw [h] at ht; cases ht
        | some u => rw [h] at ht; injection ht with ht; rw [D4.of_inj ht]
      exact he (hL.once _ _ o2 o t m1 ho this hot)
  · intro t hn v hv0
    obtain ⟨u, h1, h2⟩ := ti t (fun x hx hX => hn x hx (.inl hX)) v hv0
    refine ⟨u, ?_, h2.mono hle⟩
    rw [hput t ?_]; exact h1
    intro hot
    exact hn r hr (.inr rfl) (by rw [hod, hot]; rfl)
end
end Nm

namespace Nm
open Go
variable [Val]

/-! # the real run of a region that draws, step by step -/
section
variable {P : Program} {S : Nat → List NV → Option NV} {self : Option D4 → NC → Dyn → Res} {rnd : Option D4} {B : Nat} {b : Frame} {k : List Item} {ops : Array Oper} {fn : Func} {l : List NOper}
  {d0 dE : Dyn} {R : List Rec} {ι0 : Inj} {cs0 : List Frame} {w0 : World} {size : Nat} {X : Nat → Prop} {R1 R2 : List Rec} {D : Dyn} {ι : Inj} {a : Act} {cs : List Frame} {w : World}

theorem Mv.more {ctx : Option NV} {h : NH} {dfs' : List Dfr} {ctx' : Option NV} {h' h'' : NH} {ds' : List Deferred} {cs' : List Frame} {w' : World} (m : Mv P B rnd b ι0 ctx h cs0 w0 ι dfs' ctx' h' ds' cs' w') (hn : h'.next.toNat ≤ h''.next.toNat)
    (hg : ∀ i, i.toNat < h'.next.toNat → h''.get i = h'.get i) (hf : Fr h'') : Mv P B rnd b ι0 ctx h cs0 w0 ι dfs' ctx' h'' ds' cs' w' :=
  ⟨⟨m.sd.df, m.sd.cx, m.sd.rel.more hg hf, m.sd.base, m.sd.rn⟩, m.gr.more m.sd.rel hn hg, m.ca⟩

omit [Val] in
theorem not_defer {op : Op} {n : NOp} (hc : compOp P op = some n) (hcl : clsOf n ≠ .eff) : ∀ c, op ≠ .defer c := by
  rintro ⟨callee, args, ats⟩ rfl
  cases callee with
  | value f =>
    replace hc : cDefer f args.toList = some n := hc
    unfold cDefer at hc
    split at hc
    · cases hc; exact hcl rfl
    · cases hc
  | builtin b => have hc : (none : Option NOp) = some n := hc; cases hc
  | invoke r m => have hc : (none : Option NOp) = some n := hc; cases hc

omit [Val] in
/-- one operation that makes an object -/
theorem exec_alloc {i : Nat} {rest : List Nat} {o : Oper} {n : NOp} (ho : ops[i]? = some o) (hw : Region.wanted o (yielded ops a.tmps) = true) (hc : compOp P o.op = some n) (hcl : clsOf n = .alloc) {v' : Value} {w' : World}
    (h1 : (execOp a.eval o).run P w = .ok (.value v') w') :
    Steps P (lone (b.atR a (.inRegion ops (i :: rest) :: k)) cs w) (lone (b.atR (a.put o.dst v') (.inRegion ops rest :: k)) cs w') := by
  have hg := stepGR_op (P := P) (b := b) (k := k) (cs := cs) (w := w) (rest := rest) ho hw
  have hfin : ∀ v, (b.atR a (.inRegion ops (i :: rest) :: k)).finish v = b.atR (a.put o.dst v) (.inRegion ops rest :: k) := by
    intro v; rw [Frame.finish_atR, ho]; rfl
  rw [semAt_of (.inr (not_defer hc (by rw [hcl]; simp)))] at hg
  refine .one (step_lone_go ?_)
  rw [hg, ← hfin]; simp [stepG.apply, h1]

theorem inv_step (hC : CallsOK P S self) (hr : RegOK P fn ops) (hL : Lay P ops l) {rest0 : List NOper} (hl : l = R.map (·.o) ++ rest0) (hQ : R.Pairwise QQ) (hsz : fn.ntmps ≤ size)
    (I : Inv P S self rnd B b ops d0 dE R ι0 cs0 w0 size X R1 R2 D ι a cs w) {r : Rec} (hrR : r ∈ R) (hE : EdgesIn ops X r.o.idx) (hnX : ¬ X r.o.idx) (rest : List Nat) :
    ∃ R1' R2' D' ι' a' cs' w', Steps P (lone (b.atR a (.inRegion ops (r.o.idx :: rest) :: k)) cs w) (lone (b.atR a' (.inRegion ops rest :: k)) cs' w') ∧
      Inv P S self rnd B b ops d0 dE R ι0 cs0 w0 size (fun j => X j ∨ j = r.o.idx) R1' R2' D' ι' a' cs' w' := by
  have hRl : ∀ x ∈ R, x.o ∈ l := fun x hx => by rw [hl]; simp only [List.mem_append]; exact .inl (List.mem_map.2 ⟨x, hx, rfl⟩)
  obtain ⟨A, C, hAC⟩ := List.append_of_mem hrR
  have hA : ∀ x ∈ A, x ∈ R := fun x hx => by rw [hAC]; simp [hx]
  have hlr : l = A.map (·.o) ++ r.o :: (C.map (·.o) ++ rest0) := by rw [hl, hAC]; simp
  have hchain : Chain P S self rnd d0 (A ++ r :: C) dE := by rw [← hAC, I.split]; exact chain_join I.c1 I.c2
  obtain ⟨Dr, hcA, hcr⟩ := chain_split hchain
  obtain ⟨hDr, hok, hcC⟩ := chain_inv hcr
  subst hDr
  obtain ⟨o, ho, hdst, hcp, hG, hpre⟩ := hL.mem r.o (hRl r hrR)
  have hbX : ∀ j, r.o.pre.testBit j = true → X j := fun j hj => bef_X hr I.down ho hE (by rw [← hpre]; exact hj)
  -- a record has its number alone
  have hRnd : (R.map (·.o.idx)).Nodup := by
    have := hL.nodup
    rw [hl, List.map_append, List.nodup_append] at this
    have h1 := this.1
    rw [List.map_map] at h1
    exact h1
  have hRR : ∀ x ∈ R, ∀ y ∈ R, x.o.idx = y.o.idx → x = y := by
    clear hlr hA hcA hcr hcC hchain hok hAC hQ hl hrR hRl I
    intro x hx y hy he
    induction R with
    | nil => cases hx
    | cons z R ih =>
      rw [List.map_cons, List.nodup_cons] at hRnd
      rcases List.mem_cons.1 hx with rfl | hx'
      · rcases List.mem_cons.1 hy with rfl | hy'
        · rfl
        · exact absurd (List.mem_map.2 ⟨y, hy', he.symm⟩) hRnd.1
      · rcases List.mem_cons.1 hy with rfl | hy'
        · exact absurd (List.mem_map.2 ⟨x, hx', he⟩) hRnd.1
        · exact ih hRnd.2 hx' hy'
  have hX' : ∀ j, (X j ∨ j = r.o.idx) → EdgesIn ops (fun j => X j ∨ j = r.o.idx) j := by
    intro j hj o' ho' e he hb
    rcases hj with hj | rfl
    · exact .inl (I.down j hj o' ho' e he hb)
    · exact .inl (hE o' ho' e he hb)
  have hinR : ∀ j, (X j ∨ j = r.o.idx) → ∃ x ∈ R, x.o.idx = j := by
    rintro j (hj | rfl)
    · exact I.inR j hj
    · exact ⟨r, hrR, rfl⟩
  have hdb : ∀ d, o.dst = some d → d < a.tmps.size := fun d hd => by rw [I.size]; exact Nat.lt_of_lt_of_le (hr.dst _ o d ho hd) hsz
  have hput := fun {ι' : Inj} (hle : ι.le ι') {v' : Value} (hv : VR ι' r.val v') => temps_put hL hRl hle hrR ho hv hdb I.tw I.ti (fun x hx => hRR x hx r hrR)
  have hguard : ∀ {on : Bool}, guardOn r.t r.o.guard = some on → Region.wanted o (yielded ops a.tmps) = on := fun h => known_guard hr hL hRl I hlr hA hcA ho hE hnX hG h
  -- the head of the rest is an effect that is not done yet: it stands ahead of r only if r need not follow it
  have hhead : ∀ h2 R2', R2 = h2 :: R2' → r ∈ R2' → QQ h2 r := by
    intro h2 R2' h2e hm
    have hp := hQ
    rw [I.split, h2e, List.pairwise_append] at hp
    exact (List.pairwise_cons.1 hp.2.1).1 r hm
  have hnohead : ∀ h2 R2', R2 = h2 :: R2' → r.o.pre.testBit h2.o.idx = false := by
    intro h2 R2' h2e
    cases hb : r.o.pre.testBit h2.o.idx with
    | false => rfl
    | true => exact absurd (hbX _ hb) (I.head h2 R2' h2e).2
  -- where nothing but values turns
  have calm : ∀ {ι' : Inj} {a' : Act} {cs' : List Frame} {w' : World} {v' : Value} {ds : List Deferred}, ¬ r.isE → (∀ v h, r.k ≠ .alloc v h) → Mv P B rnd b ι D.ctx D.h cs w ι' D.dfs D.ctx D.h ds cs' w' → VR ι' r.val v' → a' = ({ a with defers := ds } : Act).put o.dst v' →
      Inv P S self rnd B b ops d0 dE R ι0 cs0 w0 size (fun j => X j ∨ j = r.o.idx) R1 R2 D ι' a' cs' w' := by
    intro ι' a' cs' w' v' ds hnE hnA mv hv he
    subst he
    have hpt := temps_put (a := { a with defers := ds }) hL hRl mv.gr.le hrR ho hv hdb I.tw I.ti (fun x hx => hRR x hx r hrR)
    refine ⟨hX', hinR, I.split, I.c1, I.c2, fun x hx hxE => .inl (I.effs x hx hxE), fun h2 R2' he => ⟨(I.head h2 R2' he).1, ?_⟩, ?_, ?_, ?_, I.fr, hpt.1, hpt.2, ?_⟩
    · rintro (h | h)
      · exact (I.head h2 R2' he).2 h
      · have : h2 = r := hRR h2 (by rw [I.split, he]; simp) r hrR h
        exact hnE (this ▸ (I.head h2 R2' he).1)
    · rw [put_defers]; exact I.mv.trans mv
    · intro x hx v h e hn
      obtain ⟨p1, p2, p3, p4⟩ := I.pend x hx v h e (fun hX => hn (.inl hX))
      refine ⟨?_, p2, p3, p4⟩
      cases hi : ι' x.h.next with
      | none => rfl
      | some p =>
        rcases mv.gr.new _ _ hi with h | h
        · rw [p1] at h; cases h
        · omega
    · exact fun x hx y hy v h v' h' e e' n n' => I.dist x hx y hy v h v' h' e e' (fun hX => n (.inl hX)) (fun hX => n' (.inl hX))
    · rw [put_size]; exact I.size
  have hrun : ∀ h, opRun r.o.op (cutT (opsOf r.o.op) r.t) h = opRun r.o.op r.t h := fun h => opRun_cong cutT_ρ h
  cases hk : r.k with
  | off =>
    have hg : guardOn r.t r.o.guard = some false := by unfold Rec.ok at hok; rw [hk] at hok; exact hok
    have hskip := stepR_op_skip (P := P) (b := b) (a := a) (k := k) (cs := cs) (w := w) (ops := ops) (i := r.o.idx) (rest := rest) (by simp [ho, hguard hg])
    simp only [ho, Option.bind_some] at hskip
    have hval : r.val = undefN := by simp [Rec.val, hk]
    exact ⟨R1, R2, D, ι, _, cs, w, .one hskip, calm (ds := a.defers) (v' := undef) (by simp [Rec.isE, hk]) (by simp [hk]) (Mv.refl I.mv.sd) (by rw [hval]; exact undefVR) rfl⟩
  | pure v =>
    have hok' : guardOn r.t r.o.guard = some true ∧ clsOf r.o.op = .pure ∧ opRun r.o.op r.t r.h = .val v := by unfold Rec.ok at hok; rw [hk] at hok; exact hok
    obtain ⟨g1, g2, g3⟩ := hok'
    have hcp' : compOp P o.op = some r.o.op := hcp.resolve_right fun e => by rw [e] at g2; cases g2
    have hT : TR ι (cutT (opsOf r.o.op) r.t) a.tmps := known_cut hr hL hRl I hlr hA hcA ho hE hnX hcp'
    have hx := exec_sound (S := S) (self := self) (k := k) (rest := rest) hC ho (hguard g1) hcp' (OE_of hT) I.mv.sd
    rw [hrun, pure_heap g2 r.t D.h r.h, g3] at hx
    obtain ⟨v', ι1, ds1, cs1, w1, x1, x2, x3⟩ := hx
    have hval : r.val = v := by simp [Rec.val, hk]
    exact ⟨R1, R2, D, ι1, _, cs1, w1, x1, calm (by simp [Rec.isE, hk]) (by simp [hk]) x3 (by rw [hval]; exact x2) rfl⟩
  | read v =>
    have hok' : guardOn r.t r.o.guard = some true ∧ clsOf r.o.op = .read ∧ opRun r.o.op r.t r.h = .val v := by unfold Rec.ok at hok; rw [hk] at hok; exact hok
    obtain ⟨g1, g2, g3⟩ := hok'
    have hcp' : compOp P o.op = some r.o.op := hcp.resolve_right fun e => by rw [e] at g2; cases g2
    have hT : TR ι (cutT (opsOf r.o.op) r.t) a.tmps := known_cut hr hL hRl I hlr hA hcA ho hE hnX hcp'
    have hx := exec_sound (S := S) (self := self) (k := k) (rest := rest) hC ho (hguard g1) hcp' (OE_of hT) I.mv.sd
    have hval : r.val = v := by simp [Rec.val, hk]
    have hread : opRun r.o.op r.t D.h = .val v := by
      have hm : r ∈ R1 ∨ r ∈ R2 := by have := hrR; rw [I.split] at this; exact List.mem_append.1 this
      rcases hm with hm | hm
      · obtain ⟨E1, E2, hE12⟩ := List.append_of_mem hm
        have hc1 := I.c1
        rw [hE12] at hc1
        obtain ⟨Dm, _, hc2⟩ := chain_split hc1
        obtain ⟨hDm, _, hc3⟩ := chain_inv hc2
        refine read_keep g2 hc3 (fun x hx => I.fr x (by rw [hE12]; simp [hx])) ?_ ?_
        · rw [show r.nx.h = r.h by simp [Rec.nx, hk]]; exact g3
        · intro x hx u dfs ctx h e
          have hxR1 : x ∈ R1 := by rw [hE12]; simp [hx]
          have hXx : X x.o.idx := I.effs x hxR1 (by unfold Rec.isE; rw [e]; trivial)
          have hqq : QQ r x := by
            have hp := hQ
            rw [I.split, hE12, List.append_assoc, List.pairwise_append] at hp
            exact (List.pairwise_cons.1 hp.2.1).1 x (by simp [hx])
          unfold QQ at hqq
          rw [hk] at hqq
          unfold QR at hqq
          rw [e] at hqq
          refine hqq ?_
          cases hb : x.o.pre.testBit r.o.idx with
          | false => rfl
          | true =>
            obtain ⟨ox, m1, _, _, _, mp⟩ := hL.mem x.o (hRl x (by rw [I.split]; simp [hxR1]))
            exact absurd (bef_X hr I.down m1 (I.down _ hXx) (by rw [← mp]; exact hb)) hnX
      · cases hR2 : R2 with
        | nil => rw [hR2] at hm; cases hm
        | cons h2 R2' =>
          have hhd := I.head h2 R2' hR2
          have hDh : D = h2.st := by have := I.c2; rw [hR2] at this; exact (chain_inv this).1
          rw [hR2] at hm
          rcases List.mem_cons.1 hm with rfl | hm'
          · have := hhd.1; simp [Rec.isE, hk] at this
          · have hqq := hhead h2 R2' hR2 hm'
            unfold QQ at hqq
            have hisE := hhd.1
            unfold Rec.isE at hisE
            split at hqq
            · unfold QE at hqq
              rw [hk] at hqq
              rw [hDh]
              exact hqq (hnohead h2 R2' hR2)
            · rename_i e; rw [e] at hisE; exact hisE.elim
            · rename_i hno _
              split at hisE
              · rename_i e; exact absurd e (hno _ _ _ _)
              · exact hisE.elim
    rw [hrun, hread] at hx
    obtain ⟨v', ι1, ds1, cs1, w1, x1, x2, x3⟩ := hx
    exact ⟨R1, R2, D, ι1, _, cs1, w1, x1, calm (by simp [Rec.isE, hk]) (by simp [hk]) x3 (by rw [hval]; exact x2) rfl⟩
  | alloc v h =>
    have hok' : guardOn r.t r.o.guard = some true ∧ clsOf r.o.op = .alloc ∧ opRun r.o.op r.t r.h = .mem v h := by unfold Rec.ok at hok; rw [hk] at hok; exact hok
    obtain ⟨g1, g2, g3⟩ := hok'
    have hcp' : compOp P o.op = some r.o.op := hcp.resolve_right fun e => by rw [e] at g2; cases g2
    have hT : TR ι (cutT (opsOf r.o.op) r.t) a.tmps := known_cut hr hL hRl I hlr hA hcA ho hE hnX hcp'
    have hm : r ∈ R1 := by
      have hm : r ∈ R1 ∨ r ∈ R2 := by have := hrR; rw [I.split] at this; exact List.mem_append.1 this
      rcases hm with hm | hm
      · exact hm
      · exfalso
        cases hR2 : R2 with
        | nil => rw [hR2] at hm; cases hm
        | cons h2 R2' =>
          have hhd := I.head h2 R2' hR2
          rw [hR2] at hm
          rcases List.mem_cons.1 hm with rfl | hm'
          · have := hhd.1; simp [Rec.isE, hk] at this
          · have hqq := hhead h2 R2' hR2 hm'
            have hisE := hhd.1
            unfold Rec.isE at hisE
            unfold QQ at hqq
            split at hqq
            · unfold QE at hqq
              rw [hk] at hqq
              rw [hnohead h2 R2' hR2] at hqq; cases hqq
            · rename_i e; rw [e] at hisE; exact hisE.elim
            · rename_i hno _
              split at hisE
              · rename_i e; exact absurd e (hno _ _ _ _)
              · exact hisE.elim
    obtain ⟨p1, p2, p3, p4⟩ := I.pend r hm v h hk hnX
    obtain ⟨ob, V, hAl⟩ := alloc_sound (P := P) (ι := ι) (w := w) (t := cutT (opsOf r.o.op) r.t) (e := a.eval) (h0 := r.h) hcp' (OE_of hT) g2 (by rw [hrun, g3]; simp)
    have hv0 := hAl.all r.h
    rw [hrun, g3] at hv0
    injection hv0 with hv1 hv2
    obtain ⟨v', w1, O, p, hw1, hres, hpb, hOR, hVR⟩ := hAl.real
    have hstep := exec_alloc (b := b) (k := k) (cs := cs) (rest := rest) ho (hguard g1) hcp' g2 hres
    have hn : ι r.h.next = none := p1
    have hget : D.h.get r.h.next = some ob := by rw [p2, hv2]; exact NH.get_add_same _ _
    have hrel1 : Rel P ι B D.h w1 := by rcases hw1 with rfl | rfl; exact I.mv.sd.rel; exact I.mv.sd.rel.drew
    have hgr1 : Grow ι0 d0.h w0 ι D.h w1 := by rcases hw1 with rfl | rfl; exact I.mv.gr; exact I.mv.gr.drew
    have hw1s : w1.heap.size = w.heap.size := by rcases hw1 with rfl | rfl <;> rfl
    have hB1 : B ≤ w1.heap.size := by rw [hw1s]; exact I.mv.sd.base
    have hrel := hrel1.at hB1 hn hget (p := p) (O := O) (by rw [hw1s]; exact hpb) hOR
    have hgr := hgr1.at hn p4 (O := O) (p := p) (by rw [hw1s]; exact hpb)
    have hle : ι.le (ι.set r.h.next p) := Inj.set_le hn
    have hvr : VR (ι.set r.h.next p) r.val v' := by
      rw [show r.val = v by simp [Rec.val, hk], hv1]
      exact hVR _ _ hle (Inj.set_same _ _ _)
    have hpt := hput hle hvr
    refine ⟨R1, R2, D, ι.set r.h.next p, _, cs, _, hstep, ⟨hX', hinR, I.split, I.c1, I.c2, fun x hx hxE => .inl (I.effs x hx hxE), fun h2 R2' he => ⟨(I.head h2 R2' he).1, ?_⟩, ?_, ?_, ?_, I.fr, hpt.1, hpt.2, ?_⟩⟩
    · rintro (h | h)
      · exact (I.head h2 R2' he).2 h
      · have h3 : h2 = r := hRR h2 (by rw [I.split, he]; simp) r hrR h
        have := (I.head h2 R2' he).1
        rw [h3] at this
        simp [Rec.isE, hk] at this
    · rw [put_defers]
      have s := I.mv.sd
      exact ⟨⟨s.df.mono hle, s.cx.mono hle, hrel, by have := s.base; simp; omega, s.rn.mono hle⟩, hgr, I.mv.ca⟩
    · intro x hx v2 h2 e hnx
      obtain ⟨q1, q2, q3, q4⟩ := I.pend x hx v2 h2 e (fun hX => hnx (.inl hX))
      refine ⟨?_, q2, q3, q4⟩
      rw [Inj.set_ne]
      · exact q1
      · intro he
        exact hnx (.inr (I.dist x hx r hm v2 h2 v h e hk (fun hX => hnx (.inl hX)) hnX he))
    · exact fun x hx y hy v h v' h' e e' n n' => I.dist x hx y hy v h v' h' e e' (fun hX => n (.inl hX)) (fun hX => n' (.inl hX))
    · rw [put_size]; exact I.size
  | eff v dfs1 ctx1 h1 =>
    have hok' : guardOn r.t r.o.guard = some true ∧ clsOf r.o.op = .eff ∧ opOut P S self rnd r.dfs r.ctx r.h (opRun r.o.op r.t r.h) = .next v dfs1 ctx1 h1 := by unfold Rec.ok at hok; rw [hk] at hok; exact hok
    obtain ⟨g1, g2, g3⟩ := hok'
    have hcp' : compOp P o.op = some r.o.op := hcp.resolve_right fun e => by rw [e] at g3; cases g3
    have hT : TR ι (cutT (opsOf r.o.op) r.t) a.tmps := known_cut hr hL hRl I hlr hA hcA ho hE hnX hcp'
    have hisE : r.isE := by unfold Rec.isE; rw [hk]; trivial
    have hR2 : ∃ R2', R2 = r :: R2' := by
      have hm : r ∈ R1 ∨ r ∈ R2 := by have := hrR; rw [I.split] at this; exact List.mem_append.1 this
      rcases hm with hm | hm
      · exact absurd (I.effs r hm hisE) hnX
      · cases hR2 : R2 with
        | nil => rw [hR2] at hm; cases hm
        | cons h2 R2' =>
          have hhd := I.head h2 R2' hR2
          rw [hR2] at hm
          rcases List.mem_cons.1 hm with rfl | hm'
          · exact ⟨R2', rfl⟩
          · exfalso
            have hqq := hhead h2 R2' hR2 hm'
            have hisE := hhd.1
            unfold Rec.isE at hisE
            unfold QQ at hqq
            split at hqq
            · unfold QE at hqq
              rw [hk] at hqq
              rw [hnohead h2 R2' hR2] at hqq; cases hqq
            · rename_i e; rw [e] at hisE; exact hisE.elim
            · rename_i hno _
              split at hisE
              · rename_i e; exact absurd e (hno _ _ _ _)
              · exact hisE.elim
    obtain ⟨R2', hR2⟩ := hR2
    have hc2 := I.c2
    rw [hR2] at hc2
    obtain ⟨hD, _, hcR⟩ := chain_inv hc2
    have hx := exec_sound (S := S) (self := self) (k := k) (rest := rest) hC ho (hguard g1) hcp' (OE_of hT) I.mv.sd
    rw [hrun, show D.h = r.h by rw [hD]; rfl, show D.dfs = r.dfs by rw [hD]; rfl, show D.ctx = r.ctx by rw [hD]; rfl, g3] at hx
    obtain ⟨v', ι1, ds1, cs1, w1, x1, x2, x3⟩ := hx
    obtain ⟨T1, T2, hT12, hT1, hT2⟩ := skip_split R2'
    rw [hT12] at hcR
    obtain ⟨D', hc3, hc4⟩ := chain_split hcR
    have hnx : r.nx.dfs = dfs1 ∧ r.nx.ctx = ctx1 ∧ r.nx.h = h1 := by simp [Rec.nx, hk]
    obtain ⟨n1, n2, n3⟩ := hnx
    have sk := skip_keep hc3 hT1 (by rw [n3]; exact x3.sd.rel.fresh)
    have s1 := sk.dfs; rw [n1] at s1
    have s2 := sk.ctx; rw [n2] at s2
    have s3 := sk.next; rw [n3] at s3
    have s4 := sk.get; rw [n3] at s4
    have hDh : D.h = r.h := by rw [hD]; rfl
    have x3' : Mv P B rnd b ι D.ctx D.h cs w ι1 dfs1 ctx1 h1 ds1 cs1 w1 := by rw [hD]; exact x3
    have mv1 := (I.mv.trans x3').more s3 s4 sk.fresh
    have hval : r.val = v := by simp [Rec.val, hk]
    have hpt := temps_put (a := { a with defers := ds1 }) hL hRl x3.gr.le hrR ho (by rw [hval]; exact x2) hdb I.tw I.ti (fun x hx => hRR x hx r hrR)
    have hmono : D.h.next.toNat ≤ h1.next.toNat := x3'.gr.next
    refine ⟨R1 ++ r :: T1, T2, D', ι1, _, cs1, w1, x1, ⟨hX', hinR, ?_, chain_join I.c1 (hD ▸ .cons r T1 D' (by rw [Rec.ok, hk]; exact ⟨g1, g2, g3⟩) hc3), hc4, ?_, ?_, ?_, ?_, ?_, ?_, hpt.1, hpt.2, ?_⟩⟩
    · rw [I.split, hR2, hT12]; simp
    · intro x hx hxE
      rcases List.mem_append.1 hx with hx | hx
      · exact .inl (I.effs x hx hxE)
      · rcases List.mem_cons.1 hx with rfl | hx
        · exact .inr rfl
        · exact absurd hxE (hT1 x hx)
    · intro h2 T2' he
      have hh2 := hT2 h2 T2' he
      refine ⟨hh2, ?_⟩
      have hmem : h2 ∈ R2' := by rw [hT12, he]; simp
      have hqq : QQ r h2 := by
        have hp := hQ
        rw [I.split, hR2, List.pairwise_append] at hp
        exact (List.pairwise_cons.1 hp.2.1).1 h2 hmem
      have hbit : h2.o.pre.testBit r.o.idx = true := by
        unfold QQ at hqq
        rw [hk] at hqq
        unfold QE at hqq
        cases hk2 : h2.k with
        | eff v3 d3 c3 h3 => rw [hk2] at hqq; exact hqq
        | _ => unfold Rec.isE at hh2; rw [hk2] at hh2; exact hh2.elim
      have h2R : h2 ∈ R := by rw [I.split, hR2]; simp [hmem]
      obtain ⟨o2, m1, _, _, _, mp⟩ := hL.mem h2.o (hRl h2 h2R)
      rintro (hX2 | he2)
      · exact hnX (bef_X hr I.down m1 (I.down _ hX2) (by rw [← mp]; exact hbit))
      · have := hRR h2 h2R r hrR he2
        subst this
        -- an operation is not ahead of itself
        have hl2 : l = A.map (·.o) ++ h2.o :: (C.map (·.o) ++ rest0) := hlr
        obtain ⟨o', q1, q2⟩ := hL.pre _ _ _ hl2 h2.o.idx hbit
        have hnd := hL.nodup
        rw [hl2, List.map_append, List.nodup_append] at hnd
        exact hnd.2.2 o'.idx (List.mem_map.2 ⟨o', q1, rfl⟩) h2.o.idx (by simp) q2
    · rw [put_defers, s1, s2]; exact mv1
    · intro x hx v2 h2 e hnx2
      rcases List.mem_append.1 hx with hx | hx
      · obtain ⟨q1, q2, q3, q4⟩ := I.pend x hx v2 h2 e (fun hX => hnx2 (.inl hX))
        refine ⟨?_, ?_, Nat.lt_of_lt_of_le q3 (Nat.le_trans hmono s3), q4⟩
        · cases hi : ι1 x.h.next with
          | none => rfl
          | some p =>
            rcases x3'.gr.new _ _ hi with h | h
            · rw [q1] at h; cases h
            · omega
        · rw [s4 _ (by omega), x3'.gr.keep _ q1 q3, q2]
      · rcases List.mem_cons.1 hx with rfl | hx
        · rw [hk] at e; cases e
        · obtain ⟨q1, q2, q3⟩ := sk.al x hx v2 h2 e
          rw [n3] at q1
          refine ⟨?_, q3, q2, ?_⟩
          · cases hi : ι1 x.h.next with
            | none => rfl
            | some p => have := x3.sd.rel.lt_next hi; omega
          · have := I.mv.gr.next; omega
    · intro x hx y hy v2 h2 v3 h3 e e' nx ny he
      rcases List.mem_append.1 hx with hx' | hx'
      · have px := I.pend x hx' v2 h2 e (fun hX => nx (.inl hX))
        rcases List.mem_append.1 hy with hy' | hy'
        · exact I.dist x hx' y hy' v2 h2 v3 h3 e e' (fun hX => nx (.inl hX)) (fun hX => ny (.inl hX)) he
        · rcases List.mem_cons.1 hy' with rfl | hy''
          · rw [hk] at e'; cases e'
          · obtain ⟨q1, q2, q3⟩ := sk.al y hy'' v3 h3 e'
            rw [n3, ← he] at q1
            have := px.2.2.1
            omega
      · rcases List.mem_cons.1 hx' with rfl | hx''
        · rw [hk] at e; cases e
        · obtain ⟨q1, q2, q3⟩ := sk.al x hx'' v2 h2 e
          rcases List.mem_append.1 hy with hy' | hy'
          · have py := I.pend y hy' v3 h3 e' (fun hX => ny (.inl hX))
            rw [n3, he] at q1
            have := py.2.2.1
            omega
          · rcases List.mem_cons.1 hy' with rfl | hy''
            · rw [hk] at e'; cases e'
            · exact sk.dist x hx'' y hy'' v2 h2 v3 h3 e e' he
    · intro x hx
      rcases List.mem_append.1 hx with hx | hx
      · exact I.fr x hx
      · rcases List.mem_cons.1 hx with rfl | hx
        · rw [← hDh]; exact I.mv.sd.rel.fresh
        · exact sk.fr x hx
    · rw [put_size]; exact I.size
end
end Nm

namespace Nm
open Go
variable [Val]

/-! # the real run of a region that draws -/
section
variable {P : Program} {S : Nat → List NV → Option NV} {self : Option D4 → NC → Dyn → Res} {rnd : Option D4} {B : Nat} {b : Frame} {k : List Item} {ops : Array Oper} {fn : Func} {l : List NOper}
  {d0 dE : Dyn} {R : List Rec} {ι0 : Inj} {cs0 : List Frame} {w0 : World} {size : Nat}

theorem Goes.of_steps {m m' : Machine} {ι : Inj} {ctx : Option NV} {h : NH} {cs : List Frame} {w : World} {o : Out} {d' : Dyn} (hs : Steps P m m') (g : Goes P B rnd b k m' ι ctx h size cs w o d') : Goes P B rnd b k m ι ctx h size cs w o d' := by
  obtain ⟨ι', a', cs', w', q1, q2⟩ := g
  exact ⟨ι', a', cs', w', q1.of_steps hs, q2⟩

theorem draw_loop (hC : CallsOK P S self) (hr : RegOK P fn ops) (hL : Lay P ops l) {rest0 : List NOper} (hl : l = R.map (·.o) ++ rest0) (hQ : R.Pairwise QQ) (hsz : fn.ntmps ≤ size) {G : Out} {dF : Dyn}
    (hfin : ∀ (X : Nat → Prop) (R1 R2 : List Rec) (D : Dyn) (ι : Inj) (a : Act) (cs : List Frame) (w : World), Inv P S self rnd B b ops d0 dE R ι0 cs0 w0 size X R1 R2 D ι a cs w → (∀ i, i < ops.size → X i) →
      Goes P B rnd b k (lone (b.atR a (.inRegion ops [] :: k)) cs w) ι0 d0.ctx d0.h size cs0 w0 G dF)
    (hstop : ∀ (X : Nat → Prop) (R1 R2 : List Rec) (D : Dyn) (ι : Inj) (a : Act) (cs : List Frame) (w : World), Inv P S self rnd B b ops d0 dE R ι0 cs0 w0 size X R1 R2 D ι a cs w → ∀ (no : NOper) (rest : List Nat), no ∈ rest0 → EdgesIn ops X no.idx → ¬ X no.idx →
      Goes P B rnd b k (lone (b.atR a (.inRegion ops (no.idx :: rest) :: k)) cs w) ι0 d0.ctx d0.h size cs0 w0 G dF) :
    ∀ (fuel tt : Nat) (listed : Array Bool) (X : Nat → Prop) (R1 R2 : List Rec) (D : Dyn) (ι : Inj) (a : Act) (cs : List Frame) (w : World), listed.size = ops.size → (∀ i, X i ↔ listed[i]? = some true) → (leftIx ops listed).length ≤ fuel →
      Inv P S self rnd B b ops d0 dE R ι0 cs0 w0 size X R1 R2 D ι a cs w →
      Goes P B rnd b k (lone (b.atR a (.inRegion ops (Region.linearise.go .any ops fuel tt listed []) :: k)) cs w) ι0 d0.ctx d0.h size cs0 w0 G dF := by
  intro fuel
  induction fuel with
  | zero =>
    intro tt listed X R1 R2 D ι a cs w hs hX hleft I
    rw [go_zero]
    refine hfin X R1 R2 D ι a cs w I fun i hi => ?_
    rw [hX]
    have he : leftIx ops listed = [] := List.eq_nil_of_length_eq_zero (by omega)
    rw [Array.getElem?_eq_getElem (by omega)]
    cases hb : listed[i]'(by omega) with
    | true => rfl
    | false =>
      have hm : i ∈ leftIx ops listed := by
        unfold leftIx
        rw [List.mem_filter]
        refine ⟨by simpa using hi, ?_⟩
        rw [Array.getD_eq_getD_getElem?, Array.getElem?_eq_getElem (by omega)]; simp [hb]
      rw [he] at hm; cases hm
  | succ fuel ih =>
    intro tt listed X R1 R2 D ι a cs w hs hX hleft I
    rcases go_succ ops fuel tt listed with ⟨h1, h2⟩ | ⟨i, t', h1, h2⟩
    · rw [h2]
      exact hfin X R1 R2 D ι a cs w I fun i hi => (hX i).2 (ready_some hr hs h1 i hi)
    · rw [h2]
      obtain ⟨o, ho, hnl, hedge⟩ := ready_mem h1
      have hi : i < ops.size := (Array.getElem?_eq_some_iff.1 ho).1
      have hE : EdgesIn ops X i := fun o' ho' e he hb => by
        rw [ho] at ho'; cases ho'
        exact (hX _).2 (hedge e he hb)
      have hnX : ¬ X i := fun hx => by
        have := (hX i).1 hx
        rw [Array.getD_eq_getD_getElem?, this] at hnl
        cases hnl
      obtain ⟨no, hno, hidx⟩ := hL.all i hi
      rw [hl] at hno
      rcases List.mem_append.1 hno with hno | hno
      · obtain ⟨r, hrR, rfl⟩ := List.mem_map.1 hno
        subst hidx
        obtain ⟨R1', R2', D', ι', a', cs', w', s1, I'⟩ := inv_step (k := k) hC hr hL hl hQ hsz I hrR hE hnX (Region.linearise.go .any ops fuel t' (listed.setIfInBounds r.o.idx true) [])
        refine Goes.of_steps s1 (ih t' _ _ R1' R2' D' ι' a' cs' w' (by simpa using hs) (fun j => ?_) ?_ I')
        · by_cases hj : r.o.idx = j
          · subst hj
            rw [Array.getElem?_setIfInBounds_self_of_lt (by omega)]; simp
          · rw [Array.getElem?_setIfInBounds_ne hj, hX j]
            constructor
            · rintro (h | h)
              · exact h
              · exact absurd h.symm hj
            · exact .inl
        · have hlt : (leftIx ops (listed.setIfInBounds r.o.idx true)).length < (leftIx ops listed).length := by
            unfold leftIx
            refine filt_lt (fun j _ hj => ?_) r.o.idx (by simpa using hi) (by simp [hnl]) ?_
            · rw [Array.getD_eq_getD_getElem?] at hj ⊢
              by_cases he : r.o.idx = j
              · subst he; rw [Array.getElem?_setIfInBounds_self_of_lt (by omega)] at hj; simp at hj
              · rw [Array.getElem?_setIfInBounds_ne he] at hj; exact hj
            · rw [Array.getD_eq_getD_getElem?, Array.getElem?_setIfInBounds_self_of_lt (by omega)]; rfl
          omega
      · subst hidx
        exact hstop X R1 R2 D ι a cs w I no _ hno hE hnX

omit [Val] in
theorem runD_only : ∀ (l : List NOper) (hs : List (Nat × NH)) (rs : List (Nat × (NH → NR) × NV)) (d : Dyn) (o : Out) (d' : Dyn), runD P S self rnd l hs rs d = .mk o d' → o = .norm ∨ ∃ v, o = .pan v := by
  intro l
  induction l with
  | nil => intro hs rs d o d' h; cases h; exact .inl rfl
  | cons x l ih =>
    intro hs rs d o d' h
    obtain ⟨t, dfs, ctx, hp⟩ := d
    rw [runD_cons] at h
    cases hg : guardOn t x.guard with
    | none => rw [hg] at h; cases h
    | some on =>
      rw [hg] at h
      cases on with
      | false => exact ih _ _ _ _ _ h
      | true =>
        dsimp only at h
        cases hcl : clsOf x.op with
        | pure =>
          rw [hcl] at h
          dsimp only at h
          cases hop : opRun x.op t hp <;> rw [hop] at h <;> first | exact ih _ _ _ _ _ h | cases h
        | alloc =>
          rw [hcl] at h
          dsimp only at h
          cases ha : ahead x.pre hs with
          | false => rw [ha] at h; cases h
          | true => rw [ha] at h; simp only [cond_true] at h; cases hop : opRun x.op t hp <;> rw [hop] at h <;> first | exact ih _ _ _ _ _ h | cases h
        | read =>
          rw [hcl] at h
          dsimp only at h
          cases hop : opRun x.op t hp with
          | val v =>
            rw [hop] at h
            dsimp only at h
            cases hst : stood x.pre (opRun x.op t) v hs with
            | false => rw [hst] at h; cases h
            | true => rw [hst] at h; exact ih _ _ _ _ _ h
          | _ => rw [hop] at h; cases h
        | eff =>
          rw [hcl] at h
          dsimp only at h
          cases ha : ahead x.pre hs with
          | false => rw [ha] at h; cases h
          | true =>
            rw [ha] at h
            have h' : onPan (behind x.idx l) (opK x.dst (fun d => cond (stays x.pre d.h rs) (runD P S self rnd l ((x.idx, hp) :: hs) rs d) .fail) t dfs ctx (opOut P S self rnd dfs ctx hp (opRun x.op t hp))) = .mk o d' := h
            unfold onPan at h'
            split at h'
            · cases hb : behind x.idx l <;> rw [hb] at h' <;> cases h'
              exact .inr ⟨_, rfl⟩
            · cases hoo : opOut P S self rnd dfs ctx hp (opRun x.op t hp) with
              | fail => rw [hoo] at h'; cases h'
              | pan v h0 => rw [hoo] at h'; cases h'; exact .inr ⟨_, rfl⟩
              | next v dfs1 ctx1 h0 =>
                rw [hoo] at h'
                have h2 : cond (stays x.pre h0 rs) (runD P S self rnd l ((x.idx, hp) :: hs) rs ⟨tputP x.dst v t, dfs1, ctx1, h0⟩) .fail = .mk o d' := h'
                cases hsy : stays x.pre h0 rs with
                | false => rw [hsy] at h2; cases h2
                | true => rw [hsy] at h2; exact ih _ _ _ _ _ h2

theorem inv_init {a0 : Act} (s : Sd P ι0 B rnd d0.dfs d0.ctx d0.h b a0.defers cs0 w0) (hT : TR ι0 d0.t a0.tmps) (hc : Chain P S self rnd d0 R dE) (hs : a0.tmps.size = size) :
    ∃ R1 R2 D, Inv P S self rnd B b ops d0 dE R ι0 cs0 w0 size (fun _ => False) R1 R2 D ι0 a0 cs0 w0 := by
  obtain ⟨T1, T2, hT12, hT1, hT2⟩ := skip_split R
  have hc' := hc
  rw [hT12] at hc'
  obtain ⟨D, c1, c2⟩ := chain_split hc'
  have sk := skip_keep c1 hT1 s.rel.fresh
  refine ⟨T1, T2, D, fun i h => h.elim, fun i h => h.elim, hT12, c1, c2, fun r hr hE => absurd hE (hT1 r hr), fun r R2' he => ⟨hT2 r R2' he, fun h => h⟩, ?_, ?_, fun r hr r' hr' v h v' h' e e' _ _ he => sk.dist r hr r' hr' v h v' h' e e' he, sk.fr, fun r _ h => h.elim, fun t _ v hv => hT t v hv, hs⟩
  · rw [sk.dfs, sk.ctx]
    exact (Mv.refl s).more sk.next sk.get sk.fresh
  · intro r hr v h e _
    obtain ⟨q1, q2, q3⟩ := sk.al r hr v h e
    refine ⟨?_, q3, q2, q1⟩
    cases hi : ι0 r.h.next with
    | none => rfl
    | some p => have := s.rel.lt_next hi; omega

omit [Val] in
theorem rec_at {no : NOper} {o : Oper} (h : no.dst = o.dst.map D4.of) {t : Nat} (hd : o.dst = some t) : no.dst = some (D4.of t) := by rw [h, hd]; rfl

/-- a region that draws its order -/
theorem draw_sound (hC : CallsOK P S self) (hr : RegOK P fn ops) (hL : Lay P ops l) (hsz : fn.ntmps ≤ size) {o : Out} {d' : Dyn} (hrun : cRegD P S self l rnd d0 = .mk o d') {a0 : Act}
    (s : Sd P ι0 B rnd d0.dfs d0.ctx d0.h b a0.defers cs0 w0) (hT : TR ι0 d0.t a0.tmps) (hs : a0.tmps.size = size) (tt : Nat) :
    Goes P B rnd b k (lone (b.atR a0 (.inRegion ops (Region.linearise .any ops tt) :: k)) cs0 w0) ι0 d0.ctx d0.h size cs0 w0 o d' := by
  have hstart : ∀ {R : List Rec} {dE : Dyn} {rest0 : List NOper} {G : Out} {dF : Dyn}, l = R.map (·.o) ++ rest0 → R.Pairwise QQ → Chain P S self rnd d0 R dE →
      (∀ (X : Nat → Prop) (R1 R2 : List Rec) (D : Dyn) (ι : Inj) (a : Act) (cs : List Frame) (w : World), Inv P S self rnd B b ops d0 dE R ι0 cs0 w0 size X R1 R2 D ι a cs w → (∀ i, i < ops.size → X i) →
        Goes P B rnd b k (lone (b.atR a (.inRegion ops [] :: k)) cs w) ι0 d0.ctx d0.h size cs0 w0 G dF) →
      (∀ (X : Nat → Prop) (R1 R2 : List Rec) (D : Dyn) (ι : Inj) (a : Act) (cs : List Frame) (w : World), Inv P S self rnd B b ops d0 dE R ι0 cs0 w0 size X R1 R2 D ι a cs w → ∀ (no : NOper) (rest : List Nat), no ∈ rest0 → EdgesIn ops X no.idx → ¬ X no.idx →
        Goes P B rnd b k (lone (b.atR a (.inRegion ops (no.idx :: rest) :: k)) cs w) ι0 d0.ctx d0.h size cs0 w0 G dF) →
      Goes P B rnd b k (lone (b.atR a0 (.inRegion ops (Region.linearise .any ops tt) :: k)) cs0 w0) ι0 d0.ctx d0.h size cs0 w0 G dF := by
    intro R dE rest0 G dF hl hQ hc hfin hstop
    obtain ⟨R1, R2, D, I⟩ := inv_init (ops := ops) s hT hc hs
    refine draw_loop hC hr hL hl hQ hsz hfin hstop ops.size tt (Array.replicate ops.size false) (fun _ => False) R1 R2 D ι0 a0 cs0 w0 (by simp) (fun i => ?_) ?_ I
    · simp [Array.getElem?_replicate]
    · unfold leftIx
      exact Nat.le_trans (List.length_filter_le _ _) (by simp)
  unfold cRegD at hrun
  split at hrun
  · -- a panic
    rename_i v d1 hpan
    cases hrun
    obtain ⟨R, q, l2, h', q1, q2, q3, _, _, q6, q7, q8, q9, _, q11, q12⟩ := runD_pan l [] [] d0 d1 hpan
    have hRl : ∀ x ∈ R, x.o ∈ l := fun x hx => by rw [q1]; simp only [List.mem_append]; exact .inl (List.mem_map.2 ⟨x, hx, rfl⟩)
    have hql : q.o ∈ l := by rw [q1]; simp
    have hnq : ∀ x ∈ R, x.o.idx ≠ q.o.idx := by
      intro x hx e
      have hnd := hL.nodup
      rw [q1, List.map_append, List.nodup_append] at hnd
      exact hnd.2.2 x.o.idx (by rw [List.map_map]; exact List.mem_map.2 ⟨x, hx, rfl⟩) q.o.idx (by simp) e
    refine hstart q1 q3 q2 (fun X R1 R2 D ι a cs w I hall => ?_) (fun X R1 R2 D ι a cs w I no rest hno hE hnX => ?_)
    · obtain ⟨oq, m1, _⟩ := hL.mem q.o hql
      obtain ⟨x, hx, he⟩ := I.inR _ (hall q.o.idx (Array.getElem?_eq_some_iff.1 m1).1)
      exact absurd he (hnq x hx)
    · rcases List.mem_cons.1 hno with rfl | hno
      · obtain ⟨oq, ho, hdst, hcp, hG, hpre⟩ := hL.mem q.o hql
        have hcp' : compOp P oq.op = some q.o.op := hcp.resolve_right fun e => by rw [e] at q8; cases q8
        have hT : TR ι (cutT (opsOf q.o.op) q.t) a.tmps := known_cut hr hL hRl I q1 (fun _ h => h) q2 ho hE hnX hcp'
        have hgu := known_guard hr hL hRl I q1 (fun _ h => h) q2 ho hE hnX hG q6
        have hbX : ∀ j, q.o.pre.testBit j = true → X j := fun j hj => bef_X hr I.down ho hE (by rw [← hpre]; exact hj)
        have hR2 : R2 = [] := by
          cases hR2 : R2 with
          | nil => rfl
          | cons h2 R2' =>
            have hhd := I.head h2 R2' hR2
            have hm : h2 ∈ R := by rw [I.split, hR2]; simp
            exact absurd (hbX _ (q11 h2 hm hhd.1)) hhd.2
        have hc2 := I.c2
        rw [hR2] at hc2
        have hD := chain_nil hc2
        have hx := exec_sound (S := S) (self := self) (k := k) (rest := rest) hC ho hgu hcp' (OE_of hT) I.mv.sd
        rw [opRun_cong cutT_ρ D.h, ← hD] at hx
        have q8' : opOut P S self rnd q.st.dfs q.st.ctx q.st.h (opRun q.o.op q.t q.st.h) = .pan v h' := q8
        rw [q8'] at hx
        obtain ⟨v', ι1, w1, td, x1, x2, x3⟩ := hx
        have hmv := I.mv
        rw [← hD] at hmv
        rw [q9]
        refine ⟨ι1, a, cs, w1, ⟨td, v', x2, x1⟩, ?_, hmv.trans x3, I.size⟩
        intro t v0 hv0
        obtain ⟨g1, g2⟩ := delsT_get hv0
        have g1' : NT.get (D4.of t) q.st.t = some v0 := g1
        rw [chain_none q2 (fun x hx => g2 x.o (hRl x hx))] at g1'
        obtain ⟨u, e1, e2⟩ := I.ti t (fun x hx _ => g2 x.o (hRl x hx)) v0 g1'
        exact ⟨u, e1, e2.mono x3.gr.le⟩
      · exfalso
        have hnol : no ∈ l := by rw [q1]; simp [hno]
        obtain ⟨on, ho, _, _, _, hpre⟩ := hL.mem no hnol
        have hXq : X q.o.idx := bef_X hr I.down ho hE (by rw [← hpre]; exact q12 no hno)
        obtain ⟨x, hx, he⟩ := I.inR _ hXq
        exact hnq x hx he
  · rename_i hnp
    cases o with
    | norm =>
      obtain ⟨R, h1, h2, h3, _, _⟩ := runD_norm l [] [] d0 d' hrun
      have hRl : ∀ x ∈ R, x.o ∈ l := fun x hx => by rw [← h1]; exact List.mem_map.2 ⟨x, hx, rfl⟩
      refine hstart (rest0 := []) (by rw [List.append_nil]; exact h1.symm) h3 h2 (fun X R1 R2 D ι a cs w I hall => ?_) (fun X R1 R2 D ι a cs w I no rest hno => by cases hno)
      have hRX : ∀ x ∈ R, X x.o.idx := fun x hx => by
        obtain ⟨ox, m1, _⟩ := hL.mem x.o (hRl x hx)
        exact hall _ (Array.getElem?_eq_some_iff.1 m1).1
      have hR2 : R2 = [] := by
        cases hR2 : R2 with
        | nil => rfl
        | cons h2 R2' => exact absurd (hRX h2 (by rw [I.split, hR2]; simp)) (I.head h2 R2' hR2).2
      have hc2 := I.c2
      rw [hR2] at hc2
      have hD := chain_nil hc2
      subst hD
      refine ⟨ι, a, cs, w, .one stepR_region_end, ?_, I.mv, I.size⟩
      intro t v hv
      by_cases hw : ∃ r ∈ R, r.o.dst = some (D4.of t)
      · obtain ⟨r, hrR, hrd⟩ := hw
        obtain ⟨A, C, hAC⟩ := List.append_of_mem hrR
        have honly : ∀ x ∈ C, x.o.dst ≠ some (D4.of t) := by
          intro x hx hd
          have hxR : x ∈ R := by rw [hAC]; simp [hx]
          obtain ⟨o1, m1, m2, _⟩ := hL.mem r.o (hRl r hrR)
          obtain ⟨o2, n1, n2, _⟩ := hL.mem x.o (hRl x hxR)
          have f : ∀ {q : Option Nat}, q.map D4.of = some (D4.of t) → q = some t := by
            intro q hq
            cases q with
            | none => cases hq
            | some u => injection hq with hq; rw [D4.of_inj hq]
          have he := hL.once r.o.idx x.o.idx o1 o2 t m1 n1 (f (by rw [← m2]; exact hrd)) (f (by rw [← n2]; exact hd))
          have hl' : l = A.map (·.o) ++ r.o :: C.map (·.o) := by rw [← h1, hAC]; simp
          exact idx_apart hL hl' (y := x.o) (List.mem_map.2 ⟨x, hx, rfl⟩) (z := r.o) (by simp) he
        have hch := h2
        rw [hAC] at hch
        rw [chain_some hch hrd honly] at hv
        cases hv
        exact I.tw r hrR (hRX r hrR) t hrd
      · rw [chain_none h2 (fun x hx hd => hw ⟨x, hx, hd⟩)] at hv
        exact I.ti t (fun x hx _ hd => hw ⟨x, hx, hd⟩) v hv
    | pan v => exact absurd hrun (hnp v d')
    | ret => rcases runD_only l [] [] d0 _ d' hrun with h | ⟨v, h⟩ <;> cases h
    | exit id => rcases runD_only l [] [] d0 _ d' hrun with h | ⟨v, h⟩ <;> cases h
end
end Nm

namespace Nm
open Go
variable [Val]

/-! # code -/
section
variable {P : Program} {S : Nat → List NV → Option NV} {rnd : Option D4} {B : Nat} {b : Frame} {k : List Item} {size : Nat}

theorem Goes.then {x : Item} {m : Machine} {ι : Inj} {ctx : Option NV} {h : NH} {cs : List Frame} {w : World} {o : Out} {d1 d' : Dyn} (g : Goes P B rnd b (x :: k) m ι ctx h size cs w .norm d1)
    (f : ∀ (ι' : Inj) (a' : Act) (cs' : List Frame) (w' : World), TR ι' d1.t a'.tmps → Sd P ι' B rnd d1.dfs d1.ctx d1.h b a'.defers cs' w' → a'.tmps.size = size →
      Goes P B rnd b k (lone (b.atR a' (x :: k)) cs' w') ι' d1.ctx d1.h size cs' w' o d') : Goes P B rnd b k m ι ctx h size cs w o d' := by
  obtain ⟨ι1, a1, cs1, w1, q1, q2, q3, q4⟩ := g
  obtain ⟨ι2, a2, cs2, w2, r1, r2, r3, r4⟩ := f ι1 a1 cs1 w1 q2 q3.sd q4
  exact ⟨ι2, a2, cs2, w2, r1.of_steps q1, r2, q3.trans r3, r4⟩
theorem Goes.out {x : Item} {m : Machine} {ι : Inj} {ctx : Option NV} {h : NH} {cs : List Frame} {w : World} {o : Out} {d' : Dyn} (hx : ∀ id, o = .exit id → exitTo id (x :: k) = exitTo id k) (ho : o ≠ .norm) (g : Goes P B rnd b (x :: k) m ι ctx h size cs w o d') :
    Goes P B rnd b k m ι ctx h size cs w o d' := by
  obtain ⟨ι1, a1, cs1, w1, q1, q2⟩ := g
  refine ⟨ι1, a1, cs1, w1, ?_, q2⟩
  cases o with
  | norm => exact absurd rfl ho
  | ret => exact q1
  | exit id => obtain ⟨k0, h1, h2⟩ := q1; exact ⟨k0, h1.trans (hx id rfl), h2⟩
  | pan v => exact q1
theorem Goes.undrew {m : Machine} {ι : Inj} {ctx : Option NV} {h : NH} {cs : List Frame} {w : World} {o : Out} {d' : Dyn} (g : Goes P B rnd b k m ι ctx h size cs w.drew o d') : Goes P B rnd b k m ι ctx h size cs w o d' := by
  obtain ⟨ι1, a1, cs1, w1, q1, q2, q3, q4⟩ := g
  have gr := q3.gr
  exact ⟨ι1, a1, cs1, w1, q1, q2, ⟨q3.sd, ⟨gr.le, gr.next, gr.new, gr.blk, gr.keep, gr.size, gr.os, gr.tape, gr.output, gr.frame⟩, q3.ca⟩, q4⟩

/-- an item that runs a piece of code -/
def Starts (st : Item) (c : Code) : Prop := st = .code c ∨ ∃ x, c = .loop x ∧ st = .inLoop x

def CodeOK (P : Program) (S : Nat → List NV → Option NV) (n : Nat) : Prop :=
  ∀ (c : Code) (nc : NC) (fn : Func) (bl la : List Nat), compC P c = some nc → CheckCode.code P fn bl la c = .ok () → ∀ (rnd : Option D4) (d : Dyn) (o : Out) (d' : Dyn), ev P S n rnd nc d = .mk o d' →
  ∀ (st : Item), Starts st c → ∀ (B : Nat) (b : Frame) (k : List Item) (ι : Inj) (a : Act) (cs : List Frame) (w : World), P.funcs[b.fn]? = some fn → TR ι d.t a.tmps → Sd P ι B rnd d.dfs d.ctx d.h b a.defers cs w → fn.ntmps ≤ a.tmps.size →
    Goes P B rnd b k (lone (b.atR a (st :: k)) cs w) ι d.ctx d.h a.tmps.size cs w o d'

omit [Val] in
theorem natsN_eq : ∀ {l : List Nat} {r : List D4}, natsN l = some r → r = l.map D4.of := by
  intro l
  induction l with
  | nil => intro r h; cases h; rfl
  | cons x l ih =>
    intro r h
    have h' : (Option.rec none (fun t => D4.ofNat x fun n => some (n :: t)) (natsN l) : Option (List D4)) = some r := h
    cases hl : natsN l with
    | none => rw [hl] at h'; cases h'
    | some t =>
      rw [hl] at h'
      have h2 : (D4.ofNat x fun n => some (n :: t)) = some r := h'
      rw [D4.ofNat_eq] at h2
      cases h2
      rw [ih hl]; rfl

omit [Val] in
theorem stepGR_range {a : Act} {cs : List Frame} {w w₁ : World} {g : Operand} {ps : Array Tmp} {assign body : Code} {l : Nat} {mark : List Deferred}
    (he : (Instr.enterLoop b.fn a.tmps ps assign body b.roundOf).run P w = .ok (l, mark) w₁) :
    (stepG P true { frame := b.atR a (.code (.rangeFunc g ps assign body) :: k), callers := cs, status := .running, dying := none } w).bare =
      (stepG.apply P true (b.atR { a with defers := mark ++ a.defers } (.inRangeFunc l :: k)) cs none (do let d ← resolve a.eval (rangeCall g l) 0; invoke d.target d.args) w₁).bare := by
  have hev := Frame.eval_atR b { a with defers := mark ++ a.defers } (.inRangeFunc l :: k)
  simp only [Frame.atR] at hev
  simp [stepG, stepG.exec, Frame.atR, Sem.runT_eq, he, GStep.bare_after, hev]
  rfl

/-- a range over a function, its record laid -/
theorem rangeGo_sound {self : Option D4 → NC → Dyn → Res} (hC : CallsOK P S self) {fn : Func} (hfn : P.funcs[b.fn]? = some fn) {bl la : List Nat} {assign body : Code} {na nb : NC} (ca : compC P assign = some na) (cb : compC P body = some nb)
    (ka : CheckCode.code P fn [] [] assign = .ok ()) (kb : CheckCode.code P fn bl la body = .ok ()) {ps : Array Tmp} {nps : List D4} (hps : nps = ps.toList.map D4.of) (hpl : ∀ t ∈ ps.toList, t < fn.ntmps)
    {g : Operand} {f : Nat} {cap : List NV} {t : Tm} {dfs : List Dfr} {ctx : Option NV} {h : NH} {o : Out} {d' : Dyn} (hrun : rangeGo P S self f cap nps na nb t dfs ctx h = .mk o d')
    {ι : Inj} {a : Act} {cs : List Frame} {w0 w : World} {mark : List Deferred} {r : Nat} (hT : TR ι t a.tmps) (s : Sd P ι B rnd dfs ctx h b (mark ++ a.defers) cs w) (hsz : fn.ntmps ≤ a.tmps.size)
    {cap' : List Value} (hcap : VRL ι cap cap') (hg : a.eval g = .func (.func f) #[] cap'.toArray)
    (he : (Instr.enterLoop b.fn a.tmps ps assign body b.roundOf).run P w0 = .ok (w.heap.size, mark) (w.alloc (.loop { state := .ready, pending := none, fn := b.fn, tmps := a.tmps, params := ps, assign, body, defers := r }))) :
    Goes P B rnd b k (lone (b.atR a (.code (.rangeFunc g ps assign body) :: k)) cs w0) ι ctx h a.tmps.size cs w o d' := by
  obtain ⟨L, hL⟩ : ∃ L : Loop, L = { state := .ready, pending := none, fn := b.fn, tmps := a.tmps, params := ps, assign, body, defers := r } := ⟨_, rfl⟩
  rw [← hL] at he
  have hOR : ∀ ι' : Inj, ι.le ι' → OR P ι' (w.alloc (.loop L)) ⟨w.heap.size, 0, 0⟩ (.loop 0 .none t nps na nb) := fun ι' hle => by
    subst hL
    exact ⟨_, alloc_new w _, rfl, rfl, hT.mono hle, hps, ca, cb, ⟨fn, bl, la, bl, hfn, hsz, ka, kb, rfl⟩, fun q hq => Nat.lt_of_lt_of_le (hpl q hq) hsz⟩
  obtain ⟨ι1, i1, i2, i3, i4⟩ := s.rel.alloc s.base (.loop 0 .none t nps na nb) (.loop L) ⟨w.heap.size, 0, 0⟩ rfl hOR
  generalize hw1 : w.alloc (.loop L) = w1 at *
  generalize hh1 : h.add (.loop 0 .none t nps na nb) = h1 at *
  have hB1 : B ≤ w1.heap.size := Nat.le_trans s.base i4.size
  have hrun' : (match callG P S self f (.yld h.next :: cap) h1 with
    | .val _ _ h3 => rangeEnd h.next t dfs ctx h3
    | .pan v _ h3 => .mk (.pan v) ⟨t, dfs, ctx, h3⟩
    | .fail => .fail) = Res.mk o d' := by
    rw [← hrun, ← hh1]
    exact (NH.new_eq h (.loop 0 .none t nps na nb) fun l h => match callG P S self f (.yld l :: cap) h with
      | .val _ _ h => rangeEnd l t dfs ctx h
      | .pan v _ h => .mk (.pan v) ⟨t, dfs, ctx, h⟩
      | .fail => .fail).symm
  have hcall := hC.call ι1 B h1 w1 f (.yld h.next :: cap) (.func (.yield w.heap.size) #[] #[] :: cap') i3 hB1 (.cons _ _ _ _ (.yld h.next _ i1) (hcap.mono i2))
  have hs : (do let d ← resolve a.eval (rangeCall g w.heap.size) 0; invoke d.target d.args : Sem Next).run P w1 = (callFunc f (Value.func (.yield w.heap.size) #[] #[] :: cap').toArray).run P w1 := by
    simp only [resolve, hg, Deferred.ofValue, invoke, Sem.run_bind, Sem.run_pure, Result.andThen]
    congr 2
    simp [Act.eval]
  have hstep := stepGR_range (k := k) (cs := cs) (g := g) he
  have hfin : ∀ v, (b.atR { a with defers := mark ++ a.defers } (.inRangeFunc w.heap.size :: k)).finish v = b.atR { a with defers := mark ++ a.defers } (.endRangeFunc w.heap.size :: k) := finish_atR_inRangeFunc w.heap.size
  cases hcr : callG P S self f (.yld h.next :: cap) h1 with
  | fail => rw [hcr] at hrun'; cases hrun'
  | val v x h3 =>
    rw [hcr] at hcall hrun'
    obtain ⟨ι3, v', w3, c1, c2, c3, c4, c5⟩ := hcall (b.atR { a with defers := mark ++ a.defers } (.inRangeFunc w.heap.size :: k)) cs
    have hto : Steps P (lone (b.atR a (.code (.rangeFunc g ps assign body) :: k)) cs w0) (lone (b.atR { a with defers := mark ++ a.defers } (.endRangeFunc w.heap.size :: k)) cs w3) := by
      rcases c5 with c5 | ⟨w2, ⟨f', ar, c5, c6⟩ | ⟨l, f', tm, x, y, c5, c6⟩⟩
      · refine .one (step_lone_go ?_)
        rw [hstep, ← hfin v']; simp [stepG.apply, hs, c5]
      · refine .head (step_lone_go ?_) (by rw [← hfin v']; exact c6)
        rw [hstep]; simp [stepG.apply, hs, c5, Frame.atR]
      · refine .head (step_lone_go ?_) (by rw [← hfin v']; exact c6)
        rw [hstep]; simp [stepG.apply, hs, c5, Frame.atR]
    have hp3 : ι3 h.next = some ⟨w.heap.size, 0, 0⟩ := c4.le _ _ i1
    obtain ⟨ob, ho1, ho2⟩ := c2.obj _ _ hp3
    have hre : rangeEnd h.next t dfs ctx h3 = .mk o d' := hrun'
    unfold rangeEnd at hre
    rw [ho1] at hre
    cases ob with
    | loop st pd tm ps2 a2 b2 =>
      dsimp only at hre
      cases hst : Nat.beq st 1 with
      | true => rw [hst] at hre; cases hre
      | false =>
        rw [hst, NH.set_eq] at hre
        simp only [cond_false] at hre
        have hst1 : st ≠ 1 := Nat.ne_of_beq_eq_false hst
        obtain ⟨L3, l1, l2, l3, l4, l5, l6, l7, l8, l9⟩ := ho2
        have hbusy : L3.state ≠ .busy := by
          intro e
          rw [e] at l2
          match st, l2, hst1 with
          | 0, l2, _ => cases l2
          | 1, _, h => exact h rfl
          | 2, l2, _ => cases l2
          | 3, l2, _ => cases l2
        have hend := run_endLoop (P := P) l1 hbusy
        have hsz3 : w.heap.size < w3.heap.size := c2.lt _ _ hp3
        obtain ⟨t1, t2⟩ := c2.turn (w' := w3.putObj w.heap.size (.loop { L3 with state := .exhausted })) hp3 (by rw [ho1]; simp) (.loop 3 pd tm ps2 a2 b2)
          ⟨_, World.putObj_heap_same hsz3, rfl, l3, l4, l5, l6, l7, l8, l9⟩ (by simp) rfl rfl rfl (fun q hq => World.putObj_heap_other hq)
        have hle : ι.le ι3 := i2.trans c4.le
        have hend' := stepR_endRangeFunc (P := P) (b := b) (a := { a with defers := mark ++ a.defers }) (k := k) (cs := cs) hend
        have hsteps := hto.trans (.one hend')
        have hmv : Mv P B rnd b ι ctx h cs w ι3 dfs ctx (h3.put h.next (.loop 3 pd tm ps2 a2 b2)) (mark ++ a.defers) cs (w3.putObj w.heap.size (.loop { L3 with state := .exhausted })) :=
          ⟨⟨s.df.mono hle, s.cx.mono hle, t1, by simpa using c3, s.rn.mono hle⟩, (i4.trans c4).trans t2, .refl _ _⟩
        generalize w3.putObj w.heap.size (.loop { L3 with state := .exhausted }) = w4 at hsteps hmv
        cases pd with
        | none =>
          cases hre
          rw [show L3.pending = none from l3] at hsteps
          exact ⟨ι3, { a with defers := mark ++ a.defers }, cs, _, hsteps, hT.mono hle, hmv, rfl⟩
        | ret =>
          cases hre
          rw [show L3.pending = some .ret from l3] at hsteps
          exact ⟨ι3, { a with defers := mark ++ a.defers }, cs, _, ⟨k, hsteps⟩, hT.mono hle, hmv, rfl⟩
        | exit id =>
          cases hre
          rw [show L3.pending = some (.exit id) from l3] at hsteps
          exact ⟨ι3, { a with defers := mark ++ a.defers }, cs, _, ⟨k, rfl, hsteps⟩, hT.mono hle, hmv, rfl⟩
    | _ => cases hre
  | pan v x h3 =>
    rw [hcr] at hcall hrun'
    cases hrun'
    obtain ⟨ι3, v', w3, c1, c2, c3, c4, w2, c5⟩ := hcall (b.atR { a with defers := mark ++ a.defers } (.inRangeFunc w.heap.size :: k)) cs
    have hle : ι.le ι3 := i2.trans c4.le
    refine ⟨ι3, { a with defers := mark ++ a.defers }, cs, w3, ⟨.inRangeFunc w.heap.size :: k, v', c1, ?_⟩, hT.mono hle, ⟨⟨s.df.mono hle, s.cx.mono hle, c2, c3, s.rn.mono hle⟩, i4.trans c4, .refl _ _⟩, rfl⟩
    rw [← Frame.raise_atR b { a with defers := mark ++ a.defers } (.inRangeFunc w.heap.size :: k)]
    rcases c5 with ⟨f', ar, c5, c6⟩ | ⟨l, f', tm, x, y, c5, c6⟩
    · refine .head (step_lone_go ?_) c6
      rw [hstep]; simp [stepG.apply, hs, c5, Frame.atR]
    · refine .head (step_lone_go ?_) c6
      rw [hstep]; simp [stepG.apply, hs, c5, Frame.atR]
end
end Nm

namespace Nm
open Go
variable [Val]

section
variable {P : Program} {S : Nat → List NV → Option NV}

theorem code_step (hM : P.follows .mixedOrders = true) {n : Nat} (hO : CodeOK P S n) (hC : CallsOK P S (ev P S n)) : CodeOK P S (n + 1) := by
  intro c nc fn bl la hc hk rnd d o d' hrun st hst B b k ι a cs w hfn hT s hsz
  have self : ∀ {x : Code} {nx : NC} {bl la : List Nat}, compC P x = some nx → CheckCode.code P fn bl la x = .ok () → ∀ {d1 : Dyn} {o1 : Out} {d2 : Dyn}, ev P S n rnd nx d1 = .mk o1 d2 → ∀ {st : Item}, Starts st x →
      ∀ {k : List Item} {ι : Inj} {a : Act} {cs : List Frame} {w : World}, TR ι d1.t a.tmps → Sd P ι B rnd d1.dfs d1.ctx d1.h b a.defers cs w → fn.ntmps ≤ a.tmps.size →
      Goes P B rnd b k (lone (b.atR a (st :: k)) cs w) ι d1.ctx d1.h a.tmps.size cs w o1 d2 :=
    fun hx hkx _ _ _ hr _ hs _ _ _ _ _ hT s hsz => hO _ _ fn _ _ hx hkx rnd _ _ _ hr _ hs B b _ _ _ _ _ hfn hT s hsz
  have hcode : (∀ x, c ≠ .loop x) → st = .code c := fun h => by
    rcases hst with h1 | ⟨x, h1, _⟩
    · exact h1
    · exact absurd h1 (h x)
  cases c with
  | skip =>
    rw [hcode (by simp)]
    cases hc
    have hrun' : (Res.mk .norm d) = .mk o d' := hrun
    cases hrun'
    exact ⟨ι, a, cs, w, .one stepR_skip, hT, Mv.refl s, rfl⟩
  | region id ops draw =>
    rw [hcode (by simp)]
    cases draw with
    | false =>
      have hc' : (match compOpers P ops ops.toList 0 [] with | some l => some (NC.reg l) | none => none) = some nc := hc
      split at hc'
      · rename_i l hl
        cases hc'
        have hrun' : runOps P S (ev P S n) rnd l d = .mk o d' := hrun
        obtain ⟨t, dfs, ctx, h⟩ := d
        refine Goes.of_steps (.one stepR_region) ?_
        have := ops_sound (k := k) hC (code_region hk) ops.toList 0 l [] (fun j => by simp) hl t dfs ctx h o d' hrun' ι a cs w hT s hsz
        rw [List.range_eq_range']
        simpa using this
      · cases hc'
    | true =>
      obtain ⟨l, rfl, hL⟩ := lay_of hc
      have hrun' : cRegD P S (ev P S n) l rnd d = .mk o d' := hrun
      have hs' : Sd P ι B rnd d.dfs d.ctx d.h b a.defers cs w.drew := ⟨s.df, s.cx, s.rel.drew, s.base, s.rn⟩
      refine Goes.undrew (Goes.of_steps (.one stepR_region_draw) ?_)
      have hsch : Region.schedule (P.follows .mixedOrders) ops (w.tape w.drawn (.order b.fn id)) = Region.linearise .any ops (w.tape w.drawn (.order b.fn id)) := by unfold Region.schedule; rw [hM]; rfl
      rw [hsch]
      exact draw_sound hC (code_region hk) hL hsz hrun' hs' hT rfl _
  | seq x y =>
    rw [hcode (by simp)]
    have hc' : (match compC P x with | some a => (match compC P y with | some b => some (NC.seq a b) | none => none) | none => none) = some nc := hc
    split at hc'
    · rename_i nx hx
      split at hc'
      · rename_i ny hy
        cases hc'
        obtain ⟨k1, k2⟩ := code_seq hk
        have hrun' : (match ev P S n rnd nx d with
          | .mk o d => (match o with
            | .norm => ev P S n rnd ny d
            | o => .mk o d)
          | .fail => .fail) = Res.mk o d' := ev_seq.symm.trans hrun
        refine Goes.of_steps (.one stepR_seq) ?_
        cases he : ev P S n rnd nx d with
        | fail => rw [he] at hrun'; cases hrun'
        | mk o1 d1 =>
          rw [he] at hrun'
          have g1 := self hx k1 he (.inl rfl) (k := .code y :: k) hT s hsz
          cases o1 with
          | norm =>
            exact g1.then fun ι' a' cs' w' hT' s' hz => by
              have := self hy k2 hrun' (.inl rfl) (k := k) hT' s' (by rw [hz]; exact hsz)
              rw [hz] at this; exact this
          | ret => cases hrun'; exact g1.out (by simp) (by simp)
          | exit id => cases hrun'; exact g1.out (fun _ _ => rfl) (by simp)
          | pan v => cases hrun'; exact g1.out (by simp) (by simp)
      · cases hc'
    · cases hc'
  | cond e x y =>
    rw [hcode (by simp)]
    have hc' : (match compOpd e with
      | some c => (match compC P x with | some a => (match compC P y with | some b => some (NC.cond c a b) | none => none) | none => none)
      | none => none) = some nc := hc
    split at hc'
    · rename_i ne hne
      split at hc'
      · rename_i nx hx
        split at hc'
        · rename_i ny hy
          cases hc'
          obtain ⟨k1, k2⟩ := code_cond hk
          have hrun' : (match ρ d.t ne with
            | some (.bool c) => Bool.rec (ev P S n rnd ny d) (ev P S n rnd nx d) c
            | _ => .fail) = Res.mk o d' := ev_cond.symm.trans hrun
          cases hv : ρ d.t ne with
          | none => rw [hv] at hrun'; cases hrun'
          | some v =>
            rw [hv] at hrun'
            cases v with
            | bool q =>
              have hq := OE_of hT e ne hne _ hv
              have hev : a.eval e = .bool q := by generalize a.eval e = z at hq; cases hq; rfl
              refine Goes.of_steps (.one (stepR_cond hev)) ?_
              cases q with
              | true => exact self hx k1 hrun' (.inl rfl) hT s hsz
              | false => exact self hy k2 hrun' (.inl rfl) hT s hsz
            | _ => cases hrun'
        · cases hc'
      · cases hc'
    · cases hc'
  | block id x =>
    rw [hcode (by simp)]
    have hc' : (match compC P x with | some a => forceN id fun id => some (NC.block id a) | none => none) = some nc := hc
    split at hc'
    · rename_i nx hx
      rw [forceN_eq] at hc'
      cases hc'
      have k1 := code_block hk
      have hrun' : (match ev P S n rnd nx d with
        | .mk o d => (match o with
          | .exit i => cond (Nat.beq i id) (.mk .norm d) (.mk (.exit i) d)
          | o => .mk o d)
        | .fail => .fail) = Res.mk o d' := ev_block.symm.trans hrun
      refine Goes.of_steps (.one stepR_block) ?_
      cases he : ev P S n rnd nx d with
      | fail => rw [he] at hrun'; cases hrun'
      | mk o1 d1 =>
        rw [he] at hrun'
        have g1 := self hx k1 he (.inl rfl) (k := .inBlock id :: k) hT s hsz
        cases o1 with
        | norm =>
          cases hrun'
          obtain ⟨ι1, a1, cs1, w1, q1, q2⟩ := g1
          exact ⟨ι1, a1, cs1, w1, Steps.trans q1 (.one stepR_inBlock), q2⟩
        | ret => cases hrun'; exact g1.out (by simp) (by simp)
        | exit i =>
          dsimp only at hrun'
          cases hb : Nat.beq i id with
          | true =>
            rw [hb] at hrun'
            cases hrun'
            have := Nat.eq_of_beq_eq_true hb
            subst this
            obtain ⟨ι1, a1, cs1, w1, ⟨k0, q0, q1⟩, q2⟩ := g1
            refine ⟨ι1, a1, cs1, w1, Steps.trans q1 (.one (stepR_exit ?_)), q2⟩
            rw [q0]; simp [exitTo]
          | false =>
            rw [hb] at hrun'
            cases hrun'
            have hne := Nat.ne_of_beq_eq_false hb
            refine g1.out (fun i' hi' => ?_) (by simp)
            cases hi'
            have : (id == i) = false := by simpa using fun e => hne e.symm
            simp [exitTo, this]
        | pan v => cases hrun'; exact g1.out (by simp) (by simp)
    · cases hc'
  | loop x =>
    have hc' : (match compC P x with | some a => some (NC.loop a) | none => none) = some nc := hc
    split at hc'
    · rename_i nx hx
      cases hc'
      have k1 := code_loop hk
      have hrun' : (match ev P S n rnd nx d with
        | .mk o d => (match o with
          | .norm => ev P S n rnd (.loop nx) d
          | o => .mk o d)
        | .fail => .fail) = Res.mk o d' := ev_loop.symm.trans hrun
      have h1 : Steps P (lone (b.atR a (st :: k)) cs w) (lone (b.atR a (.code x :: .inLoop x :: k)) cs w) := by
        rcases hst with rfl | ⟨y, hy, rfl⟩
        · exact .one stepR_loop
        · cases hy; exact .one stepR_inLoop
      refine Goes.of_steps h1 ?_
      cases he : ev P S n rnd nx d with
      | fail => rw [he] at hrun'; cases hrun'
      | mk o1 d1 =>
        rw [he] at hrun'
        have g1 := self hx k1 he (.inl rfl) (k := .inLoop x :: k) hT s hsz
        cases o1 with
        | norm =>
          exact g1.then fun ι' a' cs' w' hT' s' hz => by
            have := self hc hk hrun' (.inr ⟨x, rfl, rfl⟩) (k := k) hT' s' (by rw [hz]; exact hsz)
            rw [hz] at this; exact this
        | ret => cases hrun'; exact g1.out (by simp) (by simp)
        | exit id => cases hrun'; exact g1.out (fun _ _ => rfl) (by simp)
        | pan v => cases hrun'; exact g1.out (by simp) (by simp)
    · cases hc'
  | exit id =>
    rw [hcode (by simp)]
    have hc' : (forceN id fun id => some (NC.exit id)) = some nc := hc
    rw [forceN_eq] at hc'
    cases hc'
    have hrun' : Res.mk (.exit id) d = .mk o d' := hrun
    cases hrun'
    exact ⟨ι, a, cs, w, ⟨k, rfl, Steps.refl P _⟩, hT, Mv.refl s, rfl⟩
  | ret =>
    rw [hcode (by simp)]
    cases hc
    have hrun' : Res.mk .ret d = .mk o d' := hrun
    cases hrun'
    exact ⟨ι, a, cs, w, ⟨k, Steps.refl P _⟩, hT, Mv.refl s, rfl⟩
  | rangeFunc g ps x y =>
    rw [hcode (by simp)]
    have hc' : (match compOpd g, natsN ps.toList with
      | some f, some ps => (match compC P x with | some a => (match compC P y with | some b => some (NC.rangeFunc f ps a b) | none => none) | none => none)
      | _, _ => none) = some nc := hc
    split at hc'
    · rename_i nf nps hf hps
      split at hc'
      · rename_i nx hx
        split at hc'
        · rename_i ny hy
          cases hc'
          obtain ⟨k1, k2, k3⟩ := code_range hk
          have hnps := natsN_eq hps
          obtain ⟨t, dfs, ctx, h⟩ := d
          have hrun' : (match ρ t nf with
            | some (.fn f cap) => (match (generalizing := false) rnd with
              | none => h.new (.defd true) fun m h => rangeGo P S (ev P S n) f cap nps nx ny t (.mark m :: dfs) ctx h
              | some l => (match h.get l with
                | some (.loop ..) => rangeGo P S (ev P S n) f cap nps nx ny t dfs ctx h
                | _ => .fail))
            | _ => .fail) = Res.mk o d' := hrun
          cases hv : ρ t nf with
          | none => rw [hv] at hrun'; cases hrun'
          | some v =>
            rw [hv] at hrun'
            cases v with
            | fn f cap =>
              have hq := OE_of hT g nf hf _ hv
              obtain ⟨cap', hcap, hg⟩ : ∃ cap', VRL ι cap cap' ∧ a.eval g = .func (.func f) #[] cap'.toArray := by
                generalize a.eval g = z at hq
                cases hq with
                | fn _ _ cap' h => exact ⟨cap', h, rfl⟩
              cases rnd with
              | none =>
                have hro : b.roundOf = none := s.rn
                have hrun2 : (h.new (.defd true) fun m h => rangeGo P S (ev P S n) f cap nps nx ny t (.mark m :: dfs) ctx h) = Res.mk o d' := hrun'
                rw [NH.new_eq] at hrun2
                obtain ⟨ι1, i1, i2, i3, i4⟩ := s.rel.alloc s.base (.defd true) (.deferred (some [])) ⟨w.heap.size, 0, 0⟩ rfl (fun ι' _ => alloc_new w _)
                have henter := run_enterLoop_outer (P := P) (w := w) b.fn a.tmps ps x y
                have hs1 : Sd P ι1 B none (.mark h.next :: dfs) ctx (h.add (.defd true)) b ([{ target := .collected w.heap.size, args := #[] }] ++ a.defers) cs (w.alloc (.deferred (some []))) :=
                  ⟨⟨⟨_, i1, rfl⟩, s.df.mono i2⟩, s.cx.mono i2, i3, Nat.le_trans s.base i4.size, s.rn⟩
                have g := rangeGo_sound (k := k) hC hfn hx hy k2 k3 hnps k1 hrun2 (w0 := w) (mark := [{ target := .collected w.heap.size, args := #[] }]) (r := w.heap.size) (hT.mono i2) hs1 hsz (hcap.mono i2) hg (by rw [hro, henter]; simp)
                obtain ⟨ι2, a2, cs2, w2, q1, q2, q3, q4⟩ := g
                exact ⟨ι2, a2, cs2, w2, q1, q2, ⟨q3.sd, i4.trans q3.gr, q3.ca⟩, q4⟩
              | some l0 =>
                obtain ⟨p0, hp0, hro⟩ := s.rn
                have hrun2 : (match h.get l0 with
                  | some (.loop ..) => rangeGo P S (ev P S n) f cap nps nx ny t dfs ctx h
                  | _ => .fail) = Res.mk o d' := hrun'
                obtain ⟨ob, ho1, ho2⟩ := s.rel.obj _ _ hp0
                rw [ho1] at hrun2
                cases ob with
                | loop st pd tm ps2 a2 b2 =>
                  obtain ⟨L3, l1, _⟩ := ho2
                  have henter : (Instr.enterLoop b.fn a.tmps ps x y (some p0.b)).run P w = .ok (w.heap.size, []) (w.alloc (.loop { state := .ready, pending := none, fn := b.fn, tmps := a.tmps, params := ps, assign := x, body := y, defers := L3.defers })) := by
                    unfold Instr.enterLoop
                    simp only [Sem.run_bind, run_getLoop l1, run_newObj_alloc, Result.andThen, Sem.run_pure]
                  exact rangeGo_sound (k := k) hC hfn hx hy k2 k3 hnps k1 hrun2 (w0 := w) (mark := []) (r := L3.defers) hT s hsz hcap hg (by rw [hro, henter])
                | _ => cases hrun2
            | _ => cases hrun'
        · cases hc'
      · cases hc'
    · cases hc'
  | _ => cases hc
end
end Nm

namespace Nm
open Go
variable [Val]

/-! # calls -/
/-- the mode of a frame that is on its way out -/
def MdR (ι : Inj) : Option NV → FrameMode → Prop
  | none, m => m = .returning
  | some v, m => ∃ v', m = .panicking [{ v := v', recovered := false }] ∧ VR ι v v'
theorem MdR.mono {ι ι' : Inj} (hι : ι.le ι') {p : Option NV} {m : FrameMode} (h : MdR ι p m) : MdR ι' p m := by
  cases p with
  | none => exact h
  | some v => obtain ⟨v', h1, h2⟩ := h; exact ⟨v', h1, h2.mono hι⟩
theorem MdR.ne_run {ι : Inj} {p : Option NV} {m : FrameMode} (h : MdR ι p m) : m ≠ .run := by
  cases p with
  | none => rw [show m = .returning from h]; simp
  | some v => obtain ⟨v', h1, h2⟩ := h; rw [h1]; simp
theorem MdR.settle {ι : Inj} {p : Option NV} {m : FrameMode} (h : MdR ι p m) : Go.settle m = m := by
  cases p with
  | none => rw [show m = .returning from h]; rfl
  | some v => obtain ⟨v', h1, h2⟩ := h; rw [h1]; rfl
theorem MdR.ctx {ι : Inj} {p : Option NV} {c : Frame} {cs : List Frame} (h : MdR ι p c.mode) : CtxR ι .deferred (c :: cs) p := by
  cases p with
  | none =>
    intro b hb
    have h' : c.mode = .returning := h
    unfold tryRecover
    rw [hb]
    simp only [h']
  | some v =>
    obtain ⟨v', h1, h2⟩ := h
    exact ⟨rfl, c, cs, v', [], rfl, h1, h2⟩

section
variable {P : Program} {S : Nat → List NV → Option NV} {B : Nat}

def resF (tmps : Array Value) : ResultVar → Sem Value
  | .tmp t => pure (tmps.getD t undef)
  | .cell a t => do loadVar t (← asAddr (tmps.getD a undef))
omit [Val] in
theorem results_eq (fn : Func) (tmps : Array Value) : results fn tmps = (do let vs ← fn.results.mapM (resF tmps); pure (if h : vs.size = 1 then vs[0] else .tuple vs)) := by
  unfold results
  congr 1

/-- what one result answers -/
noncomputable def readOne (h : NH) (t : Tm) : NRes → NR
  | .tmp k => (match NT.get k t with | some v => NR.val v | none => .fail)
  | .cell1 k => opLoad1 (.tmp k) t h
  | .cellN k n => opLoadN n (.tmp k) t h
omit [Val] in
theorem readRes_cons (h : NH) (t : Tm) (r : NRes) (l : List NRes) (F : CR) (K : List NV → CR) :
    readRes h t (r :: l) F K = (match readOne h t r with | .val v => readRes h t l F fun l => K (v :: l) | _ => F) := by
  cases r <;> rfl

omit [Val] in
theorem loadAt_run {w : World} {T : TypeId} {v : Value} {u : Value} (h : vRes ((Instr.loadAt T v).run P w) = .ok (.value u) w) : (do loadVar T (← asAddr v) : Sem Value).run P w = .ok u w := by
  cases v with
  | pointer a =>
    cases a with
    | none => simp [vRes, Instr.loadAt, Instr.sureAddr, stuck, Sem.run_bind, Sem.run, Result.andThen] at h
    | some a =>
      simp only [vRes, Instr.loadAt, Instr.sureAddr, asAddr, Sem.run_bind, Sem.run_pure, Result.andThen] at h ⊢
      cases hr : Sem.run P (loadVar T a) w with
      | ok x w1 => rw [hr] at h; cases h; rfl
      | halt x w1 => rw [hr] at h; cases h
  | _ => simp [vRes, Instr.loadAt, Instr.sureAddr, stuck, Sem.run_bind, Sem.run, Result.andThen] at h

theorem res_sound {ι : Inj} {h : NH} {w : World} {t : Tm} {tmps : Array Value} (hT : TR ι t tmps) (hR : Rel P ι B h w) {r0 : CR} (hr0 : r0 ≠ .fail) : ∀ (l : List ResultVar) (nl : List NRes) (K : List NV → CR), compRes P l = some nl → readRes h t nl .fail K = r0 →
    ∃ vs vs', K vs = r0 ∧ VRL ι vs vs' ∧ (l.mapM (resF tmps)).run P w = .ok vs' w := by
  have ov : ∀ k : Nat, OV ι t (.tmp (D4.of k)) (tmps.getD k undef) := by
    intro k v hv
    obtain ⟨v', h1, h2⟩ := hT k v hv
    rw [getD_of h1]; exact h2
  intro l
  induction l with
  | nil =>
    intro nl K hc hk
    cases hc
    exact ⟨[], [], hk, .nil, by simp⟩
  | cons r l ih =>
    intro nl K hc hk
    have step : ∀ {nr : NRes} {nl' : List NRes}, compRes P l = some nl' → nl = nr :: nl' → (∀ v, readOne h t nr = .val v → ∃ v', (resF tmps r).run P w = .ok v' w ∧ VR ι v v') →
        ∃ vs vs', K vs = r0 ∧ VRL ι vs vs' ∧ ((r :: l).mapM (resF tmps)).run P w = .ok vs' w := by
      intro nr nl' h1 h2 h3
      subst h2
      rw [readRes_cons] at hk
      cases hv : readOne h t nr with
      | val v =>
        rw [hv] at hk
        obtain ⟨v', q1, q2⟩ := h3 v hv
        obtain ⟨vs, vs', p1, p2, p3⟩ := ih nl' _ h1 hk
        refine ⟨v :: vs, v' :: vs', p1, .cons _ _ _ _ q2 p2, ?_⟩
        rw [List.mapM_cons]
        simp only [Sem.run_bind, q1, p3, Result.andThen, Sem.run_pure]
      | _ => rw [hv] at hk; exact absurd hk.symm hr0
    cases r with
    | tmp k =>
      have hc' : (match compRes P l with | some l => D4.ofNat k fun t => some (NRes.tmp t :: l) | none => none) = some nl := by
        have e : compRes P (.tmp k :: l) = (match ResultVar.tmp k, compRes P l with
          | .tmp t, some l => D4.ofNat t fun t => some (.tmp t :: l)
          | .cell t ty, some l => (match aggT P ty with
            | some none => D4.ofNat t fun t => some (.cell1 t :: l)
            | some (some n) => D4.ofNat t fun t => some (.cellN t n :: l)
            | none => none)
          | _, none => none) := rfl
        rw [e] at hc
        cases hl : compRes P l with
        | none => rw [hl] at hc; exact hc
        | some l1 => rw [hl] at hc; exact hc
      cases hl : compRes P l with
      | none => rw [hl] at hc'; cases hc'
      | some l1 =>
        rw [hl] at hc'
        have hc2 : (D4.ofNat k fun t => some (NRes.tmp t :: l1)) = some nl := hc'
        rw [D4.ofNat_eq] at hc2
        refine step hl (Option.some.inj hc2).symm fun v hv => ?_
        have hv' : (match NT.get (D4.of k) t with | some v => NR.val v | none => .fail) = NR.val v := hv
        cases hg : NT.get (D4.of k) t with
        | none => rw [hg] at hv'; cases hv'
        | some u =>
          rw [hg] at hv'; cases hv'
          exact ⟨_, rfl, ov k _ hg⟩
    | cell k T =>
      have e : compRes P (.cell k T :: l) = (match ResultVar.cell k T, compRes P l with
          | .tmp t, some l => D4.ofNat t fun t => some (.tmp t :: l)
          | .cell t ty, some l => (match aggT P ty with
            | some none => D4.ofNat t fun t => some (.cell1 t :: l)
            | some (some n) => D4.ofNat t fun t => some (.cellN t n :: l)
            | none => none)
          | _, none => none) := rfl
      rw [e] at hc
      cases hl : compRes P l with
      | none => rw [hl] at hc; cases hc
      | some l1 =>
        rw [hl] at hc
        dsimp only at hc
        cases ha : aggT P T with
        | none => rw [ha] at hc; cases hc
        | some q =>
          rw [ha] at hc
          cases q with
          | none =>
            have hc2 : (D4.ofNat k fun t => some (NRes.cell1 t :: l1)) = some nl := hc
            rw [D4.ofNat_eq] at hc2
            refine step hl (Option.some.inj hc2).symm fun v hv => ?_
            have := sound_load1 (B := B) (h := h) (w := w) ha (ov k) hR
            rw [show opLoad1 (.tmp (D4.of k)) t h = .val v from hv] at this
            obtain ⟨v', h1, h2⟩ := this
            exact ⟨v', loadAt_run h1, h2⟩
          | some m =>
            have hc2 : (D4.ofNat k fun t => some (NRes.cellN t m :: l1)) = some nl := hc
            rw [D4.ofNat_eq] at hc2
            refine step hl (Option.some.inj hc2).symm fun v hv => ?_
            have := sound_loadN (B := B) (h := h) (w := w) ha (ov k) hR
            rw [show opLoadN m (.tmp (D4.of k)) t h = .val v from hv] at this
            obtain ⟨v', h1, h2⟩ := this
            exact ⟨v', loadAt_run h1, h2⟩

theorem results_sound {ι : Inj} {h : NH} {w : World} {t : Tm} {tmps : Array Value} (hT : TR ι t tmps) (hR : Rel P ι B h w) {fn : Func} {nl : List NRes} (hc : compRes P fn.results.toList = some nl) {ctx : Option NV} {r0 : CR} (hr0 : r0 ≠ .fail)
    (h0 : readRes h t nl .fail (fun l => .val (resV l) ctx h) = r0) : ∃ v v', r0 = .val v ctx h ∧ VR ι v v' ∧ (results fn tmps).run P w = .ok v' w := by
  obtain ⟨vs, vs', h1, h2, h3⟩ := res_sound hT hR hr0 _ _ _ hc h0
  refine ⟨resV vs, if h : vs'.toArray.size = 1 then vs'.toArray[0] else .tuple vs'.toArray, h1.symm, ?_, ?_⟩
  · cases h2 with
    | nil => exact .tup [] [] .nil
    | cons v v' l l' hv hl =>
      cases hl with
      | nil => exact hv
      | cons u u' l l' hu hl =>
        have : ¬ (v' :: u' :: l').toArray.size = 1 := by simp
        rw [dif_neg this]
        exact .tup _ _ (.cons _ _ _ _ hv (.cons _ _ _ _ hu hl))
  · rw [results_eq, Array.mapM_eq_mapM_toList]
    simp only [Sem.run_bind, map_eq_pure_bind, h3, Result.andThen, Sem.run_pure]
end
end Nm

namespace Nm
open Go
variable [Val]

/-! # frames -/
section
variable {P : Program} {S : Nat → List NV → Option NV} {B : Nat}

omit [Val] in
theorem compF_inv {f : Nat} {nf : NFun} (h : compF P f = some (.code nf)) : ∃ fn c, P.funcs[f]? = some fn ∧ fn.body = some c ∧ fn.name ≠ "runtime.NumGoroutine" ∧ compC P c = some nf.body ∧ compRes P fn.results.toList = some nf.results := by
  unfold compF at h
  split at h
  · rename_i fn hfn
    cases hn : (fn.name == "runtime.NumGoroutine") with
    | true => rw [hn] at h; cases h
    | false =>
      rw [hn] at h
      simp only [cond_false] at h
      split at h
      · rename_i c hb
        split at h
        · rename_i nb nr h1 h2
          rw [forceN_eq] at h
          cases h
          exact ⟨fn, c, hfn, hb, by simpa using hn, h1, h2⟩
        · cases h
      · split at h <;> cases h
  · cases h
omit [Val] in
theorem run_enter {f : Nat} {fn : Func} {c : Code} (hf : P.funcs[f]? = some fn) (hb : fn.body = some c) (hn : fn.name ≠ "runtime.NumGoroutine") (args : Array Value) (w : World) : (callFunc f args).run P w = .ok (.enter f args) w := by
  simp [callFunc, hf, hb, hn]

/-- arguments laid into temporaries -/
noncomputable def argTab : List NV → Nat → Tm → Tm
  | [], _, t => t
  | v :: vs, k, t => argTab vs (k + 1) (NT.put (D4.of k) v t)
omit [Val] in
theorem argsT_eq {R : Type} (vs : List NV) (K : Tm → R) : argsT vs K = K (argTab vs 0 .leaf) := by
  have go : ∀ (vs : List NV) (k : Nat) (t : Tm), (List.rec (motive := fun _ => D4 → Tm → R) (fun _ t => K t) (fun v _ ih k t => NT.set k v t fun t => k.succ fun k => ih k t) vs (D4.of k) t : R) = K (argTab vs k t) := by
    intro vs
    induction vs with
    | nil => intro k t; rfl
    | cons v vs ih =>
      intro k t
      have e : (List.rec (motive := fun _ => D4 → Tm → R) (fun _ t => K t) (fun v _ ih k t => NT.set k v t fun t => k.succ fun k => ih k t) (v :: vs) (D4.of k) t : R) =
        NT.set (D4.of k) v t fun t => (D4.of k).succ fun k => (List.rec (motive := fun _ => D4 → Tm → R) (fun _ t => K t) (fun v _ ih k t => NT.set k v t fun t => k.succ fun k => ih k t) vs k t : R) := rfl
      rw [e, NT.set_eq, D4.succ_eq]
      exact ih (k + 1) _
  exact go vs 0 .leaf
omit [Val] in
theorem argTab_get : ∀ (vs : List NV) (k : Nat) (t : Tm) (j : Nat) (v : NV), NT.get (D4.of j) (argTab vs k t) = some v → (∃ i, j = k + i ∧ vs[i]? = some v) ∨ (NT.get (D4.of j) t = some v ∧ (j < k ∨ k + vs.length ≤ j)) := by
  intro vs
  induction vs with
  | nil => intro k t j v h; exact .inr ⟨h, by simp; omega⟩
  | cons u vs ih =>
    intro k t j v h
    rcases ih (k + 1) _ j v h with ⟨i, h1, h2⟩ | ⟨h1, h2⟩
    · exact .inl ⟨i + 1, by omega, by simpa using h2⟩
    · by_cases e : j = k
      · subst e
        rw [NT.get_put_same] at h1
        exact .inl ⟨0, rfl, by simpa using h1⟩
      · rw [NT.get_put_ne (fun x => e (D4.of_inj x))] at h1
        exact .inr ⟨h1, by simp; omega⟩
theorem args_TR {ι : Inj} {args : List NV} {args' : List Value} (h : VRL ι args args') (n : Nat) : TR ι (argTab args 0 .leaf) (args'.toArray ++ Array.replicate n undef) := by
  intro j v hv
  rcases argTab_get args 0 .leaf j v hv with ⟨i, h1, h2⟩ | ⟨h1, _⟩
  · obtain ⟨v', h3, h4⟩ := h.get h2
    refine ⟨v', ?_, h4⟩
    have : j = i := by omega
    subst this
    have hlt := (List.getElem?_eq_some_iff.1 h3).1
    rw [Array.getElem?_append_left (by simpa using hlt)]
    simpa using h3
  · rw [NT.get_leaf] at h1; cases h1

/-- what a frame comes to -/
def FrmR (P : Program) (B : Nat) (ι : Inj) (h : NH) (w : World) (fr0 : Frame) (kind : CallKind) (ctx : Option NV) (cs : List Frame) : CR → Prop
  | .fail => True
  | .val v ctx' h' => ∃ ι' v' w' cs' fr, VR ι' v v' ∧ Rel P ι' B h' w' ∧ B ≤ w'.heap.size ∧ Grow ι h w ι' h' w' ∧ CsAt cs ctx cs' ctx' ∧ Steps P (lone fr0 cs w) (lone fr cs' w') ∧ fr.kind = kind ∧ fr.fn = fr0.fn ∧ fr.going P w' (.returned v')
  | .pan v ctx' h' => ∃ ι' v' w' cs' fr, VR ι' v v' ∧ Rel P ι' B h' w' ∧ B ≤ w'.heap.size ∧ Grow ι h w ι' h' w' ∧ CsAt cs ctx cs' ctx' ∧ Steps P (lone fr0 cs w) (lone fr cs' w') ∧ fr.kind = kind ∧ fr.fn = fr0.fn ∧ fr.going P w' (.panicked [{ v := v', recovered := false }])

def DefOK (P : Program) (callF : Nat → List NV → Option NV → NH → CR) : Prop :=
  ∀ (f : Nat) (args : List NV) (p : Option NV) (h : NH), callF f args p h ≠ .fail → (∃ nf, compF P f = some (.code nf)) ∧
    ∀ (B : Nat) (ι : Inj) (w : World) (args' : List Value) (kind : CallKind) (cs : List Frame), Rel P ι B h w → B ≤ w.heap.size → VRL ι args args' → CtxR ι kind cs p →
      FrmR P B ι h w (Frame.enter P f args'.toArray kind) kind p cs (callF f args p h)

omit [Val] in
theorem unwind_cons (callF : Nat → List NV → Option NV → NH → CR) (K : Option NV → NH → CR) (c : Dfr) (l : List Dfr) (p : Option NV) (h : NH) :
    unwind callF K (c :: l) p h = match c with
      | .call f cap => (match callF f cap p h with
        | .val _ p h => unwind callF K l p h
        | _ => .fail)
      | .mark id => match h.get id with
        | some (.defd true) => unwind callF K l p (h.put id (.defd false))
        | _ => .fail := by
  have e : unwind callF K (c :: l) p h = match c with
      | .call f cap => (match callF f cap p h with
        | .val _ p h => unwind callF K l p h
        | _ => .fail)
      | .mark id => match h.get id with
        | some (.defd true) => h.set id (.defd false) fun h => unwind callF K l p h
        | _ => .fail := rfl
  rw [e]
  cases c with
  | call f cap => rfl
  | mark id =>
    dsimp only
    split
    · exact NH.set_eq _ _ _ _
    · rfl

theorem unwind_sound {callF : Nat → List NV → Option NV → NH → CR} (hF : DefOK P callF) {K : Option NV → NH → CR} {r : CR} (hr : r ≠ .fail) : ∀ (l : List Dfr) (p : Option NV) (h : NH), unwind callF K l p h = r →
    ∀ (ι : Inj) (w : World) (fr : Frame) (cs : List Frame), DR ι l fr.defers → Rel P ι B h w → B ≤ w.heap.size → MdR ι p fr.mode →
    ∃ p' h' ι' w' fr', K p' h' = r ∧ Rel P ι' B h' w' ∧ B ≤ w'.heap.size ∧ Grow ι h w ι' h' w' ∧ MdR ι' p' fr'.mode ∧ fr'.defers = [] ∧ fr'.tmps = fr.tmps ∧ fr'.fn = fr.fn ∧ fr'.kind = fr.kind ∧ Steps P (lone fr cs w) (lone fr' cs w') := by
  intro l
  induction l with
  | nil =>
    intro p h hu ι w fr cs hd hR hB hm
    have hde : fr.defers = [] := by
      cases hds : fr.defers with
      | nil => rfl
      | cons d ds => rw [hds] at hd; exact hd.elim
    exact ⟨p, h, ι, w, fr, hu, hR, hB, .refl _ _ _, hm, hde, rfl, rfl, rfl, Steps.refl P _⟩
  | cons c l ih =>
    intro p h hu ι w fr cs hd hR hB hm
    rw [unwind_cons] at hu
    cases hds : fr.defers with
    | nil => rw [hds] at hd; cases c <;> exact hd.elim
    | cons d ds =>
      rw [hds] at hd
      cases c with
      | mark id =>
        obtain ⟨⟨pl, hp, hde⟩, hd'⟩ := hd
        have hu' : (match h.get id with
          | some (.defd true) => unwind callF K l p (h.put id (.defd false))
          | _ => .fail) = r := hu
        obtain ⟨ob, ho1, ho2⟩ := hR.obj _ _ hp
        rw [ho1] at hu'
        cases ob with
        | defd q =>
          cases q with
          | false => exact absurd hu'.symm hr
          | true =>
            have hob : w.heap[pl.b]? = some (.deferred (some [])) := ho2
            have htake := run_takeDeferred (P := P) hob
            have hst := step_collected (cs := cs) hm.ne_run hds (by rw [hde]) htake
            have hlt := hR.lt _ _ hp
            obtain ⟨t1, t2⟩ := hR.turn (w' := w.putObj pl.b (.deferred none)) hp (by rw [ho1]; simp) (.defd false) (World.putObj_heap_same hlt) (by simp) rfl rfl rfl (fun q hq => World.putObj_heap_other hq)
            obtain ⟨p', h', ι', w', fr', q1, q2, q3, q4, q5, q6, q7, q8, q9, q10⟩ := ih p _ hu' ι _ { fr with defers := [] ++ ds } cs hd' t1 (by simpa using hB) hm
            exact ⟨p', h', ι', w', fr', q1, q2, q3, t2.trans q4, q5, q6, q7, q8, q9, .head hst q10⟩
        | _ => exact absurd hu'.symm hr
      | call f cap =>
        obtain ⟨⟨cap', hcap, hde⟩, hd'⟩ := hd
        have hu' : (match callF f cap p h with
          | .val _ p h => unwind callF K l p h
          | _ => .fail) = r := hu
        cases hcf : callF f cap p h with
        | fail => rw [hcf] at hu'; exact absurd hu'.symm hr
        | pan v x h1 => rw [hcf] at hu'; exact absurd hu'.symm hr
        | val v p1 h1 =>
          rw [hcf] at hu'
          obtain ⟨⟨nf, hnf⟩, hFr⟩ := hF f cap p h (by rw [hcf]; simp)
          obtain ⟨fnn, code, e1, e2, e3, _⟩ := compF_inv hnf
          have hinv : (invoke d.target d.args).run P w = .ok (.enter f cap'.toArray) w := by
            rw [hde]
            have := run_enter (P := P) e1 e2 e3 (#[] ++ cap'.toArray) w
            simp only [Array.empty_append] at this
            simp only [invoke, Array.empty_append]
            exact this
          have hst := step_defer (cs := cs) hm.ne_run hds (by rw [hde]) hinv
          have hfr := hFr B ι w cap' .deferred ({ fr with defers := ds } :: cs) hR hB hcap (MdR.ctx (c := { fr with defers := ds }) hm)
          rw [hcf] at hfr
          obtain ⟨ι1, v', w1, cs1, frx, f1, f2, f3, f4, f5, f6, f7, _, f8⟩ := hfr
          -- back in the frame
          have hback : ∃ m', MdR ι1 p1 m' ∧ Steps P (lone fr cs w) (lone { fr with defers := ds, mode := m' } cs w1) := by
            rcases f5 with ⟨rfl, rfl⟩ | ⟨rfl, _, c0, rest, v0, older, g1, g2, rfl⟩
            · refine ⟨fr.mode, hm.mono f4.le, .head hst (Steps.trans f6 (.one ?_))⟩
              have := step_going_returned (c := { fr with defers := ds }) (cs := cs) f7 f8
              rw [show settle ({ fr with defers := ds } : Frame).mode = fr.mode from hm.settle] at this
              exact this
            · injection g1 with g3 g4
              subst g3 g4
              refine ⟨.returning, rfl, .head hst (Steps.trans f6 (.one ?_))⟩
              have := step_going_returned (c := { ({ fr with defers := ds } : Frame) with mode := .panicking ({ v := v0, recovered := true } :: older) }) (cs := cs) f7 f8
              have hol : older = [] := by
                cases p with
                | none =>
                  have : fr.mode = .returning := hm
                  rw [show ({ fr with defers := ds } : Frame).mode = fr.mode from rfl, this] at g2
                  cases g2
                | some q =>
                  obtain ⟨q', hq1, _⟩ := hm
                  rw [show ({ fr with defers := ds } : Frame).mode = fr.mode from rfl, hq1] at g2
                  cases g2
                  rfl
              rw [hol] at this ⊢
              exact this
          obtain ⟨m', hm', hsteps⟩ := hback
          obtain ⟨p', h', ι', w', fr', q1, q2, q3, q4, q5, q6, q7, q8, q9, q10⟩ := ih p1 h1 hu' ι1 w1 { fr with defers := ds, mode := m' } cs (hd'.mono f4.le) f2 f3 hm'
          exact ⟨p', h', ι', w', fr', q1, q2, q3, f4.trans q4, q5, q6, q7, q8, q9, hsteps.trans q10⟩

/-- what the checker has said of each function's code -/
def CheckedP (P : Program) : Prop := ∀ (f : Nat) (fn : Func) (c : Code), P.funcs[f]? = some fn → fn.body = some c → CheckCode.code P fn [] [] c = .ok ()
omit [Val] in
theorem checkedP (h : P.check = .ok ()) : CheckedP P := by
  intro f fn c hf hb
  unfold Program.check at h
  obtain ⟨_, h1, _⟩ := ebind_ok h
  have h2 := forM_ok h1 f (by simp; exact (Array.getElem?_eq_some_iff.1 hf).1)
  unfold CheckCode.funcAt at h2
  rw [hf] at h2
  have h3 := mapError_ok h2
  unfold CheckCode.func at h3
  obtain ⟨_, _, h3⟩ := ebind_ok h3
  obtain ⟨_, _, h3⟩ := ebind_ok h3
  obtain ⟨_, _, h3⟩ := ebind_ok h3
  rw [hb] at h3
  simp only at h3
  obtain ⟨_, _, h3⟩ := ebind_ok h3
  obtain ⟨_, h4, _⟩ := ebind_ok h3
  exact h4

omit [Val] in
theorem codeF_succ (self : Option D4 → NC → Dyn → Res) (depth f : Nat) (args : List NV) (ctx : Option NV) (h : NH) :
    codeF P self (depth + 1) f args ctx h = match compF P f with
      | some (.code nf) => (match self none nf.body ⟨argTab args 0 .leaf, [], ctx, h⟩ with
        | .mk o d => (match o with
          | .norm | .ret => unwind (codeF P self depth) (finish nf.results d) d.dfs none d.h
          | .pan v => unwind (codeF P self depth) (finish nf.results d) d.dfs (some v) d.h
          | .exit _ => .fail)
        | .fail => .fail)
      | _ => .fail := by
  have e : codeF P self (depth + 1) f args ctx h = match compF P f with
      | some (.code nf) => argsT args fun t => (match self none nf.body ⟨t, [], ctx, h⟩ with
        | .mk o d => (match o with
          | .norm | .ret => unwind (codeF P self depth) (finish nf.results d) d.dfs none d.h
          | .pan v => unwind (codeF P self depth) (finish nf.results d) d.dfs (some v) d.h
          | .exit _ => .fail)
        | .fail => .fail)
      | _ => .fail := rfl
  rw [e]
  split
  · exact argsT_eq _ _
  · rfl

theorem codeF_sound (hK : CheckedP P) {n : Nat} (hO : CodeOK P S n) : ∀ depth, DefOK P (codeF P (ev P S n) depth) := by
  intro depth
  induction depth with
  | zero => intro f args p h hne; exact absurd rfl hne
  | succ depth ih =>
    intro f args p h hne
    rw [codeF_succ] at hne ⊢
    cases hcf : compF P f with
    | none => rw [hcf] at hne; exact absurd rfl hne
    | some x =>
      cases x with
      | ext e => rw [hcf] at hne; exact absurd rfl hne
      | code nf =>
        refine ⟨⟨nf, rfl⟩, fun B ι w args' kind cs hR hB hargs hctx => ?_⟩
        rw [hcf] at hne
        dsimp only at hne ⊢
        obtain ⟨fn, c, hf, hb, hname, hcc, hres⟩ := compF_inv hcf
        let b : Frame := { (default : Frame) with fn := f, kind := kind }
        let a0 : Act := { tmps := args'.toArray ++ Array.replicate (fn.ntmps - args'.toArray.size) undef, defers := [] }
        have henter : Frame.enter P f args'.toArray kind = b.atR a0 [.code c] := by
          simp [Frame.enter, Frame.atR, hf, hb, b, a0]
          rfl
        cases hev : ev P S n none nf.body ⟨argTab args 0 .leaf, [], p, h⟩ with
        | fail => rw [hev] at hne; exact absurd rfl hne
        | mk o d =>
          rw [hev] at hne
          have hs : Sd P ι B none [] p h b a0.defers cs w := ⟨trivial, hctx, hR, hB, rfl⟩
          have hgo := hO c nf.body fn [] [] hcc (hK f fn c hf hb) none ⟨argTab args 0 .leaf, [], p, h⟩ o d hev (.code c) (.inl rfl) B b [] ι a0 cs w hf (args_TR hargs _) hs (by simp [a0]; omega)
          rw [← henter] at hgo
          obtain ⟨ι1, a1, cs1, w1, g1, g2, g3, g4⟩ := hgo
          -- on the way out
          have out : ∀ (q : Option NV) (fr1 : Frame), (unwind (codeF P (ev P S n) depth) (finish nf.results d) d.dfs q d.h) ≠ .fail → MdR ι1 q fr1.mode → fr1.defers = a1.defers → fr1.tmps = a1.tmps → fr1.kind = kind → fr1.fn = f →
              Steps P (lone (Frame.enter P f args'.toArray kind) cs w) (lone fr1 cs1 w1) → FrmR P B ι h w (Frame.enter P f args'.toArray kind) kind p cs (unwind (codeF P (ev P S n) depth) (finish nf.results d) d.dfs q d.h) := by
            intro q fr1 hq hm hdf htm hkd hfn hst
            have sd := g3.sd
            obtain ⟨p', h', ι', w', fr', q1, q2, q3, q4, q5, q6, q7, q8, q9, q10⟩ := unwind_sound ih hq d.dfs q d.h rfl ι1 w1 fr1 cs1 (by rw [hdf]; exact sd.df) sd.rel sd.base hm
            have hTR : TR ι' d.t fr'.tmps := by rw [q7, htm]; exact g2.mono q4.le
            have hff : P.funcs[fr'.fn]? = some fn := by rw [q8, hfn]; exact hf
            cases p' with
            | none =>
              have q1' : readRes h' d.t nf.results .fail (fun l => .val (resV l) d.ctx h') = unwind (codeF P (ev P S n) depth) (finish nf.results d) d.dfs q d.h := q1
              obtain ⟨v, v', r1, r2, r3⟩ := results_sound hTR q2 hres hq q1'
              rw [r1]
              exact ⟨ι', v', w', cs1, fr', r2, q2, q3, g3.gr.trans q4, g3.ca, hst.trans q10, by rw [q9, hkd], by rw [q8, hfn]; rfl, q5, q6, fn, hff, r3⟩
            | some v =>
              have q1' : CR.pan v d.ctx h' = unwind (codeF P (ev P S n) depth) (finish nf.results d) d.dfs q d.h := q1
              rw [← q1']
              obtain ⟨v', m1, m2⟩ := q5
              exact ⟨ι', v', w', cs1, fr', m2, q2, q3, g3.gr.trans q4, g3.ca, hst.trans q10, by rw [q9, hkd], by rw [q8, hfn]; rfl, m1, q6, fn, hff⟩
          cases o with
          | norm =>
            have g1' : Steps P (lone (Frame.enter P f args'.toArray kind) cs w) (lone (b.atR a1 []) cs1 w1) := g1
            exact out none { b.atR a1 [] with mode := .returning } hne rfl rfl rfl rfl rfl (g1'.trans (.one (stepR_end rfl)))
          | ret =>
            obtain ⟨k0, g1'⟩ := g1
            exact out none { b.atR a1 (.code .ret :: k0) with mode := .returning } hne rfl rfl rfl rfl rfl (g1'.trans (.one (stepR_ret rfl)))
          | exit id => exact absurd rfl hne
          | pan v =>
            obtain ⟨td, v', m1, g1'⟩ := g1
            exact out (some v) _ hne ⟨v', rfl, m1⟩ rfl rfl rfl rfl g1'
end
end Nm

namespace Nm
open Go
variable [Val]

/-! # calls and rounds -/
omit [Val] in
theorem x1 : Extern.allNextRows.lookup "math/bits.Add64" = none := by kernel_rfl
omit [Val] in
theorem x2 : Extern.allNextRows.lookup "" = none := by kernel_rfl
omit [Val] in
theorem x3 : Extern.allGenericRows.lookup "math/bits.Add64" = none := by kernel_rfl
omit [Val] in
theorem x4 : Extern.allTypedRows.lookup "math/bits.Add64" = none := by kernel_rfl
omit [Val] in
theorem x5 : Extern.allRows.lookup "math/bits.Add64" = some add64Entry := by kernel_rfl
omit [Val] in
theorem y1 : Extern.allNextRows.lookup "internal/bytealg.IndexByteString" = none := by kernel_rfl
omit [Val] in
theorem y3 : Extern.allGenericRows.lookup "internal/bytealg.IndexByteString" = none := by kernel_rfl
omit [Val] in
theorem y4 : Extern.allTypedRows.lookup "internal/bytealg.IndexByteString" = none := by kernel_rfl
omit [Val] in
theorem y5 : Extern.allRows.lookup "internal/bytealg.IndexByteString" = some Extern.BytealgIndexByte.indexByte := by kernel_rfl

omit [Val] in
theorem idxL_eq (c : Nat) : ∀ (l : List Nat) (i : Nat), idxL c l i = (l.findIdx? (fun x => x == c)).map (· + i) := by
  intro l
  induction l with
  | nil => intro i; rfl
  | cons x l ih =>
    intro i
    have e : idxL c (x :: l) i = cond (Nat.beq x c) (some i) (forceN (Nat.succ i) (idxL c l)) := rfl
    rw [e, forceN_eq, ih, List.findIdx?_cons]
    cases h : Nat.beq x c with
    | true => have := Nat.eq_of_beq_eq_true h; simp [this]
    | false =>
      have := Nat.ne_of_beq_eq_false h
      simp only [cond_false]
      rw [if_neg (by simpa using this)]
      cases List.findIdx? (fun x => x == c) l with
      | none => rfl
      | some j => simp; omega

omit [Val] in
theorem range_find (p : Nat → Bool) : ∀ n, (List.range n).find? p = none ↔ ∀ i, i < n → p i = false := by
  intro n; simp

omit [Val] in
theorem firstIdx_eq (s : ByteArray) (c : Nat) (hc : c ≤ 255) : firstIdx s c.toUInt8 = match idxL c (s.data.toList.map UInt8.toNat) 0 with | some i => (i : Int) | none => -1 := by
  rw [idxL_eq]
  have hsz : s.data.toList.length = s.size := size_toList s
  have hml : (s.data.toList.map UInt8.toNat).length = s.size := by rw [List.length_map, hsz]
  have hat : ∀ i (h : i < s.size), (s[i]! == c.toUInt8) = (((s.data.toList.map UInt8.toNat)[i]'(by rw [hml]; exact h)) == c) := by
    intro i h
    have e : s[i]! = s.data.toList[i]'(by rw [hsz]; exact h) := by
      rw [getElem!_pos s i h]; simp [ByteArray.getElem_eq_getElem_data]
    rw [e, List.getElem_map]
    rw [Bool.eq_iff_iff]
    simp only [beq_iff_eq]
    constructor
    · intro h; rw [h]; simp; omega
    · intro h; rw [← h]; simp
  unfold firstIdx
  cases hf : (s.data.toList.map UInt8.toNat).findIdx? (fun x => x == c) with
  | none =>
    have h1 : (List.range s.size).find? (fun i => s[i]! == c.toUInt8) = none := by
      rw [range_find]
      intro i hi
      rw [hat i hi]
      rw [List.findIdx?_eq_none_iff] at hf
      exact hf _ (List.getElem_mem _)
    rw [h1]; rfl
  | some j =>
    rw [List.findIdx?_eq_some_iff_getElem] at hf
    obtain ⟨hj, h1, h2⟩ := hf
    have hj' : j < s.size := by rw [← hml]; exact hj
    have h3 : (List.range s.size).find? (fun i => s[i]! == c.toUInt8) = some j := by
      rw [List.find?_range_eq_some]
      refine ⟨?_, by simpa using hj', fun k hk => ?_⟩
      · rw [hat j hj']; exact h1
      · rw [hat k (by omega)]
        simpa using h2 k hk
    rw [h3]; simp

section
variable {P : Program} {S : Nat → List NV → Option NV} {B : Nat}

theorem ext_sound {ι : Inj} {fn : Func} {e : Ext} {f : Nat} (hf : P.funcs[f]? = some fn) (hb : fn.body = none) (he : extOf fn = some e) {args : List NV} {args' : List Value} (ha : VRL ι args args') {v : NV} (hv : extRun e args = some v) (w : World) :
    ∃ v', (callFunc f args'.toArray).run P w = .ok (.value v') w ∧ VR ι v v' := by
  unfold extOf at he
  obtain ⟨ho, he⟩ := condO_inv he
  have ho' : fn.origin = "" := by simpa using ho
  cases hn : (fn.name == "math/bits.Add64") with
  | true =>
    rw [hn] at he
    cases he
    have hname : fn.name = "math/bits.Add64" := by simpa using hn
    have hnx : Extern.findNext fn = none := by unfold Extern.findNext; rw [hname, ho']; simp only [x1, x2]; rfl
    have hfi : Extern.find fn = some add64Entry := by unfold Extern.find; rw [hname, ho']; simp only [x3, x4, x5]; rfl
    have hcall := run_callFunc_extern hf (by rw [hname]; decide) (by rw [hb]; rfl) hnx hfi args'.toArray w
    unfold extRun at hv
    split at hv
    · rename_i x y c hargs
      obtain ⟨hc1, hv⟩ := condO_inv hv
      rw [forceN_eq, forceN_eq] at hv
      cases hv
      cases ha with
      | cons _ _ _ _ h1 ha =>
        cases ha with
        | cons _ _ _ _ h2 ha =>
          cases ha with
          | cons _ _ _ _ h3 ha =>
            cases ha
            cases h1; cases h2; cases h3
            have hc := Nat.le_of_ble_eq_true hc1
            refine ⟨_, ?_, .tup [_, _] [_, _] (.cons _ _ _ _ (.int .u64 _) (.cons _ _ _ _ (.int .u64 _) .nil))⟩
            have := run_add64 (P := P) (Int.ofNat x) (Int.ofNat y) (Int.ofNat c) (Int.natCast_nonneg _) (Int.natCast_nonneg _) (Int.natCast_nonneg _) (by show (c : Int) ≤ 1; omega) w
            rw [hcall]
            show Result.andThen (Sem.run P (add64Entry #[.int .u64 (Int.ofNat x), .int .u64 (Int.ofNat y), .int .u64 (Int.ofNat c)]) w) _ = _
            rw [this]
            rfl
    · rename_i h; cases h
    · cases hv
  | false =>
    rw [hn] at he
    simp only [cond_false] at he
    obtain ⟨hn2, he⟩ := condO_inv he
    cases he
    have hname : fn.name = "internal/bytealg.IndexByteString" := by simpa using hn2
    have hnx : Extern.findNext fn = none := by unfold Extern.findNext; rw [hname, ho']; simp only [y1, x2]; rfl
    have hfi : Extern.find fn = some Extern.BytealgIndexByte.indexByte := by unfold Extern.find; rw [hname, ho']; simp only [y3, y4, y5]; rfl
    have hcall := run_callFunc_extern hf (by rw [hname]; decide) (by rw [hb]; rfl) hnx hfi args'.toArray w
    unfold extRun at hv
    split at hv
    · rename_i h; cases h
    · rename_i s c _
      obtain ⟨hc1, hv⟩ := condO_inv hv
      have hc := Nat.le_of_ble_eq_true hc1
      cases ha with
      | cons _ _ _ _ h1 ha =>
        cases ha with
        | cons _ _ _ _ h2 ha =>
          cases ha
          cases h2
          cases h1 with
          | str l s' hs =>
            subst hs
            have hrun := run_indexByte_string (P := P) s' (Int.ofNat c) w
            refine ⟨.int .i64 (firstIdx s' c.toUInt8), ?_, ?_⟩
            · rw [hcall]
              show Result.andThen (Sem.run P (Extern.BytealgIndexByte.indexByte #[.string s', .int .u8 (Int.ofNat c)]) w) _ = _
              rw [hrun]
              rfl
            · rw [firstIdx_eq s' c hc]
              cases hi : idxL c (s'.data.toList.map UInt8.toNat) 0 with
              | none => rw [hi] at hv; cases hv; exact .int .i64 _
              | some i => rw [hi] at hv; cases hv; exact .int .i64 _
    · cases hv

/-- answers that are taken from a table are the function's -/
def TabOK (P : Program) (S : Nat → List NV → Option NV) : Prop :=
  ∀ (ι : Inj) (B : Nat) (h : NH) (w : World) (f : Nat) (args : List NV) (args' : List Value) (v : NV), S f args = some v → Rel P ι B h w → B ≤ w.heap.size → VRL ι args args' →
    CallR P ι B h w ((callFunc f args'.toArray).run P w) (.val v none h)
theorem tab_none : TabOK P noS := fun _ _ _ _ _ _ _ _ h => by cases h

omit [Val] in
theorem compF_ext {f : Nat} {e : Ext} (h : compF P f = some (.ext e)) : ∃ fn, P.funcs[f]? = some fn ∧ fn.body = none ∧ extOf fn = some e := by
  unfold compF at h
  split at h
  · rename_i fn hfn
    cases hn : (fn.name == "runtime.NumGoroutine") with
    | true => rw [hn] at h; cases h
    | false =>
      rw [hn] at h
      simp only [cond_false] at h
      split at h
      · split at h
        · rw [forceN_eq] at h; cases h
        · cases h
      · rename_i hb
        split at h
        · rename_i e' he; cases h; exact ⟨fn, hfn, hb, he⟩
        · cases h
  · cases h

omit [Val] in
theorem going_leaving {fr : Frame} {w : World} {e : Ending} (hk : fr.kind = .normal) (h : fr.going P w e) : fr.leaving P w e := by
  cases e with
  | returned v => exact ⟨h.1, h.2.1, hk, h.2.2⟩
  | panicked c => exact h
  | outgrown => trivial

theorem call_sound (hK : CheckedP P) (hS : TabOK P S) {n : Nat} (hO : CodeOK P S n) (ι : Inj) (B : Nat) (h : NH) (w : World) (f : Nat) (args : List NV) (args' : List Value) (hR : Rel P ι B h w) (hB : B ≤ w.heap.size) (ha : VRL ι args args') :
    CallR P ι B h w ((callFunc f args'.toArray).run P w) (callG P S (ev P S n) f args h) := by
  unfold callG
  cases hs : S f args with
  | some v => exact hS ι B h w f args args' v hs hR hB ha
  | none =>
    dsimp only
    cases hcf : compF P f with
    | none => trivial
    | some x =>
      cases x with
      | ext e =>
        dsimp only
        cases hx : extRun e args with
        | none => trivial
        | some v =>
          intro c cs
          obtain ⟨fn, h1, h2, h3⟩ := compF_ext hcf
          obtain ⟨v', e1, e2⟩ := ext_sound h1 h2 h3 ha hx w
          exact ⟨ι, v', w, e2, hR, hB, .refl _ _ _, .inl e1⟩
      | code nf =>
        dsimp only
        have hD := codeF_sound hK hO 3 f args none h
        obtain ⟨fn, code, e1, e2, e3, _⟩ := compF_inv hcf
        have hent := run_enter (P := P) e1 e2 e3 args'.toArray w
        cases hr : codeF P (ev P S n) 3 f args none h with
        | fail => trivial
        | val v x h' =>
          intro c cs
          obtain ⟨_, hF⟩ := hD (by rw [hr]; simp)
          have hF := hF B ι w args' .normal (c :: cs) hR hB ha (fun b hb => by unfold tryRecover; rw [hb])
          rw [hr] at hF
          obtain ⟨ι', v', w', cs', fr, f1, f2, f3, f4, f5, f6, f7, _, f8⟩ := hF
          obtain ⟨rfl, _⟩ := f5.none
          exact ⟨ι', v', w', f1, f2, f3, f4, .inr ⟨w, .inl ⟨f, args'.toArray, hent, Steps.trans f6 (.one (step_leave_returned (going_leaving f7 f8)))⟩⟩⟩
        | pan v x h' =>
          intro c cs
          obtain ⟨_, hF⟩ := hD (by rw [hr]; simp)
          have hF := hF B ι w args' .normal (c :: cs) hR hB ha (fun b hb => by unfold tryRecover; rw [hb])
          rw [hr] at hF
          obtain ⟨ι', v', w', cs', fr, f1, f2, f3, f4, f5, f6, f7, _, f8⟩ := hF
          obtain ⟨rfl, _⟩ := f5.none
          exact ⟨ι', v', w', f1, f2, f3, f4, w, .inl ⟨f, args'.toArray, hent, Steps.trans f6 (.one (step_leave_panicked (going_leaving f7 f8)))⟩⟩

/-- arguments of yield laid into the loop's temporaries -/
noncomputable def putP : List D4 → List NV → Tm → Tm
  | p :: ps, v :: vs, t => putP ps vs (NT.put p v t)
  | _, _, t => t
omit [Val] in
theorem paramsT_inv {r : CR} (hr : r ≠ .fail) {K : Tm → CR} : ∀ {ps : List D4} {vs : List NV} {t : Tm}, paramsT .fail ps vs t K = r → vs.length = ps.length ∧ K (putP ps vs t) = r := by
  intro ps
  induction ps with
  | nil =>
    intro vs t h
    cases vs with
    | nil => exact ⟨rfl, h⟩
    | cons v vs => exact absurd (show CR.fail = r from h).symm hr
  | cons p ps ih =>
    intro vs t h
    cases vs with
    | nil => exact absurd (show CR.fail = r from h).symm hr
    | cons v vs =>
      have e : paramsT .fail (p :: ps) (v :: vs) t K = NT.set p v t fun t => paramsT .fail ps vs t K := rfl
      rw [e, NT.set_eq] at h
      obtain ⟨h1, h2⟩ := ih h
      exact ⟨by simp [h1], h2⟩
theorem putP_TR {ι : Inj} : ∀ {ps : List Nat} {vs : List NV} {vs' : List Value} {t : Tm} {a : Array Value}, VRL ι vs vs' → TR ι t a → (∀ q ∈ ps, q < a.size) →
    TR ι (putP (ps.map D4.of) vs t) ((ps.zip vs').foldl (fun tmps (t, a) => tmps.setIfInBounds t a) a) ∧ ((ps.zip vs').foldl (fun tmps (t, a) => tmps.setIfInBounds t a) a).size = a.size := by
  intro ps
  induction ps with
  | nil => intro vs vs' t a _ hT _; cases vs <;> exact ⟨hT, rfl⟩
  | cons p ps ih =>
    intro vs vs' t a hv hT hp
    cases hv with
    | nil => exact ⟨hT, rfl⟩
    | cons v v' vs vs' h1 h2 =>
      have hT' := hT.put (hp p (by simp)) h1
      obtain ⟨q1, q2⟩ := ih h2 hT' (fun q hq => by simp; exact hp q (by simp [hq]))
      exact ⟨q1, q2.trans (by simp)⟩

/-- what a round comes to, whoever calls -/
def RndR (P : Program) (B : Nat) (ι : Inj) (h : NH) (w : World) (fr0 : Frame) (c : Frame) (cs : List Frame) : CR → Prop
  | .fail => True
  | .val v _ h' => ∃ ι' v' w', VR ι' v v' ∧ Rel P ι' B h' w' ∧ B ≤ w'.heap.size ∧ Grow ι h w ι' h' w' ∧ Steps P (lone fr0 (c :: cs) w) (lone (c.finish v') cs w')
  | .pan v _ h' => ∃ ι' v' w', VR ι' v v' ∧ Rel P ι' B h' w' ∧ B ≤ w'.heap.size ∧ Grow ι h w ι' h' w' ∧ Steps P (lone fr0 (c :: cs) w) (lone (c.raise [{ v := v', recovered := false }]) cs w')

theorem round_sound {n : Nat} (hO : CodeOK P S n) (ι : Inj) (B : Nat) (h : NH) (w : World) (l : D4) (p : Pl) (args : List NV) (args' : List Value) (hR : Rel P ι B h w) (hB : B ≤ w.heap.size) (ha : VRL ι args args') (hp : ι l = some p) :
    CallR P ι B h w ((Instr.yield p.b args'.toArray).run P w) (round (ev P S n) l args h) := by
  by_cases hne : round (ev P S n) l args h = .fail
  · rw [hne]; trivial
  generalize hrr : round (ev P S n) l args h = r at hne
  have hrr' := hrr
  unfold round at hrr'
  obtain ⟨ob, ho1, ho2⟩ := hR.obj _ _ hp
  rw [ho1] at hrr'
  cases ob with
  | loop st pd tm ps na nb =>
    cases st with
    | succ st => exact absurd hrr'.symm hne
    | zero =>
      obtain ⟨L, l1, l2, l3, l4, l5, l6, l7, ⟨fn, bl, la, lb, l8, l9, l10, l11, _⟩, l12⟩ := ho2
      obtain ⟨hlen, hrr2⟩ := paramsT_inv hne hrr'
      have hsz : args'.toArray.size = L.params.size := by
        have := ha.length
        rw [l5] at hlen
        simp at hlen ⊢; omega
      have hy := run_yield (P := P) l1 hsz
      -- the round's temporaries
      obtain ⟨t1, t2⟩ := putP_TR (ps := L.params.toList) ha l4 l12
      have hz : (L.params.zip args'.toArray).foldl (fun tmps (t, a) => tmps.setIfInBounds t a) L.tmps = (L.params.toList.zip args').foldl (fun tmps (t, a) => tmps.setIfInBounds t a) L.tmps := by
        rw [← Array.foldl_toList, Array.toList_zip]
      rw [hz] at hy
      rw [← l5] at t1
      generalize (L.params.toList.zip args').foldl (fun tmps (t, a) => tmps.setIfInBounds t a) L.tmps = tmps at hy t1 t2
      -- the frame
      let b : Frame := { (default : Frame) with fn := L.fn, kind := .normal, roundOf := some p.b }
      have hfr : Frame.round p.b L.fn tmps L.assign L.body .normal = b.atR { tmps := tmps, defers := [] } [.code L.assign, .beginRound, .code L.body] := by
        simp [Frame.round, Frame.atR, b]
      cases hev : ev P S n (some l) na ⟨putP ps args tm, [], none, h⟩ with
      | fail => rw [hev] at hrr2; exact absurd hrr2.symm hne
      | mk o d =>
        rw [hev] at hrr2
        cases o with
        | norm =>
          dsimp only at hrr2
          cases hdd : d.dfs with
          | cons x xs => rw [hdd] at hrr2; exact absurd hrr2.symm hne
          | nil =>
            rw [hdd] at hrr2
            have hrb : roundBody (ev P S n) l nb d.t d.h = r := hrr2
            -- both parts, whoever calls
            have main : ∀ (c : Frame) (cs : List Frame), RndR P B ι h w (Frame.round p.b L.fn tmps L.assign L.body .normal) c cs r := by
              intro c cs
              have hctx : ∀ ι : Inj, CtxR ι b.kind (c :: cs) none := fun ι b' hb' => by unfold tryRecover; rw [hb']
              have hs : Sd P ι B (some l) [] none h b ([] : List Deferred) (c :: cs) w := ⟨trivial, hctx ι, hR, hB, ⟨p, hp, rfl⟩⟩
              have hgo := hO L.assign na fn [] [] l6 l10 (some l) ⟨putP ps args tm, [], none, h⟩ .norm d hev (.code L.assign) (.inl rfl) B b [.beginRound, .code L.body] ι { tmps := tmps, defers := [] } (c :: cs) w l8 t1 hs (by rw [t2]; exact l9)
              obtain ⟨ι1, a1, cs1, w1, g1, g2, g3, g4⟩ := hgo
              obtain ⟨rfl, hctx1⟩ := g3.ca.none
              have sd1 := g3.sd
              have hdef1 : a1.defers = [] := by
                have := sd1.df
                rw [hdd] at this
                cases hq : a1.defers with
                | nil => rfl
                | cons d ds => rw [hq] at this; exact this.elim
              have hp1 : ι1 l = some p := g3.gr.le _ _ hp
              obtain ⟨ob1, ho3, ho4⟩ := sd1.rel.obj _ _ hp1
              have hrb' := hrb
              unfold roundBody at hrb'
              rw [ho3] at hrb'
              cases ob1 with
              | loop st1 pd1 tm1 ps1 na1 nb1 =>
                cases st1 with
                | succ st1 => exact absurd hrb'.symm hne
                | zero =>
                  replace hrb' : d.h.set l (.loop 1 pd1 tm1 ps1 na1 nb1) (fun h => match ev P S n (some l) nb ⟨d.t, [], none, h⟩ with
                      | .mk o d => (match o with
                        | .pan v => (match d.dfs with | [] => CR.pan v none d.h | _ => .fail)
                        | o => roundEnd l o d.h)
                      | .fail => .fail) = r := hrb'
                  rw [NH.set_eq] at hrb'
                  obtain ⟨L1, m1, m2, m3⟩ := ho4
                  have hbr := run_beginRound (P := P) m1 m2
                  have hlt1 := sd1.rel.lt _ _ hp1
                  have hst1 : SR 1 ({ L1 with state := .busy } : Loop).state := rfl
                  obtain ⟨u1, u2⟩ := sd1.rel.turn (w' := w1.putObj p.b (.loop { L1 with state := .busy })) hp1 (by rw [ho3]; simp) (.loop 1 pd1 tm1 ps1 na1 nb1)
                    ⟨_, World.putObj_heap_same hlt1, hst1, m3⟩ (by simp) rfl rfl rfl (fun q hq => World.putObj_heap_other hq)
                  have hbeg := stepR_beginRound (P := P) (b := b) (a := a1) (k := [.code L.body]) (cs := c :: cs) rfl hbr
                  have hs2 : Sd P ι1 B (some l) [] none (d.h.put l (.loop 1 pd1 tm1 ps1 na1 nb1)) b a1.defers (c :: cs) (w1.putObj p.b (.loop { L1 with state := .busy })) :=
                    ⟨by rw [hdef1]; trivial, hctx ι1, u1, by simpa using sd1.base, ⟨p, hp1, rfl⟩⟩
                  generalize w1.putObj p.b (.loop { L1 with state := .busy }) = w2 at *
                  generalize d.h.put l (.loop 1 pd1 tm1 ps1 na1 nb1) = h2 at *
                  cases hev2 : ev P S n (some l) nb ⟨d.t, [], none, h2⟩ with
                  | fail => rw [hev2] at hrb'; exact absurd hrb'.symm hne
                  | mk o2 d2 =>
                    rw [hev2] at hrb'
                    have hgo2 := hO L.body nb fn bl la l7 l11 (some l) ⟨d.t, [], none, h2⟩ o2 d2 hev2 (.code L.body) (.inl rfl) B b [] ι1 a1 (c :: cs) w2 l8 g2 hs2 (by rw [g4, t2]; exact l9)
                    obtain ⟨ι3, a3, cs3, w3, e1, e2, e3, e4⟩ := hgo2
                    obtain ⟨rfl, _⟩ := e3.ca.none
                    have hp3 : ι3 l = some p := e3.gr.le _ _ hp1
                    have hpre : Steps P (lone (Frame.round p.b L.fn tmps L.assign L.body .normal) (c :: cs) w) (lone (b.atR a1 [.code L.body]) (c :: cs) w2) := by
                      rw [hfr]; exact Steps.trans g1 (.one hbeg)
                    have hgr := (g3.gr.trans u2).trans e3.gr
                    -- the end of a round that is no panic
                    have fin : ∀ (jump : Option Code) (st' : Nat) (pd' : Jump), roundEnd l o2 d2.h = r → (∀ tm ps na nb, (match o2 with
                          | .norm => (d2.h.set l (.loop 0 .none tm ps na nb) fun h => CR.val (.bool true) none h)
                          | .ret => d2.h.set l (.loop 2 .ret tm ps na nb) fun h => .val (.bool false) none h
                          | .exit id => d2.h.set l (.loop 2 (.exit id) tm ps na nb) fun h => .val (.bool false) none h
                          | .pan _ => .fail) = .val (.bool jump.isNone) none (d2.h.put l (.loop st' pd' tm ps na nb))) →
                        (SR st' (if jump.isNone then .ready else .done)) → JR pd' jump →
                        (∀ (v : Value) (w4 : World), (Instr.endRound p.b jump).run P w3 = .ok v w4 → Steps P (lone (b.atR a1 [.code L.body]) (c :: cs) w2) (lone (c.finish v) cs w4)) →
                        RndR P B ι h w (Frame.round p.b L.fn tmps L.assign L.body .normal) c cs r := by
                      intro jump st' pd' hre hval hSR hJR hsteps
                      unfold roundEnd at hre
                      obtain ⟨ob3, ho5, ho6⟩ := e3.sd.rel.obj _ _ hp3
                      rw [ho5] at hre
                      cases ob3 with
                      | loop st3 pd3 tm3 ps3 na3 nb3 =>
                        have hre' := (hval tm3 ps3 na3 nb3).symm.trans hre
                        rw [← hre']
                        obtain ⟨L3, k1, k2, k3, k4⟩ := ho6
                        have hend := run_endRound (P := P) jump k1
                        have hlt3 := e3.sd.rel.lt _ _ hp3
                        obtain ⟨z1, z2⟩ := e3.sd.rel.turn (w' := w3.putObj p.b (.loop { L3 with state := if jump.isNone then .ready else .done, pending := jump })) hp3 (by rw [ho5]; simp) (.loop st' pd' tm3 ps3 na3 nb3)
                          ⟨_, World.putObj_heap_same hlt3, hSR, hJR, k4⟩ (by simp) rfl rfl rfl (fun q hq => World.putObj_heap_other hq)
                        exact ⟨ι3, .bool jump.isNone, _, .bool _, z1, by simpa using e3.sd.base, hgr.trans z2, hpre.trans (hsteps _ _ hend)⟩
                      | _ => exact absurd hre.symm hne
                    cases o2 with
                    | norm =>
                      exact fin none 0 .none hrb' (fun tm ps na nb => NH.set_eq _ _ _ _) rfl rfl fun v w4 he => Steps.trans e1 (.one (stepR_round_end rfl rfl he))
                    | ret =>
                      obtain ⟨k0, e1⟩ := e1
                      exact fin (some .ret) 2 .ret hrb' (fun tm ps na nb => NH.set_eq _ _ _ _) rfl rfl fun v w4 he => Steps.trans e1 (.one (stepR_round_ret rfl rfl he))
                    | exit id =>
                      obtain ⟨k0, e0, e1⟩ := e1
                      exact fin (some (.exit id)) 2 (.exit id) hrb' (fun tm ps na nb => NH.set_eq _ _ _ _) rfl rfl fun v w4 he => Steps.trans e1 (.one (stepR_round_exit rfl rfl (by rw [e0]; rfl) he))
                    | pan v =>
                      dsimp only at hrb'
                      cases hd2 : d2.dfs with
                      | cons x xs => rw [hd2] at hrb'; exact absurd hrb'.symm hne
                      | nil =>
                        rw [hd2] at hrb'
                        rw [← show CR.pan v none d2.h = r from hrb']
                        obtain ⟨td, v', f1, f2⟩ := e1
                        have hdef3 : a3.defers = [] := by
                          have := e3.sd.df
                          rw [hd2] at this
                          cases hq : a3.defers with
                          | nil => rfl
                          | cons d ds => rw [hq] at this; exact this.elim
                        refine ⟨ι3, v', w3, f1, e3.sd.rel, e3.sd.base, hgr, hpre.trans (Steps.trans f2 (.one (step_leave_panicked ⟨rfl, hdef3, fn, l8⟩)))⟩
              | _ => exact absurd hrb'.symm hne
            cases r with
            | fail => trivial
            | val v x h' =>
              intro c cs
              obtain ⟨ι', v', w', q1, q2, q3, q4, q5⟩ := main c cs
              exact ⟨ι', v', w', q1, q2, q3, q4, .inr ⟨w, .inr ⟨p.b, L.fn, tmps, L.assign, L.body, hy, q5⟩⟩⟩
            | pan v x h' =>
              intro c cs
              obtain ⟨ι', v', w', q1, q2, q3, q4, q5⟩ := main c cs
              exact ⟨ι', v', w', q1, q2, q3, q4, w, .inr ⟨p.b, L.fn, tmps, L.assign, L.body, hy, q5⟩⟩
        | _ => exact absurd hrr2.symm hne
  | _ => exact absurd hrr'.symm hne

theorem mach_sound (hM : P.follows .mixedOrders = true) (hK : CheckedP P) (hS : TabOK P S) : ∀ n, CodeOK P S n ∧ CallsOK P S (ev P S n) := by
  intro n
  induction n with
  | zero =>
    have h0 : CodeOK P S 0 := fun c nc fn bl la _ _ rnd d o d' h => by cases h
    exact ⟨h0, ⟨call_sound hK hS h0, round_sound h0⟩⟩
  | succ n ih =>
    have h1 : CodeOK P S (n + 1) := code_step hM ih.1 ih.2
    exact ⟨h1, ⟨call_sound hK hS h1, round_sound h1⟩⟩
end
end Nm

namespace Nm
open Go Go.RowKit
variable [Val]

/-! # a call from outside -/
noncomputable def topRun (cf : Nat → Option NFn) (S : Nat → List NV → Option NV) (n f : Nat) (args : List NV) : CR := codeF cf (ev cf S n) 3 f args none ⟨.leaf, .e⟩
/-- it returns true -/
noncomputable def topTrue (cf : Nat → Option NFn) (S : Nat → List NV → Option NV) (n f : Nat) (args : List NV) : Bool :=
  match topRun cf S n f args with
  | .val (.bool b) _ _ => b
  | _ => false

def ι0 : Inj := fun _ => none
theorem rel0 (P : Program) (w : World) : Rel P ι0 w.heap.size ⟨.leaf, .e⟩ w where
  obj := fun i p h => by cases h
  inj := fun i j p q h => by cases h
  base := fun i p h => by cases h
  lt := fun i p h => by cases h
  fresh := fun i o h => by rw [show NH.get ⟨.leaf, .e⟩ i = NT.get i .leaf from rfl, NT.get_leaf] at h; cases h

theorem top_val {P : Program} {S : Nat → List NV → Option NV} (hM : P.follows .mixedOrders = true) (hP : P.check = .ok ()) (hS : TabOK P S) {n f : Nat} {args : List NV} {v : NV} {x : Option NV} {h : NH} (hr : topRun P S n f args = .val v x h) {args' : List Value} (ha : VRL ι0 args args') (w : World) :
    Calls P f args'.toArray w fun e w' => (∃ ι v', e = .returned v' ∧ VR ι v v' ∧ Rel P ι w.heap.size h w') ∧ Below w.heap.size w w' := by
  intro cs
  obtain ⟨hO, _⟩ := mach_sound hM (checkedP hP) hS n
  have hD := codeF_sound (checkedP hP) hO 3 f args none ⟨.leaf, .e⟩
  obtain ⟨_, hF⟩ := hD (by rw [show codeF P (ev P S n) 3 f args none ⟨.leaf, .e⟩ = .val v x h from hr]; simp)
  have hF := hF w.heap.size ι0 w args' .normal cs (rel0 P w) (Nat.le_refl _) ha (fun b hb => by unfold tryRecover; rw [hb])
  rw [show codeF P (ev P S n) 3 f args none ⟨.leaf, .e⟩ = .val v x h from hr] at hF
  obtain ⟨ι', v', w', cs', fr, f1, f2, f3, f4, f5, f6, f7, f8, f9⟩ := hF
  obtain ⟨rfl, _⟩ := f5.none
  refine ⟨.returned v', w', fr, ⟨⟨ι', v', rfl, f1, f2⟩, ⟨f4.os, f4.tape, f4.output, f4.size, fun k hk => f4.frame k hk fun i p hi => by cases hi⟩⟩, f6, f8, going_leaving f7 f9⟩

theorem top_true {P : Program} {S : Nat → List NV → Option NV} (hM : P.follows .mixedOrders = true) (hP : P.check = .ok ()) (hS : TabOK P S) {n f : Nat} {args : List NV} (hr : topTrue P S n f args = true) {args' : List Value} (ha : VRL ι0 args args') (w : World) :
    Calls P f args'.toArray w fun e w' => e = .returned (.bool true) ∧ Below w.heap.size w w' := by
  unfold topTrue at hr
  split at hr
  · rename_i b x h hv
    subst hr
    refine (top_val hM hP hS hv ha w).mono ?_
    rintro e w' ⟨⟨ι, v', he, hvr, _⟩, hb⟩
    cases hvr
    exact ⟨he, hb⟩
  · cases hr
end Nm

namespace Nm
open Go Go.RowKit
variable [Val]

/-! # answers that are kept -/
mutual
/-- no memory in it -/
def plainV : NV → Bool
  | .bool _ | .int _ _ | .str _ | .nilp | .nils | .nilm | .nilf | .nili => true
  | .ifc _ v => plainV v
  | .agg l => plainL l
  | .tup l => plainL l
  | _ => false
def plainL : List NV → Bool
  | [] => true
  | v :: l => plainV v && plainL l
end
mutual
theorem VR.plain {ι ι' : Inj} : ∀ {v : NV} {v' : Value}, VR ι v v' → plainV v = true → VR ι' v v'
  | _, _, .bool b, _ => .bool b
  | _, _, .int k n, _ => .int k n
  | _, _, .ige k a n h, _ => .ige k a n h
  | _, _, .ile k a n h, _ => .ile k a n h
  | _, _, .sym k c ts n h hn, _ => .sym k c ts n h hn
  | _, _, .str l s h, _ => .str l s h
  | _, _, .nilp, _ => .nilp
  | _, _, .ptr .., h => by simp [plainV] at h
  | _, _, .nils, _ => .nils
  | _, _, .slc .., h => by simp [plainV] at h
  | _, _, .nilm, _ => .nilm
  | _, _, .map .., h => by simp [plainV] at h
  | _, _, .nilf, _ => .nilf
  | _, _, .fn .., h => by simp [plainV] at h
  | _, _, .yld .., h => by simp [plainV] at h
  | _, _, .nili, _ => .nili
  | _, _, .ifc t v v' h, k => .ifc t v v' (VR.plain h (by simpa [plainV] using k))
  | _, _, .agg l l' h h1, k => .agg l l' (VRL.plain h (by simpa [plainV] using k)) h1
  | _, _, .tup l l' h, k => .tup l l' (VRL.plain h (by simpa [plainV] using k))
theorem VRL.plain {ι ι' : Inj} : ∀ {l : List NV} {l' : List Value}, VRL ι l l' → plainL l = true → VRL ι' l l'
  | _, _, .nil, _ => .nil
  | _, _, .cons v v' l l' h hl, k => .cons v v' l l' (VR.plain h (by simp [plainL] at k; exact k.1)) (VRL.plain hl (by simp [plainL] at k; exact k.2))
end

/-- one answer more -/
noncomputable def addS (f : Nat) (args : List NV) (v : NV) (S : Nat → List NV → Option NV) : Nat → List NV → Option NV := fun g l =>
  cond (Nat.beq g f) (cond (sameD (sameV 3) l args) (some v) (S g l)) (S g l)
/-- it answers just that -/
noncomputable def topIs (cf : Nat → Option NFn) (S : Nat → List NV → Option NV) (n f : Nat) (args : List NV) (v : NV) : Bool :=
  match topRun cf S n f args with
  | .val u _ _ => cond (plainL args) (cond (plainV v) (sameV 5 u v) false) false
  | _ => false

omit [Val] in
theorem codeF_enter {P : Program} {self : Option D4 → NC → Dyn → Res} {d f : Nat} {args : List NV} {ctx : Option NV} {h : NH} (hn : codeF P self d f args ctx h ≠ .fail) : ∃ nf, compF P f = some (.code nf) := by
  cases d with
  | zero => exact absurd rfl hn
  | succ d =>
    rw [codeF_succ] at hn
    cases hc : compF P f with
    | none => rw [hc] at hn; exact absurd rfl hn
    | some x =>
      cases x with
      | code nf => exact ⟨nf, rfl⟩
      | ext e => rw [hc] at hn; exact absurd rfl hn

theorem tab_add {P : Program} {S : Nat → List NV → Option NV} (hM : P.follows .mixedOrders = true) (hP : P.check = .ok ()) (hS : TabOK P S) {n f : Nat} {args : List NV} {v : NV} (hr : topIs P S n f args v = true) : TabOK P (addS f args v S) := by
  intro ι B h w g l l' u hg hR hB hl
  have hg' : cond (Nat.beq g f) (cond (sameD (sameV 3) l args) (some v) (S g l)) (S g l) = some u := hg
  by_cases h1 : Nat.beq g f = true ∧ sameD (sameV 3) l args = true
  · obtain ⟨h2, h3⟩ := h1
    rw [h2, h3] at hg'
    cases hg'
    have := Nat.eq_of_beq_eq_true h2
    subst this
    have := sameD_eq (sameV_eq 3) h3
    subst this
    unfold topIs at hr
    split at hr
    · rename_i u x h0 hrun
      obtain ⟨p1, hr⟩ := condB hr
      obtain ⟨p2, hr⟩ := condB hr
      have := sameV_eq _ _ _ hr
      subst this
      intro c cs
      have hcalls := top_val hM hP hS hrun (hl.plain p1) w
      obtain ⟨e, w', fr, ⟨⟨ι1, v', he, hv, _⟩, hb⟩, hcomes, hfn, hleave⟩ := hcalls (c :: cs)
      subst he
      obtain ⟨nf, hnf⟩ := codeF_enter (show codeF P (ev P S n) 3 g l none ⟨.leaf, .e⟩ ≠ .fail by rw [show codeF P (ev P S n) 3 g l none ⟨.leaf, .e⟩ = _ from hrun]; simp)
      obtain ⟨fn, code, e1, e2, e3, _⟩ := compF_inv hnf
      refine ⟨ι, v', w', hv.plain p2, ⟨fun i p hi => ?_, hR.inj, hR.base, fun i p hi => Nat.lt_of_lt_of_le (hR.lt i p hi) hb.size, hR.fresh⟩, Nat.le_trans hB hb.size, ?_, .inr ⟨w, .inl ⟨g, l'.toArray, run_enter e1 e2 e3 _ w, Steps.trans hcomes (.one (step_leave_returned hleave))⟩⟩⟩
      · obtain ⟨o, o1, o2⟩ := hR.obj i p hi
        exact ⟨o, o1, o2.mono (Inj.le_refl _) (hb.block _ (hR.lt i p hi))⟩
      · exact ⟨Inj.le_refl _, Nat.le_refl _, fun _ _ x => .inl x, fun i p x y => .inr ⟨i, p, x, y, rfl⟩, fun _ _ _ => rfl, hb.size, hb.os, hb.tape, hb.output, fun b hb' _ => hb.block b hb'⟩
    · cases hr
  · have : S g l = some u := by
      cases h2 : Nat.beq g f with
      | false => rw [h2] at hg'; exact hg'
      | true =>
        rw [h2] at hg'
        cases h3 : sameD (sameV 3) l args with
        | false => rw [h3] at hg'; exact hg'
        | true => exact absurd ⟨h2, h3⟩ h1
    exact hS ι B h w g l l' u this hR hB hl

/-! # code that is worked out once -/
/-- one function's code -/
noncomputable def leafC (P : Program) (k : Nat) (nf : NFun) (f : Nat) : Option NFn := cond (Nat.beq f k) (some (.code nf)) (compF P f)
noncomputable def nodeC (m : Nat) (a b : Nat → Option NFn) (f : Nat) : Option NFn := cond (Nat.ble f m) (a f) (b f)
def CodeIs (P : Program) (cf : Nat → Option NFn) : Prop := ∀ f, cf f = compF P f
omit [Val] in
theorem leafC_is {P : Program} {k : Nat} {nf : NFun} (h : compF P k = some (.code nf)) : CodeIs P (leafC P k nf) := fun f => by
  unfold leafC
  cases hb : Nat.beq f k with
  | false => rfl
  | true => rw [Nat.eq_of_beq_eq_true hb]; exact h.symm
omit [Val] in
theorem nodeC_is {P : Program} {m : Nat} {a b : Nat → Option NFn} (ha : CodeIs P a) (hb : CodeIs P b) : CodeIs P (nodeC m a b) := fun f => by
  unfold nodeC
  cases Nat.ble f m with
  | false => exact hb f
  | true => exact ha f
omit [Val] in
theorem CodeIs.run {P : Program} {cf : Nat → Option NFn} (h : CodeIs P cf) {S : Nat → List NV → Option NV} {n f : Nat} {args : List NV} (hr : topTrue cf S n f args = true) : topTrue P S n f args = true := by
  have e : cf = compF P := funext h
  rw [e] at hr; exact hr
omit [Val] in
theorem CodeIs.kept {P : Program} {cf : Nat → Option NFn} (h : CodeIs P cf) {S : Nat → List NV → Option NV} {n f : Nat} {args : List NV} {v : NV} (hr : topIs cf S n f args v = true) : topIs P S n f args v = true := by
  have e : cf = compF P := funext h
  rw [e] at hr; exact hr
end Nm
namespace Nm
open Go Go.RowKit
/-! # answers that are kept for a row of numbers -/
noncomputable section
def sumF (σ : Nat → Nat) (ts : List ST) : Nat := List.rec 0 (fun t _ r => ST.rec (fun m i _ _ => Nat.add (Nat.mul m (σ i)) r) t) ts
mutual
/-- a value with its symbolic numbers laid in -/
def instV (σ : Nat → Nat) : NV → NV
  | .int k (.sym c ts) => .int k (.lit (addI c (.ofNat (sumF σ ts))))
  | .ifc t v => .ifc t (instV σ v)
  | .agg l => .agg (instL σ l)
  | .tup l => .tup (instL σ l)
  | v => v
def instL (σ : Nat → Nat) : List NV → List NV
  | [] => []
  | v :: l => instV σ v :: instL σ l
end
end
theorem sumF_eq (V : Val) (ts : List ST) : sumF V.σ ts = sumT ts := by
  induction ts with
  | nil => rfl
  | cons t ts ih =>
    obtain ⟨m, i, lo, hi⟩ := t
    show m * V.σ i + sumF V.σ ts = m * V.σ i + sumT ts
    rw [ih]
/-- whatever the numbers are -/
def VRall (ι : Inj) (v : NV) (v' : Value) : Prop := ∀ V0 : Val, @VR V0 ι v v'
def VRLall (ι : Inj) (v : List NV) (v' : List Value) : Prop := ∀ V0 : Val, @VRL V0 ι v v'
mutual
theorem VR.inst [V : Val] {ι ι' : Inj} : ∀ {v : NV} {v' : Value}, VR ι v v' → plainV v = true → VRall ι' (instV V.σ v) v'
  | _, _, .bool b, _ => fun V0 => by rw [instV]; exact .bool b; all_goals nofun
  | _, _, .int k n, _ => fun V0 => by rw [instV]; exact .int k n; all_goals nofun
  | _, _, .ige k a n h, _ => fun V0 => by rw [instV]; exact .ige k a n h; all_goals nofun
  | _, _, .ile k a n h, _ => fun V0 => by rw [instV]; exact .ile k a n h; all_goals nofun
  | _, _, .sym k c ts n h hn, _ => fun V0 => by
    rw [instV, addI_eq, sumF_eq, hn]
    exact .int k _
  | _, _, .str l s h, _ => fun V0 => by rw [instV]; exact .str l s h; all_goals nofun
  | _, _, .nilp, _ => fun V0 => by rw [instV]; exact .nilp; all_goals nofun
  | _, _, .ptr .., h => by simp [plainV] at h
  | _, _, .nils, _ => fun V0 => by rw [instV]; exact .nils; all_goals nofun
  | _, _, .slc .., h => by simp [plainV] at h
  | _, _, .nilm, _ => fun V0 => by rw [instV]; exact .nilm; all_goals nofun
  | _, _, .map .., h => by simp [plainV] at h
  | _, _, .nilf, _ => fun V0 => by rw [instV]; exact .nilf; all_goals nofun
  | _, _, .fn .., h => by simp [plainV] at h
  | _, _, .yld .., h => by simp [plainV] at h
  | _, _, .nili, _ => fun V0 => by rw [instV]; exact .nili; all_goals nofun
  | _, _, .ifc t v v' h, k => fun V0 => by rw [instV]; exact .ifc t _ v' (@VR.inst V _ _ _ _ h (by simpa [plainV] using k) V0)
  | _, _, .agg l l' h h1, k => fun V0 => by rw [instV]; exact .agg _ l' (@VRL.inst V _ _ _ _ h (by simpa [plainV] using k) V0) h1
  | _, _, .tup l l' h, k => fun V0 => by rw [instV]; exact .tup _ l' (@VRL.inst V _ _ _ _ h (by simpa [plainV] using k) V0)
theorem VRL.inst [V : Val] {ι ι' : Inj} : ∀ {l : List NV} {l' : List Value}, VRL ι l l' → plainL l = true → VRLall ι' (instL V.σ l) l'
  | _, _, .nil, _ => fun V0 => by rw [instL]; exact .nil
  | _, _, .cons v v' l l' h hl, k => fun V0 => by rw [instL]; exact .cons _ v' _ l' (@VR.inst V _ _ _ _ h (by simp [plainL] at k; exact k.1) V0) (@VRL.inst V _ _ _ _ hl (by simp [plainL] at k; exact k.2) V0)
end
/-- the number of which w is c and m times it, if it is such -/
noncomputable def fitN (c m : Nat) (t : Nat → Bool) (w : Nat) : Option Nat := cond (Nat.ble c w) (forceN (Nat.div (Nat.sub w c) m) fun n => cond (Nat.beq (Nat.add c (Nat.mul m n)) w) (cond (t n) (some n) none) none) none
noncomputable def litArg (k : IntKind) (l : List NV) : Option Nat := match l with | [.int k' (.lit (.ofNat w))] => cond (eqK k k') (some w) none | _ => none
/-- the answers of a function of one number, of which one was worked out with a symbolic number -/
noncomputable def addG (f : Nat) (k : IntKind) (c m : Nat) (t : Nat → Bool) (d : Nat → Nat → Nat) (v : NV) (S : Nat → List NV → Option NV) : Nat → List NV → Option NV := fun g l =>
  cond (Nat.beq g f) (match (match litArg k l with | some w => fitN c m t w | none => none) with | some n => some (instV (lowVal (d n)).σ v) | none => S g l) (S g l)
theorem gen_call [V : Val] {P : Program} {S : Nat → List NV → Option NV} (hM : P.follows .mixedOrders = true) (hP : P.check = .ok ()) (hS : TabOK P S) {n g : Nat} {args : List NV} {u : NV} {x : Option NV} {h0 : NH} (hrun : topRun P S n g args = .val u x h0) (hp : plainV u = true)
    {args' : List Value} (ha : VRL ι0 args args') (w : World) (c : Frame) (cs : List Frame) :
    ∃ v' w', (∀ (V0 : Val) (ι : Inj), @VR V0 ι (instV V.σ u) v') ∧ Below w.heap.size w w' ∧ ((callFunc g args'.toArray).run P w = .ok (.value v') w' ∨ ∃ w1, ((∃ f args, (callFunc g args'.toArray).run P w = .ok (.enter f args) w1 ∧ Steps P (lone (Frame.enter P f args .normal) (c :: cs) w1) (lone (c.finish v') cs w')) ∨
        (∃ l f tm x y, (callFunc g args'.toArray).run P w = .ok (.round l f tm x y) w1 ∧ Steps P (lone (Frame.round l f tm x y .normal) (c :: cs) w1) (lone (c.finish v') cs w')))) := by
  have hcalls := top_val hM hP hS hrun ha w
  obtain ⟨e, w', fr, ⟨⟨ι1, v', he, hv, _⟩, hb⟩, hcomes, hfn, hleave⟩ := hcalls (c :: cs)
  subst he
  obtain ⟨nf, hnf⟩ := codeF_enter (show codeF P (ev P S n) 3 g args none ⟨.leaf, .e⟩ ≠ .fail by rw [show codeF P (ev P S n) 3 g args none ⟨.leaf, .e⟩ = _ from hrun]; simp)
  obtain ⟨fn, code, e1, e2, e3, _⟩ := compF_inv hnf
  exact ⟨v', w', (fun V0 ι => @VR.inst V _ ι _ _ hv hp V0), hb, .inr ⟨w, .inl ⟨g, _, run_enter e1 e2 e3 _ w, Steps.trans hcomes (.one (step_leave_returned hleave))⟩⟩⟩
theorem gen_arg {x c m z : Nat} {k : IntKind} {t : Nat → Bool} {d : Nat → Nat → Nat} {ts : List ST} (hd : ∀ x, t x = true → @okT (lowVal (d x)) ts ∧ @sumT (lowVal (d x)) ts = m * x) (h1 : z = c + m * x) (h2 : t x = true) : @VRL (lowVal (d x)) ι0 [.int k (.sym (.ofNat c) ts)] [.int k (.ofNat z)] := by
  letI V : Val := lowVal (d x)
  obtain ⟨a, b⟩ := hd x h2
  exact .cons _ _ _ _ (.sym _ _ _ _ a (by
    rw [b, h1]
    show ((c + m * x : Nat) : Int) = (c : Int) + ((m * x : Nat) : Int)
    push_cast; rfl)) .nil
theorem tab_gen [Val] {P : Program} {S S0 : Nat → List NV → Option NV} (hM : P.follows .mixedOrders = true) (hP : P.check = .ok ()) (hS : TabOK P S) (hS0 : ∀ V : Val, @TabOK V P S0) {n f : Nat} {k : IntKind} {c m : Nat} {t : Nat → Bool} {d : Nat → Nat → Nat} {ts : List ST} {v : NV}
    (hr : topIs P S0 n f [.int k (.sym (.ofNat c) ts)] v = true) (hd : ∀ x, t x = true → @okT (lowVal (d x)) ts ∧ @sumT (lowVal (d x)) ts = m * x) : TabOK P (addG f k c m t d v S) := by
  intro ι B h w g l l' u hg hR hB hl
  unfold addG at hg
  cases h1 : Nat.beq g f with
  | false => rw [h1] at hg; exact hS ι B h w g l l' u hg hR hB hl
  | true =>
    rw [h1] at hg
    simp only [cond_true] at hg
    have := Nat.eq_of_beq_eq_true h1
    subst this
    split at hg
    · rename_i x hx
      cases hg
      split at hx
      · rename_i z hz
        -- the argument
        have hl1 : l = [.int k (.lit (.ofNat z))] := by
          unfold litArg at hz
          split at hz
          · rename_i k' w'
            cases he : eqK k k' with
            | false => rw [he] at hz; cases hz
            | true => rw [he] at hz; cases hz; rw [eqK_eq he]
          · cases hz
        subst hl1
        -- the number
        have hfit : z = c + m * x ∧ t x = true := by
          unfold fitN at hx
          rw [forceN_eq] at hx
          cases q1 : Nat.ble c z with
          | false => rw [q1] at hx; cases hx
          | true =>
            rw [q1] at hx
            simp only [cond_true] at hx
            cases q2 : Nat.beq (Nat.add c (Nat.mul m (Nat.div (Nat.sub z c) m))) z with
            | false => rw [q2] at hx; cases hx
            | true =>
              rw [q2] at hx
              simp only [cond_true] at hx
              cases q3 : t (Nat.div (Nat.sub z c) m) with
              | false => rw [q3] at hx; cases hx
              | true =>
                rw [q3] at hx
                cases hx
                exact ⟨(Nat.eq_of_beq_eq_true q2).symm, q3⟩
        cases hl with
        | cons _ v1 _ _ hv1 hnil =>
          cases hnil
          cases hv1
          unfold topIs at hr
          split at hr
          · rename_i u x0 h0 hrun
            obtain ⟨p1, hr⟩ := condB hr
            obtain ⟨p2, hr⟩ := condB hr
            have := sameV_eq _ _ _ hr
            subst this
            intro cc cs
            have harg : @VRL (lowVal (d x)) ι0 [.int k (.sym (.ofNat c) ts)] [.int k (.ofNat z)] := gen_arg hd hfit.1 hfit.2
            obtain ⟨v', w', hv, hb, hret⟩ := @gen_call (lowVal (d x)) P S0 hM hP (hS0 _) n g _ _ _ _ hrun p2 _ harg w cc cs
            refine ⟨ι, v', w', hv _ _, ⟨fun i p hi => ?_, hR.inj, hR.base, fun i p hi => Nat.lt_of_lt_of_le (hR.lt i p hi) hb.size, hR.fresh⟩, Nat.le_trans hB hb.size, ?_, hret⟩
            · obtain ⟨o, o1, o2⟩ := hR.obj i p hi
              exact ⟨o, o1, o2.mono (Inj.le_refl _) (hb.block _ (hR.lt i p hi))⟩
            · exact ⟨Inj.le_refl _, Nat.le_refl _, fun _ _ x => .inl x, fun i p x y => .inr ⟨i, p, x, y, rfl⟩, fun _ _ _ => rfl, hb.size, hb.os, hb.tape, hb.output, fun b hb' _ => hb.block b hb'⟩
          · cases hr
      · cases hx
    · exact hS ι B h w g l l' u hg hR hB hl

end Nm
