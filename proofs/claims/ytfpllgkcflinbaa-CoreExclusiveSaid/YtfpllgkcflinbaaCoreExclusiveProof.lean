/- The law CoreExclusive of the document returns true for every input, and its arguments read behind the call as they read before. No condition. -/
import Derived.Test.YtfpllgkcflinbaaRows
import Derived.WalkKit
import Derived.ProofKit
import Derived.OpenShut
import Derived.Below
import Derived.ChangeSame
import Derived.Test.YtfpllgkcflinbaaCoreExclusiveBase
import Derived.Test.YtfpllgkcflinbaaCoreExclusiveRuns0
import Derived.Test.YtfpllgkcflinbaaCoreExclusiveRuns1
import Derived.Test.YtfpllgkcflinbaaCoreExclusiveRuns2
import Derived.Test.YtfpllgkcflinbaaChecked
import Derived.Test.YtfpllgkcflinbaaCoreExclusiveFacts
namespace Go.Proofs.Ytfpllgkcflinbaa.coreExclusive
open Nm Go.ChangeShapes Go.WideShapes Go.ChangeAt Go.RowKit
set_option linter.unusedVariables false      -- a walk need not use every 'w<i>' (that an integer argument fits its kind)

theorem own : ownKnob Try.prog.godebug = none := by kernel_rfl

theorem mixed : Try.prog.follows .mixedOrders = true := by kernel_rfl
variable [Val] in
theorem tabOK0 : TabOK Try.prog tab0 := tab_add mixed Try.codeOk tab_none kept_alive
section
variable {H : Type} {enc : TypeId × Value → H} {P : Program}
/-- what a call leaves that turned nothing that was there -/
theorem post_below {f : Func} {s : ChangeSpec} {apart fresh handsOn again : Bool} {W W' : World} {args : Array Value} {v : Value} {ds gs : List (DataW H)} {before pa pv : List MemPlace}
    (hW : DataW.Whole enc P f.params.toList s.vars apart W args.toList ds gs before)
    (hres : ∀ (b : Nat) (sp : Nat → Bool) (hd : Bool), DataW.TrodAll enc P W' b sp hd f.resultTypes.toList (v.resultList f.resultTypes.size) (s.fn H (ds ++ gs)).results [])
    (hargs : ∀ sp : Nat → Bool, (∀ p ∈ before, sp p.block = true) → DataW.TrodAll enc P W' 0 sp true f.params.toList args.toList (s.fn H (ds ++ gs)).args pa)
    (hvars : ∀ sp : Nat → Bool, (∀ p ∈ before, sp p.block = true) → DataW.TrodVars enc P W' sp s.vars (s.fn H (ds ++ gs)).vars pv)
    (hps : before = pa ++ pv) (hb : Below W.heap.size W W')
    (hok : ∀ (j : Nat) (t : TypeId) (r : Value), f.resultTypes[j]? = some t → (v.resultList f.resultTypes.size)[j]? = some r → Value.okWide P W' .any 0 t r) :
    s.post enc P f apart fresh handsOn again W args v W' := by
  have hlt : ∀ p ∈ before, p.block < W.heap.size := fun p hp => hW.lt p hp
  have hold : ∀ p ∈ before, (fun b => decide (b < W.heap.size)) p.block = true := fun p hp => by simpa using hlt p hp
  refine ⟨ds, gs, before, [], pa, pv, hW, hres _ _ _, hargs _ hold, hvars _ hold, World.keptBut_mono (fun p hp => ⟨hp, ?_⟩) (hb.frame (· ∈ before)), fun _ => ?_⟩
  · rw [hps, List.mem_append] at hp
    exact Or.inr hp
  · obtain ⟨_, _, _, _, _, hz, hn⟩ := hW
    refine ⟨hok, _, _, ([] ++ pa) ++ pv, ⟨[] ++ pa, pv, trodAll_append (hargs _ (fun _ _ => rfl)) (hres _ _ _), hvars _ (fun _ _ => rfl), rfl, ?_, ?_⟩, ?_⟩
    · intro b off hp
      have hin : MemPlace.cell b off ∈ before := by rw [hps]; simpa using hp
      rw [hb.frozen (hlt _ hin)]
      exact hz b off hin
    · intro ha
      have := hn ha
      rw [hps] at this
      simpa using this
    · intro p hp _
      rw [hps]
      simpa using hp
end

/-! ### STEP 1: THE WALK: the Go text returns true. 'Grown w w'': the world has at most new blocks (Derived/RowKit3.lean). Part the cases AHEAD of 'go_enter' where a test parts the walk; take each callee by a contract of your own. -/
theorem walk (a0 : Bool) (a1 : Bool) (a2 : Int) (w2 : (Lit.int .i64 a2).wf = true) (w : World) :
    Calls Try.prog 10 #[.bool a0, .bool a1, .int .i64 a2] w fun e w' => e = .returned (.bool true) ∧ Below w.heap.size w w' := by
  have go : ∀ (V : Val) {l : List NV}, VRL ι0 l [.bool a0, .bool a1, .int .i64 a2] → topTrue Try.prog tab0 2000 10 l = true → Calls Try.prog 10 #[.bool a0, .bool a1, .int .i64 a2] w fun e w' => e = .returned (.bool true) ∧ Below w.heap.size w w' := by
    intro V l hv hr
    exact top_true mixed Try.codeOk tabOK0 hr (args' := [.bool a0, .bool a1, .int .i64 a2]) hv w
  cases a0 with
  | true =>
    cases a1 with
    | true =>
      by_cases hb : a2 ≤ -1
      · exact (fun (V : Val) (_ : True) => (by refine go V ?_ run_t_t_le; exact .cons _ _ _ _ (.bool _) (.cons _ _ _ _ (.bool _) (.cons _ _ _ _ (.ile _ _ _ hb) (.nil))))) (stdVal) trivial
      by_cases ha : 65536 ≤ a2
      · exact (fun (V : Val) (_ : True) => (by refine go V ?_ run_t_t_ge; exact .cons _ _ _ _ (.bool _) (.cons _ _ _ _ (.bool _) (.cons _ _ _ _ (.ige _ _ _ ha) (.nil))))) (stdVal) trivial
      obtain ⟨x, rfl, hx⟩ : ∃ x : Nat, a2 = x ∧ x ≤ 65535 := ⟨a2.toNat, by omega, by omega⟩
      exact (fun (V : Val) (e0 : V.σ 0 = x) => (by refine go V ?_ run_t_t_in; exact .cons _ _ _ _ (.bool _) (.cons _ _ _ _ (.bool _) (.cons _ _ _ _ (.sym _ _ _ _ (okT_cons (by rw [e0]; omega) (by rw [e0]; omega) okT_nil) (by show ((x : Nat) : Int) = 0 + ((1 * Val.σ 0 + 0) : Nat); rw [e0]; omega)) (.nil))))) (lowVal fun _ => x) rfl
    | false =>
      by_cases hb : a2 ≤ -1
      · exact (fun (V : Val) (_ : True) => (by refine go V ?_ run_t_f_le; exact .cons _ _ _ _ (.bool _) (.cons _ _ _ _ (.bool _) (.cons _ _ _ _ (.ile _ _ _ hb) (.nil))))) (stdVal) trivial
      by_cases ha : 65536 ≤ a2
      · exact (fun (V : Val) (_ : True) => (by refine go V ?_ run_t_f_ge; exact .cons _ _ _ _ (.bool _) (.cons _ _ _ _ (.bool _) (.cons _ _ _ _ (.ige _ _ _ ha) (.nil))))) (stdVal) trivial
      obtain ⟨x, rfl, hx⟩ : ∃ x : Nat, a2 = x ∧ x ≤ 65535 := ⟨a2.toNat, by omega, by omega⟩
      exact (fun (V : Val) (e0 : V.σ 0 = x) => (by refine go V ?_ run_t_f_in; exact .cons _ _ _ _ (.bool _) (.cons _ _ _ _ (.bool _) (.cons _ _ _ _ (.sym _ _ _ _ (okT_cons (by rw [e0]; omega) (by rw [e0]; omega) okT_nil) (by show ((x : Nat) : Int) = 0 + ((1 * Val.σ 0 + 0) : Nat); rw [e0]; omega)) (.nil))))) (lowVal fun _ => x) rfl
  | false =>
    cases a1 with
    | true =>
      by_cases hb : a2 ≤ -1
      · exact (fun (V : Val) (_ : True) => (by refine go V ?_ run_f_t_le; exact .cons _ _ _ _ (.bool _) (.cons _ _ _ _ (.bool _) (.cons _ _ _ _ (.ile _ _ _ hb) (.nil))))) (stdVal) trivial
      by_cases ha : 65536 ≤ a2
      · exact (fun (V : Val) (_ : True) => (by refine go V ?_ run_f_t_ge; exact .cons _ _ _ _ (.bool _) (.cons _ _ _ _ (.bool _) (.cons _ _ _ _ (.ige _ _ _ ha) (.nil))))) (stdVal) trivial
      obtain ⟨x, rfl, hx⟩ : ∃ x : Nat, a2 = x ∧ x ≤ 65535 := ⟨a2.toNat, by omega, by omega⟩
      exact (fun (V : Val) (e0 : V.σ 0 = x) => (by refine go V ?_ run_f_t_in; exact .cons _ _ _ _ (.bool _) (.cons _ _ _ _ (.bool _) (.cons _ _ _ _ (.sym _ _ _ _ (okT_cons (by rw [e0]; omega) (by rw [e0]; omega) okT_nil) (by show ((x : Nat) : Int) = 0 + ((1 * Val.σ 0 + 0) : Nat); rw [e0]; omega)) (.nil))))) (lowVal fun _ => x) rfl
    | false =>
      by_cases hb : a2 ≤ -1
      · exact (fun (V : Val) (_ : True) => (by refine go V ?_ run_f_f_le; exact .cons _ _ _ _ (.bool _) (.cons _ _ _ _ (.bool _) (.cons _ _ _ _ (.ile _ _ _ hb) (.nil))))) (stdVal) trivial
      by_cases ha : 65536 ≤ a2
      · exact (fun (V : Val) (_ : True) => (by refine go V ?_ run_f_f_ge; exact .cons _ _ _ _ (.bool _) (.cons _ _ _ _ (.bool _) (.cons _ _ _ _ (.ige _ _ _ ha) (.nil))))) (stdVal) trivial
      obtain ⟨x, rfl, hx⟩ : ∃ x : Nat, a2 = x ∧ x ≤ 65535 := ⟨a2.toNat, by omega, by omega⟩
      exact (fun (V : Val) (e0 : V.σ 0 = x) => (by refine go V ?_ run_f_f_in; exact .cons _ _ _ _ (.bool _) (.cons _ _ _ _ (.bool _) (.cons _ _ _ _ (.sym _ _ _ _ (okT_cons (by rw [e0]; omega) (by rw [e0]; omega) okT_nil) (by show ((x : Nat) : Int) = 0 + ((1 * Val.σ 0 + 0) : Nat); rw [e0]; omega)) (.nil))))) (lowVal fun _ => x) rfl

/-! ### THE ROW's STEP: WRITTEN OUT: LEAVE IT -/
set_option maxRecDepth 100000 in
theorem lifted (os : Os) (started : os.Started) (H : Type) (enc : TypeId × Value → H) :
    ReturnsInHanded {} Try.checked os 10 .any (Rows.coreExclusiveSpec.pre6 enc Try.prog Try.f10 Rows.coreExclusiveRow.domain false) (Rows.coreExclusiveSpec.post enc Try.prog Try.f10 false true false false) := by
  refine returnsInHanded_of_change (C := Try.checked) own started (by kernel_rfl) Try.func10
    (ChangeSpec.witness6 (enc := enc) (C := Try.checked) false ⟨#[], #[.bool false, .bool false, .int .i64 0], []⟩ 8 (by kernel_rfl) (by kernel_rfl) (by kernel_rfl) (by kernel_rfl)) ?_
  intro W base args ds gs before hval0 hW hcnd _
  have hval : ∀ (j : Nat) t v, Try.f10.params[j]? = some t → args[j]? = some v → Value.okWide Try.prog W .any base t v := hval0
  have hW' := hW
  obtain ⟨p, q, hA0, hV, rfl, hfz, hnd⟩ := hW
  have hA : DataW.TrodAll enc Try.prog W 0 (fun _ => true) true Try.f10.params.toList args.toList ds p := hA0
  rw [Try.params10] at hA hval
  obtain ⟨v0, vs0, d0, ds0, p0, q0, hargs, rfl, rfl, h0, r0⟩ := trodAll_cons hA
  obtain ⟨v1, vs1, d1, ds1, p1, q1, rfl, rfl, rfl, h1, r1⟩ := trodAll_cons r0
  obtain ⟨v2, vs2, d2, ds2, p2, q2, rfl, rfl, rfl, h2, r2⟩ := trodAll_cons r1
  obtain ⟨rfl, rfl, rfl⟩ := trodAll_nil r2
  obtain rfl : args = #[v0, v1, v2] := by cases args; simp_all
  obtain ⟨rfl, rfl⟩ := trodVars_none hV
  obtain ⟨a0, rfl, rfl, rfl⟩ := open_bool Try.underlying4 (hval 0 4 v0 rfl rfl) h0
  obtain ⟨a1, rfl, rfl, rfl⟩ := open_bool Try.underlying4 (hval 1 4 v1 rfl rfl) h1
  obtain ⟨a2, rfl, rfl, rfl, w2⟩ := open_int Try.underlying3 (hval 2 3 v2 rfl rfl) h2
  clear hA0 hval0
  simp only [List.append_nil] at hW'
  refine (walk a0 a1 a2 w2 W).mono fun e W' ⟨he, hg⟩ => ?_
  subst he
  exact ⟨_, rfl, post_below (pa := []) (pv := []) hW' (fun _ _ _ => (trodAll_cons_mk (shut_bool Try.underlying4 _) trodAll_mk0)) (fun sp _ => (trodAll_cons_mk (shut_bool Try.underlying4 _) (trodAll_cons_mk (shut_bool Try.underlying4 _) (trodAll_cons_mk (shut_int Try.underlying3 w2) trodAll_mk0)))) (fun _ _ => rfl) rfl
    hg (ok_one (by kernel_rfl) rfl (okWide_bool_mk Try.underlying4 _))⟩

theorem over : Rows.coreExclusiveRow.holds Try.pinned (OpenSpec.ofChange Rows.coreExclusiveSpec) :=
  OpenClaim.holds_of_wide 10 Try.f10 rfl rfl rfl rfl rfl rfl rfl ⟨rfl, rfl, rfl, rfl, rfl⟩ rfl rfl rfl rfl rfl (by kernel_rfl) Try.func10 facts
    (of_decide_eq_true (by kernel_rfl)) (by unfold Func.isWrapper; first | (rw [if_pos (by decide +kernel)]; kernel_rfl) | (rw [if_neg (by decide +kernel)]; exact ⟨rfl, rfl⟩))
    (fun os started H enc _ => lifted os started H enc)

/-- ████ THE STATEMENT ████ -/
theorem proved : Rows.CoreExclusiveSaid :=
  over
#print axioms proved
end Go.Proofs.Ytfpllgkcflinbaa.coreExclusive
