/- The law CoreForwards of the document returns true for every input, and its arguments read behind the call as they read before. No condition. -/
import Derived.Test.YtfpllgkcflinbaaRows
import Derived.WalkKit
import Derived.ProofKit
import Derived.OpenShut
import Derived.Below
import Derived.ChangeSame
import Derived.Test.YtfpllgkcflinbaaCoreForwardsBase
import Derived.Test.YtfpllgkcflinbaaCoreForwardsRuns0
import Derived.Test.YtfpllgkcflinbaaCoreForwardsRuns1
import Derived.Test.YtfpllgkcflinbaaCoreForwardsRuns2
import Derived.Test.YtfpllgkcflinbaaCoreForwardsRuns3
import Derived.Test.YtfpllgkcflinbaaCoreForwardsRuns4
import Derived.Test.YtfpllgkcflinbaaCoreForwardsRuns5
import Derived.Test.YtfpllgkcflinbaaCoreForwardsRuns6
import Derived.Test.YtfpllgkcflinbaaChecked
import Derived.Test.YtfpllgkcflinbaaCoreForwardsFacts
namespace Go.Proofs.Ytfpllgkcflinbaa.coreForwards
open Nm Go.ChangeShapes Go.WideShapes Go.ChangeAt Go.RowKit
set_option linter.unusedVariables false      -- a walk need not use every 'w<i>' (that an integer argument fits its kind)

theorem own : ownKnob Try.prog.godebug = none := by kernel_rfl

theorem mixed : Try.prog.follows .mixedOrders = true := by kernel_rfl
variable [Val] in
theorem tabOK0 : TabOK Try.prog tab0 := tab_add mixed Try.codeOk tab_none kept_alive
section
variable {H : Type} {enc : TypeId × Value → H} {P : Program}
/-- what a call leaves that turned nothing that was there -/
theorem post_below {f : Func} {s : ChangeSpec} {apart fresh handsOn again : Bool} {W W' : World} {args : Array Value} {v : Value} {ds gs : List (DataW H)} {before pa pv : List MemPlace}
    (hW : DataW.Whole enc P f.params.toList s.vars apart W args.toList ds gs before)
    (hres : ∀ (b : Nat) (sp : Nat → Bool) (hd : Bool), DataW.TrodAll enc P W' b sp hd f.resultTypes.toList (v.resultList f.resultTypes.size) (s.fn H (ds ++ gs)).results [])
    (hargs : ∀ sp : Nat → Bool, (∀ p ∈ before, sp p.block = true) → DataW.TrodAll enc P W' 0 sp true f.params.toList args.toList (s.fn H (ds ++ gs)).args pa)
    (hvars : ∀ sp : Nat → Bool, (∀ p ∈ before, sp p.block = true) → DataW.TrodVars enc P W' sp s.vars (s.fn H (ds ++ gs)).vars pv)
    (hps : before = pa ++ pv) (hb : Below W.heap.size W W')
    (hok : ∀ (j : Nat) (t : TypeId) (r : Value), f.resultTypes[j]? = some t → (v.resultList f.resultTypes.size)[j]? = some r → Value.okWide P W' .any 0 t r) :
    s.post enc P f apart fresh handsOn again W args v W' := by
  have hlt : ∀ p ∈ before, p.block < W.heap.size := fun p hp => hW.lt p hp
  have hold : ∀ p ∈ before, (fun b => decide (b < W.heap.size)) p.block = true := fun p hp => by simpa using hlt p hp
  refine ⟨ds, gs, before, [], pa, pv, hW, hres _ _ _, hargs _ hold, hvars _ hold, World.keptBut_mono (fun p hp => ⟨hp, ?_⟩) (hb.frame (· ∈ before)), fun _ => ?_⟩
  · rw [hps, List.mem_append] at hp
    exact Or.inr hp
  · obtain ⟨_, _, _, _, _, hz, hn⟩ := hW
    refine ⟨hok, _, _, ([] ++ pa) ++ pv, ⟨[] ++ pa, pv, trodAll_append (hargs _ (fun _ _ => rfl)) (hres _ _ _), hvars _ (fun _ _ => rfl), rfl, ?_, ?_⟩, ?_⟩
    · intro b off hp
      have hin : MemPlace.cell b off ∈ before := by rw [hps]; simpa using hp
      rw [hb.frozen (hlt _ hin)]
      exact hz b off hin
    · intro ha
      have := hn ha
      rw [hps] at this
      simpa using this
    · intro p hp _
      rw [hps]
      simpa using hp
end

/-! ### STEP 1: THE WALK: the Go text returns true. 'Grown w w'': the world has at most new blocks (Derived/RowKit3.lean). Part the cases AHEAD of 'go_enter' where a test parts the walk; take each callee by a contract of your own. -/
theorem walk (a0 : Int) (a1 : Bool) (a2 : Int) (w0 : (Lit.int .u64 a0).wf = true) (w2 : (Lit.int .i64 a2).wf = true) (w : World) :
    Calls Try.prog 15 #[.int .u64 a0, .bool a1, .int .i64 a2] w fun e w' => e = .returned (.bool true) ∧ Below w.heap.size w w' := by
  have go : ∀ (V : Val) {l : List NV}, VRL ι0 l [.int .u64 a0, .bool a1, .int .i64 a2] → topTrue Try.prog tab0 2000 15 l = true → Calls Try.prog 15 #[.int .u64 a0, .bool a1, .int .i64 a2] w fun e w' => e = .returned (.bool true) ∧ Below w.heap.size w w' := by
    intro V l hv hr
    exact top_true mixed Try.codeOk tabOK0 hr (args' := [.int .u64 a0, .bool a1, .int .i64 a2]) hv w
  obtain ⟨y, rfl, hy⟩ := nat_u64 w0
  obtain ⟨q, r, hr, hq, e⟩ : ∃ q r, r ≤ 65535 ∧ q ≤ 281474976710655 ∧ y = r + 65536 * q := ⟨y / 65536, y % 65536, by omega, by omega, by omega⟩
  cases a1 with
  | true =>
    by_cases hb : a2 ≤ -1
    · exact (fun (V : Val) (e0 : V.σ 0 = r) (e1 : V.σ 1 = q) => (by refine go V ?_ run_t_le; exact .cons _ _ _ _ (.sym _ _ _ _ (okT_cons (by rw [e0]; omega) (by rw [e0]; omega) (okT_cons (by rw [e1]; omega) (by rw [e1]; omega) okT_nil)) (by show ((y : Nat) : Int) = 0 + ((1 * Val.σ 0 + (65536 * Val.σ 1 + 0)) : Nat); rw [e0, e1]; omega)) (.cons _ _ _ _ (.bool _) (.cons _ _ _ _ (.ile _ _ _ hb) (.nil))))) (lowVal fun i => if i = 0 then r else q) rfl rfl
    by_cases ha : 8 ≤ a2
    · exact (fun (V : Val) (e0 : V.σ 0 = r) (e1 : V.σ 1 = q) => (by refine go V ?_ run_t_ge; exact .cons _ _ _ _ (.sym _ _ _ _ (okT_cons (by rw [e0]; omega) (by rw [e0]; omega) (okT_cons (by rw [e1]; omega) (by rw [e1]; omega) okT_nil)) (by show ((y : Nat) : Int) = 0 + ((1 * Val.σ 0 + (65536 * Val.σ 1 + 0)) : Nat); rw [e0, e1]; omega)) (.cons _ _ _ _ (.bool _) (.cons _ _ _ _ (.ige _ _ _ ha) (.nil))))) (lowVal fun i => if i = 0 then r else q) rfl rfl
    have hc : a2 = 0 ∨ a2 = 1 ∨ a2 = 2 ∨ a2 = 3 ∨ a2 = 4 ∨ a2 = 5 ∨ a2 = 6 ∨ a2 = 7 := by omega
    rcases hc with rfl | rfl | rfl | rfl | rfl | rfl | rfl | rfl
    · exact (fun (V : Val) (e0 : V.σ 0 = r) (e1 : V.σ 1 = q) => (by refine go V ?_ run_t_0; exact .cons _ _ _ _ (.sym _ _ _ _ (okT_cons (by rw [e0]; omega) (by rw [e0]; omega) (okT_cons (by rw [e1]; omega) (by rw [e1]; omega) okT_nil)) (by show ((y : Nat) : Int) = 0 + ((1 * Val.σ 0 + (65536 * Val.σ 1 + 0)) : Nat); rw [e0, e1]; omega)) (.cons _ _ _ _ (.bool _) (.cons _ _ _ _ (.int _ _) (.nil))))) (lowVal fun i => if i = 0 then r else q) rfl rfl
    · exact (fun (V : Val) (e0 : V.σ 0 = r) (e1 : V.σ 1 = q) => (by refine go V ?_ run_t_1; exact .cons _ _ _ _ (.sym _ _ _ _ (okT_cons (by rw [e0]; omega) (by rw [e0]; omega) (okT_cons (by rw [e1]; omega) (by rw [e1]; omega) okT_nil)) (by show ((y : Nat) : Int) = 0 + ((1 * Val.σ 0 + (65536 * Val.σ 1 + 0)) : Nat); rw [e0, e1]; omega)) (.cons _ _ _ _ (.bool _) (.cons _ _ _ _ (.int _ _) (.nil))))) (lowVal fun i => if i = 0 then r else q) rfl rfl
    · exact (fun (V : Val) (e0 : V.σ 0 = r) (e1 : V.σ 1 = q) => (by refine go V ?_ run_t_2; exact .cons _ _ _ _ (.sym _ _ _ _ (okT_cons (by rw [e0]; omega) (by rw [e0]; omega) (okT_cons (by rw [e1]; omega) (by rw [e1]; omega) okT_nil)) (by show ((y : Nat) : Int) = 0 + ((1 * Val.σ 0 + (65536 * Val.σ 1 + 0)) : Nat); rw [e0, e1]; omega)) (.cons _ _ _ _ (.bool _) (.cons _ _ _ _ (.int _ _) (.nil))))) (lowVal fun i => if i = 0 then r else q) rfl rfl
    · exact (fun (V : Val) (e0 : V.σ 0 = r) (e1 : V.σ 1 = q) => (by refine go V ?_ run_t_3; exact .cons _ _ _ _ (.sym _ _ _ _ (okT_cons (by rw [e0]; omega) (by rw [e0]; omega) (okT_cons (by rw [e1]; omega) (by rw [e1]; omega) okT_nil)) (by show ((y : Nat) : Int) = 0 + ((1 * Val.σ 0 + (65536 * Val.σ 1 + 0)) : Nat); rw [e0, e1]; omega)) (.cons _ _ _ _ (.bool _) (.cons _ _ _ _ (.int _ _) (.nil))))) (lowVal fun i => if i = 0 then r else q) rfl rfl
    · exact (fun (V : Val) (e0 : V.σ 0 = r) (e1 : V.σ 1 = q) => (by refine go V ?_ run_t_4; exact .cons _ _ _ _ (.sym _ _ _ _ (okT_cons (by rw [e0]; omega) (by rw [e0]; omega) (okT_cons (by rw [e1]; omega) (by rw [e1]; omega) okT_nil)) (by show ((y : Nat) : Int) = 0 + ((1 * Val.σ 0 + (65536 * Val.σ 1 + 0)) : Nat); rw [e0, e1]; omega)) (.cons _ _ _ _ (.bool _) (.cons _ _ _ _ (.int _ _) (.nil))))) (lowVal fun i => if i = 0 then r else q) rfl rfl
    · exact (fun (V : Val) (e0 : V.σ 0 = r) (e1 : V.σ 1 = q) => (by refine go V ?_ run_t_5; exact .cons _ _ _ _ (.sym _ _ _ _ (okT_cons (by rw [e0]; omega) (by rw [e0]; omega) (okT_cons (by rw [e1]; omega) (by rw [e1]; omega) okT_nil)) (by show ((y : Nat) : Int) = 0 + ((1 * Val.σ 0 + (65536 * Val.σ 1 + 0)) : Nat); rw [e0, e1]; omega)) (.cons _ _ _ _ (.bool _) (.cons _ _ _ _ (.int _ _) (.nil))))) (lowVal fun i => if i = 0 then r else q) rfl rfl
    · exact (fun (V : Val) (e0 : V.σ 0 = r) (e1 : V.σ 1 = q) => (by refine go V ?_ run_t_6; exact .cons _ _ _ _ (.sym _ _ _ _ (okT_cons (by rw [e0]; omega) (by rw [e0]; omega) (okT_cons (by rw [e1]; omega) (by rw [e1]; omega) okT_nil)) (by show ((y : Nat) : Int) = 0 + ((1 * Val.σ 0 + (65536 * Val.σ 1 + 0)) : Nat); rw [e0, e1]; omega)) (.cons _ _ _ _ (.bool _) (.cons _ _ _ _ (.int _ _) (.nil))))) (lowVal fun i => if i = 0 then r else q) rfl rfl
    · exact (fun (V : Val) (e0 : V.σ 0 = r) (e1 : V.σ 1 = q) => (by refine go V ?_ run_t_7; exact .cons _ _ _ _ (.sym _ _ _ _ (okT_cons (by rw [e0]; omega) (by rw [e0]; omega) (okT_cons (by rw [e1]; omega) (by rw [e1]; omega) okT_nil)) (by show ((y : Nat) : Int) = 0 + ((1 * Val.σ 0 + (65536 * Val.σ 1 + 0)) : Nat); rw [e0, e1]; omega)) (.cons _ _ _ _ (.bool _) (.cons _ _ _ _ (.int _ _) (.nil))))) (lowVal fun i => if i = 0 then r else q) rfl rfl
  | false =>
    by_cases hb : a2 ≤ -1
    · exact (fun (V : Val) (e0 : V.σ 0 = r) (e1 : V.σ 1 = q) => (by refine go V ?_ run_f_le; exact .cons _ _ _ _ (.sym _ _ _ _ (okT_cons (by rw [e0]; omega) (by rw [e0]; omega) (okT_cons (by rw [e1]; omega) (by rw [e1]; omega) okT_nil)) (by show ((y : Nat) : Int) = 0 + ((1 * Val.σ 0 + (65536 * Val.σ 1 + 0)) : Nat); rw [e0, e1]; omega)) (.cons _ _ _ _ (.bool _) (.cons _ _ _ _ (.ile _ _ _ hb) (.nil))))) (lowVal fun i => if i = 0 then r else q) rfl rfl
    by_cases ha : 8 ≤ a2
    · exact (fun (V : Val) (e0 : V.σ 0 = r) (e1 : V.σ 1 = q) => (by refine go V ?_ run_f_ge; exact .cons _ _ _ _ (.sym _ _ _ _ (okT_cons (by rw [e0]; omega) (by rw [e0]; omega) (okT_cons (by rw [e1]; omega) (by rw [e1]; omega) okT_nil)) (by show ((y : Nat) : Int) = 0 + ((1 * Val.σ 0 + (65536 * Val.σ 1 + 0)) : Nat); rw [e0, e1]; omega)) (.cons _ _ _ _ (.bool _) (.cons _ _ _ _ (.ige _ _ _ ha) (.nil))))) (lowVal fun i => if i = 0 then r else q) rfl rfl
    have hc : a2 = 0 ∨ a2 = 1 ∨ a2 = 2 ∨ a2 = 3 ∨ a2 = 4 ∨ a2 = 5 ∨ a2 = 6 ∨ a2 = 7 := by omega
    rcases hc with rfl | rfl | rfl | rfl | rfl | rfl | rfl | rfl
    · exact (fun (V : Val) (e0 : V.σ 0 = r) (e1 : V.σ 1 = q) => (by refine go V ?_ run_f_0; exact .cons _ _ _ _ (.sym _ _ _ _ (okT_cons (by rw [e0]; omega) (by rw [e0]; omega) (okT_cons (by rw [e1]; omega) (by rw [e1]; omega) okT_nil)) (by show ((y : Nat) : Int) = 0 + ((1 * Val.σ 0 + (65536 * Val.σ 1 + 0)) : Nat); rw [e0, e1]; omega)) (.cons _ _ _ _ (.bool _) (.cons _ _ _ _ (.int _ _) (.nil))))) (lowVal fun i => if i = 0 then r else q) rfl rfl
    · exact (fun (V : Val) (e0 : V.σ 0 = r) (e1 : V.σ 1 = q) => (by refine go V ?_ run_f_1; exact .cons _ _ _ _ (.sym _ _ _ _ (okT_cons (by rw [e0]; omega) (by rw [e0]; omega) (okT_cons (by rw [e1]; omega) (by rw [e1]; omega) okT_nil)) (by show ((y : Nat) : Int) = 0 + ((1 * Val.σ 0 + (65536 * Val.σ 1 + 0)) : Nat); rw [e0, e1]; omega)) (.cons _ _ _ _ (.bool _) (.cons _ _ _ _ (.int _ _) (.nil))))) (lowVal fun i => if i = 0 then r else q) rfl rfl
    · exact (fun (V : Val) (e0 : V.σ 0 = r) (e1 : V.σ 1 = q) => (by refine go V ?_ run_f_2; exact .cons _ _ _ _ (.sym _ _ _ _ (okT_cons (by rw [e0]; omega) (by rw [e0]; omega) (okT_cons (by rw [e1]; omega) (by rw [e1]; omega) okT_nil)) (by show ((y : Nat) : Int) = 0 + ((1 * Val.σ 0 + (65536 * Val.σ 1 + 0)) : Nat); rw [e0, e1]; omega)) (.cons _ _ _ _ (.bool _) (.cons _ _ _ _ (.int _ _) (.nil))))) (lowVal fun i => if i = 0 then r else q) rfl rfl
    · exact (fun (V : Val) (e0 : V.σ 0 = r) (e1 : V.σ 1 = q) => (by refine go V ?_ run_f_3; exact .cons _ _ _ _ (.sym _ _ _ _ (okT_cons (by rw [e0]; omega) (by rw [e0]; omega) (okT_cons (by rw [e1]; omega) (by rw [e1]; omega) okT_nil)) (by show ((y : Nat) : Int) = 0 + ((1 * Val.σ 0 + (65536 * Val.σ 1 + 0)) : Nat); rw [e0, e1]; omega)) (.cons _ _ _ _ (.bool _) (.cons _ _ _ _ (.int _ _) (.nil))))) (lowVal fun i => if i = 0 then r else q) rfl rfl
    · exact (fun (V : Val) (e0 : V.σ 0 = r) (e1 : V.σ 1 = q) => (by refine go V ?_ run_f_4; exact .cons _ _ _ _ (.sym _ _ _ _ (okT_cons (by rw [e0]; omega) (by rw [e0]; omega) (okT_cons (by rw [e1]; omega) (by rw [e1]; omega) okT_nil)) (by show ((y : Nat) : Int) = 0 + ((1 * Val.σ 0 + (65536 * Val.σ 1 + 0)) : Nat); rw [e0, e1]; omega)) (.cons _ _ _ _ (.bool _) (.cons _ _ _ _ (.int _ _) (.nil))))) (lowVal fun i => if i = 0 then r else q) rfl rfl
    · exact (fun (V : Val) (e0 : V.σ 0 = r) (e1 : V.σ 1 = q) => (by refine go V ?_ run_f_5; exact .cons _ _ _ _ (.sym _ _ _ _ (okT_cons (by rw [e0]; omega) (by rw [e0]; omega) (okT_cons (by rw [e1]; omega) (by rw [e1]; omega) okT_nil)) (by show ((y : Nat) : Int) = 0 + ((1 * Val.σ 0 + (65536 * Val.σ 1 + 0)) : Nat); rw [e0, e1]; omega)) (.cons _ _ _ _ (.bool _) (.cons _ _ _ _ (.int _ _) (.nil))))) (lowVal fun i => if i = 0 then r else q) rfl rfl
    · exact (fun (V : Val) (e0 : V.σ 0 = r) (e1 : V.σ 1 = q) => (by refine go V ?_ run_f_6; exact .cons _ _ _ _ (.sym _ _ _ _ (okT_cons (by rw [e0]; omega) (by rw [e0]; omega) (okT_cons (by rw [e1]; omega) (by rw [e1]; omega) okT_nil)) (by show ((y : Nat) : Int) = 0 + ((1 * Val.σ 0 + (65536 * Val.σ 1 + 0)) : Nat); rw [e0, e1]; omega)) (.cons _ _ _ _ (.bool _) (.cons _ _ _ _ (.int _ _) (.nil))))) (lowVal fun i => if i = 0 then r else q) rfl rfl
    · exact (fun (V : Val) (e0 : V.σ 0 = r) (e1 : V.σ 1 = q) => (by refine go V ?_ run_f_7; exact .cons _ _ _ _ (.sym _ _ _ _ (okT_cons (by rw [e0]; omega) (by rw [e0]; omega) (okT_cons (by rw [e1]; omega) (by rw [e1]; omega) okT_nil)) (by show ((y : Nat) : Int) = 0 + ((1 * Val.σ 0 + (65536 * Val.σ 1 + 0)) : Nat); rw [e0, e1]; omega)) (.cons _ _ _ _ (.bool _) (.cons _ _ _ _ (.int _ _) (.nil))))) (lowVal fun i => if i = 0 then r else q) rfl rfl

/-! ### THE ROW's STEP: WRITTEN OUT: LEAVE IT -/
set_option maxRecDepth 100000 in
theorem lifted (os : Os) (started : os.Started) (H : Type) (enc : TypeId × Value → H) :
    ReturnsInHanded {} Try.checked os 15 .any (Rows.coreForwardsSpec.pre6 enc Try.prog Try.f15 Rows.coreForwardsRow.domain false) (Rows.coreForwardsSpec.post enc Try.prog Try.f15 false true false false) := by
  refine returnsInHanded_of_change (C := Try.checked) own started (by kernel_rfl) Try.func15
    (ChangeSpec.witness6 (enc := enc) (C := Try.checked) false ⟨#[], #[.int .u64 0, .bool false, .int .i64 0], []⟩ 8 (by kernel_rfl) (by kernel_rfl) (by kernel_rfl) (by kernel_rfl)) ?_
  intro W base args ds gs before hval0 hW hcnd _
  have hval : ∀ (j : Nat) t v, Try.f15.params[j]? = some t → args[j]? = some v → Value.okWide Try.prog W .any base t v := hval0
  have hW' := hW
  obtain ⟨p, q, hA0, hV, rfl, hfz, hnd⟩ := hW
  have hA : DataW.TrodAll enc Try.prog W 0 (fun _ => true) true Try.f15.params.toList args.toList ds p := hA0
  rw [Try.params15] at hA hval
  obtain ⟨v0, vs0, d0, ds0, p0, q0, hargs, rfl, rfl, h0, r0⟩ := trodAll_cons hA
  obtain ⟨v1, vs1, d1, ds1, p1, q1, rfl, rfl, rfl, h1, r1⟩ := trodAll_cons r0
  obtain ⟨v2, vs2, d2, ds2, p2, q2, rfl, rfl, rfl, h2, r2⟩ := trodAll_cons r1
  obtain ⟨rfl, rfl, rfl⟩ := trodAll_nil r2
  obtain rfl : args = #[v0, v1, v2] := by cases args; simp_all
  obtain ⟨rfl, rfl⟩ := trodVars_none hV
  obtain ⟨a0, rfl, rfl, rfl, w0⟩ := open_int Try.underlying53 (hval 0 53 v0 rfl rfl) h0
  obtain ⟨a1, rfl, rfl, rfl⟩ := open_bool Try.underlying4 (hval 1 4 v1 rfl rfl) h1
  obtain ⟨a2, rfl, rfl, rfl, w2⟩ := open_int Try.underlying3 (hval 2 3 v2 rfl rfl) h2
  clear hA0 hval0
  simp only [List.append_nil] at hW'
  refine (walk a0 a1 a2 w0 w2 W).mono fun e W' ⟨he, hg⟩ => ?_
  subst he
  exact ⟨_, rfl, post_below (pa := []) (pv := []) hW' (fun _ _ _ => (trodAll_cons_mk (shut_bool Try.underlying4 _) trodAll_mk0)) (fun sp _ => (trodAll_cons_mk (shut_int Try.underlying53 w0) (trodAll_cons_mk (shut_bool Try.underlying4 _) (trodAll_cons_mk (shut_int Try.underlying3 w2) trodAll_mk0)))) (fun _ _ => rfl) rfl
    hg (ok_one (by kernel_rfl) rfl (okWide_bool_mk Try.underlying4 _))⟩

theorem over : Rows.coreForwardsRow.holds Try.pinned (OpenSpec.ofChange Rows.coreForwardsSpec) :=
  OpenClaim.holds_of_wide 15 Try.f15 rfl rfl rfl rfl rfl rfl rfl ⟨rfl, rfl, rfl, rfl, rfl⟩ rfl rfl rfl rfl rfl (by kernel_rfl) Try.func15 facts
    (of_decide_eq_true (by kernel_rfl)) (by unfold Func.isWrapper; first | (rw [if_pos (by decide +kernel)]; kernel_rfl) | (rw [if_neg (by decide +kernel)]; exact ⟨rfl, rfl⟩))
    (fun os started H enc _ => lifted os started H enc)

/-- ████ THE STATEMENT ████ -/
theorem proved : Rows.CoreForwardsSaid :=
  over
#print axioms proved
end Go.Proofs.Ytfpllgkcflinbaa.coreForwards
