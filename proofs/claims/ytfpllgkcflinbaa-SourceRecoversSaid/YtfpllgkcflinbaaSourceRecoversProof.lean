/- The law SourceRecovers of the document returns true for every input, and its arguments read behind the call as they read before. No condition. -/
import Derived.Test.YtfpllgkcflinbaaRows
import Derived.WalkKit
import Derived.ProofKit
import Derived.OpenShut
import Derived.Below
import Derived.ChangeSame
import Derived.Test.YtfpllgkcflinbaaSourceRecoversBase
import Derived.Test.YtfpllgkcflinbaaSourceRecoversRuns0
import Derived.Test.YtfpllgkcflinbaaSourceRecoversRuns1
import Derived.Test.YtfpllgkcflinbaaSourceRecoversRuns2
import Derived.Test.YtfpllgkcflinbaaSourceRecoversRuns3
import Derived.Test.YtfpllgkcflinbaaSourceRecoversRuns4
import Derived.Test.YtfpllgkcflinbaaSourceRecoversRuns5
import Derived.Test.YtfpllgkcflinbaaSourceRecoversRuns6
import Derived.Test.YtfpllgkcflinbaaSourceRecoversRuns7
import Derived.Test.YtfpllgkcflinbaaSourceRecoversRuns8
import Derived.Test.YtfpllgkcflinbaaSourceRecoversRuns9
import Derived.Test.YtfpllgkcflinbaaSourceRecoversRuns10
import Derived.Test.YtfpllgkcflinbaaSourceRecoversRuns11
import Derived.Test.YtfpllgkcflinbaaChecked
import Derived.Test.YtfpllgkcflinbaaSourceRecoversFacts
namespace Go.Proofs.Ytfpllgkcflinbaa.sourceRecovers
open Nm Go.ChangeShapes Go.WideShapes Go.ChangeAt Go.RowKit
set_option linter.unusedVariables false      -- a walk need not use every 'w<i>' (that an integer argument fits its kind)

theorem own : ownKnob Try.prog.godebug = none := by kernel_rfl

theorem mixed : Try.prog.follows .mixedOrders = true := by kernel_rfl
theorem tabOK0 : TabOK Try.prog tab0 := tab_add mixed Try.codeOk tab_none kept_alive
section
variable {H : Type} {enc : TypeId × Value → H} {P : Program}
/-- what a call leaves that turned nothing that was there -/
theorem post_below {f : Func} {s : ChangeSpec} {apart fresh handsOn again : Bool} {W W' : World} {args : Array Value} {v : Value} {ds gs : List (DataW H)} {before pa pv : List MemPlace}
    (hW : DataW.Whole enc P f.params.toList s.vars apart W args.toList ds gs before)
    (hres : ∀ (b : Nat) (sp : Nat → Bool) (hd : Bool), DataW.TrodAll enc P W' b sp hd f.resultTypes.toList (v.resultList f.resultTypes.size) (s.fn H (ds ++ gs)).results [])
    (hargs : ∀ sp : Nat → Bool, (∀ p ∈ before, sp p.block = true) → DataW.TrodAll enc P W' 0 sp true f.params.toList args.toList (s.fn H (ds ++ gs)).args pa)
    (hvars : ∀ sp : Nat → Bool, (∀ p ∈ before, sp p.block = true) → DataW.TrodVars enc P W' sp s.vars (s.fn H (ds ++ gs)).vars pv)
    (hps : before = pa ++ pv) (hb : Below W.heap.size W W')
    (hok : ∀ (j : Nat) (t : TypeId) (r : Value), f.resultTypes[j]? = some t → (v.resultList f.resultTypes.size)[j]? = some r → Value.okWide P W' .any 0 t r) :
    s.post enc P f apart fresh handsOn again W args v W' := by
  have hlt : ∀ p ∈ before, p.block < W.heap.size := fun p hp => hW.lt p hp
  have hold : ∀ p ∈ before, (fun b => decide (b < W.heap.size)) p.block = true := fun p hp => by simpa using hlt p hp
  refine ⟨ds, gs, before, [], pa, pv, hW, hres _ _ _, hargs _ hold, hvars _ hold, World.keptBut_mono (fun p hp => ⟨hp, ?_⟩) (hb.frame (· ∈ before)), fun _ => ?_⟩
  · rw [hps, List.mem_append] at hp
    exact Or.inr hp
  · obtain ⟨_, _, _, _, _, hz, hn⟩ := hW
    refine ⟨hok, _, _, ([] ++ pa) ++ pv, ⟨[] ++ pa, pv, trodAll_append (hargs _ (fun _ _ => rfl)) (hres _ _ _), hvars _ (fun _ _ => rfl), rfl, ?_, ?_⟩, ?_⟩
    · intro b off hp
      have hin : MemPlace.cell b off ∈ before := by rw [hps]; simpa using hp
      rw [hb.frozen (hlt _ hin)]
      exact hz b off hin
    · intro ha
      have := hn ha
      rw [hps] at this
      simpa using this
    · intro p hp _
      rw [hps]
      simpa using hp
end

/-! ### STEP 1: THE WALK: the Go text returns true. 'Grown w w'': the world has at most new blocks (Derived/RowKit3.lean). Part the cases AHEAD of 'go_enter' where a test parts the walk; take each callee by a contract of your own. -/
theorem walk (a0 : Int) (a1 : Int) (w0 : (Lit.int .i64 a0).wf = true) (w1 : (Lit.int .i64 a1).wf = true) (w : World) :
    Calls Try.prog 9 #[.int .i64 a0, .int .i64 a1] w fun e w' => e = .returned (.bool true) ∧ Below w.heap.size w w' := by
  have go : ∀ {l : List NV}, VRL ι0 l [.int .i64 a0, .int .i64 a1] → topTrue Try.prog tab0 2000 9 l = true → Calls Try.prog 9 #[.int .i64 a0, .int .i64 a1] w fun e w' => e = .returned (.bool true) ∧ Below w.heap.size w w' :=
    fun hv hr => top_true mixed Try.codeOk tabOK0 hr (args' := [.int .i64 a0, .int .i64 a1]) hv w
  by_cases hb0 : a0 ≤ -1
  · by_cases hb1 : a1 ≤ -1
    · exact go (.cons _ _ _ _ (.ile _ _ _ hb0) (.cons _ _ _ _ (.ile _ _ _ hb1) (.nil))) run_le_le
    by_cases ha1 : 6 ≤ a1
    · exact go (.cons _ _ _ _ (.ile _ _ _ hb0) (.cons _ _ _ _ (.ige _ _ _ ha1) (.nil))) run_le_ge
    have hc1 : a1 = 0 ∨ a1 = 1 ∨ a1 = 2 ∨ a1 = 3 ∨ a1 = 4 ∨ a1 = 5 := by omega
    rcases hc1 with rfl | rfl | rfl | rfl | rfl | rfl
    · exact go (.cons _ _ _ _ (.ile _ _ _ hb0) (.cons _ _ _ _ (.int _ _) (.nil))) run_le_0
    · exact go (.cons _ _ _ _ (.ile _ _ _ hb0) (.cons _ _ _ _ (.int _ _) (.nil))) run_le_1
    · exact go (.cons _ _ _ _ (.ile _ _ _ hb0) (.cons _ _ _ _ (.int _ _) (.nil))) run_le_2
    · exact go (.cons _ _ _ _ (.ile _ _ _ hb0) (.cons _ _ _ _ (.int _ _) (.nil))) run_le_3
    · exact go (.cons _ _ _ _ (.ile _ _ _ hb0) (.cons _ _ _ _ (.int _ _) (.nil))) run_le_4
    · exact go (.cons _ _ _ _ (.ile _ _ _ hb0) (.cons _ _ _ _ (.int _ _) (.nil))) run_le_5
  by_cases ha0 : 11 ≤ a0
  · by_cases hb1 : a1 ≤ -1
    · exact go (.cons _ _ _ _ (.ige _ _ _ ha0) (.cons _ _ _ _ (.ile _ _ _ hb1) (.nil))) run_ge_le
    by_cases ha1 : 6 ≤ a1
    · exact go (.cons _ _ _ _ (.ige _ _ _ ha0) (.cons _ _ _ _ (.ige _ _ _ ha1) (.nil))) run_ge_ge
    have hc1 : a1 = 0 ∨ a1 = 1 ∨ a1 = 2 ∨ a1 = 3 ∨ a1 = 4 ∨ a1 = 5 := by omega
    rcases hc1 with rfl | rfl | rfl | rfl | rfl | rfl
    · exact go (.cons _ _ _ _ (.ige _ _ _ ha0) (.cons _ _ _ _ (.int _ _) (.nil))) run_ge_0
    · exact go (.cons _ _ _ _ (.ige _ _ _ ha0) (.cons _ _ _ _ (.int _ _) (.nil))) run_ge_1
    · exact go (.cons _ _ _ _ (.ige _ _ _ ha0) (.cons _ _ _ _ (.int _ _) (.nil))) run_ge_2
    · exact go (.cons _ _ _ _ (.ige _ _ _ ha0) (.cons _ _ _ _ (.int _ _) (.nil))) run_ge_3
    · exact go (.cons _ _ _ _ (.ige _ _ _ ha0) (.cons _ _ _ _ (.int _ _) (.nil))) run_ge_4
    · exact go (.cons _ _ _ _ (.ige _ _ _ ha0) (.cons _ _ _ _ (.int _ _) (.nil))) run_ge_5
  have hc0 : a0 = 0 ∨ a0 = 1 ∨ a0 = 2 ∨ a0 = 3 ∨ a0 = 4 ∨ a0 = 5 ∨ a0 = 6 ∨ a0 = 7 ∨ a0 = 8 ∨ a0 = 9 ∨ a0 = 10 := by omega
  rcases hc0 with rfl | rfl | rfl | rfl | rfl | rfl | rfl | rfl | rfl | rfl | rfl
  · by_cases hb1 : a1 ≤ -1
    · exact go (.cons _ _ _ _ (.int _ _) (.cons _ _ _ _ (.ile _ _ _ hb1) (.nil))) run_0_le
    by_cases ha1 : 6 ≤ a1
    · exact go (.cons _ _ _ _ (.int _ _) (.cons _ _ _ _ (.ige _ _ _ ha1) (.nil))) run_0_ge
    have hc1 : a1 = 0 ∨ a1 = 1 ∨ a1 = 2 ∨ a1 = 3 ∨ a1 = 4 ∨ a1 = 5 := by omega
    rcases hc1 with rfl | rfl | rfl | rfl | rfl | rfl
    · exact go (.cons _ _ _ _ (.int _ _) (.cons _ _ _ _ (.int _ _) (.nil))) run_0_0
    · exact go (.cons _ _ _ _ (.int _ _) (.cons _ _ _ _ (.int _ _) (.nil))) run_0_1
    · exact go (.cons _ _ _ _ (.int _ _) (.cons _ _ _ _ (.int _ _) (.nil))) run_0_2
    · exact go (.cons _ _ _ _ (.int _ _) (.cons _ _ _ _ (.int _ _) (.nil))) run_0_3
    · exact go (.cons _ _ _ _ (.int _ _) (.cons _ _ _ _ (.int _ _) (.nil))) run_0_4
    · exact go (.cons _ _ _ _ (.int _ _) (.cons _ _ _ _ (.int _ _) (.nil))) run_0_5
  · by_cases hb1 : a1 ≤ -1
    · exact go (.cons _ _ _ _ (.int _ _) (.cons _ _ _ _ (.ile _ _ _ hb1) (.nil))) run_1_le
    by_cases ha1 : 6 ≤ a1
    · exact go (.cons _ _ _ _ (.int _ _) (.cons _ _ _ _ (.ige _ _ _ ha1) (.nil))) run_1_ge
    have hc1 : a1 = 0 ∨ a1 = 1 ∨ a1 = 2 ∨ a1 = 3 ∨ a1 = 4 ∨ a1 = 5 := by omega
    rcases hc1 with rfl | rfl | rfl | rfl | rfl | rfl
    · exact go (.cons _ _ _ _ (.int _ _) (.cons _ _ _ _ (.int _ _) (.nil))) run_1_0
    · exact go (.cons _ _ _ _ (.int _ _) (.cons _ _ _ _ (.int _ _) (.nil))) run_1_1
    · exact go (.cons _ _ _ _ (.int _ _) (.cons _ _ _ _ (.int _ _) (.nil))) run_1_2
    · exact go (.cons _ _ _ _ (.int _ _) (.cons _ _ _ _ (.int _ _) (.nil))) run_1_3
    · exact go (.cons _ _ _ _ (.int _ _) (.cons _ _ _ _ (.int _ _) (.nil))) run_1_4
    · exact go (.cons _ _ _ _ (.int _ _) (.cons _ _ _ _ (.int _ _) (.nil))) run_1_5
  · by_cases hb1 : a1 ≤ -1
    · exact go (.cons _ _ _ _ (.int _ _) (.cons _ _ _ _ (.ile _ _ _ hb1) (.nil))) run_2_le
    by_cases ha1 : 6 ≤ a1
    · exact go (.cons _ _ _ _ (.int _ _) (.cons _ _ _ _ (.ige _ _ _ ha1) (.nil))) run_2_ge
    have hc1 : a1 = 0 ∨ a1 = 1 ∨ a1 = 2 ∨ a1 = 3 ∨ a1 = 4 ∨ a1 = 5 := by omega
    rcases hc1 with rfl | rfl | rfl | rfl | rfl | rfl
    · exact go (.cons _ _ _ _ (.int _ _) (.cons _ _ _ _ (.int _ _) (.nil))) run_2_0
    · exact go (.cons _ _ _ _ (.int _ _) (.cons _ _ _ _ (.int _ _) (.nil))) run_2_1
    · exact go (.cons _ _ _ _ (.int _ _) (.cons _ _ _ _ (.int _ _) (.nil))) run_2_2
    · exact go (.cons _ _ _ _ (.int _ _) (.cons _ _ _ _ (.int _ _) (.nil))) run_2_3
    · exact go (.cons _ _ _ _ (.int _ _) (.cons _ _ _ _ (.int _ _) (.nil))) run_2_4
    · exact go (.cons _ _ _ _ (.int _ _) (.cons _ _ _ _ (.int _ _) (.nil))) run_2_5
  · by_cases hb1 : a1 ≤ -1
    · exact go (.cons _ _ _ _ (.int _ _) (.cons _ _ _ _ (.ile _ _ _ hb1) (.nil))) run_3_le
    by_cases ha1 : 6 ≤ a1
    · exact go (.cons _ _ _ _ (.int _ _) (.cons _ _ _ _ (.ige _ _ _ ha1) (.nil))) run_3_ge
    have hc1 : a1 = 0 ∨ a1 = 1 ∨ a1 = 2 ∨ a1 = 3 ∨ a1 = 4 ∨ a1 = 5 := by omega
    rcases hc1 with rfl | rfl | rfl | rfl | rfl | rfl
    · exact go (.cons _ _ _ _ (.int _ _) (.cons _ _ _ _ (.int _ _) (.nil))) run_3_0
    · exact go (.cons _ _ _ _ (.int _ _) (.cons _ _ _ _ (.int _ _) (.nil))) run_3_1
    · exact go (.cons _ _ _ _ (.int _ _) (.cons _ _ _ _ (.int _ _) (.nil))) run_3_2
    · exact go (.cons _ _ _ _ (.int _ _) (.cons _ _ _ _ (.int _ _) (.nil))) run_3_3
    · exact go (.cons _ _ _ _ (.int _ _) (.cons _ _ _ _ (.int _ _) (.nil))) run_3_4
    · exact go (.cons _ _ _ _ (.int _ _) (.cons _ _ _ _ (.int _ _) (.nil))) run_3_5
  · by_cases hb1 : a1 ≤ -1
    · exact go (.cons _ _ _ _ (.int _ _) (.cons _ _ _ _ (.ile _ _ _ hb1) (.nil))) run_4_le
    by_cases ha1 : 6 ≤ a1
    · exact go (.cons _ _ _ _ (.int _ _) (.cons _ _ _ _ (.ige _ _ _ ha1) (.nil))) run_4_ge
    have hc1 : a1 = 0 ∨ a1 = 1 ∨ a1 = 2 ∨ a1 = 3 ∨ a1 = 4 ∨ a1 = 5 := by omega
    rcases hc1 with rfl | rfl | rfl | rfl | rfl | rfl
    · exact go (.cons _ _ _ _ (.int _ _) (.cons _ _ _ _ (.int _ _) (.nil))) run_4_0
    · exact go (.cons _ _ _ _ (.int _ _) (.cons _ _ _ _ (.int _ _) (.nil))) run_4_1
    · exact go (.cons _ _ _ _ (.int _ _) (.cons _ _ _ _ (.int _ _) (.nil))) run_4_2
    · exact go (.cons _ _ _ _ (.int _ _) (.cons _ _ _ _ (.int _ _) (.nil))) run_4_3
    · exact go (.cons _ _ _ _ (.int _ _) (.cons _ _ _ _ (.int _ _) (.nil))) run_4_4
    · exact go (.cons _ _ _ _ (.int _ _) (.cons _ _ _ _ (.int _ _) (.nil))) run_4_5
  · by_cases hb1 : a1 ≤ -1
    · exact go (.cons _ _ _ _ (.int _ _) (.cons _ _ _ _ (.ile _ _ _ hb1) (.nil))) run_5_le
    by_cases ha1 : 6 ≤ a1
    · exact go (.cons _ _ _ _ (.int _ _) (.cons _ _ _ _ (.ige _ _ _ ha1) (.nil))) run_5_ge
    have hc1 : a1 = 0 ∨ a1 = 1 ∨ a1 = 2 ∨ a1 = 3 ∨ a1 = 4 ∨ a1 = 5 := by omega
    rcases hc1 with rfl | rfl | rfl | rfl | rfl | rfl
    · exact go (.cons _ _ _ _ (.int _ _) (.cons _ _ _ _ (.int _ _) (.nil))) run_5_0
    · exact go (.cons _ _ _ _ (.int _ _) (.cons _ _ _ _ (.int _ _) (.nil))) run_5_1
    · exact go (.cons _ _ _ _ (.int _ _) (.cons _ _ _ _ (.int _ _) (.nil))) run_5_2
    · exact go (.cons _ _ _ _ (.int _ _) (.cons _ _ _ _ (.int _ _) (.nil))) run_5_3
    · exact go (.cons _ _ _ _ (.int _ _) (.cons _ _ _ _ (.int _ _) (.nil))) run_5_4
    · exact go (.cons _ _ _ _ (.int _ _) (.cons _ _ _ _ (.int _ _) (.nil))) run_5_5
  · by_cases hb1 : a1 ≤ -1
    · exact go (.cons _ _ _ _ (.int _ _) (.cons _ _ _ _ (.ile _ _ _ hb1) (.nil))) run_6_le
    by_cases ha1 : 6 ≤ a1
    · exact go (.cons _ _ _ _ (.int _ _) (.cons _ _ _ _ (.ige _ _ _ ha1) (.nil))) run_6_ge
    have hc1 : a1 = 0 ∨ a1 = 1 ∨ a1 = 2 ∨ a1 = 3 ∨ a1 = 4 ∨ a1 = 5 := by omega
    rcases hc1 with rfl | rfl | rfl | rfl | rfl | rfl
    · exact go (.cons _ _ _ _ (.int _ _) (.cons _ _ _ _ (.int _ _) (.nil))) run_6_0
    · exact go (.cons _ _ _ _ (.int _ _) (.cons _ _ _ _ (.int _ _) (.nil))) run_6_1
    · exact go (.cons _ _ _ _ (.int _ _) (.cons _ _ _ _ (.int _ _) (.nil))) run_6_2
    · exact go (.cons _ _ _ _ (.int _ _) (.cons _ _ _ _ (.int _ _) (.nil))) run_6_3
    · exact go (.cons _ _ _ _ (.int _ _) (.cons _ _ _ _ (.int _ _) (.nil))) run_6_4
    · exact go (.cons _ _ _ _ (.int _ _) (.cons _ _ _ _ (.int _ _) (.nil))) run_6_5
  · by_cases hb1 : a1 ≤ -1
    · exact go (.cons _ _ _ _ (.int _ _) (.cons _ _ _ _ (.ile _ _ _ hb1) (.nil))) run_7_le
    by_cases ha1 : 6 ≤ a1
    · exact go (.cons _ _ _ _ (.int _ _) (.cons _ _ _ _ (.ige _ _ _ ha1) (.nil))) run_7_ge
    have hc1 : a1 = 0 ∨ a1 = 1 ∨ a1 = 2 ∨ a1 = 3 ∨ a1 = 4 ∨ a1 = 5 := by omega
    rcases hc1 with rfl | rfl | rfl | rfl | rfl | rfl
    · exact go (.cons _ _ _ _ (.int _ _) (.cons _ _ _ _ (.int _ _) (.nil))) run_7_0
    · exact go (.cons _ _ _ _ (.int _ _) (.cons _ _ _ _ (.int _ _) (.nil))) run_7_1
    · exact go (.cons _ _ _ _ (.int _ _) (.cons _ _ _ _ (.int _ _) (.nil))) run_7_2
    · exact go (.cons _ _ _ _ (.int _ _) (.cons _ _ _ _ (.int _ _) (.nil))) run_7_3
    · exact go (.cons _ _ _ _ (.int _ _) (.cons _ _ _ _ (.int _ _) (.nil))) run_7_4
    · exact go (.cons _ _ _ _ (.int _ _) (.cons _ _ _ _ (.int _ _) (.nil))) run_7_5
  · by_cases hb1 : a1 ≤ -1
    · exact go (.cons _ _ _ _ (.int _ _) (.cons _ _ _ _ (.ile _ _ _ hb1) (.nil))) run_8_le
    by_cases ha1 : 6 ≤ a1
    · exact go (.cons _ _ _ _ (.int _ _) (.cons _ _ _ _ (.ige _ _ _ ha1) (.nil))) run_8_ge
    have hc1 : a1 = 0 ∨ a1 = 1 ∨ a1 = 2 ∨ a1 = 3 ∨ a1 = 4 ∨ a1 = 5 := by omega
    rcases hc1 with rfl | rfl | rfl | rfl | rfl | rfl
    · exact go (.cons _ _ _ _ (.int _ _) (.cons _ _ _ _ (.int _ _) (.nil))) run_8_0
    · exact go (.cons _ _ _ _ (.int _ _) (.cons _ _ _ _ (.int _ _) (.nil))) run_8_1
    · exact go (.cons _ _ _ _ (.int _ _) (.cons _ _ _ _ (.int _ _) (.nil))) run_8_2
    · exact go (.cons _ _ _ _ (.int _ _) (.cons _ _ _ _ (.int _ _) (.nil))) run_8_3
    · exact go (.cons _ _ _ _ (.int _ _) (.cons _ _ _ _ (.int _ _) (.nil))) run_8_4
    · exact go (.cons _ _ _ _ (.int _ _) (.cons _ _ _ _ (.int _ _) (.nil))) run_8_5
  · by_cases hb1 : a1 ≤ -1
    · exact go (.cons _ _ _ _ (.int _ _) (.cons _ _ _ _ (.ile _ _ _ hb1) (.nil))) run_9_le
    by_cases ha1 : 6 ≤ a1
    · exact go (.cons _ _ _ _ (.int _ _) (.cons _ _ _ _ (.ige _ _ _ ha1) (.nil))) run_9_ge
    have hc1 : a1 = 0 ∨ a1 = 1 ∨ a1 = 2 ∨ a1 = 3 ∨ a1 = 4 ∨ a1 = 5 := by omega
    rcases hc1 with rfl | rfl | rfl | rfl | rfl | rfl
    · exact go (.cons _ _ _ _ (.int _ _) (.cons _ _ _ _ (.int _ _) (.nil))) run_9_0
    · exact go (.cons _ _ _ _ (.int _ _) (.cons _ _ _ _ (.int _ _) (.nil))) run_9_1
    · exact go (.cons _ _ _ _ (.int _ _) (.cons _ _ _ _ (.int _ _) (.nil))) run_9_2
    · exact go (.cons _ _ _ _ (.int _ _) (.cons _ _ _ _ (.int _ _) (.nil))) run_9_3
    · exact go (.cons _ _ _ _ (.int _ _) (.cons _ _ _ _ (.int _ _) (.nil))) run_9_4
    · exact go (.cons _ _ _ _ (.int _ _) (.cons _ _ _ _ (.int _ _) (.nil))) run_9_5
  · by_cases hb1 : a1 ≤ -1
    · exact go (.cons _ _ _ _ (.int _ _) (.cons _ _ _ _ (.ile _ _ _ hb1) (.nil))) run_10_le
    by_cases ha1 : 6 ≤ a1
    · exact go (.cons _ _ _ _ (.int _ _) (.cons _ _ _ _ (.ige _ _ _ ha1) (.nil))) run_10_ge
    have hc1 : a1 = 0 ∨ a1 = 1 ∨ a1 = 2 ∨ a1 = 3 ∨ a1 = 4 ∨ a1 = 5 := by omega
    rcases hc1 with rfl | rfl | rfl | rfl | rfl | rfl
    · exact go (.cons _ _ _ _ (.int _ _) (.cons _ _ _ _ (.int _ _) (.nil))) run_10_0
    · exact go (.cons _ _ _ _ (.int _ _) (.cons _ _ _ _ (.int _ _) (.nil))) run_10_1
    · exact go (.cons _ _ _ _ (.int _ _) (.cons _ _ _ _ (.int _ _) (.nil))) run_10_2
    · exact go (.cons _ _ _ _ (.int _ _) (.cons _ _ _ _ (.int _ _) (.nil))) run_10_3
    · exact go (.cons _ _ _ _ (.int _ _) (.cons _ _ _ _ (.int _ _) (.nil))) run_10_4
    · exact go (.cons _ _ _ _ (.int _ _) (.cons _ _ _ _ (.int _ _) (.nil))) run_10_5

/-! ### THE ROW's STEP: WRITTEN OUT: LEAVE IT -/
set_option maxRecDepth 100000 in
theorem lifted (os : Os) (started : os.Started) (H : Type) (enc : TypeId × Value → H) :
    ReturnsInHanded {} Try.checked os 9 .any (Rows.sourceRecoversSpec.pre6 enc Try.prog Try.f9 Rows.sourceRecoversRow.domain false) (Rows.sourceRecoversSpec.post enc Try.prog Try.f9 false true false false) := by
  refine returnsInHanded_of_change (C := Try.checked) own started (by kernel_rfl) Try.func9
    (ChangeSpec.witness6 (enc := enc) (C := Try.checked) false ⟨#[], #[.int .i64 0, .int .i64 0], []⟩ 8 (by kernel_rfl) (by kernel_rfl) (by kernel_rfl) (by kernel_rfl)) ?_
  intro W base args ds gs before hval0 hW hcnd _
  have hval : ∀ (j : Nat) t v, Try.f9.params[j]? = some t → args[j]? = some v → Value.okWide Try.prog W .any base t v := hval0
  have hW' := hW
  obtain ⟨p, q, hA0, hV, rfl, hfz, hnd⟩ := hW
  have hA : DataW.TrodAll enc Try.prog W 0 (fun _ => true) true Try.f9.params.toList args.toList ds p := hA0
  rw [Try.params9] at hA hval
  obtain ⟨v0, vs0, d0, ds0, p0, q0, hargs, rfl, rfl, h0, r0⟩ := trodAll_cons hA
  obtain ⟨v1, vs1, d1, ds1, p1, q1, rfl, rfl, rfl, h1, r1⟩ := trodAll_cons r0
  obtain ⟨rfl, rfl, rfl⟩ := trodAll_nil r1
  obtain rfl : args = #[v0, v1] := by cases args; simp_all
  obtain ⟨rfl, rfl⟩ := trodVars_none hV
  obtain ⟨a0, rfl, rfl, rfl, w0⟩ := open_int Try.underlying3 (hval 0 3 v0 rfl rfl) h0
  obtain ⟨a1, rfl, rfl, rfl, w1⟩ := open_int Try.underlying3 (hval 1 3 v1 rfl rfl) h1
  clear hA0 hval0
  simp only [List.append_nil] at hW'
  refine (walk a0 a1 w0 w1 W).mono fun e W' ⟨he, hg⟩ => ?_
  subst he
  exact ⟨_, rfl, post_below (pa := []) (pv := []) hW' (fun _ _ _ => (trodAll_cons_mk (shut_bool Try.underlying4 _) trodAll_mk0)) (fun sp _ => (trodAll_cons_mk (shut_int Try.underlying3 w0) (trodAll_cons_mk (shut_int Try.underlying3 w1) trodAll_mk0))) (fun _ _ => rfl) rfl
    hg (ok_one (by kernel_rfl) rfl (okWide_bool_mk Try.underlying4 _))⟩

theorem over : Rows.sourceRecoversRow.holds Try.pinned (OpenSpec.ofChange Rows.sourceRecoversSpec) :=
  OpenClaim.holds_of_wide 9 Try.f9 rfl rfl rfl rfl rfl rfl rfl ⟨rfl, rfl, rfl, rfl, rfl⟩ rfl rfl rfl rfl rfl (by kernel_rfl) Try.func9 facts
    (of_decide_eq_true (by kernel_rfl)) (by unfold Func.isWrapper; first | (rw [if_pos (by decide +kernel)]; kernel_rfl) | (rw [if_neg (by decide +kernel)]; exact ⟨rfl, rfl⟩))
    (fun os started H enc _ => lifted os started H enc)

/-- ████ THE STATEMENT ████ -/
theorem proved : Rows.SourceRecoversSaid :=
  over
#print axioms proved
end Go.Proofs.Ytfpllgkcflinbaa.sourceRecovers
