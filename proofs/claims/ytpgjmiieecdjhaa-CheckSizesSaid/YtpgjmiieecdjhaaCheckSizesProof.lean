/- The law CheckSizes of the document returns true for every input, and its arguments read behind the call as they read before. No condition. -/
import Derived.Test.YtpgjmiieecdjhaaRows
import Derived.WalkKit
import Derived.ProofKit
import Derived.OpenShut
import Derived.Below
import Derived.ChangeSame
import Derived.Test.YtpgjmiieecdjhaaCheckSizesBase
import Derived.Test.YtpgjmiieecdjhaaCheckSizesRuns0
import Derived.Test.YtpgjmiieecdjhaaCheckSizesRuns1
import Derived.Test.YtpgjmiieecdjhaaCheckSizesRuns2
import Derived.Test.YtpgjmiieecdjhaaCheckSizesRuns3
import Derived.Test.YtpgjmiieecdjhaaCheckSizesRuns4
import Derived.Test.YtpgjmiieecdjhaaCheckSizesRuns5
import Derived.Test.YtpgjmiieecdjhaaCheckSizesRuns6
import Derived.Test.YtpgjmiieecdjhaaChecked
import Derived.Test.YtpgjmiieecdjhaaCheckSizesFacts
namespace Go.Proofs.Ytpgjmiieecdjhaa.checkSizes
open Nm Go.ChangeShapes Go.WideShapes Go.ChangeAt Go.RowKit
set_option linter.unusedVariables false      -- a walk need not use every 'w<i>' (that an integer argument fits its kind)

theorem own : ownKnob Try.prog.godebug = none := by kernel_rfl

theorem mixed : Try.prog.follows .mixedOrders = true := by kernel_rfl
theorem tabOK0 : TabOK Try.prog tab0 := tab_add mixed Try.codeOk tab_none kept_alive
section
variable {H : Type} {enc : TypeId × Value → H} {P : Program}
/-- what a call leaves that turned nothing that was there -/
theorem post_below {f : Func} {s : ChangeSpec} {apart fresh handsOn again : Bool} {W W' : World} {args : Array Value} {v : Value} {ds gs : List (DataW H)} {before pa pv : List MemPlace}
    (hW : DataW.Whole enc P f.params.toList s.vars apart W args.toList ds gs before)
    (hres : ∀ (b : Nat) (sp : Nat → Bool) (hd : Bool), DataW.TrodAll enc P W' b sp hd f.resultTypes.toList (v.resultList f.resultTypes.size) (s.fn H (ds ++ gs)).results [])
    (hargs : ∀ sp : Nat → Bool, (∀ p ∈ before, sp p.block = true) → DataW.TrodAll enc P W' 0 sp true f.params.toList args.toList (s.fn H (ds ++ gs)).args pa)
    (hvars : ∀ sp : Nat → Bool, (∀ p ∈ before, sp p.block = true) → DataW.TrodVars enc P W' sp s.vars (s.fn H (ds ++ gs)).vars pv)
    (hps : before = pa ++ pv) (hb : Below W.heap.size W W')
    (hok : ∀ (j : Nat) (t : TypeId) (r : Value), f.resultTypes[j]? = some t → (v.resultList f.resultTypes.size)[j]? = some r → Value.okWide P W' .any 0 t r) :
    s.post enc P f apart fresh handsOn again W args v W' := by
  have hlt : ∀ p ∈ before, p.block < W.heap.size := fun p hp => hW.lt p hp
  have hold : ∀ p ∈ before, (fun b => decide (b < W.heap.size)) p.block = true := fun p hp => by simpa using hlt p hp
  refine ⟨ds, gs, before, [], pa, pv, hW, hres _ _ _, hargs _ hold, hvars _ hold, World.keptBut_mono (fun p hp => ⟨hp, ?_⟩) (hb.frame (· ∈ before)), fun _ => ?_⟩
  · rw [hps, List.mem_append] at hp
    exact Or.inr hp
  · obtain ⟨_, _, _, _, _, hz, hn⟩ := hW
    refine ⟨hok, _, _, ([] ++ pa) ++ pv, ⟨[] ++ pa, pv, trodAll_append (hargs _ (fun _ _ => rfl)) (hres _ _ _), hvars _ (fun _ _ => rfl), rfl, ?_, ?_⟩, ?_⟩
    · intro b off hp
      have hin : MemPlace.cell b off ∈ before := by rw [hps]; simpa using hp
      rw [hb.frozen (hlt _ hin)]
      exact hz b off hin
    · intro ha
      have := hn ha
      rw [hps] at this
      simpa using this
    · intro p hp _
      rw [hps]
      simpa using hp
end

/-! ### STEP 1: THE WALK: the Go text returns true. 'Grown w w'': the world has at most new blocks (Derived/RowKit3.lean). Part the cases AHEAD of 'go_enter' where a test parts the walk; take each callee by a contract of your own. -/
theorem walk (a0 : Int) (a1 : Int) (w0 : (Lit.int .i64 a0).wf = true) (w1 : (Lit.int .i64 a1).wf = true) (w : World) :
    Calls Try.prog 8 #[.int .i64 a0, .int .i64 a1] w fun e w' => e = .returned (.bool true) ∧ Below w.heap.size w w' := by
  have go : ∀ {l : List NV}, VRL ι0 l [.int .i64 a0, .int .i64 a1] → topTrue Try.prog tab0 2000 8 l = true → Calls Try.prog 8 #[.int .i64 a0, .int .i64 a1] w fun e w' => e = .returned (.bool true) ∧ Below w.heap.size w w' :=
    fun hv hr => top_true mixed Try.codeOk tabOK0 hr (args' := [.int .i64 a0, .int .i64 a1]) hv w
  by_cases hb0 : a0 ≤ 0
  · by_cases hb1 : a1 ≤ -1
    · exact go (.cons _ _ _ _ (.ile _ _ _ hb0) (.cons _ _ _ _ (.ile _ _ _ hb1) (.nil))) run_le_le
    by_cases ha1 : 21 ≤ a1
    · exact go (.cons _ _ _ _ (.ile _ _ _ hb0) (.cons _ _ _ _ (.ige _ _ _ ha1) (.nil))) run_le_ge
    have hc1 : a1 = 0 ∨ a1 = 1 ∨ a1 = 2 ∨ a1 = 3 ∨ a1 = 4 ∨ a1 = 5 ∨ a1 = 6 ∨ a1 = 7 ∨ a1 = 8 ∨ a1 = 9 ∨ a1 = 10 ∨ a1 = 11 ∨ a1 = 12 ∨ a1 = 13 ∨ a1 = 14 ∨ a1 = 15 ∨ a1 = 16 ∨ a1 = 17 ∨ a1 = 18 ∨ a1 = 19 ∨ a1 = 20 := by omega
    rcases hc1 with rfl | rfl | rfl | rfl | rfl | rfl | rfl | rfl | rfl | rfl | rfl | rfl | rfl | rfl | rfl | rfl | rfl | rfl | rfl | rfl | rfl
    · exact go (.cons _ _ _ _ (.ile _ _ _ hb0) (.cons _ _ _ _ (.int _ _) (.nil))) run_le_0
    · exact go (.cons _ _ _ _ (.ile _ _ _ hb0) (.cons _ _ _ _ (.int _ _) (.nil))) run_le_1
    · exact go (.cons _ _ _ _ (.ile _ _ _ hb0) (.cons _ _ _ _ (.int _ _) (.nil))) run_le_2
    · exact go (.cons _ _ _ _ (.ile _ _ _ hb0) (.cons _ _ _ _ (.int _ _) (.nil))) run_le_3
    · exact go (.cons _ _ _ _ (.ile _ _ _ hb0) (.cons _ _ _ _ (.int _ _) (.nil))) run_le_4
    · exact go (.cons _ _ _ _ (.ile _ _ _ hb0) (.cons _ _ _ _ (.int _ _) (.nil))) run_le_5
    · exact go (.cons _ _ _ _ (.ile _ _ _ hb0) (.cons _ _ _ _ (.int _ _) (.nil))) run_le_6
    · exact go (.cons _ _ _ _ (.ile _ _ _ hb0) (.cons _ _ _ _ (.int _ _) (.nil))) run_le_7
    · exact go (.cons _ _ _ _ (.ile _ _ _ hb0) (.cons _ _ _ _ (.int _ _) (.nil))) run_le_8
    · exact go (.cons _ _ _ _ (.ile _ _ _ hb0) (.cons _ _ _ _ (.int _ _) (.nil))) run_le_9
    · exact go (.cons _ _ _ _ (.ile _ _ _ hb0) (.cons _ _ _ _ (.int _ _) (.nil))) run_le_10
    · exact go (.cons _ _ _ _ (.ile _ _ _ hb0) (.cons _ _ _ _ (.int _ _) (.nil))) run_le_11
    · exact go (.cons _ _ _ _ (.ile _ _ _ hb0) (.cons _ _ _ _ (.int _ _) (.nil))) run_le_12
    · exact go (.cons _ _ _ _ (.ile _ _ _ hb0) (.cons _ _ _ _ (.int _ _) (.nil))) run_le_13
    · exact go (.cons _ _ _ _ (.ile _ _ _ hb0) (.cons _ _ _ _ (.int _ _) (.nil))) run_le_14
    · exact go (.cons _ _ _ _ (.ile _ _ _ hb0) (.cons _ _ _ _ (.int _ _) (.nil))) run_le_15
    · exact go (.cons _ _ _ _ (.ile _ _ _ hb0) (.cons _ _ _ _ (.int _ _) (.nil))) run_le_16
    · exact go (.cons _ _ _ _ (.ile _ _ _ hb0) (.cons _ _ _ _ (.int _ _) (.nil))) run_le_17
    · exact go (.cons _ _ _ _ (.ile _ _ _ hb0) (.cons _ _ _ _ (.int _ _) (.nil))) run_le_18
    · exact go (.cons _ _ _ _ (.ile _ _ _ hb0) (.cons _ _ _ _ (.int _ _) (.nil))) run_le_19
    · exact go (.cons _ _ _ _ (.ile _ _ _ hb0) (.cons _ _ _ _ (.int _ _) (.nil))) run_le_20
  by_cases ha0 : 65 ≤ a0
  · by_cases hb1 : a1 ≤ -1
    · exact go (.cons _ _ _ _ (.ige _ _ _ ha0) (.cons _ _ _ _ (.ile _ _ _ hb1) (.nil))) run_ge_le
    by_cases ha1 : 21 ≤ a1
    · exact go (.cons _ _ _ _ (.ige _ _ _ ha0) (.cons _ _ _ _ (.ige _ _ _ ha1) (.nil))) run_ge_ge
    have hc1 : a1 = 0 ∨ a1 = 1 ∨ a1 = 2 ∨ a1 = 3 ∨ a1 = 4 ∨ a1 = 5 ∨ a1 = 6 ∨ a1 = 7 ∨ a1 = 8 ∨ a1 = 9 ∨ a1 = 10 ∨ a1 = 11 ∨ a1 = 12 ∨ a1 = 13 ∨ a1 = 14 ∨ a1 = 15 ∨ a1 = 16 ∨ a1 = 17 ∨ a1 = 18 ∨ a1 = 19 ∨ a1 = 20 := by omega
    rcases hc1 with rfl | rfl | rfl | rfl | rfl | rfl | rfl | rfl | rfl | rfl | rfl | rfl | rfl | rfl | rfl | rfl | rfl | rfl | rfl | rfl | rfl
    · exact go (.cons _ _ _ _ (.ige _ _ _ ha0) (.cons _ _ _ _ (.int _ _) (.nil))) run_ge_0
    · exact go (.cons _ _ _ _ (.ige _ _ _ ha0) (.cons _ _ _ _ (.int _ _) (.nil))) run_ge_1
    · exact go (.cons _ _ _ _ (.ige _ _ _ ha0) (.cons _ _ _ _ (.int _ _) (.nil))) run_ge_2
    · exact go (.cons _ _ _ _ (.ige _ _ _ ha0) (.cons _ _ _ _ (.int _ _) (.nil))) run_ge_3
    · exact go (.cons _ _ _ _ (.ige _ _ _ ha0) (.cons _ _ _ _ (.int _ _) (.nil))) run_ge_4
    · exact go (.cons _ _ _ _ (.ige _ _ _ ha0) (.cons _ _ _ _ (.int _ _) (.nil))) run_ge_5
    · exact go (.cons _ _ _ _ (.ige _ _ _ ha0) (.cons _ _ _ _ (.int _ _) (.nil))) run_ge_6
    · exact go (.cons _ _ _ _ (.ige _ _ _ ha0) (.cons _ _ _ _ (.int _ _) (.nil))) run_ge_7
    · exact go (.cons _ _ _ _ (.ige _ _ _ ha0) (.cons _ _ _ _ (.int _ _) (.nil))) run_ge_8
    · exact go (.cons _ _ _ _ (.ige _ _ _ ha0) (.cons _ _ _ _ (.int _ _) (.nil))) run_ge_9
    · exact go (.cons _ _ _ _ (.ige _ _ _ ha0) (.cons _ _ _ _ (.int _ _) (.nil))) run_ge_10
    · exact go (.cons _ _ _ _ (.ige _ _ _ ha0) (.cons _ _ _ _ (.int _ _) (.nil))) run_ge_11
    · exact go (.cons _ _ _ _ (.ige _ _ _ ha0) (.cons _ _ _ _ (.int _ _) (.nil))) run_ge_12
    · exact go (.cons _ _ _ _ (.ige _ _ _ ha0) (.cons _ _ _ _ (.int _ _) (.nil))) run_ge_13
    · exact go (.cons _ _ _ _ (.ige _ _ _ ha0) (.cons _ _ _ _ (.int _ _) (.nil))) run_ge_14
    · exact go (.cons _ _ _ _ (.ige _ _ _ ha0) (.cons _ _ _ _ (.int _ _) (.nil))) run_ge_15
    · exact go (.cons _ _ _ _ (.ige _ _ _ ha0) (.cons _ _ _ _ (.int _ _) (.nil))) run_ge_16
    · exact go (.cons _ _ _ _ (.ige _ _ _ ha0) (.cons _ _ _ _ (.int _ _) (.nil))) run_ge_17
    · exact go (.cons _ _ _ _ (.ige _ _ _ ha0) (.cons _ _ _ _ (.int _ _) (.nil))) run_ge_18
    · exact go (.cons _ _ _ _ (.ige _ _ _ ha0) (.cons _ _ _ _ (.int _ _) (.nil))) run_ge_19
    · exact go (.cons _ _ _ _ (.ige _ _ _ ha0) (.cons _ _ _ _ (.int _ _) (.nil))) run_ge_20
  have hc0 : a0 = 1 ∨ a0 = 2 ∨ a0 = 3 ∨ a0 = 4 ∨ a0 = 5 ∨ a0 = 6 ∨ a0 = 7 ∨ a0 = 8 ∨ a0 = 9 ∨ a0 = 10 ∨ a0 = 11 ∨ a0 = 12 ∨ a0 = 13 ∨ a0 = 14 ∨ a0 = 15 ∨ a0 = 16 ∨ a0 = 17 ∨ a0 = 18 ∨ a0 = 19 ∨ a0 = 20 ∨ a0 = 21 ∨ a0 = 22 ∨ a0 = 23 ∨ a0 = 24 ∨ a0 = 25 ∨ a0 = 26 ∨ a0 = 27 ∨ a0 = 28 ∨ a0 = 29 ∨ a0 = 30 ∨ a0 = 31 ∨ a0 = 32 ∨ a0 = 33 ∨ a0 = 34 ∨ a0 = 35 ∨ a0 = 36 ∨ a0 = 37 ∨ a0 = 38 ∨ a0 = 39 ∨ a0 = 40 ∨ a0 = 41 ∨ a0 = 42 ∨ a0 = 43 ∨ a0 = 44 ∨ a0 = 45 ∨ a0 = 46 ∨ a0 = 47 ∨ a0 = 48 ∨ a0 = 49 ∨ a0 = 50 ∨ a0 = 51 ∨ a0 = 52 ∨ a0 = 53 ∨ a0 = 54 ∨ a0 = 55 ∨ a0 = 56 ∨ a0 = 57 ∨ a0 = 58 ∨ a0 = 59 ∨ a0 = 60 ∨ a0 = 61 ∨ a0 = 62 ∨ a0 = 63 ∨ a0 = 64 := by omega
  rcases hc0 with rfl | rfl | rfl | rfl | rfl | rfl | rfl | rfl | rfl | rfl | rfl | rfl | rfl | rfl | rfl | rfl | rfl | rfl | rfl | rfl | rfl | rfl | rfl | rfl | rfl | rfl | rfl | rfl | rfl | rfl | rfl | rfl | rfl | rfl | rfl | rfl | rfl | rfl | rfl | rfl | rfl | rfl | rfl | rfl | rfl | rfl | rfl | rfl | rfl | rfl | rfl | rfl | rfl | rfl | rfl | rfl | rfl | rfl | rfl | rfl | rfl | rfl | rfl | rfl
  · by_cases hb1 : a1 ≤ -1
    · exact go (.cons _ _ _ _ (.int _ _) (.cons _ _ _ _ (.ile _ _ _ hb1) (.nil))) run_1_le
    by_cases ha1 : 21 ≤ a1
    · exact go (.cons _ _ _ _ (.int _ _) (.cons _ _ _ _ (.ige _ _ _ ha1) (.nil))) run_1_ge
    have hc1 : a1 = 0 ∨ a1 = 1 ∨ a1 = 2 ∨ a1 = 3 ∨ a1 = 4 ∨ a1 = 5 ∨ a1 = 6 ∨ a1 = 7 ∨ a1 = 8 ∨ a1 = 9 ∨ a1 = 10 ∨ a1 = 11 ∨ a1 = 12 ∨ a1 = 13 ∨ a1 = 14 ∨ a1 = 15 ∨ a1 = 16 ∨ a1 = 17 ∨ a1 = 18 ∨ a1 = 19 ∨ a1 = 20 := by omega
    rcases hc1 with rfl | rfl | rfl | rfl | rfl | rfl | rfl | rfl | rfl | rfl | rfl | rfl | rfl | rfl | rfl | rfl | rfl | rfl | rfl | rfl | rfl
    · exact go (.cons _ _ _ _ (.int _ _) (.cons _ _ _ _ (.int _ _) (.nil))) run_1_0
    · exact go (.cons _ _ _ _ (.int _ _) (.cons _ _ _ _ (.int _ _) (.nil))) run_1_1
    · exact go (.cons _ _ _ _ (.int _ _) (.cons _ _ _ _ (.int _ _) (.nil))) run_1_2
    · exact go (.cons _ _ _ _ (.int _ _) (.cons _ _ _ _ (.int _ _) (.nil))) run_1_3
    · exact go (.cons _ _ _ _ (.int _ _) (.cons _ _ _ _ (.int _ _) (.nil))) run_1_4
    · exact go (.cons _ _ _ _ (.int _ _) (.cons _ _ _ _ (.int _ _) (.nil))) run_1_5
    · exact go (.cons _ _ _ _ (.int _ _) (.cons _ _ _ _ (.int _ _) (.nil))) run_1_6
    · exact go (.cons _ _ _ _ (.int _ _) (.cons _ _ _ _ (.int _ _) (.nil))) run_1_7
    · exact go (.cons _ _ _ _ (.int _ _) (.cons _ _ _ _ (.int _ _) (.nil))) run_1_8
    · exact go (.cons _ _ _ _ (.int _ _) (.cons _ _ _ _ (.int _ _) (.nil))) run_1_9
    · exact go (.cons _ _ _ _ (.int _ _) (.cons _ _ _ _ (.int _ _) (.nil))) run_1_10
    · exact go (.cons _ _ _ _ (.int _ _) (.cons _ _ _ _ (.int _ _) (.nil))) run_1_11
    · exact go (.cons _ _ _ _ (.int _ _) (.cons _ _ _ _ (.int _ _) (.nil))) run_1_12
    · exact go (.cons _ _ _ _ (.int _ _) (.cons _ _ _ _ (.int _ _) (.nil))) run_1_13
    · exact go (.cons _ _ _ _ (.int _ _) (.cons _ _ _ _ (.int _ _) (.nil))) run_1_14
    · exact go (.cons _ _ _ _ (.int _ _) (.cons _ _ _ _ (.int _ _) (.nil))) run_1_15
    · exact go (.cons _ _ _ _ (.int _ _) (.cons _ _ _ _ (.int _ _) (.nil))) run_1_16
    · exact go (.cons _ _ _ _ (.int _ _) (.cons _ _ _ _ (.int _ _) (.nil))) run_1_17
    · exact go (.cons _ _ _ _ (.int _ _) (.cons _ _ _ _ (.int _ _) (.nil))) run_1_18
    · exact go (.cons _ _ _ _ (.int _ _) (.cons _ _ _ _ (.int _ _) (.nil))) run_1_19
    · exact go (.cons _ _ _ _ (.int _ _) (.cons _ _ _ _ (.int _ _) (.nil))) run_1_20
  · by_cases hb1 : a1 ≤ -1
    · exact go (.cons _ _ _ _ (.int _ _) (.cons _ _ _ _ (.ile _ _ _ hb1) (.nil))) run_2_le
    by_cases ha1 : 21 ≤ a1
    · exact go (.cons _ _ _ _ (.int _ _) (.cons _ _ _ _ (.ige _ _ _ ha1) (.nil))) run_2_ge
    have hc1 : a1 = 0 ∨ a1 = 1 ∨ a1 = 2 ∨ a1 = 3 ∨ a1 = 4 ∨ a1 = 5 ∨ a1 = 6 ∨ a1 = 7 ∨ a1 = 8 ∨ a1 = 9 ∨ a1 = 10 ∨ a1 = 11 ∨ a1 = 12 ∨ a1 = 13 ∨ a1 = 14 ∨ a1 = 15 ∨ a1 = 16 ∨ a1 = 17 ∨ a1 = 18 ∨ a1 = 19 ∨ a1 = 20 := by omega
    rcases hc1 with rfl | rfl | rfl | rfl | rfl | rfl | rfl | rfl | rfl | rfl | rfl | rfl | rfl | rfl | rfl | rfl | rfl | rfl | rfl | rfl | rfl
    · exact go (.cons _ _ _ _ (.int _ _) (.cons _ _ _ _ (.int _ _) (.nil))) run_2_0
    · exact go (.cons _ _ _ _ (.int _ _) (.cons _ _ _ _ (.int _ _) (.nil))) run_2_1
    · exact go (.cons _ _ _ _ (.int _ _) (.cons _ _ _ _ (.int _ _) (.nil))) run_2_2
    · exact go (.cons _ _ _ _ (.int _ _) (.cons _ _ _ _ (.int _ _) (.nil))) run_2_3
    · exact go (.cons _ _ _ _ (.int _ _) (.cons _ _ _ _ (.int _ _) (.nil))) run_2_4
    · exact go (.cons _ _ _ _ (.int _ _) (.cons _ _ _ _ (.int _ _) (.nil))) run_2_5
    · exact go (.cons _ _ _ _ (.int _ _) (.cons _ _ _ _ (.int _ _) (.nil))) run_2_6
    · exact go (.cons _ _ _ _ (.int _ _) (.cons _ _ _ _ (.int _ _) (.nil))) run_2_7
    · exact go (.cons _ _ _ _ (.int _ _) (.cons _ _ _ _ (.int _ _) (.nil))) run_2_8
    · exact go (.cons _ _ _ _ (.int _ _) (.cons _ _ _ _ (.int _ _) (.nil))) run_2_9
    · exact go (.cons _ _ _ _ (.int _ _) (.cons _ _ _ _ (.int _ _) (.nil))) run_2_10
    · exact go (.cons _ _ _ _ (.int _ _) (.cons _ _ _ _ (.int _ _) (.nil))) run_2_11
    · exact go (.cons _ _ _ _ (.int _ _) (.cons _ _ _ _ (.int _ _) (.nil))) run_2_12
    · exact go (.cons _ _ _ _ (.int _ _) (.cons _ _ _ _ (.int _ _) (.nil))) run_2_13
    · exact go (.cons _ _ _ _ (.int _ _) (.cons _ _ _ _ (.int _ _) (.nil))) run_2_14
    · exact go (.cons _ _ _ _ (.int _ _) (.cons _ _ _ _ (.int _ _) (.nil))) run_2_15
    · exact go (.cons _ _ _ _ (.int _ _) (.cons _ _ _ _ (.int _ _) (.nil))) run_2_16
    · exact go (.cons _ _ _ _ (.int _ _) (.cons _ _ _ _ (.int _ _) (.nil))) run_2_17
    · exact go (.cons _ _ _ _ (.int _ _) (.cons _ _ _ _ (.int _ _) (.nil))) run_2_18
    · exact go (.cons _ _ _ _ (.int _ _) (.cons _ _ _ _ (.int _ _) (.nil))) run_2_19
    · exact go (.cons _ _ _ _ (.int _ _) (.cons _ _ _ _ (.int _ _) (.nil))) run_2_20
  · by_cases hb1 : a1 ≤ -1
    · exact go (.cons _ _ _ _ (.int _ _) (.cons _ _ _ _ (.ile _ _ _ hb1) (.nil))) run_3_le
    by_cases ha1 : 21 ≤ a1
    · exact go (.cons _ _ _ _ (.int _ _) (.cons _ _ _ _ (.ige _ _ _ ha1) (.nil))) run_3_ge
    have hc1 : a1 = 0 ∨ a1 = 1 ∨ a1 = 2 ∨ a1 = 3 ∨ a1 = 4 ∨ a1 = 5 ∨ a1 = 6 ∨ a1 = 7 ∨ a1 = 8 ∨ a1 = 9 ∨ a1 = 10 ∨ a1 = 11 ∨ a1 = 12 ∨ a1 = 13 ∨ a1 = 14 ∨ a1 = 15 ∨ a1 = 16 ∨ a1 = 17 ∨ a1 = 18 ∨ a1 = 19 ∨ a1 = 20 := by omega
    rcases hc1 with rfl | rfl | rfl | rfl | rfl | rfl | rfl | rfl | rfl | rfl | rfl | rfl | rfl | rfl | rfl | rfl | rfl | rfl | rfl | rfl | rfl
    · exact go (.cons _ _ _ _ (.int _ _) (.cons _ _ _ _ (.int _ _) (.nil))) run_3_0
    · exact go (.cons _ _ _ _ (.int _ _) (.cons _ _ _ _ (.int _ _) (.nil))) run_3_1
    · exact go (.cons _ _ _ _ (.int _ _) (.cons _ _ _ _ (.int _ _) (.nil))) run_3_2
    · exact go (.cons _ _ _ _ (.int _ _) (.cons _ _ _ _ (.int _ _) (.nil))) run_3_3
    · exact go (.cons _ _ _ _ (.int _ _) (.cons _ _ _ _ (.int _ _) (.nil))) run_3_4
    · exact go (.cons _ _ _ _ (.int _ _) (.cons _ _ _ _ (.int _ _) (.nil))) run_3_5
    · exact go (.cons _ _ _ _ (.int _ _) (.cons _ _ _ _ (.int _ _) (.nil))) run_3_6
    · exact go (.cons _ _ _ _ (.int _ _) (.cons _ _ _ _ (.int _ _) (.nil))) run_3_7
    · exact go (.cons _ _ _ _ (.int _ _) (.cons _ _ _ _ (.int _ _) (.nil))) run_3_8
    · exact go (.cons _ _ _ _ (.int _ _) (.cons _ _ _ _ (.int _ _) (.nil))) run_3_9
    · exact go (.cons _ _ _ _ (.int _ _) (.cons _ _ _ _ (.int _ _) (.nil))) run_3_10
    · exact go (.cons _ _ _ _ (.int _ _) (.cons _ _ _ _ (.int _ _) (.nil))) run_3_11
    · exact go (.cons _ _ _ _ (.int _ _) (.cons _ _ _ _ (.int _ _) (.nil))) run_3_12
    · exact go (.cons _ _ _ _ (.int _ _) (.cons _ _ _ _ (.int _ _) (.nil))) run_3_13
    · exact go (.cons _ _ _ _ (.int _ _) (.cons _ _ _ _ (.int _ _) (.nil))) run_3_14
    · exact go (.cons _ _ _ _ (.int _ _) (.cons _ _ _ _ (.int _ _) (.nil))) run_3_15
    · exact go (.cons _ _ _ _ (.int _ _) (.cons _ _ _ _ (.int _ _) (.nil))) run_3_16
    · exact go (.cons _ _ _ _ (.int _ _) (.cons _ _ _ _ (.int _ _) (.nil))) run_3_17
    · exact go (.cons _ _ _ _ (.int _ _) (.cons _ _ _ _ (.int _ _) (.nil))) run_3_18
    · exact go (.cons _ _ _ _ (.int _ _) (.cons _ _ _ _ (.int _ _) (.nil))) run_3_19
    · exact go (.cons _ _ _ _ (.int _ _) (.cons _ _ _ _ (.int _ _) (.nil))) run_3_20
  · by_cases hb1 : a1 ≤ -1
    · exact go (.cons _ _ _ _ (.int _ _) (.cons _ _ _ _ (.ile _ _ _ hb1) (.nil))) run_4_le
    by_cases ha1 : 21 ≤ a1
    · exact go (.cons _ _ _ _ (.int _ _) (.cons _ _ _ _ (.ige _ _ _ ha1) (.nil))) run_4_ge
    have hc1 : a1 = 0 ∨ a1 = 1 ∨ a1 = 2 ∨ a1 = 3 ∨ a1 = 4 ∨ a1 = 5 ∨ a1 = 6 ∨ a1 = 7 ∨ a1 = 8 ∨ a1 = 9 ∨ a1 = 10 ∨ a1 = 11 ∨ a1 = 12 ∨ a1 = 13 ∨ a1 = 14 ∨ a1 = 15 ∨ a1 = 16 ∨ a1 = 17 ∨ a1 = 18 ∨ a1 = 19 ∨ a1 = 20 := by omega
    rcases hc1 with rfl | rfl | rfl | rfl | rfl | rfl | rfl | rfl | rfl | rfl | rfl | rfl | rfl | rfl | rfl | rfl | rfl | rfl | rfl | rfl | rfl
    · exact go (.cons _ _ _ _ (.int _ _) (.cons _ _ _ _ (.int _ _) (.nil))) run_4_0
    · exact go (.cons _ _ _ _ (.int _ _) (.cons _ _ _ _ (.int _ _) (.nil))) run_4_1
    · exact go (.cons _ _ _ _ (.int _ _) (.cons _ _ _ _ (.int _ _) (.nil))) run_4_2
    · exact go (.cons _ _ _ _ (.int _ _) (.cons _ _ _ _ (.int _ _) (.nil))) run_4_3
    · exact go (.cons _ _ _ _ (.int _ _) (.cons _ _ _ _ (.int _ _) (.nil))) run_4_4
    · exact go (.cons _ _ _ _ (.int _ _) (.cons _ _ _ _ (.int _ _) (.nil))) run_4_5
    · exact go (.cons _ _ _ _ (.int _ _) (.cons _ _ _ _ (.int _ _) (.nil))) run_4_6
    · exact go (.cons _ _ _ _ (.int _ _) (.cons _ _ _ _ (.int _ _) (.nil))) run_4_7
    · exact go (.cons _ _ _ _ (.int _ _) (.cons _ _ _ _ (.int _ _) (.nil))) run_4_8
    · exact go (.cons _ _ _ _ (.int _ _) (.cons _ _ _ _ (.int _ _) (.nil))) run_4_9
    · exact go (.cons _ _ _ _ (.int _ _) (.cons _ _ _ _ (.int _ _) (.nil))) run_4_10
    · exact go (.cons _ _ _ _ (.int _ _) (.cons _ _ _ _ (.int _ _) (.nil))) run_4_11
    · exact go (.cons _ _ _ _ (.int _ _) (.cons _ _ _ _ (.int _ _) (.nil))) run_4_12
    · exact go (.cons _ _ _ _ (.int _ _) (.cons _ _ _ _ (.int _ _) (.nil))) run_4_13
    · exact go (.cons _ _ _ _ (.int _ _) (.cons _ _ _ _ (.int _ _) (.nil))) run_4_14
    · exact go (.cons _ _ _ _ (.int _ _) (.cons _ _ _ _ (.int _ _) (.nil))) run_4_15
    · exact go (.cons _ _ _ _ (.int _ _) (.cons _ _ _ _ (.int _ _) (.nil))) run_4_16
    · exact go (.cons _ _ _ _ (.int _ _) (.cons _ _ _ _ (.int _ _) (.nil))) run_4_17
    · exact go (.cons _ _ _ _ (.int _ _) (.cons _ _ _ _ (.int _ _) (.nil))) run_4_18
    · exact go (.cons _ _ _ _ (.int _ _) (.cons _ _ _ _ (.int _ _) (.nil))) run_4_19
    · exact go (.cons _ _ _ _ (.int _ _) (.cons _ _ _ _ (.int _ _) (.nil))) run_4_20
  · by_cases hb1 : a1 ≤ -1
    · exact go (.cons _ _ _ _ (.int _ _) (.cons _ _ _ _ (.ile _ _ _ hb1) (.nil))) run_5_le
    by_cases ha1 : 21 ≤ a1
    · exact go (.cons _ _ _ _ (.int _ _) (.cons _ _ _ _ (.ige _ _ _ ha1) (.nil))) run_5_ge
    have hc1 : a1 = 0 ∨ a1 = 1 ∨ a1 = 2 ∨ a1 = 3 ∨ a1 = 4 ∨ a1 = 5 ∨ a1 = 6 ∨ a1 = 7 ∨ a1 = 8 ∨ a1 = 9 ∨ a1 = 10 ∨ a1 = 11 ∨ a1 = 12 ∨ a1 = 13 ∨ a1 = 14 ∨ a1 = 15 ∨ a1 = 16 ∨ a1 = 17 ∨ a1 = 18 ∨ a1 = 19 ∨ a1 = 20 := by omega
    rcases hc1 with rfl | rfl | rfl | rfl | rfl | rfl | rfl | rfl | rfl | rfl | rfl | rfl | rfl | rfl | rfl | rfl | rfl | rfl | rfl | rfl | rfl
    · exact go (.cons _ _ _ _ (.int _ _) (.cons _ _ _ _ (.int _ _) (.nil))) run_5_0
    · exact go (.cons _ _ _ _ (.int _ _) (.cons _ _ _ _ (.int _ _) (.nil))) run_5_1
    · exact go (.cons _ _ _ _ (.int _ _) (.cons _ _ _ _ (.int _ _) (.nil))) run_5_2
    · exact go (.cons _ _ _ _ (.int _ _) (.cons _ _ _ _ (.int _ _) (.nil))) run_5_3
    · exact go (.cons _ _ _ _ (.int _ _) (.cons _ _ _ _ (.int _ _) (.nil))) run_5_4
    · exact go (.cons _ _ _ _ (.int _ _) (.cons _ _ _ _ (.int _ _) (.nil))) run_5_5
    · exact go (.cons _ _ _ _ (.int _ _) (.cons _ _ _ _ (.int _ _) (.nil))) run_5_6
    · exact go (.cons _ _ _ _ (.int _ _) (.cons _ _ _ _ (.int _ _) (.nil))) run_5_7
    · exact go (.cons _ _ _ _ (.int _ _) (.cons _ _ _ _ (.int _ _) (.nil))) run_5_8
    · exact go (.cons _ _ _ _ (.int _ _) (.cons _ _ _ _ (.int _ _) (.nil))) run_5_9
    · exact go (.cons _ _ _ _ (.int _ _) (.cons _ _ _ _ (.int _ _) (.nil))) run_5_10
    · exact go (.cons _ _ _ _ (.int _ _) (.cons _ _ _ _ (.int _ _) (.nil))) run_5_11
    · exact go (.cons _ _ _ _ (.int _ _) (.cons _ _ _ _ (.int _ _) (.nil))) run_5_12
    · exact go (.cons _ _ _ _ (.int _ _) (.cons _ _ _ _ (.int _ _) (.nil))) run_5_13
    · exact go (.cons _ _ _ _ (.int _ _) (.cons _ _ _ _ (.int _ _) (.nil))) run_5_14
    · exact go (.cons _ _ _ _ (.int _ _) (.cons _ _ _ _ (.int _ _) (.nil))) run_5_15
    · exact go (.cons _ _ _ _ (.int _ _) (.cons _ _ _ _ (.int _ _) (.nil))) run_5_16
    · exact go (.cons _ _ _ _ (.int _ _) (.cons _ _ _ _ (.int _ _) (.nil))) run_5_17
    · exact go (.cons _ _ _ _ (.int _ _) (.cons _ _ _ _ (.int _ _) (.nil))) run_5_18
    · exact go (.cons _ _ _ _ (.int _ _) (.cons _ _ _ _ (.int _ _) (.nil))) run_5_19
    · exact go (.cons _ _ _ _ (.int _ _) (.cons _ _ _ _ (.int _ _) (.nil))) run_5_20
  · by_cases hb1 : a1 ≤ -1
    · exact go (.cons _ _ _ _ (.int _ _) (.cons _ _ _ _ (.ile _ _ _ hb1) (.nil))) run_6_le
    by_cases ha1 : 21 ≤ a1
    · exact go (.cons _ _ _ _ (.int _ _) (.cons _ _ _ _ (.ige _ _ _ ha1) (.nil))) run_6_ge
    have hc1 : a1 = 0 ∨ a1 = 1 ∨ a1 = 2 ∨ a1 = 3 ∨ a1 = 4 ∨ a1 = 5 ∨ a1 = 6 ∨ a1 = 7 ∨ a1 = 8 ∨ a1 = 9 ∨ a1 = 10 ∨ a1 = 11 ∨ a1 = 12 ∨ a1 = 13 ∨ a1 = 14 ∨ a1 = 15 ∨ a1 = 16 ∨ a1 = 17 ∨ a1 = 18 ∨ a1 = 19 ∨ a1 = 20 := by omega
    rcases hc1 with rfl | rfl | rfl | rfl | rfl | rfl | rfl | rfl | rfl | rfl | rfl | rfl | rfl | rfl | rfl | rfl | rfl | rfl | rfl | rfl | rfl
    · exact go (.cons _ _ _ _ (.int _ _) (.cons _ _ _ _ (.int _ _) (.nil))) run_6_0
    · exact go (.cons _ _ _ _ (.int _ _) (.cons _ _ _ _ (.int _ _) (.nil))) run_6_1
    · exact go (.cons _ _ _ _ (.int _ _) (.cons _ _ _ _ (.int _ _) (.nil))) run_6_2
    · exact go (.cons _ _ _ _ (.int _ _) (.cons _ _ _ _ (.int _ _) (.nil))) run_6_3
    · exact go (.cons _ _ _ _ (.int _ _) (.cons _ _ _ _ (.int _ _) (.nil))) run_6_4
    · exact go (.cons _ _ _ _ (.int _ _) (.cons _ _ _ _ (.int _ _) (.nil))) run_6_5
    · exact go (.cons _ _ _ _ (.int _ _) (.cons _ _ _ _ (.int _ _) (.nil))) run_6_6
    · exact go (.cons _ _ _ _ (.int _ _) (.cons _ _ _ _ (.int _ _) (.nil))) run_6_7
    · exact go (.cons _ _ _ _ (.int _ _) (.cons _ _ _ _ (.int _ _) (.nil))) run_6_8
    · exact go (.cons _ _ _ _ (.int _ _) (.cons _ _ _ _ (.int _ _) (.nil))) run_6_9
    · exact go (.cons _ _ _ _ (.int _ _) (.cons _ _ _ _ (.int _ _) (.nil))) run_6_10
    · exact go (.cons _ _ _ _ (.int _ _) (.cons _ _ _ _ (.int _ _) (.nil))) run_6_11
    · exact go (.cons _ _ _ _ (.int _ _) (.cons _ _ _ _ (.int _ _) (.nil))) run_6_12
    · exact go (.cons _ _ _ _ (.int _ _) (.cons _ _ _ _ (.int _ _) (.nil))) run_6_13
    · exact go (.cons _ _ _ _ (.int _ _) (.cons _ _ _ _ (.int _ _) (.nil))) run_6_14
    · exact go (.cons _ _ _ _ (.int _ _) (.cons _ _ _ _ (.int _ _) (.nil))) run_6_15
    · exact go (.cons _ _ _ _ (.int _ _) (.cons _ _ _ _ (.int _ _) (.nil))) run_6_16
    · exact go (.cons _ _ _ _ (.int _ _) (.cons _ _ _ _ (.int _ _) (.nil))) run_6_17
    · exact go (.cons _ _ _ _ (.int _ _) (.cons _ _ _ _ (.int _ _) (.nil))) run_6_18
    · exact go (.cons _ _ _ _ (.int _ _) (.cons _ _ _ _ (.int _ _) (.nil))) run_6_19
    · exact go (.cons _ _ _ _ (.int _ _) (.cons _ _ _ _ (.int _ _) (.nil))) run_6_20
  · by_cases hb1 : a1 ≤ -1
    · exact go (.cons _ _ _ _ (.int _ _) (.cons _ _ _ _ (.ile _ _ _ hb1) (.nil))) run_7_le
    by_cases ha1 : 21 ≤ a1
    · exact go (.cons _ _ _ _ (.int _ _) (.cons _ _ _ _ (.ige _ _ _ ha1) (.nil))) run_7_ge
    have hc1 : a1 = 0 ∨ a1 = 1 ∨ a1 = 2 ∨ a1 = 3 ∨ a1 = 4 ∨ a1 = 5 ∨ a1 = 6 ∨ a1 = 7 ∨ a1 = 8 ∨ a1 = 9 ∨ a1 = 10 ∨ a1 = 11 ∨ a1 = 12 ∨ a1 = 13 ∨ a1 = 14 ∨ a1 = 15 ∨ a1 = 16 ∨ a1 = 17 ∨ a1 = 18 ∨ a1 = 19 ∨ a1 = 20 := by omega
    rcases hc1 with rfl | rfl | rfl | rfl | rfl | rfl | rfl | rfl | rfl | rfl | rfl | rfl | rfl | rfl | rfl | rfl | rfl | rfl | rfl | rfl | rfl
    · exact go (.cons _ _ _ _ (.int _ _) (.cons _ _ _ _ (.int _ _) (.nil))) run_7_0
    · exact go (.cons _ _ _ _ (.int _ _) (.cons _ _ _ _ (.int _ _) (.nil))) run_7_1
    · exact go (.cons _ _ _ _ (.int _ _) (.cons _ _ _ _ (.int _ _) (.nil))) run_7_2
    · exact go (.cons _ _ _ _ (.int _ _) (.cons _ _ _ _ (.int _ _) (.nil))) run_7_3
    · exact go (.cons _ _ _ _ (.int _ _) (.cons _ _ _ _ (.int _ _) (.nil))) run_7_4
    · exact go (.cons _ _ _ _ (.int _ _) (.cons _ _ _ _ (.int _ _) (.nil))) run_7_5
    · exact go (.cons _ _ _ _ (.int _ _) (.cons _ _ _ _ (.int _ _) (.nil))) run_7_6
    · exact go (.cons _ _ _ _ (.int _ _) (.cons _ _ _ _ (.int _ _) (.nil))) run_7_7
    · exact go (.cons _ _ _ _ (.int _ _) (.cons _ _ _ _ (.int _ _) (.nil))) run_7_8
    · exact go (.cons _ _ _ _ (.int _ _) (.cons _ _ _ _ (.int _ _) (.nil))) run_7_9
    · exact go (.cons _ _ _ _ (.int _ _) (.cons _ _ _ _ (.int _ _) (.nil))) run_7_10
    · exact go (.cons _ _ _ _ (.int _ _) (.cons _ _ _ _ (.int _ _) (.nil))) run_7_11
    · exact go (.cons _ _ _ _ (.int _ _) (.cons _ _ _ _ (.int _ _) (.nil))) run_7_12
    · exact go (.cons _ _ _ _ (.int _ _) (.cons _ _ _ _ (.int _ _) (.nil))) run_7_13
    · exact go (.cons _ _ _ _ (.int _ _) (.cons _ _ _ _ (.int _ _) (.nil))) run_7_14
    · exact go (.cons _ _ _ _ (.int _ _) (.cons _ _ _ _ (.int _ _) (.nil))) run_7_15
    · exact go (.cons _ _ _ _ (.int _ _) (.cons _ _ _ _ (.int _ _) (.nil))) run_7_16
    · exact go (.cons _ _ _ _ (.int _ _) (.cons _ _ _ _ (.int _ _) (.nil))) run_7_17
    · exact go (.cons _ _ _ _ (.int _ _) (.cons _ _ _ _ (.int _ _) (.nil))) run_7_18
    · exact go (.cons _ _ _ _ (.int _ _) (.cons _ _ _ _ (.int _ _) (.nil))) run_7_19
    · exact go (.cons _ _ _ _ (.int _ _) (.cons _ _ _ _ (.int _ _) (.nil))) run_7_20
  · by_cases hb1 : a1 ≤ -1
    · exact go (.cons _ _ _ _ (.int _ _) (.cons _ _ _ _ (.ile _ _ _ hb1) (.nil))) run_8_le
    by_cases ha1 : 21 ≤ a1
    · exact go (.cons _ _ _ _ (.int _ _) (.cons _ _ _ _ (.ige _ _ _ ha1) (.nil))) run_8_ge
    have hc1 : a1 = 0 ∨ a1 = 1 ∨ a1 = 2 ∨ a1 = 3 ∨ a1 = 4 ∨ a1 = 5 ∨ a1 = 6 ∨ a1 = 7 ∨ a1 = 8 ∨ a1 = 9 ∨ a1 = 10 ∨ a1 = 11 ∨ a1 = 12 ∨ a1 = 13 ∨ a1 = 14 ∨ a1 = 15 ∨ a1 = 16 ∨ a1 = 17 ∨ a1 = 18 ∨ a1 = 19 ∨ a1 = 20 := by omega
    rcases hc1 with rfl | rfl | rfl | rfl | rfl | rfl | rfl | rfl | rfl | rfl | rfl | rfl | rfl | rfl | rfl | rfl | rfl | rfl | rfl | rfl | rfl
    · exact go (.cons _ _ _ _ (.int _ _) (.cons _ _ _ _ (.int _ _) (.nil))) run_8_0
    · exact go (.cons _ _ _ _ (.int _ _) (.cons _ _ _ _ (.int _ _) (.nil))) run_8_1
    · exact go (.cons _ _ _ _ (.int _ _) (.cons _ _ _ _ (.int _ _) (.nil))) run_8_2
    · exact go (.cons _ _ _ _ (.int _ _) (.cons _ _ _ _ (.int _ _) (.nil))) run_8_3
    · exact go (.cons _ _ _ _ (.int _ _) (.cons _ _ _ _ (.int _ _) (.nil))) run_8_4
    · exact go (.cons _ _ _ _ (.int _ _) (.cons _ _ _ _ (.int _ _) (.nil))) run_8_5
    · exact go (.cons _ _ _ _ (.int _ _) (.cons _ _ _ _ (.int _ _) (.nil))) run_8_6
    · exact go (.cons _ _ _ _ (.int _ _) (.cons _ _ _ _ (.int _ _) (.nil))) run_8_7
    · exact go (.cons _ _ _ _ (.int _ _) (.cons _ _ _ _ (.int _ _) (.nil))) run_8_8
    · exact go (.cons _ _ _ _ (.int _ _) (.cons _ _ _ _ (.int _ _) (.nil))) run_8_9
    · exact go (.cons _ _ _ _ (.int _ _) (.cons _ _ _ _ (.int _ _) (.nil))) run_8_10
    · exact go (.cons _ _ _ _ (.int _ _) (.cons _ _ _ _ (.int _ _) (.nil))) run_8_11
    · exact go (.cons _ _ _ _ (.int _ _) (.cons _ _ _ _ (.int _ _) (.nil))) run_8_12
    · exact go (.cons _ _ _ _ (.int _ _) (.cons _ _ _ _ (.int _ _) (.nil))) run_8_13
    · exact go (.cons _ _ _ _ (.int _ _) (.cons _ _ _ _ (.int _ _) (.nil))) run_8_14
    · exact go (.cons _ _ _ _ (.int _ _) (.cons _ _ _ _ (.int _ _) (.nil))) run_8_15
    · exact go (.cons _ _ _ _ (.int _ _) (.cons _ _ _ _ (.int _ _) (.nil))) run_8_16
    · exact go (.cons _ _ _ _ (.int _ _) (.cons _ _ _ _ (.int _ _) (.nil))) run_8_17
    · exact go (.cons _ _ _ _ (.int _ _) (.cons _ _ _ _ (.int _ _) (.nil))) run_8_18
    · exact go (.cons _ _ _ _ (.int _ _) (.cons _ _ _ _ (.int _ _) (.nil))) run_8_19
    · exact go (.cons _ _ _ _ (.int _ _) (.cons _ _ _ _ (.int _ _) (.nil))) run_8_20
  · by_cases hb1 : a1 ≤ -1
    · exact go (.cons _ _ _ _ (.int _ _) (.cons _ _ _ _ (.ile _ _ _ hb1) (.nil))) run_9_le
    by_cases ha1 : 21 ≤ a1
    · exact go (.cons _ _ _ _ (.int _ _) (.cons _ _ _ _ (.ige _ _ _ ha1) (.nil))) run_9_ge
    have hc1 : a1 = 0 ∨ a1 = 1 ∨ a1 = 2 ∨ a1 = 3 ∨ a1 = 4 ∨ a1 = 5 ∨ a1 = 6 ∨ a1 = 7 ∨ a1 = 8 ∨ a1 = 9 ∨ a1 = 10 ∨ a1 = 11 ∨ a1 = 12 ∨ a1 = 13 ∨ a1 = 14 ∨ a1 = 15 ∨ a1 = 16 ∨ a1 = 17 ∨ a1 = 18 ∨ a1 = 19 ∨ a1 = 20 := by omega
    rcases hc1 with rfl | rfl | rfl | rfl | rfl | rfl | rfl | rfl | rfl | rfl | rfl | rfl | rfl | rfl | rfl | rfl | rfl | rfl | rfl | rfl | rfl
    · exact go (.cons _ _ _ _ (.int _ _) (.cons _ _ _ _ (.int _ _) (.nil))) run_9_0
    · exact go (.cons _ _ _ _ (.int _ _) (.cons _ _ _ _ (.int _ _) (.nil))) run_9_1
    · exact go (.cons _ _ _ _ (.int _ _) (.cons _ _ _ _ (.int _ _) (.nil))) run_9_2
    · exact go (.cons _ _ _ _ (.int _ _) (.cons _ _ _ _ (.int _ _) (.nil))) run_9_3
    · exact go (.cons _ _ _ _ (.int _ _) (.cons _ _ _ _ (.int _ _) (.nil))) run_9_4
    · exact go (.cons _ _ _ _ (.int _ _) (.cons _ _ _ _ (.int _ _) (.nil))) run_9_5
    · exact go (.cons _ _ _ _ (.int _ _) (.cons _ _ _ _ (.int _ _) (.nil))) run_9_6
    · exact go (.cons _ _ _ _ (.int _ _) (.cons _ _ _ _ (.int _ _) (.nil))) run_9_7
    · exact go (.cons _ _ _ _ (.int _ _) (.cons _ _ _ _ (.int _ _) (.nil))) run_9_8
    · exact go (.cons _ _ _ _ (.int _ _) (.cons _ _ _ _ (.int _ _) (.nil))) run_9_9
    · exact go (.cons _ _ _ _ (.int _ _) (.cons _ _ _ _ (.int _ _) (.nil))) run_9_10
    · exact go (.cons _ _ _ _ (.int _ _) (.cons _ _ _ _ (.int _ _) (.nil))) run_9_11
    · exact go (.cons _ _ _ _ (.int _ _) (.cons _ _ _ _ (.int _ _) (.nil))) run_9_12
    · exact go (.cons _ _ _ _ (.int _ _) (.cons _ _ _ _ (.int _ _) (.nil))) run_9_13
    · exact go (.cons _ _ _ _ (.int _ _) (.cons _ _ _ _ (.int _ _) (.nil))) run_9_14
    · exact go (.cons _ _ _ _ (.int _ _) (.cons _ _ _ _ (.int _ _) (.nil))) run_9_15
    · exact go (.cons _ _ _ _ (.int _ _) (.cons _ _ _ _ (.int _ _) (.nil))) run_9_16
    · exact go (.cons _ _ _ _ (.int _ _) (.cons _ _ _ _ (.int _ _) (.nil))) run_9_17
    · exact go (.cons _ _ _ _ (.int _ _) (.cons _ _ _ _ (.int _ _) (.nil))) run_9_18
    · exact go (.cons _ _ _ _ (.int _ _) (.cons _ _ _ _ (.int _ _) (.nil))) run_9_19
    · exact go (.cons _ _ _ _ (.int _ _) (.cons _ _ _ _ (.int _ _) (.nil))) run_9_20
  · by_cases hb1 : a1 ≤ -1
    · exact go (.cons _ _ _ _ (.int _ _) (.cons _ _ _ _ (.ile _ _ _ hb1) (.nil))) run_10_le
    by_cases ha1 : 21 ≤ a1
    · exact go (.cons _ _ _ _ (.int _ _) (.cons _ _ _ _ (.ige _ _ _ ha1) (.nil))) run_10_ge
    have hc1 : a1 = 0 ∨ a1 = 1 ∨ a1 = 2 ∨ a1 = 3 ∨ a1 = 4 ∨ a1 = 5 ∨ a1 = 6 ∨ a1 = 7 ∨ a1 = 8 ∨ a1 = 9 ∨ a1 = 10 ∨ a1 = 11 ∨ a1 = 12 ∨ a1 = 13 ∨ a1 = 14 ∨ a1 = 15 ∨ a1 = 16 ∨ a1 = 17 ∨ a1 = 18 ∨ a1 = 19 ∨ a1 = 20 := by omega
    rcases hc1 with rfl | rfl | rfl | rfl | rfl | rfl | rfl | rfl | rfl | rfl | rfl | rfl | rfl | rfl | rfl | rfl | rfl | rfl | rfl | rfl | rfl
    · exact go (.cons _ _ _ _ (.int _ _) (.cons _ _ _ _ (.int _ _) (.nil))) run_10_0
    · exact go (.cons _ _ _ _ (.int _ _) (.cons _ _ _ _ (.int _ _) (.nil))) run_10_1
    · exact go (.cons _ _ _ _ (.int _ _) (.cons _ _ _ _ (.int _ _) (.nil))) run_10_2
    · exact go (.cons _ _ _ _ (.int _ _) (.cons _ _ _ _ (.int _ _) (.nil))) run_10_3
    · exact go (.cons _ _ _ _ (.int _ _) (.cons _ _ _ _ (.int _ _) (.nil))) run_10_4
    · exact go (.cons _ _ _ _ (.int _ _) (.cons _ _ _ _ (.int _ _) (.nil))) run_10_5
    · exact go (.cons _ _ _ _ (.int _ _) (.cons _ _ _ _ (.int _ _) (.nil))) run_10_6
    · exact go (.cons _ _ _ _ (.int _ _) (.cons _ _ _ _ (.int _ _) (.nil))) run_10_7
    · exact go (.cons _ _ _ _ (.int _ _) (.cons _ _ _ _ (.int _ _) (.nil))) run_10_8
    · exact go (.cons _ _ _ _ (.int _ _) (.cons _ _ _ _ (.int _ _) (.nil))) run_10_9
    · exact go (.cons _ _ _ _ (.int _ _) (.cons _ _ _ _ (.int _ _) (.nil))) run_10_10
    · exact go (.cons _ _ _ _ (.int _ _) (.cons _ _ _ _ (.int _ _) (.nil))) run_10_11
    · exact go (.cons _ _ _ _ (.int _ _) (.cons _ _ _ _ (.int _ _) (.nil))) run_10_12
    · exact go (.cons _ _ _ _ (.int _ _) (.cons _ _ _ _ (.int _ _) (.nil))) run_10_13
    · exact go (.cons _ _ _ _ (.int _ _) (.cons _ _ _ _ (.int _ _) (.nil))) run_10_14
    · exact go (.cons _ _ _ _ (.int _ _) (.cons _ _ _ _ (.int _ _) (.nil))) run_10_15
    · exact go (.cons _ _ _ _ (.int _ _) (.cons _ _ _ _ (.int _ _) (.nil))) run_10_16
    · exact go (.cons _ _ _ _ (.int _ _) (.cons _ _ _ _ (.int _ _) (.nil))) run_10_17
    · exact go (.cons _ _ _ _ (.int _ _) (.cons _ _ _ _ (.int _ _) (.nil))) run_10_18
    · exact go (.cons _ _ _ _ (.int _ _) (.cons _ _ _ _ (.int _ _) (.nil))) run_10_19
    · exact go (.cons _ _ _ _ (.int _ _) (.cons _ _ _ _ (.int _ _) (.nil))) run_10_20
  · by_cases hb1 : a1 ≤ -1
    · exact go (.cons _ _ _ _ (.int _ _) (.cons _ _ _ _ (.ile _ _ _ hb1) (.nil))) run_11_le
    by_cases ha1 : 21 ≤ a1
    · exact go (.cons _ _ _ _ (.int _ _) (.cons _ _ _ _ (.ige _ _ _ ha1) (.nil))) run_11_ge
    have hc1 : a1 = 0 ∨ a1 = 1 ∨ a1 = 2 ∨ a1 = 3 ∨ a1 = 4 ∨ a1 = 5 ∨ a1 = 6 ∨ a1 = 7 ∨ a1 = 8 ∨ a1 = 9 ∨ a1 = 10 ∨ a1 = 11 ∨ a1 = 12 ∨ a1 = 13 ∨ a1 = 14 ∨ a1 = 15 ∨ a1 = 16 ∨ a1 = 17 ∨ a1 = 18 ∨ a1 = 19 ∨ a1 = 20 := by omega
    rcases hc1 with rfl | rfl | rfl | rfl | rfl | rfl | rfl | rfl | rfl | rfl | rfl | rfl | rfl | rfl | rfl | rfl | rfl | rfl | rfl | rfl | rfl
    · exact go (.cons _ _ _ _ (.int _ _) (.cons _ _ _ _ (.int _ _) (.nil))) run_11_0
    · exact go (.cons _ _ _ _ (.int _ _) (.cons _ _ _ _ (.int _ _) (.nil))) run_11_1
    · exact go (.cons _ _ _ _ (.int _ _) (.cons _ _ _ _ (.int _ _) (.nil))) run_11_2
    · exact go (.cons _ _ _ _ (.int _ _) (.cons _ _ _ _ (.int _ _) (.nil))) run_11_3
    · exact go (.cons _ _ _ _ (.int _ _) (.cons _ _ _ _ (.int _ _) (.nil))) run_11_4
    · exact go (.cons _ _ _ _ (.int _ _) (.cons _ _ _ _ (.int _ _) (.nil))) run_11_5
    · exact go (.cons _ _ _ _ (.int _ _) (.cons _ _ _ _ (.int _ _) (.nil))) run_11_6
    · exact go (.cons _ _ _ _ (.int _ _) (.cons _ _ _ _ (.int _ _) (.nil))) run_11_7
    · exact go (.cons _ _ _ _ (.int _ _) (.cons _ _ _ _ (.int _ _) (.nil))) run_11_8
    · exact go (.cons _ _ _ _ (.int _ _) (.cons _ _ _ _ (.int _ _) (.nil))) run_11_9
    · exact go (.cons _ _ _ _ (.int _ _) (.cons _ _ _ _ (.int _ _) (.nil))) run_11_10
    · exact go (.cons _ _ _ _ (.int _ _) (.cons _ _ _ _ (.int _ _) (.nil))) run_11_11
    · exact go (.cons _ _ _ _ (.int _ _) (.cons _ _ _ _ (.int _ _) (.nil))) run_11_12
    · exact go (.cons _ _ _ _ (.int _ _) (.cons _ _ _ _ (.int _ _) (.nil))) run_11_13
    · exact go (.cons _ _ _ _ (.int _ _) (.cons _ _ _ _ (.int _ _) (.nil))) run_11_14
    · exact go (.cons _ _ _ _ (.int _ _) (.cons _ _ _ _ (.int _ _) (.nil))) run_11_15
    · exact go (.cons _ _ _ _ (.int _ _) (.cons _ _ _ _ (.int _ _) (.nil))) run_11_16
    · exact go (.cons _ _ _ _ (.int _ _) (.cons _ _ _ _ (.int _ _) (.nil))) run_11_17
    · exact go (.cons _ _ _ _ (.int _ _) (.cons _ _ _ _ (.int _ _) (.nil))) run_11_18
    · exact go (.cons _ _ _ _ (.int _ _) (.cons _ _ _ _ (.int _ _) (.nil))) run_11_19
    · exact go (.cons _ _ _ _ (.int _ _) (.cons _ _ _ _ (.int _ _) (.nil))) run_11_20
  · by_cases hb1 : a1 ≤ -1
    · exact go (.cons _ _ _ _ (.int _ _) (.cons _ _ _ _ (.ile _ _ _ hb1) (.nil))) run_12_le
    by_cases ha1 : 21 ≤ a1
    · exact go (.cons _ _ _ _ (.int _ _) (.cons _ _ _ _ (.ige _ _ _ ha1) (.nil))) run_12_ge
    have hc1 : a1 = 0 ∨ a1 = 1 ∨ a1 = 2 ∨ a1 = 3 ∨ a1 = 4 ∨ a1 = 5 ∨ a1 = 6 ∨ a1 = 7 ∨ a1 = 8 ∨ a1 = 9 ∨ a1 = 10 ∨ a1 = 11 ∨ a1 = 12 ∨ a1 = 13 ∨ a1 = 14 ∨ a1 = 15 ∨ a1 = 16 ∨ a1 = 17 ∨ a1 = 18 ∨ a1 = 19 ∨ a1 = 20 := by omega
    rcases hc1 with rfl | rfl | rfl | rfl | rfl | rfl | rfl | rfl | rfl | rfl | rfl | rfl | rfl | rfl | rfl | rfl | rfl | rfl | rfl | rfl | rfl
    · exact go (.cons _ _ _ _ (.int _ _) (.cons _ _ _ _ (.int _ _) (.nil))) run_12_0
    · exact go (.cons _ _ _ _ (.int _ _) (.cons _ _ _ _ (.int _ _) (.nil))) run_12_1
    · exact go (.cons _ _ _ _ (.int _ _) (.cons _ _ _ _ (.int _ _) (.nil))) run_12_2
    · exact go (.cons _ _ _ _ (.int _ _) (.cons _ _ _ _ (.int _ _) (.nil))) run_12_3
    · exact go (.cons _ _ _ _ (.int _ _) (.cons _ _ _ _ (.int _ _) (.nil))) run_12_4
    · exact go (.cons _ _ _ _ (.int _ _) (.cons _ _ _ _ (.int _ _) (.nil))) run_12_5
    · exact go (.cons _ _ _ _ (.int _ _) (.cons _ _ _ _ (.int _ _) (.nil))) run_12_6
    · exact go (.cons _ _ _ _ (.int _ _) (.cons _ _ _ _ (.int _ _) (.nil))) run_12_7
    · exact go (.cons _ _ _ _ (.int _ _) (.cons _ _ _ _ (.int _ _) (.nil))) run_12_8
    · exact go (.cons _ _ _ _ (.int _ _) (.cons _ _ _ _ (.int _ _) (.nil))) run_12_9
    · exact go (.cons _ _ _ _ (.int _ _) (.cons _ _ _ _ (.int _ _) (.nil))) run_12_10
    · exact go (.cons _ _ _ _ (.int _ _) (.cons _ _ _ _ (.int _ _) (.nil))) run_12_11
    · exact go (.cons _ _ _ _ (.int _ _) (.cons _ _ _ _ (.int _ _) (.nil))) run_12_12
    · exact go (.cons _ _ _ _ (.int _ _) (.cons _ _ _ _ (.int _ _) (.nil))) run_12_13
    · exact go (.cons _ _ _ _ (.int _ _) (.cons _ _ _ _ (.int _ _) (.nil))) run_12_14
    · exact go (.cons _ _ _ _ (.int _ _) (.cons _ _ _ _ (.int _ _) (.nil))) run_12_15
    · exact go (.cons _ _ _ _ (.int _ _) (.cons _ _ _ _ (.int _ _) (.nil))) run_12_16
    · exact go (.cons _ _ _ _ (.int _ _) (.cons _ _ _ _ (.int _ _) (.nil))) run_12_17
    · exact go (.cons _ _ _ _ (.int _ _) (.cons _ _ _ _ (.int _ _) (.nil))) run_12_18
    · exact go (.cons _ _ _ _ (.int _ _) (.cons _ _ _ _ (.int _ _) (.nil))) run_12_19
    · exact go (.cons _ _ _ _ (.int _ _) (.cons _ _ _ _ (.int _ _) (.nil))) run_12_20
  · by_cases hb1 : a1 ≤ -1
    · exact go (.cons _ _ _ _ (.int _ _) (.cons _ _ _ _ (.ile _ _ _ hb1) (.nil))) run_13_le
    by_cases ha1 : 21 ≤ a1
    · exact go (.cons _ _ _ _ (.int _ _) (.cons _ _ _ _ (.ige _ _ _ ha1) (.nil))) run_13_ge
    have hc1 : a1 = 0 ∨ a1 = 1 ∨ a1 = 2 ∨ a1 = 3 ∨ a1 = 4 ∨ a1 = 5 ∨ a1 = 6 ∨ a1 = 7 ∨ a1 = 8 ∨ a1 = 9 ∨ a1 = 10 ∨ a1 = 11 ∨ a1 = 12 ∨ a1 = 13 ∨ a1 = 14 ∨ a1 = 15 ∨ a1 = 16 ∨ a1 = 17 ∨ a1 = 18 ∨ a1 = 19 ∨ a1 = 20 := by omega
    rcases hc1 with rfl | rfl | rfl | rfl | rfl | rfl | rfl | rfl | rfl | rfl | rfl | rfl | rfl | rfl | rfl | rfl | rfl | rfl | rfl | rfl | rfl
    · exact go (.cons _ _ _ _ (.int _ _) (.cons _ _ _ _ (.int _ _) (.nil))) run_13_0
    · exact go (.cons _ _ _ _ (.int _ _) (.cons _ _ _ _ (.int _ _) (.nil))) run_13_1
    · exact go (.cons _ _ _ _ (.int _ _) (.cons _ _ _ _ (.int _ _) (.nil))) run_13_2
    · exact go (.cons _ _ _ _ (.int _ _) (.cons _ _ _ _ (.int _ _) (.nil))) run_13_3
    · exact go (.cons _ _ _ _ (.int _ _) (.cons _ _ _ _ (.int _ _) (.nil))) run_13_4
    · exact go (.cons _ _ _ _ (.int _ _) (.cons _ _ _ _ (.int _ _) (.nil))) run_13_5
    · exact go (.cons _ _ _ _ (.int _ _) (.cons _ _ _ _ (.int _ _) (.nil))) run_13_6
    · exact go (.cons _ _ _ _ (.int _ _) (.cons _ _ _ _ (.int _ _) (.nil))) run_13_7
    · exact go (.cons _ _ _ _ (.int _ _) (.cons _ _ _ _ (.int _ _) (.nil))) run_13_8
    · exact go (.cons _ _ _ _ (.int _ _) (.cons _ _ _ _ (.int _ _) (.nil))) run_13_9
    · exact go (.cons _ _ _ _ (.int _ _) (.cons _ _ _ _ (.int _ _) (.nil))) run_13_10
    · exact go (.cons _ _ _ _ (.int _ _) (.cons _ _ _ _ (.int _ _) (.nil))) run_13_11
    · exact go (.cons _ _ _ _ (.int _ _) (.cons _ _ _ _ (.int _ _) (.nil))) run_13_12
    · exact go (.cons _ _ _ _ (.int _ _) (.cons _ _ _ _ (.int _ _) (.nil))) run_13_13
    · exact go (.cons _ _ _ _ (.int _ _) (.cons _ _ _ _ (.int _ _) (.nil))) run_13_14
    · exact go (.cons _ _ _ _ (.int _ _) (.cons _ _ _ _ (.int _ _) (.nil))) run_13_15
    · exact go (.cons _ _ _ _ (.int _ _) (.cons _ _ _ _ (.int _ _) (.nil))) run_13_16
    · exact go (.cons _ _ _ _ (.int _ _) (.cons _ _ _ _ (.int _ _) (.nil))) run_13_17
    · exact go (.cons _ _ _ _ (.int _ _) (.cons _ _ _ _ (.int _ _) (.nil))) run_13_18
    · exact go (.cons _ _ _ _ (.int _ _) (.cons _ _ _ _ (.int _ _) (.nil))) run_13_19
    · exact go (.cons _ _ _ _ (.int _ _) (.cons _ _ _ _ (.int _ _) (.nil))) run_13_20
  · by_cases hb1 : a1 ≤ -1
    · exact go (.cons _ _ _ _ (.int _ _) (.cons _ _ _ _ (.ile _ _ _ hb1) (.nil))) run_14_le
    by_cases ha1 : 21 ≤ a1
    · exact go (.cons _ _ _ _ (.int _ _) (.cons _ _ _ _ (.ige _ _ _ ha1) (.nil))) run_14_ge
    have hc1 : a1 = 0 ∨ a1 = 1 ∨ a1 = 2 ∨ a1 = 3 ∨ a1 = 4 ∨ a1 = 5 ∨ a1 = 6 ∨ a1 = 7 ∨ a1 = 8 ∨ a1 = 9 ∨ a1 = 10 ∨ a1 = 11 ∨ a1 = 12 ∨ a1 = 13 ∨ a1 = 14 ∨ a1 = 15 ∨ a1 = 16 ∨ a1 = 17 ∨ a1 = 18 ∨ a1 = 19 ∨ a1 = 20 := by omega
    rcases hc1 with rfl | rfl | rfl | rfl | rfl | rfl | rfl | rfl | rfl | rfl | rfl | rfl | rfl | rfl | rfl | rfl | rfl | rfl | rfl | rfl | rfl
    · exact go (.cons _ _ _ _ (.int _ _) (.cons _ _ _ _ (.int _ _) (.nil))) run_14_0
    · exact go (.cons _ _ _ _ (.int _ _) (.cons _ _ _ _ (.int _ _) (.nil))) run_14_1
    · exact go (.cons _ _ _ _ (.int _ _) (.cons _ _ _ _ (.int _ _) (.nil))) run_14_2
    · exact go (.cons _ _ _ _ (.int _ _) (.cons _ _ _ _ (.int _ _) (.nil))) run_14_3
    · exact go (.cons _ _ _ _ (.int _ _) (.cons _ _ _ _ (.int _ _) (.nil))) run_14_4
    · exact go (.cons _ _ _ _ (.int _ _) (.cons _ _ _ _ (.int _ _) (.nil))) run_14_5
    · exact go (.cons _ _ _ _ (.int _ _) (.cons _ _ _ _ (.int _ _) (.nil))) run_14_6
    · exact go (.cons _ _ _ _ (.int _ _) (.cons _ _ _ _ (.int _ _) (.nil))) run_14_7
    · exact go (.cons _ _ _ _ (.int _ _) (.cons _ _ _ _ (.int _ _) (.nil))) run_14_8
    · exact go (.cons _ _ _ _ (.int _ _) (.cons _ _ _ _ (.int _ _) (.nil))) run_14_9
    · exact go (.cons _ _ _ _ (.int _ _) (.cons _ _ _ _ (.int _ _) (.nil))) run_14_10
    · exact go (.cons _ _ _ _ (.int _ _) (.cons _ _ _ _ (.int _ _) (.nil))) run_14_11
    · exact go (.cons _ _ _ _ (.int _ _) (.cons _ _ _ _ (.int _ _) (.nil))) run_14_12
    · exact go (.cons _ _ _ _ (.int _ _) (.cons _ _ _ _ (.int _ _) (.nil))) run_14_13
    · exact go (.cons _ _ _ _ (.int _ _) (.cons _ _ _ _ (.int _ _) (.nil))) run_14_14
    · exact go (.cons _ _ _ _ (.int _ _) (.cons _ _ _ _ (.int _ _) (.nil))) run_14_15
    · exact go (.cons _ _ _ _ (.int _ _) (.cons _ _ _ _ (.int _ _) (.nil))) run_14_16
    · exact go (.cons _ _ _ _ (.int _ _) (.cons _ _ _ _ (.int _ _) (.nil))) run_14_17
    · exact go (.cons _ _ _ _ (.int _ _) (.cons _ _ _ _ (.int _ _) (.nil))) run_14_18
    · exact go (.cons _ _ _ _ (.int _ _) (.cons _ _ _ _ (.int _ _) (.nil))) run_14_19
    · exact go (.cons _ _ _ _ (.int _ _) (.cons _ _ _ _ (.int _ _) (.nil))) run_14_20
  · by_cases hb1 : a1 ≤ -1
    · exact go (.cons _ _ _ _ (.int _ _) (.cons _ _ _ _ (.ile _ _ _ hb1) (.nil))) run_15_le
    by_cases ha1 : 21 ≤ a1
    · exact go (.cons _ _ _ _ (.int _ _) (.cons _ _ _ _ (.ige _ _ _ ha1) (.nil))) run_15_ge
    have hc1 : a1 = 0 ∨ a1 = 1 ∨ a1 = 2 ∨ a1 = 3 ∨ a1 = 4 ∨ a1 = 5 ∨ a1 = 6 ∨ a1 = 7 ∨ a1 = 8 ∨ a1 = 9 ∨ a1 = 10 ∨ a1 = 11 ∨ a1 = 12 ∨ a1 = 13 ∨ a1 = 14 ∨ a1 = 15 ∨ a1 = 16 ∨ a1 = 17 ∨ a1 = 18 ∨ a1 = 19 ∨ a1 = 20 := by omega
    rcases hc1 with rfl | rfl | rfl | rfl | rfl | rfl | rfl | rfl | rfl | rfl | rfl | rfl | rfl | rfl | rfl | rfl | rfl | rfl | rfl | rfl | rfl
    · exact go (.cons _ _ _ _ (.int _ _) (.cons _ _ _ _ (.int _ _) (.nil))) run_15_0
    · exact go (.cons _ _ _ _ (.int _ _) (.cons _ _ _ _ (.int _ _) (.nil))) run_15_1
    · exact go (.cons _ _ _ _ (.int _ _) (.cons _ _ _ _ (.int _ _) (.nil))) run_15_2
    · exact go (.cons _ _ _ _ (.int _ _) (.cons _ _ _ _ (.int _ _) (.nil))) run_15_3
    · exact go (.cons _ _ _ _ (.int _ _) (.cons _ _ _ _ (.int _ _) (.nil))) run_15_4
    · exact go (.cons _ _ _ _ (.int _ _) (.cons _ _ _ _ (.int _ _) (.nil))) run_15_5
    · exact go (.cons _ _ _ _ (.int _ _) (.cons _ _ _ _ (.int _ _) (.nil))) run_15_6
    · exact go (.cons _ _ _ _ (.int _ _) (.cons _ _ _ _ (.int _ _) (.nil))) run_15_7
    · exact go (.cons _ _ _ _ (.int _ _) (.cons _ _ _ _ (.int _ _) (.nil))) run_15_8
    · exact go (.cons _ _ _ _ (.int _ _) (.cons _ _ _ _ (.int _ _) (.nil))) run_15_9
    · exact go (.cons _ _ _ _ (.int _ _) (.cons _ _ _ _ (.int _ _) (.nil))) run_15_10
    · exact go (.cons _ _ _ _ (.int _ _) (.cons _ _ _ _ (.int _ _) (.nil))) run_15_11
    · exact go (.cons _ _ _ _ (.int _ _) (.cons _ _ _ _ (.int _ _) (.nil))) run_15_12
    · exact go (.cons _ _ _ _ (.int _ _) (.cons _ _ _ _ (.int _ _) (.nil))) run_15_13
    · exact go (.cons _ _ _ _ (.int _ _) (.cons _ _ _ _ (.int _ _) (.nil))) run_15_14
    · exact go (.cons _ _ _ _ (.int _ _) (.cons _ _ _ _ (.int _ _) (.nil))) run_15_15
    · exact go (.cons _ _ _ _ (.int _ _) (.cons _ _ _ _ (.int _ _) (.nil))) run_15_16
    · exact go (.cons _ _ _ _ (.int _ _) (.cons _ _ _ _ (.int _ _) (.nil))) run_15_17
    · exact go (.cons _ _ _ _ (.int _ _) (.cons _ _ _ _ (.int _ _) (.nil))) run_15_18
    · exact go (.cons _ _ _ _ (.int _ _) (.cons _ _ _ _ (.int _ _) (.nil))) run_15_19
    · exact go (.cons _ _ _ _ (.int _ _) (.cons _ _ _ _ (.int _ _) (.nil))) run_15_20
  · by_cases hb1 : a1 ≤ -1
    · exact go (.cons _ _ _ _ (.int _ _) (.cons _ _ _ _ (.ile _ _ _ hb1) (.nil))) run_16_le
    by_cases ha1 : 21 ≤ a1
    · exact go (.cons _ _ _ _ (.int _ _) (.cons _ _ _ _ (.ige _ _ _ ha1) (.nil))) run_16_ge
    have hc1 : a1 = 0 ∨ a1 = 1 ∨ a1 = 2 ∨ a1 = 3 ∨ a1 = 4 ∨ a1 = 5 ∨ a1 = 6 ∨ a1 = 7 ∨ a1 = 8 ∨ a1 = 9 ∨ a1 = 10 ∨ a1 = 11 ∨ a1 = 12 ∨ a1 = 13 ∨ a1 = 14 ∨ a1 = 15 ∨ a1 = 16 ∨ a1 = 17 ∨ a1 = 18 ∨ a1 = 19 ∨ a1 = 20 := by omega
    rcases hc1 with rfl | rfl | rfl | rfl | rfl | rfl | rfl | rfl | rfl | rfl | rfl | rfl | rfl | rfl | rfl | rfl | rfl | rfl | rfl | rfl | rfl
    · exact go (.cons _ _ _ _ (.int _ _) (.cons _ _ _ _ (.int _ _) (.nil))) run_16_0
    · exact go (.cons _ _ _ _ (.int _ _) (.cons _ _ _ _ (.int _ _) (.nil))) run_16_1
    · exact go (.cons _ _ _ _ (.int _ _) (.cons _ _ _ _ (.int _ _) (.nil))) run_16_2
    · exact go (.cons _ _ _ _ (.int _ _) (.cons _ _ _ _ (.int _ _) (.nil))) run_16_3
    · exact go (.cons _ _ _ _ (.int _ _) (.cons _ _ _ _ (.int _ _) (.nil))) run_16_4
    · exact go (.cons _ _ _ _ (.int _ _) (.cons _ _ _ _ (.int _ _) (.nil))) run_16_5
    · exact go (.cons _ _ _ _ (.int _ _) (.cons _ _ _ _ (.int _ _) (.nil))) run_16_6
    · exact go (.cons _ _ _ _ (.int _ _) (.cons _ _ _ _ (.int _ _) (.nil))) run_16_7
    · exact go (.cons _ _ _ _ (.int _ _) (.cons _ _ _ _ (.int _ _) (.nil))) run_16_8
    · exact go (.cons _ _ _ _ (.int _ _) (.cons _ _ _ _ (.int _ _) (.nil))) run_16_9
    · exact go (.cons _ _ _ _ (.int _ _) (.cons _ _ _ _ (.int _ _) (.nil))) run_16_10
    · exact go (.cons _ _ _ _ (.int _ _) (.cons _ _ _ _ (.int _ _) (.nil))) run_16_11
    · exact go (.cons _ _ _ _ (.int _ _) (.cons _ _ _ _ (.int _ _) (.nil))) run_16_12
    · exact go (.cons _ _ _ _ (.int _ _) (.cons _ _ _ _ (.int _ _) (.nil))) run_16_13
    · exact go (.cons _ _ _ _ (.int _ _) (.cons _ _ _ _ (.int _ _) (.nil))) run_16_14
    · exact go (.cons _ _ _ _ (.int _ _) (.cons _ _ _ _ (.int _ _) (.nil))) run_16_15
    · exact go (.cons _ _ _ _ (.int _ _) (.cons _ _ _ _ (.int _ _) (.nil))) run_16_16
    · exact go (.cons _ _ _ _ (.int _ _) (.cons _ _ _ _ (.int _ _) (.nil))) run_16_17
    · exact go (.cons _ _ _ _ (.int _ _) (.cons _ _ _ _ (.int _ _) (.nil))) run_16_18
    · exact go (.cons _ _ _ _ (.int _ _) (.cons _ _ _ _ (.int _ _) (.nil))) run_16_19
    · exact go (.cons _ _ _ _ (.int _ _) (.cons _ _ _ _ (.int _ _) (.nil))) run_16_20
  · by_cases hb1 : a1 ≤ -1
    · exact go (.cons _ _ _ _ (.int _ _) (.cons _ _ _ _ (.ile _ _ _ hb1) (.nil))) run_17_le
    by_cases ha1 : 21 ≤ a1
    · exact go (.cons _ _ _ _ (.int _ _) (.cons _ _ _ _ (.ige _ _ _ ha1) (.nil))) run_17_ge
    have hc1 : a1 = 0 ∨ a1 = 1 ∨ a1 = 2 ∨ a1 = 3 ∨ a1 = 4 ∨ a1 = 5 ∨ a1 = 6 ∨ a1 = 7 ∨ a1 = 8 ∨ a1 = 9 ∨ a1 = 10 ∨ a1 = 11 ∨ a1 = 12 ∨ a1 = 13 ∨ a1 = 14 ∨ a1 = 15 ∨ a1 = 16 ∨ a1 = 17 ∨ a1 = 18 ∨ a1 = 19 ∨ a1 = 20 := by omega
    rcases hc1 with rfl | rfl | rfl | rfl | rfl | rfl | rfl | rfl | rfl | rfl | rfl | rfl | rfl | rfl | rfl | rfl | rfl | rfl | rfl | rfl | rfl
    · exact go (.cons _ _ _ _ (.int _ _) (.cons _ _ _ _ (.int _ _) (.nil))) run_17_0
    · exact go (.cons _ _ _ _ (.int _ _) (.cons _ _ _ _ (.int _ _) (.nil))) run_17_1
    · exact go (.cons _ _ _ _ (.int _ _) (.cons _ _ _ _ (.int _ _) (.nil))) run_17_2
    · exact go (.cons _ _ _ _ (.int _ _) (.cons _ _ _ _ (.int _ _) (.nil))) run_17_3
    · exact go (.cons _ _ _ _ (.int _ _) (.cons _ _ _ _ (.int _ _) (.nil))) run_17_4
    · exact go (.cons _ _ _ _ (.int _ _) (.cons _ _ _ _ (.int _ _) (.nil))) run_17_5
    · exact go (.cons _ _ _ _ (.int _ _) (.cons _ _ _ _ (.int _ _) (.nil))) run_17_6
    · exact go (.cons _ _ _ _ (.int _ _) (.cons _ _ _ _ (.int _ _) (.nil))) run_17_7
    · exact go (.cons _ _ _ _ (.int _ _) (.cons _ _ _ _ (.int _ _) (.nil))) run_17_8
    · exact go (.cons _ _ _ _ (.int _ _) (.cons _ _ _ _ (.int _ _) (.nil))) run_17_9
    · exact go (.cons _ _ _ _ (.int _ _) (.cons _ _ _ _ (.int _ _) (.nil))) run_17_10
    · exact go (.cons _ _ _ _ (.int _ _) (.cons _ _ _ _ (.int _ _) (.nil))) run_17_11
    · exact go (.cons _ _ _ _ (.int _ _) (.cons _ _ _ _ (.int _ _) (.nil))) run_17_12
    · exact go (.cons _ _ _ _ (.int _ _) (.cons _ _ _ _ (.int _ _) (.nil))) run_17_13
    · exact go (.cons _ _ _ _ (.int _ _) (.cons _ _ _ _ (.int _ _) (.nil))) run_17_14
    · exact go (.cons _ _ _ _ (.int _ _) (.cons _ _ _ _ (.int _ _) (.nil))) run_17_15
    · exact go (.cons _ _ _ _ (.int _ _) (.cons _ _ _ _ (.int _ _) (.nil))) run_17_16
    · exact go (.cons _ _ _ _ (.int _ _) (.cons _ _ _ _ (.int _ _) (.nil))) run_17_17
    · exact go (.cons _ _ _ _ (.int _ _) (.cons _ _ _ _ (.int _ _) (.nil))) run_17_18
    · exact go (.cons _ _ _ _ (.int _ _) (.cons _ _ _ _ (.int _ _) (.nil))) run_17_19
    · exact go (.cons _ _ _ _ (.int _ _) (.cons _ _ _ _ (.int _ _) (.nil))) run_17_20
  · by_cases hb1 : a1 ≤ -1
    · exact go (.cons _ _ _ _ (.int _ _) (.cons _ _ _ _ (.ile _ _ _ hb1) (.nil))) run_18_le
    by_cases ha1 : 21 ≤ a1
    · exact go (.cons _ _ _ _ (.int _ _) (.cons _ _ _ _ (.ige _ _ _ ha1) (.nil))) run_18_ge
    have hc1 : a1 = 0 ∨ a1 = 1 ∨ a1 = 2 ∨ a1 = 3 ∨ a1 = 4 ∨ a1 = 5 ∨ a1 = 6 ∨ a1 = 7 ∨ a1 = 8 ∨ a1 = 9 ∨ a1 = 10 ∨ a1 = 11 ∨ a1 = 12 ∨ a1 = 13 ∨ a1 = 14 ∨ a1 = 15 ∨ a1 = 16 ∨ a1 = 17 ∨ a1 = 18 ∨ a1 = 19 ∨ a1 = 20 := by omega
    rcases hc1 with rfl | rfl | rfl | rfl | rfl | rfl | rfl | rfl | rfl | rfl | rfl | rfl | rfl | rfl | rfl | rfl | rfl | rfl | rfl | rfl | rfl
    · exact go (.cons _ _ _ _ (.int _ _) (.cons _ _ _ _ (.int _ _) (.nil))) run_18_0
    · exact go (.cons _ _ _ _ (.int _ _) (.cons _ _ _ _ (.int _ _) (.nil))) run_18_1
    · exact go (.cons _ _ _ _ (.int _ _) (.cons _ _ _ _ (.int _ _) (.nil))) run_18_2
    · exact go (.cons _ _ _ _ (.int _ _) (.cons _ _ _ _ (.int _ _) (.nil))) run_18_3
    · exact go (.cons _ _ _ _ (.int _ _) (.cons _ _ _ _ (.int _ _) (.nil))) run_18_4
    · exact go (.cons _ _ _ _ (.int _ _) (.cons _ _ _ _ (.int _ _) (.nil))) run_18_5
    · exact go (.cons _ _ _ _ (.int _ _) (.cons _ _ _ _ (.int _ _) (.nil))) run_18_6
    · exact go (.cons _ _ _ _ (.int _ _) (.cons _ _ _ _ (.int _ _) (.nil))) run_18_7
    · exact go (.cons _ _ _ _ (.int _ _) (.cons _ _ _ _ (.int _ _) (.nil))) run_18_8
    · exact go (.cons _ _ _ _ (.int _ _) (.cons _ _ _ _ (.int _ _) (.nil))) run_18_9
    · exact go (.cons _ _ _ _ (.int _ _) (.cons _ _ _ _ (.int _ _) (.nil))) run_18_10
    · exact go (.cons _ _ _ _ (.int _ _) (.cons _ _ _ _ (.int _ _) (.nil))) run_18_11
    · exact go (.cons _ _ _ _ (.int _ _) (.cons _ _ _ _ (.int _ _) (.nil))) run_18_12
    · exact go (.cons _ _ _ _ (.int _ _) (.cons _ _ _ _ (.int _ _) (.nil))) run_18_13
    · exact go (.cons _ _ _ _ (.int _ _) (.cons _ _ _ _ (.int _ _) (.nil))) run_18_14
    · exact go (.cons _ _ _ _ (.int _ _) (.cons _ _ _ _ (.int _ _) (.nil))) run_18_15
    · exact go (.cons _ _ _ _ (.int _ _) (.cons _ _ _ _ (.int _ _) (.nil))) run_18_16
    · exact go (.cons _ _ _ _ (.int _ _) (.cons _ _ _ _ (.int _ _) (.nil))) run_18_17
    · exact go (.cons _ _ _ _ (.int _ _) (.cons _ _ _ _ (.int _ _) (.nil))) run_18_18
    · exact go (.cons _ _ _ _ (.int _ _) (.cons _ _ _ _ (.int _ _) (.nil))) run_18_19
    · exact go (.cons _ _ _ _ (.int _ _) (.cons _ _ _ _ (.int _ _) (.nil))) run_18_20
  · by_cases hb1 : a1 ≤ -1
    · exact go (.cons _ _ _ _ (.int _ _) (.cons _ _ _ _ (.ile _ _ _ hb1) (.nil))) run_19_le
    by_cases ha1 : 21 ≤ a1
    · exact go (.cons _ _ _ _ (.int _ _) (.cons _ _ _ _ (.ige _ _ _ ha1) (.nil))) run_19_ge
    have hc1 : a1 = 0 ∨ a1 = 1 ∨ a1 = 2 ∨ a1 = 3 ∨ a1 = 4 ∨ a1 = 5 ∨ a1 = 6 ∨ a1 = 7 ∨ a1 = 8 ∨ a1 = 9 ∨ a1 = 10 ∨ a1 = 11 ∨ a1 = 12 ∨ a1 = 13 ∨ a1 = 14 ∨ a1 = 15 ∨ a1 = 16 ∨ a1 = 17 ∨ a1 = 18 ∨ a1 = 19 ∨ a1 = 20 := by omega
    rcases hc1 with rfl | rfl | rfl | rfl | rfl | rfl | rfl | rfl | rfl | rfl | rfl | rfl | rfl | rfl | rfl | rfl | rfl | rfl | rfl | rfl | rfl
    · exact go (.cons _ _ _ _ (.int _ _) (.cons _ _ _ _ (.int _ _) (.nil))) run_19_0
    · exact go (.cons _ _ _ _ (.int _ _) (.cons _ _ _ _ (.int _ _) (.nil))) run_19_1
    · exact go (.cons _ _ _ _ (.int _ _) (.cons _ _ _ _ (.int _ _) (.nil))) run_19_2
    · exact go (.cons _ _ _ _ (.int _ _) (.cons _ _ _ _ (.int _ _) (.nil))) run_19_3
    · exact go (.cons _ _ _ _ (.int _ _) (.cons _ _ _ _ (.int _ _) (.nil))) run_19_4
    · exact go (.cons _ _ _ _ (.int _ _) (.cons _ _ _ _ (.int _ _) (.nil))) run_19_5
    · exact go (.cons _ _ _ _ (.int _ _) (.cons _ _ _ _ (.int _ _) (.nil))) run_19_6
    · exact go (.cons _ _ _ _ (.int _ _) (.cons _ _ _ _ (.int _ _) (.nil))) run_19_7
    · exact go (.cons _ _ _ _ (.int _ _) (.cons _ _ _ _ (.int _ _) (.nil))) run_19_8
    · exact go (.cons _ _ _ _ (.int _ _) (.cons _ _ _ _ (.int _ _) (.nil))) run_19_9
    · exact go (.cons _ _ _ _ (.int _ _) (.cons _ _ _ _ (.int _ _) (.nil))) run_19_10
    · exact go (.cons _ _ _ _ (.int _ _) (.cons _ _ _ _ (.int _ _) (.nil))) run_19_11
    · exact go (.cons _ _ _ _ (.int _ _) (.cons _ _ _ _ (.int _ _) (.nil))) run_19_12
    · exact go (.cons _ _ _ _ (.int _ _) (.cons _ _ _ _ (.int _ _) (.nil))) run_19_13
    · exact go (.cons _ _ _ _ (.int _ _) (.cons _ _ _ _ (.int _ _) (.nil))) run_19_14
    · exact go (.cons _ _ _ _ (.int _ _) (.cons _ _ _ _ (.int _ _) (.nil))) run_19_15
    · exact go (.cons _ _ _ _ (.int _ _) (.cons _ _ _ _ (.int _ _) (.nil))) run_19_16
    · exact go (.cons _ _ _ _ (.int _ _) (.cons _ _ _ _ (.int _ _) (.nil))) run_19_17
    · exact go (.cons _ _ _ _ (.int _ _) (.cons _ _ _ _ (.int _ _) (.nil))) run_19_18
    · exact go (.cons _ _ _ _ (.int _ _) (.cons _ _ _ _ (.int _ _) (.nil))) run_19_19
    · exact go (.cons _ _ _ _ (.int _ _) (.cons _ _ _ _ (.int _ _) (.nil))) run_19_20
  · by_cases hb1 : a1 ≤ -1
    · exact go (.cons _ _ _ _ (.int _ _) (.cons _ _ _ _ (.ile _ _ _ hb1) (.nil))) run_20_le
    by_cases ha1 : 21 ≤ a1
    · exact go (.cons _ _ _ _ (.int _ _) (.cons _ _ _ _ (.ige _ _ _ ha1) (.nil))) run_20_ge
    have hc1 : a1 = 0 ∨ a1 = 1 ∨ a1 = 2 ∨ a1 = 3 ∨ a1 = 4 ∨ a1 = 5 ∨ a1 = 6 ∨ a1 = 7 ∨ a1 = 8 ∨ a1 = 9 ∨ a1 = 10 ∨ a1 = 11 ∨ a1 = 12 ∨ a1 = 13 ∨ a1 = 14 ∨ a1 = 15 ∨ a1 = 16 ∨ a1 = 17 ∨ a1 = 18 ∨ a1 = 19 ∨ a1 = 20 := by omega
    rcases hc1 with rfl | rfl | rfl | rfl | rfl | rfl | rfl | rfl | rfl | rfl | rfl | rfl | rfl | rfl | rfl | rfl | rfl | rfl | rfl | rfl | rfl
    · exact go (.cons _ _ _ _ (.int _ _) (.cons _ _ _ _ (.int _ _) (.nil))) run_20_0
    · exact go (.cons _ _ _ _ (.int _ _) (.cons _ _ _ _ (.int _ _) (.nil))) run_20_1
    · exact go (.cons _ _ _ _ (.int _ _) (.cons _ _ _ _ (.int _ _) (.nil))) run_20_2
    · exact go (.cons _ _ _ _ (.int _ _) (.cons _ _ _ _ (.int _ _) (.nil))) run_20_3
    · exact go (.cons _ _ _ _ (.int _ _) (.cons _ _ _ _ (.int _ _) (.nil))) run_20_4
    · exact go (.cons _ _ _ _ (.int _ _) (.cons _ _ _ _ (.int _ _) (.nil))) run_20_5
    · exact go (.cons _ _ _ _ (.int _ _) (.cons _ _ _ _ (.int _ _) (.nil))) run_20_6
    · exact go (.cons _ _ _ _ (.int _ _) (.cons _ _ _ _ (.int _ _) (.nil))) run_20_7
    · exact go (.cons _ _ _ _ (.int _ _) (.cons _ _ _ _ (.int _ _) (.nil))) run_20_8
    · exact go (.cons _ _ _ _ (.int _ _) (.cons _ _ _ _ (.int _ _) (.nil))) run_20_9
    · exact go (.cons _ _ _ _ (.int _ _) (.cons _ _ _ _ (.int _ _) (.nil))) run_20_10
    · exact go (.cons _ _ _ _ (.int _ _) (.cons _ _ _ _ (.int _ _) (.nil))) run_20_11
    · exact go (.cons _ _ _ _ (.int _ _) (.cons _ _ _ _ (.int _ _) (.nil))) run_20_12
    · exact go (.cons _ _ _ _ (.int _ _) (.cons _ _ _ _ (.int _ _) (.nil))) run_20_13
    · exact go (.cons _ _ _ _ (.int _ _) (.cons _ _ _ _ (.int _ _) (.nil))) run_20_14
    · exact go (.cons _ _ _ _ (.int _ _) (.cons _ _ _ _ (.int _ _) (.nil))) run_20_15
    · exact go (.cons _ _ _ _ (.int _ _) (.cons _ _ _ _ (.int _ _) (.nil))) run_20_16
    · exact go (.cons _ _ _ _ (.int _ _) (.cons _ _ _ _ (.int _ _) (.nil))) run_20_17
    · exact go (.cons _ _ _ _ (.int _ _) (.cons _ _ _ _ (.int _ _) (.nil))) run_20_18
    · exact go (.cons _ _ _ _ (.int _ _) (.cons _ _ _ _ (.int _ _) (.nil))) run_20_19
    · exact go (.cons _ _ _ _ (.int _ _) (.cons _ _ _ _ (.int _ _) (.nil))) run_20_20
  · by_cases hb1 : a1 ≤ -1
    · exact go (.cons _ _ _ _ (.int _ _) (.cons _ _ _ _ (.ile _ _ _ hb1) (.nil))) run_21_le
    by_cases ha1 : 21 ≤ a1
    · exact go (.cons _ _ _ _ (.int _ _) (.cons _ _ _ _ (.ige _ _ _ ha1) (.nil))) run_21_ge
    have hc1 : a1 = 0 ∨ a1 = 1 ∨ a1 = 2 ∨ a1 = 3 ∨ a1 = 4 ∨ a1 = 5 ∨ a1 = 6 ∨ a1 = 7 ∨ a1 = 8 ∨ a1 = 9 ∨ a1 = 10 ∨ a1 = 11 ∨ a1 = 12 ∨ a1 = 13 ∨ a1 = 14 ∨ a1 = 15 ∨ a1 = 16 ∨ a1 = 17 ∨ a1 = 18 ∨ a1 = 19 ∨ a1 = 20 := by omega
    rcases hc1 with rfl | rfl | rfl | rfl | rfl | rfl | rfl | rfl | rfl | rfl | rfl | rfl | rfl | rfl | rfl | rfl | rfl | rfl | rfl | rfl | rfl
    · exact go (.cons _ _ _ _ (.int _ _) (.cons _ _ _ _ (.int _ _) (.nil))) run_21_0
    · exact go (.cons _ _ _ _ (.int _ _) (.cons _ _ _ _ (.int _ _) (.nil))) run_21_1
    · exact go (.cons _ _ _ _ (.int _ _) (.cons _ _ _ _ (.int _ _) (.nil))) run_21_2
    · exact go (.cons _ _ _ _ (.int _ _) (.cons _ _ _ _ (.int _ _) (.nil))) run_21_3
    · exact go (.cons _ _ _ _ (.int _ _) (.cons _ _ _ _ (.int _ _) (.nil))) run_21_4
    · exact go (.cons _ _ _ _ (.int _ _) (.cons _ _ _ _ (.int _ _) (.nil))) run_21_5
    · exact go (.cons _ _ _ _ (.int _ _) (.cons _ _ _ _ (.int _ _) (.nil))) run_21_6
    · exact go (.cons _ _ _ _ (.int _ _) (.cons _ _ _ _ (.int _ _) (.nil))) run_21_7
    · exact go (.cons _ _ _ _ (.int _ _) (.cons _ _ _ _ (.int _ _) (.nil))) run_21_8
    · exact go (.cons _ _ _ _ (.int _ _) (.cons _ _ _ _ (.int _ _) (.nil))) run_21_9
    · exact go (.cons _ _ _ _ (.int _ _) (.cons _ _ _ _ (.int _ _) (.nil))) run_21_10
    · exact go (.cons _ _ _ _ (.int _ _) (.cons _ _ _ _ (.int _ _) (.nil))) run_21_11
    · exact go (.cons _ _ _ _ (.int _ _) (.cons _ _ _ _ (.int _ _) (.nil))) run_21_12
    · exact go (.cons _ _ _ _ (.int _ _) (.cons _ _ _ _ (.int _ _) (.nil))) run_21_13
    · exact go (.cons _ _ _ _ (.int _ _) (.cons _ _ _ _ (.int _ _) (.nil))) run_21_14
    · exact go (.cons _ _ _ _ (.int _ _) (.cons _ _ _ _ (.int _ _) (.nil))) run_21_15
    · exact go (.cons _ _ _ _ (.int _ _) (.cons _ _ _ _ (.int _ _) (.nil))) run_21_16
    · exact go (.cons _ _ _ _ (.int _ _) (.cons _ _ _ _ (.int _ _) (.nil))) run_21_17
    · exact go (.cons _ _ _ _ (.int _ _) (.cons _ _ _ _ (.int _ _) (.nil))) run_21_18
    · exact go (.cons _ _ _ _ (.int _ _) (.cons _ _ _ _ (.int _ _) (.nil))) run_21_19
    · exact go (.cons _ _ _ _ (.int _ _) (.cons _ _ _ _ (.int _ _) (.nil))) run_21_20
  · by_cases hb1 : a1 ≤ -1
    · exact go (.cons _ _ _ _ (.int _ _) (.cons _ _ _ _ (.ile _ _ _ hb1) (.nil))) run_22_le
    by_cases ha1 : 21 ≤ a1
    · exact go (.cons _ _ _ _ (.int _ _) (.cons _ _ _ _ (.ige _ _ _ ha1) (.nil))) run_22_ge
    have hc1 : a1 = 0 ∨ a1 = 1 ∨ a1 = 2 ∨ a1 = 3 ∨ a1 = 4 ∨ a1 = 5 ∨ a1 = 6 ∨ a1 = 7 ∨ a1 = 8 ∨ a1 = 9 ∨ a1 = 10 ∨ a1 = 11 ∨ a1 = 12 ∨ a1 = 13 ∨ a1 = 14 ∨ a1 = 15 ∨ a1 = 16 ∨ a1 = 17 ∨ a1 = 18 ∨ a1 = 19 ∨ a1 = 20 := by omega
    rcases hc1 with rfl | rfl | rfl | rfl | rfl | rfl | rfl | rfl | rfl | rfl | rfl | rfl | rfl | rfl | rfl | rfl | rfl | rfl | rfl | rfl | rfl
    · exact go (.cons _ _ _ _ (.int _ _) (.cons _ _ _ _ (.int _ _) (.nil))) run_22_0
    · exact go (.cons _ _ _ _ (.int _ _) (.cons _ _ _ _ (.int _ _) (.nil))) run_22_1
    · exact go (.cons _ _ _ _ (.int _ _) (.cons _ _ _ _ (.int _ _) (.nil))) run_22_2
    · exact go (.cons _ _ _ _ (.int _ _) (.cons _ _ _ _ (.int _ _) (.nil))) run_22_3
    · exact go (.cons _ _ _ _ (.int _ _) (.cons _ _ _ _ (.int _ _) (.nil))) run_22_4
    · exact go (.cons _ _ _ _ (.int _ _) (.cons _ _ _ _ (.int _ _) (.nil))) run_22_5
    · exact go (.cons _ _ _ _ (.int _ _) (.cons _ _ _ _ (.int _ _) (.nil))) run_22_6
    · exact go (.cons _ _ _ _ (.int _ _) (.cons _ _ _ _ (.int _ _) (.nil))) run_22_7
    · exact go (.cons _ _ _ _ (.int _ _) (.cons _ _ _ _ (.int _ _) (.nil))) run_22_8
    · exact go (.cons _ _ _ _ (.int _ _) (.cons _ _ _ _ (.int _ _) (.nil))) run_22_9
    · exact go (.cons _ _ _ _ (.int _ _) (.cons _ _ _ _ (.int _ _) (.nil))) run_22_10
    · exact go (.cons _ _ _ _ (.int _ _) (.cons _ _ _ _ (.int _ _) (.nil))) run_22_11
    · exact go (.cons _ _ _ _ (.int _ _) (.cons _ _ _ _ (.int _ _) (.nil))) run_22_12
    · exact go (.cons _ _ _ _ (.int _ _) (.cons _ _ _ _ (.int _ _) (.nil))) run_22_13
    · exact go (.cons _ _ _ _ (.int _ _) (.cons _ _ _ _ (.int _ _) (.nil))) run_22_14
    · exact go (.cons _ _ _ _ (.int _ _) (.cons _ _ _ _ (.int _ _) (.nil))) run_22_15
    · exact go (.cons _ _ _ _ (.int _ _) (.cons _ _ _ _ (.int _ _) (.nil))) run_22_16
    · exact go (.cons _ _ _ _ (.int _ _) (.cons _ _ _ _ (.int _ _) (.nil))) run_22_17
    · exact go (.cons _ _ _ _ (.int _ _) (.cons _ _ _ _ (.int _ _) (.nil))) run_22_18
    · exact go (.cons _ _ _ _ (.int _ _) (.cons _ _ _ _ (.int _ _) (.nil))) run_22_19
    · exact go (.cons _ _ _ _ (.int _ _) (.cons _ _ _ _ (.int _ _) (.nil))) run_22_20
  · by_cases hb1 : a1 ≤ -1
    · exact go (.cons _ _ _ _ (.int _ _) (.cons _ _ _ _ (.ile _ _ _ hb1) (.nil))) run_23_le
    by_cases ha1 : 21 ≤ a1
    · exact go (.cons _ _ _ _ (.int _ _) (.cons _ _ _ _ (.ige _ _ _ ha1) (.nil))) run_23_ge
    have hc1 : a1 = 0 ∨ a1 = 1 ∨ a1 = 2 ∨ a1 = 3 ∨ a1 = 4 ∨ a1 = 5 ∨ a1 = 6 ∨ a1 = 7 ∨ a1 = 8 ∨ a1 = 9 ∨ a1 = 10 ∨ a1 = 11 ∨ a1 = 12 ∨ a1 = 13 ∨ a1 = 14 ∨ a1 = 15 ∨ a1 = 16 ∨ a1 = 17 ∨ a1 = 18 ∨ a1 = 19 ∨ a1 = 20 := by omega
    rcases hc1 with rfl | rfl | rfl | rfl | rfl | rfl | rfl | rfl | rfl | rfl | rfl | rfl | rfl | rfl | rfl | rfl | rfl | rfl | rfl | rfl | rfl
    · exact go (.cons _ _ _ _ (.int _ _) (.cons _ _ _ _ (.int _ _) (.nil))) run_23_0
    · exact go (.cons _ _ _ _ (.int _ _) (.cons _ _ _ _ (.int _ _) (.nil))) run_23_1
    · exact go (.cons _ _ _ _ (.int _ _) (.cons _ _ _ _ (.int _ _) (.nil))) run_23_2
    · exact go (.cons _ _ _ _ (.int _ _) (.cons _ _ _ _ (.int _ _) (.nil))) run_23_3
    · exact go (.cons _ _ _ _ (.int _ _) (.cons _ _ _ _ (.int _ _) (.nil))) run_23_4
    · exact go (.cons _ _ _ _ (.int _ _) (.cons _ _ _ _ (.int _ _) (.nil))) run_23_5
    · exact go (.cons _ _ _ _ (.int _ _) (.cons _ _ _ _ (.int _ _) (.nil))) run_23_6
    · exact go (.cons _ _ _ _ (.int _ _) (.cons _ _ _ _ (.int _ _) (.nil))) run_23_7
    · exact go (.cons _ _ _ _ (.int _ _) (.cons _ _ _ _ (.int _ _) (.nil))) run_23_8
    · exact go (.cons _ _ _ _ (.int _ _) (.cons _ _ _ _ (.int _ _) (.nil))) run_23_9
    · exact go (.cons _ _ _ _ (.int _ _) (.cons _ _ _ _ (.int _ _) (.nil))) run_23_10
    · exact go (.cons _ _ _ _ (.int _ _) (.cons _ _ _ _ (.int _ _) (.nil))) run_23_11
    · exact go (.cons _ _ _ _ (.int _ _) (.cons _ _ _ _ (.int _ _) (.nil))) run_23_12
    · exact go (.cons _ _ _ _ (.int _ _) (.cons _ _ _ _ (.int _ _) (.nil))) run_23_13
    · exact go (.cons _ _ _ _ (.int _ _) (.cons _ _ _ _ (.int _ _) (.nil))) run_23_14
    · exact go (.cons _ _ _ _ (.int _ _) (.cons _ _ _ _ (.int _ _) (.nil))) run_23_15
    · exact go (.cons _ _ _ _ (.int _ _) (.cons _ _ _ _ (.int _ _) (.nil))) run_23_16
    · exact go (.cons _ _ _ _ (.int _ _) (.cons _ _ _ _ (.int _ _) (.nil))) run_23_17
    · exact go (.cons _ _ _ _ (.int _ _) (.cons _ _ _ _ (.int _ _) (.nil))) run_23_18
    · exact go (.cons _ _ _ _ (.int _ _) (.cons _ _ _ _ (.int _ _) (.nil))) run_23_19
    · exact go (.cons _ _ _ _ (.int _ _) (.cons _ _ _ _ (.int _ _) (.nil))) run_23_20
  · by_cases hb1 : a1 ≤ -1
    · exact go (.cons _ _ _ _ (.int _ _) (.cons _ _ _ _ (.ile _ _ _ hb1) (.nil))) run_24_le
    by_cases ha1 : 21 ≤ a1
    · exact go (.cons _ _ _ _ (.int _ _) (.cons _ _ _ _ (.ige _ _ _ ha1) (.nil))) run_24_ge
    have hc1 : a1 = 0 ∨ a1 = 1 ∨ a1 = 2 ∨ a1 = 3 ∨ a1 = 4 ∨ a1 = 5 ∨ a1 = 6 ∨ a1 = 7 ∨ a1 = 8 ∨ a1 = 9 ∨ a1 = 10 ∨ a1 = 11 ∨ a1 = 12 ∨ a1 = 13 ∨ a1 = 14 ∨ a1 = 15 ∨ a1 = 16 ∨ a1 = 17 ∨ a1 = 18 ∨ a1 = 19 ∨ a1 = 20 := by omega
    rcases hc1 with rfl | rfl | rfl | rfl | rfl | rfl | rfl | rfl | rfl | rfl | rfl | rfl | rfl | rfl | rfl | rfl | rfl | rfl | rfl | rfl | rfl
    · exact go (.cons _ _ _ _ (.int _ _) (.cons _ _ _ _ (.int _ _) (.nil))) run_24_0
    · exact go (.cons _ _ _ _ (.int _ _) (.cons _ _ _ _ (.int _ _) (.nil))) run_24_1
    · exact go (.cons _ _ _ _ (.int _ _) (.cons _ _ _ _ (.int _ _) (.nil))) run_24_2
    · exact go (.cons _ _ _ _ (.int _ _) (.cons _ _ _ _ (.int _ _) (.nil))) run_24_3
    · exact go (.cons _ _ _ _ (.int _ _) (.cons _ _ _ _ (.int _ _) (.nil))) run_24_4
    · exact go (.cons _ _ _ _ (.int _ _) (.cons _ _ _ _ (.int _ _) (.nil))) run_24_5
    · exact go (.cons _ _ _ _ (.int _ _) (.cons _ _ _ _ (.int _ _) (.nil))) run_24_6
    · exact go (.cons _ _ _ _ (.int _ _) (.cons _ _ _ _ (.int _ _) (.nil))) run_24_7
    · exact go (.cons _ _ _ _ (.int _ _) (.cons _ _ _ _ (.int _ _) (.nil))) run_24_8
    · exact go (.cons _ _ _ _ (.int _ _) (.cons _ _ _ _ (.int _ _) (.nil))) run_24_9
    · exact go (.cons _ _ _ _ (.int _ _) (.cons _ _ _ _ (.int _ _) (.nil))) run_24_10
    · exact go (.cons _ _ _ _ (.int _ _) (.cons _ _ _ _ (.int _ _) (.nil))) run_24_11
    · exact go (.cons _ _ _ _ (.int _ _) (.cons _ _ _ _ (.int _ _) (.nil))) run_24_12
    · exact go (.cons _ _ _ _ (.int _ _) (.cons _ _ _ _ (.int _ _) (.nil))) run_24_13
    · exact go (.cons _ _ _ _ (.int _ _) (.cons _ _ _ _ (.int _ _) (.nil))) run_24_14
    · exact go (.cons _ _ _ _ (.int _ _) (.cons _ _ _ _ (.int _ _) (.nil))) run_24_15
    · exact go (.cons _ _ _ _ (.int _ _) (.cons _ _ _ _ (.int _ _) (.nil))) run_24_16
    · exact go (.cons _ _ _ _ (.int _ _) (.cons _ _ _ _ (.int _ _) (.nil))) run_24_17
    · exact go (.cons _ _ _ _ (.int _ _) (.cons _ _ _ _ (.int _ _) (.nil))) run_24_18
    · exact go (.cons _ _ _ _ (.int _ _) (.cons _ _ _ _ (.int _ _) (.nil))) run_24_19
    · exact go (.cons _ _ _ _ (.int _ _) (.cons _ _ _ _ (.int _ _) (.nil))) run_24_20
  · by_cases hb1 : a1 ≤ -1
    · exact go (.cons _ _ _ _ (.int _ _) (.cons _ _ _ _ (.ile _ _ _ hb1) (.nil))) run_25_le
    by_cases ha1 : 21 ≤ a1
    · exact go (.cons _ _ _ _ (.int _ _) (.cons _ _ _ _ (.ige _ _ _ ha1) (.nil))) run_25_ge
    have hc1 : a1 = 0 ∨ a1 = 1 ∨ a1 = 2 ∨ a1 = 3 ∨ a1 = 4 ∨ a1 = 5 ∨ a1 = 6 ∨ a1 = 7 ∨ a1 = 8 ∨ a1 = 9 ∨ a1 = 10 ∨ a1 = 11 ∨ a1 = 12 ∨ a1 = 13 ∨ a1 = 14 ∨ a1 = 15 ∨ a1 = 16 ∨ a1 = 17 ∨ a1 = 18 ∨ a1 = 19 ∨ a1 = 20 := by omega
    rcases hc1 with rfl | rfl | rfl | rfl | rfl | rfl | rfl | rfl | rfl | rfl | rfl | rfl | rfl | rfl | rfl | rfl | rfl | rfl | rfl | rfl | rfl
    · exact go (.cons _ _ _ _ (.int _ _) (.cons _ _ _ _ (.int _ _) (.nil))) run_25_0
    · exact go (.cons _ _ _ _ (.int _ _) (.cons _ _ _ _ (.int _ _) (.nil))) run_25_1
    · exact go (.cons _ _ _ _ (.int _ _) (.cons _ _ _ _ (.int _ _) (.nil))) run_25_2
    · exact go (.cons _ _ _ _ (.int _ _) (.cons _ _ _ _ (.int _ _) (.nil))) run_25_3
    · exact go (.cons _ _ _ _ (.int _ _) (.cons _ _ _ _ (.int _ _) (.nil))) run_25_4
    · exact go (.cons _ _ _ _ (.int _ _) (.cons _ _ _ _ (.int _ _) (.nil))) run_25_5
    · exact go (.cons _ _ _ _ (.int _ _) (.cons _ _ _ _ (.int _ _) (.nil))) run_25_6
    · exact go (.cons _ _ _ _ (.int _ _) (.cons _ _ _ _ (.int _ _) (.nil))) run_25_7
    · exact go (.cons _ _ _ _ (.int _ _) (.cons _ _ _ _ (.int _ _) (.nil))) run_25_8
    · exact go (.cons _ _ _ _ (.int _ _) (.cons _ _ _ _ (.int _ _) (.nil))) run_25_9
    · exact go (.cons _ _ _ _ (.int _ _) (.cons _ _ _ _ (.int _ _) (.nil))) run_25_10
    · exact go (.cons _ _ _ _ (.int _ _) (.cons _ _ _ _ (.int _ _) (.nil))) run_25_11
    · exact go (.cons _ _ _ _ (.int _ _) (.cons _ _ _ _ (.int _ _) (.nil))) run_25_12
    · exact go (.cons _ _ _ _ (.int _ _) (.cons _ _ _ _ (.int _ _) (.nil))) run_25_13
    · exact go (.cons _ _ _ _ (.int _ _) (.cons _ _ _ _ (.int _ _) (.nil))) run_25_14
    · exact go (.cons _ _ _ _ (.int _ _) (.cons _ _ _ _ (.int _ _) (.nil))) run_25_15
    · exact go (.cons _ _ _ _ (.int _ _) (.cons _ _ _ _ (.int _ _) (.nil))) run_25_16
    · exact go (.cons _ _ _ _ (.int _ _) (.cons _ _ _ _ (.int _ _) (.nil))) run_25_17
    · exact go (.cons _ _ _ _ (.int _ _) (.cons _ _ _ _ (.int _ _) (.nil))) run_25_18
    · exact go (.cons _ _ _ _ (.int _ _) (.cons _ _ _ _ (.int _ _) (.nil))) run_25_19
    · exact go (.cons _ _ _ _ (.int _ _) (.cons _ _ _ _ (.int _ _) (.nil))) run_25_20
  · by_cases hb1 : a1 ≤ -1
    · exact go (.cons _ _ _ _ (.int _ _) (.cons _ _ _ _ (.ile _ _ _ hb1) (.nil))) run_26_le
    by_cases ha1 : 21 ≤ a1
    · exact go (.cons _ _ _ _ (.int _ _) (.cons _ _ _ _ (.ige _ _ _ ha1) (.nil))) run_26_ge
    have hc1 : a1 = 0 ∨ a1 = 1 ∨ a1 = 2 ∨ a1 = 3 ∨ a1 = 4 ∨ a1 = 5 ∨ a1 = 6 ∨ a1 = 7 ∨ a1 = 8 ∨ a1 = 9 ∨ a1 = 10 ∨ a1 = 11 ∨ a1 = 12 ∨ a1 = 13 ∨ a1 = 14 ∨ a1 = 15 ∨ a1 = 16 ∨ a1 = 17 ∨ a1 = 18 ∨ a1 = 19 ∨ a1 = 20 := by omega
    rcases hc1 with rfl | rfl | rfl | rfl | rfl | rfl | rfl | rfl | rfl | rfl | rfl | rfl | rfl | rfl | rfl | rfl | rfl | rfl | rfl | rfl | rfl
    · exact go (.cons _ _ _ _ (.int _ _) (.cons _ _ _ _ (.int _ _) (.nil))) run_26_0
    · exact go (.cons _ _ _ _ (.int _ _) (.cons _ _ _ _ (.int _ _) (.nil))) run_26_1
    · exact go (.cons _ _ _ _ (.int _ _) (.cons _ _ _ _ (.int _ _) (.nil))) run_26_2
    · exact go (.cons _ _ _ _ (.int _ _) (.cons _ _ _ _ (.int _ _) (.nil))) run_26_3
    · exact go (.cons _ _ _ _ (.int _ _) (.cons _ _ _ _ (.int _ _) (.nil))) run_26_4
    · exact go (.cons _ _ _ _ (.int _ _) (.cons _ _ _ _ (.int _ _) (.nil))) run_26_5
    · exact go (.cons _ _ _ _ (.int _ _) (.cons _ _ _ _ (.int _ _) (.nil))) run_26_6
    · exact go (.cons _ _ _ _ (.int _ _) (.cons _ _ _ _ (.int _ _) (.nil))) run_26_7
    · exact go (.cons _ _ _ _ (.int _ _) (.cons _ _ _ _ (.int _ _) (.nil))) run_26_8
    · exact go (.cons _ _ _ _ (.int _ _) (.cons _ _ _ _ (.int _ _) (.nil))) run_26_9
    · exact go (.cons _ _ _ _ (.int _ _) (.cons _ _ _ _ (.int _ _) (.nil))) run_26_10
    · exact go (.cons _ _ _ _ (.int _ _) (.cons _ _ _ _ (.int _ _) (.nil))) run_26_11
    · exact go (.cons _ _ _ _ (.int _ _) (.cons _ _ _ _ (.int _ _) (.nil))) run_26_12
    · exact go (.cons _ _ _ _ (.int _ _) (.cons _ _ _ _ (.int _ _) (.nil))) run_26_13
    · exact go (.cons _ _ _ _ (.int _ _) (.cons _ _ _ _ (.int _ _) (.nil))) run_26_14
    · exact go (.cons _ _ _ _ (.int _ _) (.cons _ _ _ _ (.int _ _) (.nil))) run_26_15
    · exact go (.cons _ _ _ _ (.int _ _) (.cons _ _ _ _ (.int _ _) (.nil))) run_26_16
    · exact go (.cons _ _ _ _ (.int _ _) (.cons _ _ _ _ (.int _ _) (.nil))) run_26_17
    · exact go (.cons _ _ _ _ (.int _ _) (.cons _ _ _ _ (.int _ _) (.nil))) run_26_18
    · exact go (.cons _ _ _ _ (.int _ _) (.cons _ _ _ _ (.int _ _) (.nil))) run_26_19
    · exact go (.cons _ _ _ _ (.int _ _) (.cons _ _ _ _ (.int _ _) (.nil))) run_26_20
  · by_cases hb1 : a1 ≤ -1
    · exact go (.cons _ _ _ _ (.int _ _) (.cons _ _ _ _ (.ile _ _ _ hb1) (.nil))) run_27_le
    by_cases ha1 : 21 ≤ a1
    · exact go (.cons _ _ _ _ (.int _ _) (.cons _ _ _ _ (.ige _ _ _ ha1) (.nil))) run_27_ge
    have hc1 : a1 = 0 ∨ a1 = 1 ∨ a1 = 2 ∨ a1 = 3 ∨ a1 = 4 ∨ a1 = 5 ∨ a1 = 6 ∨ a1 = 7 ∨ a1 = 8 ∨ a1 = 9 ∨ a1 = 10 ∨ a1 = 11 ∨ a1 = 12 ∨ a1 = 13 ∨ a1 = 14 ∨ a1 = 15 ∨ a1 = 16 ∨ a1 = 17 ∨ a1 = 18 ∨ a1 = 19 ∨ a1 = 20 := by omega
    rcases hc1 with rfl | rfl | rfl | rfl | rfl | rfl | rfl | rfl | rfl | rfl | rfl | rfl | rfl | rfl | rfl | rfl | rfl | rfl | rfl | rfl | rfl
    · exact go (.cons _ _ _ _ (.int _ _) (.cons _ _ _ _ (.int _ _) (.nil))) run_27_0
    · exact go (.cons _ _ _ _ (.int _ _) (.cons _ _ _ _ (.int _ _) (.nil))) run_27_1
    · exact go (.cons _ _ _ _ (.int _ _) (.cons _ _ _ _ (.int _ _) (.nil))) run_27_2
    · exact go (.cons _ _ _ _ (.int _ _) (.cons _ _ _ _ (.int _ _) (.nil))) run_27_3
    · exact go (.cons _ _ _ _ (.int _ _) (.cons _ _ _ _ (.int _ _) (.nil))) run_27_4
    · exact go (.cons _ _ _ _ (.int _ _) (.cons _ _ _ _ (.int _ _) (.nil))) run_27_5
    · exact go (.cons _ _ _ _ (.int _ _) (.cons _ _ _ _ (.int _ _) (.nil))) run_27_6
    · exact go (.cons _ _ _ _ (.int _ _) (.cons _ _ _ _ (.int _ _) (.nil))) run_27_7
    · exact go (.cons _ _ _ _ (.int _ _) (.cons _ _ _ _ (.int _ _) (.nil))) run_27_8
    · exact go (.cons _ _ _ _ (.int _ _) (.cons _ _ _ _ (.int _ _) (.nil))) run_27_9
    · exact go (.cons _ _ _ _ (.int _ _) (.cons _ _ _ _ (.int _ _) (.nil))) run_27_10
    · exact go (.cons _ _ _ _ (.int _ _) (.cons _ _ _ _ (.int _ _) (.nil))) run_27_11
    · exact go (.cons _ _ _ _ (.int _ _) (.cons _ _ _ _ (.int _ _) (.nil))) run_27_12
    · exact go (.cons _ _ _ _ (.int _ _) (.cons _ _ _ _ (.int _ _) (.nil))) run_27_13
    · exact go (.cons _ _ _ _ (.int _ _) (.cons _ _ _ _ (.int _ _) (.nil))) run_27_14
    · exact go (.cons _ _ _ _ (.int _ _) (.cons _ _ _ _ (.int _ _) (.nil))) run_27_15
    · exact go (.cons _ _ _ _ (.int _ _) (.cons _ _ _ _ (.int _ _) (.nil))) run_27_16
    · exact go (.cons _ _ _ _ (.int _ _) (.cons _ _ _ _ (.int _ _) (.nil))) run_27_17
    · exact go (.cons _ _ _ _ (.int _ _) (.cons _ _ _ _ (.int _ _) (.nil))) run_27_18
    · exact go (.cons _ _ _ _ (.int _ _) (.cons _ _ _ _ (.int _ _) (.nil))) run_27_19
    · exact go (.cons _ _ _ _ (.int _ _) (.cons _ _ _ _ (.int _ _) (.nil))) run_27_20
  · by_cases hb1 : a1 ≤ -1
    · exact go (.cons _ _ _ _ (.int _ _) (.cons _ _ _ _ (.ile _ _ _ hb1) (.nil))) run_28_le
    by_cases ha1 : 21 ≤ a1
    · exact go (.cons _ _ _ _ (.int _ _) (.cons _ _ _ _ (.ige _ _ _ ha1) (.nil))) run_28_ge
    have hc1 : a1 = 0 ∨ a1 = 1 ∨ a1 = 2 ∨ a1 = 3 ∨ a1 = 4 ∨ a1 = 5 ∨ a1 = 6 ∨ a1 = 7 ∨ a1 = 8 ∨ a1 = 9 ∨ a1 = 10 ∨ a1 = 11 ∨ a1 = 12 ∨ a1 = 13 ∨ a1 = 14 ∨ a1 = 15 ∨ a1 = 16 ∨ a1 = 17 ∨ a1 = 18 ∨ a1 = 19 ∨ a1 = 20 := by omega
    rcases hc1 with rfl | rfl | rfl | rfl | rfl | rfl | rfl | rfl | rfl | rfl | rfl | rfl | rfl | rfl | rfl | rfl | rfl | rfl | rfl | rfl | rfl
    · exact go (.cons _ _ _ _ (.int _ _) (.cons _ _ _ _ (.int _ _) (.nil))) run_28_0
    · exact go (.cons _ _ _ _ (.int _ _) (.cons _ _ _ _ (.int _ _) (.nil))) run_28_1
    · exact go (.cons _ _ _ _ (.int _ _) (.cons _ _ _ _ (.int _ _) (.nil))) run_28_2
    · exact go (.cons _ _ _ _ (.int _ _) (.cons _ _ _ _ (.int _ _) (.nil))) run_28_3
    · exact go (.cons _ _ _ _ (.int _ _) (.cons _ _ _ _ (.int _ _) (.nil))) run_28_4
    · exact go (.cons _ _ _ _ (.int _ _) (.cons _ _ _ _ (.int _ _) (.nil))) run_28_5
    · exact go (.cons _ _ _ _ (.int _ _) (.cons _ _ _ _ (.int _ _) (.nil))) run_28_6
    · exact go (.cons _ _ _ _ (.int _ _) (.cons _ _ _ _ (.int _ _) (.nil))) run_28_7
    · exact go (.cons _ _ _ _ (.int _ _) (.cons _ _ _ _ (.int _ _) (.nil))) run_28_8
    · exact go (.cons _ _ _ _ (.int _ _) (.cons _ _ _ _ (.int _ _) (.nil))) run_28_9
    · exact go (.cons _ _ _ _ (.int _ _) (.cons _ _ _ _ (.int _ _) (.nil))) run_28_10
    · exact go (.cons _ _ _ _ (.int _ _) (.cons _ _ _ _ (.int _ _) (.nil))) run_28_11
    · exact go (.cons _ _ _ _ (.int _ _) (.cons _ _ _ _ (.int _ _) (.nil))) run_28_12
    · exact go (.cons _ _ _ _ (.int _ _) (.cons _ _ _ _ (.int _ _) (.nil))) run_28_13
    · exact go (.cons _ _ _ _ (.int _ _) (.cons _ _ _ _ (.int _ _) (.nil))) run_28_14
    · exact go (.cons _ _ _ _ (.int _ _) (.cons _ _ _ _ (.int _ _) (.nil))) run_28_15
    · exact go (.cons _ _ _ _ (.int _ _) (.cons _ _ _ _ (.int _ _) (.nil))) run_28_16
    · exact go (.cons _ _ _ _ (.int _ _) (.cons _ _ _ _ (.int _ _) (.nil))) run_28_17
    · exact go (.cons _ _ _ _ (.int _ _) (.cons _ _ _ _ (.int _ _) (.nil))) run_28_18
    · exact go (.cons _ _ _ _ (.int _ _) (.cons _ _ _ _ (.int _ _) (.nil))) run_28_19
    · exact go (.cons _ _ _ _ (.int _ _) (.cons _ _ _ _ (.int _ _) (.nil))) run_28_20
  · by_cases hb1 : a1 ≤ -1
    · exact go (.cons _ _ _ _ (.int _ _) (.cons _ _ _ _ (.ile _ _ _ hb1) (.nil))) run_29_le
    by_cases ha1 : 21 ≤ a1
    · exact go (.cons _ _ _ _ (.int _ _) (.cons _ _ _ _ (.ige _ _ _ ha1) (.nil))) run_29_ge
    have hc1 : a1 = 0 ∨ a1 = 1 ∨ a1 = 2 ∨ a1 = 3 ∨ a1 = 4 ∨ a1 = 5 ∨ a1 = 6 ∨ a1 = 7 ∨ a1 = 8 ∨ a1 = 9 ∨ a1 = 10 ∨ a1 = 11 ∨ a1 = 12 ∨ a1 = 13 ∨ a1 = 14 ∨ a1 = 15 ∨ a1 = 16 ∨ a1 = 17 ∨ a1 = 18 ∨ a1 = 19 ∨ a1 = 20 := by omega
    rcases hc1 with rfl | rfl | rfl | rfl | rfl | rfl | rfl | rfl | rfl | rfl | rfl | rfl | rfl | rfl | rfl | rfl | rfl | rfl | rfl | rfl | rfl
    · exact go (.cons _ _ _ _ (.int _ _) (.cons _ _ _ _ (.int _ _) (.nil))) run_29_0
    · exact go (.cons _ _ _ _ (.int _ _) (.cons _ _ _ _ (.int _ _) (.nil))) run_29_1
    · exact go (.cons _ _ _ _ (.int _ _) (.cons _ _ _ _ (.int _ _) (.nil))) run_29_2
    · exact go (.cons _ _ _ _ (.int _ _) (.cons _ _ _ _ (.int _ _) (.nil))) run_29_3
    · exact go (.cons _ _ _ _ (.int _ _) (.cons _ _ _ _ (.int _ _) (.nil))) run_29_4
    · exact go (.cons _ _ _ _ (.int _ _) (.cons _ _ _ _ (.int _ _) (.nil))) run_29_5
    · exact go (.cons _ _ _ _ (.int _ _) (.cons _ _ _ _ (.int _ _) (.nil))) run_29_6
    · exact go (.cons _ _ _ _ (.int _ _) (.cons _ _ _ _ (.int _ _) (.nil))) run_29_7
    · exact go (.cons _ _ _ _ (.int _ _) (.cons _ _ _ _ (.int _ _) (.nil))) run_29_8
    · exact go (.cons _ _ _ _ (.int _ _) (.cons _ _ _ _ (.int _ _) (.nil))) run_29_9
    · exact go (.cons _ _ _ _ (.int _ _) (.cons _ _ _ _ (.int _ _) (.nil))) run_29_10
    · exact go (.cons _ _ _ _ (.int _ _) (.cons _ _ _ _ (.int _ _) (.nil))) run_29_11
    · exact go (.cons _ _ _ _ (.int _ _) (.cons _ _ _ _ (.int _ _) (.nil))) run_29_12
    · exact go (.cons _ _ _ _ (.int _ _) (.cons _ _ _ _ (.int _ _) (.nil))) run_29_13
    · exact go (.cons _ _ _ _ (.int _ _) (.cons _ _ _ _ (.int _ _) (.nil))) run_29_14
    · exact go (.cons _ _ _ _ (.int _ _) (.cons _ _ _ _ (.int _ _) (.nil))) run_29_15
    · exact go (.cons _ _ _ _ (.int _ _) (.cons _ _ _ _ (.int _ _) (.nil))) run_29_16
    · exact go (.cons _ _ _ _ (.int _ _) (.cons _ _ _ _ (.int _ _) (.nil))) run_29_17
    · exact go (.cons _ _ _ _ (.int _ _) (.cons _ _ _ _ (.int _ _) (.nil))) run_29_18
    · exact go (.cons _ _ _ _ (.int _ _) (.cons _ _ _ _ (.int _ _) (.nil))) run_29_19
    · exact go (.cons _ _ _ _ (.int _ _) (.cons _ _ _ _ (.int _ _) (.nil))) run_29_20
  · by_cases hb1 : a1 ≤ -1
    · exact go (.cons _ _ _ _ (.int _ _) (.cons _ _ _ _ (.ile _ _ _ hb1) (.nil))) run_30_le
    by_cases ha1 : 21 ≤ a1
    · exact go (.cons _ _ _ _ (.int _ _) (.cons _ _ _ _ (.ige _ _ _ ha1) (.nil))) run_30_ge
    have hc1 : a1 = 0 ∨ a1 = 1 ∨ a1 = 2 ∨ a1 = 3 ∨ a1 = 4 ∨ a1 = 5 ∨ a1 = 6 ∨ a1 = 7 ∨ a1 = 8 ∨ a1 = 9 ∨ a1 = 10 ∨ a1 = 11 ∨ a1 = 12 ∨ a1 = 13 ∨ a1 = 14 ∨ a1 = 15 ∨ a1 = 16 ∨ a1 = 17 ∨ a1 = 18 ∨ a1 = 19 ∨ a1 = 20 := by omega
    rcases hc1 with rfl | rfl | rfl | rfl | rfl | rfl | rfl | rfl | rfl | rfl | rfl | rfl | rfl | rfl | rfl | rfl | rfl | rfl | rfl | rfl | rfl
    · exact go (.cons _ _ _ _ (.int _ _) (.cons _ _ _ _ (.int _ _) (.nil))) run_30_0
    · exact go (.cons _ _ _ _ (.int _ _) (.cons _ _ _ _ (.int _ _) (.nil))) run_30_1
    · exact go (.cons _ _ _ _ (.int _ _) (.cons _ _ _ _ (.int _ _) (.nil))) run_30_2
    · exact go (.cons _ _ _ _ (.int _ _) (.cons _ _ _ _ (.int _ _) (.nil))) run_30_3
    · exact go (.cons _ _ _ _ (.int _ _) (.cons _ _ _ _ (.int _ _) (.nil))) run_30_4
    · exact go (.cons _ _ _ _ (.int _ _) (.cons _ _ _ _ (.int _ _) (.nil))) run_30_5
    · exact go (.cons _ _ _ _ (.int _ _) (.cons _ _ _ _ (.int _ _) (.nil))) run_30_6
    · exact go (.cons _ _ _ _ (.int _ _) (.cons _ _ _ _ (.int _ _) (.nil))) run_30_7
    · exact go (.cons _ _ _ _ (.int _ _) (.cons _ _ _ _ (.int _ _) (.nil))) run_30_8
    · exact go (.cons _ _ _ _ (.int _ _) (.cons _ _ _ _ (.int _ _) (.nil))) run_30_9
    · exact go (.cons _ _ _ _ (.int _ _) (.cons _ _ _ _ (.int _ _) (.nil))) run_30_10
    · exact go (.cons _ _ _ _ (.int _ _) (.cons _ _ _ _ (.int _ _) (.nil))) run_30_11
    · exact go (.cons _ _ _ _ (.int _ _) (.cons _ _ _ _ (.int _ _) (.nil))) run_30_12
    · exact go (.cons _ _ _ _ (.int _ _) (.cons _ _ _ _ (.int _ _) (.nil))) run_30_13
    · exact go (.cons _ _ _ _ (.int _ _) (.cons _ _ _ _ (.int _ _) (.nil))) run_30_14
    · exact go (.cons _ _ _ _ (.int _ _) (.cons _ _ _ _ (.int _ _) (.nil))) run_30_15
    · exact go (.cons _ _ _ _ (.int _ _) (.cons _ _ _ _ (.int _ _) (.nil))) run_30_16
    · exact go (.cons _ _ _ _ (.int _ _) (.cons _ _ _ _ (.int _ _) (.nil))) run_30_17
    · exact go (.cons _ _ _ _ (.int _ _) (.cons _ _ _ _ (.int _ _) (.nil))) run_30_18
    · exact go (.cons _ _ _ _ (.int _ _) (.cons _ _ _ _ (.int _ _) (.nil))) run_30_19
    · exact go (.cons _ _ _ _ (.int _ _) (.cons _ _ _ _ (.int _ _) (.nil))) run_30_20
  · by_cases hb1 : a1 ≤ -1
    · exact go (.cons _ _ _ _ (.int _ _) (.cons _ _ _ _ (.ile _ _ _ hb1) (.nil))) run_31_le
    by_cases ha1 : 21 ≤ a1
    · exact go (.cons _ _ _ _ (.int _ _) (.cons _ _ _ _ (.ige _ _ _ ha1) (.nil))) run_31_ge
    have hc1 : a1 = 0 ∨ a1 = 1 ∨ a1 = 2 ∨ a1 = 3 ∨ a1 = 4 ∨ a1 = 5 ∨ a1 = 6 ∨ a1 = 7 ∨ a1 = 8 ∨ a1 = 9 ∨ a1 = 10 ∨ a1 = 11 ∨ a1 = 12 ∨ a1 = 13 ∨ a1 = 14 ∨ a1 = 15 ∨ a1 = 16 ∨ a1 = 17 ∨ a1 = 18 ∨ a1 = 19 ∨ a1 = 20 := by omega
    rcases hc1 with rfl | rfl | rfl | rfl | rfl | rfl | rfl | rfl | rfl | rfl | rfl | rfl | rfl | rfl | rfl | rfl | rfl | rfl | rfl | rfl | rfl
    · exact go (.cons _ _ _ _ (.int _ _) (.cons _ _ _ _ (.int _ _) (.nil))) run_31_0
    · exact go (.cons _ _ _ _ (.int _ _) (.cons _ _ _ _ (.int _ _) (.nil))) run_31_1
    · exact go (.cons _ _ _ _ (.int _ _) (.cons _ _ _ _ (.int _ _) (.nil))) run_31_2
    · exact go (.cons _ _ _ _ (.int _ _) (.cons _ _ _ _ (.int _ _) (.nil))) run_31_3
    · exact go (.cons _ _ _ _ (.int _ _) (.cons _ _ _ _ (.int _ _) (.nil))) run_31_4
    · exact go (.cons _ _ _ _ (.int _ _) (.cons _ _ _ _ (.int _ _) (.nil))) run_31_5
    · exact go (.cons _ _ _ _ (.int _ _) (.cons _ _ _ _ (.int _ _) (.nil))) run_31_6
    · exact go (.cons _ _ _ _ (.int _ _) (.cons _ _ _ _ (.int _ _) (.nil))) run_31_7
    · exact go (.cons _ _ _ _ (.int _ _) (.cons _ _ _ _ (.int _ _) (.nil))) run_31_8
    · exact go (.cons _ _ _ _ (.int _ _) (.cons _ _ _ _ (.int _ _) (.nil))) run_31_9
    · exact go (.cons _ _ _ _ (.int _ _) (.cons _ _ _ _ (.int _ _) (.nil))) run_31_10
    · exact go (.cons _ _ _ _ (.int _ _) (.cons _ _ _ _ (.int _ _) (.nil))) run_31_11
    · exact go (.cons _ _ _ _ (.int _ _) (.cons _ _ _ _ (.int _ _) (.nil))) run_31_12
    · exact go (.cons _ _ _ _ (.int _ _) (.cons _ _ _ _ (.int _ _) (.nil))) run_31_13
    · exact go (.cons _ _ _ _ (.int _ _) (.cons _ _ _ _ (.int _ _) (.nil))) run_31_14
    · exact go (.cons _ _ _ _ (.int _ _) (.cons _ _ _ _ (.int _ _) (.nil))) run_31_15
    · exact go (.cons _ _ _ _ (.int _ _) (.cons _ _ _ _ (.int _ _) (.nil))) run_31_16
    · exact go (.cons _ _ _ _ (.int _ _) (.cons _ _ _ _ (.int _ _) (.nil))) run_31_17
    · exact go (.cons _ _ _ _ (.int _ _) (.cons _ _ _ _ (.int _ _) (.nil))) run_31_18
    · exact go (.cons _ _ _ _ (.int _ _) (.cons _ _ _ _ (.int _ _) (.nil))) run_31_19
    · exact go (.cons _ _ _ _ (.int _ _) (.cons _ _ _ _ (.int _ _) (.nil))) run_31_20
  · by_cases hb1 : a1 ≤ -1
    · exact go (.cons _ _ _ _ (.int _ _) (.cons _ _ _ _ (.ile _ _ _ hb1) (.nil))) run_32_le
    by_cases ha1 : 21 ≤ a1
    · exact go (.cons _ _ _ _ (.int _ _) (.cons _ _ _ _ (.ige _ _ _ ha1) (.nil))) run_32_ge
    have hc1 : a1 = 0 ∨ a1 = 1 ∨ a1 = 2 ∨ a1 = 3 ∨ a1 = 4 ∨ a1 = 5 ∨ a1 = 6 ∨ a1 = 7 ∨ a1 = 8 ∨ a1 = 9 ∨ a1 = 10 ∨ a1 = 11 ∨ a1 = 12 ∨ a1 = 13 ∨ a1 = 14 ∨ a1 = 15 ∨ a1 = 16 ∨ a1 = 17 ∨ a1 = 18 ∨ a1 = 19 ∨ a1 = 20 := by omega
    rcases hc1 with rfl | rfl | rfl | rfl | rfl | rfl | rfl | rfl | rfl | rfl | rfl | rfl | rfl | rfl | rfl | rfl | rfl | rfl | rfl | rfl | rfl
    · exact go (.cons _ _ _ _ (.int _ _) (.cons _ _ _ _ (.int _ _) (.nil))) run_32_0
    · exact go (.cons _ _ _ _ (.int _ _) (.cons _ _ _ _ (.int _ _) (.nil))) run_32_1
    · exact go (.cons _ _ _ _ (.int _ _) (.cons _ _ _ _ (.int _ _) (.nil))) run_32_2
    · exact go (.cons _ _ _ _ (.int _ _) (.cons _ _ _ _ (.int _ _) (.nil))) run_32_3
    · exact go (.cons _ _ _ _ (.int _ _) (.cons _ _ _ _ (.int _ _) (.nil))) run_32_4
    · exact go (.cons _ _ _ _ (.int _ _) (.cons _ _ _ _ (.int _ _) (.nil))) run_32_5
    · exact go (.cons _ _ _ _ (.int _ _) (.cons _ _ _ _ (.int _ _) (.nil))) run_32_6
    · exact go (.cons _ _ _ _ (.int _ _) (.cons _ _ _ _ (.int _ _) (.nil))) run_32_7
    · exact go (.cons _ _ _ _ (.int _ _) (.cons _ _ _ _ (.int _ _) (.nil))) run_32_8
    · exact go (.cons _ _ _ _ (.int _ _) (.cons _ _ _ _ (.int _ _) (.nil))) run_32_9
    · exact go (.cons _ _ _ _ (.int _ _) (.cons _ _ _ _ (.int _ _) (.nil))) run_32_10
    · exact go (.cons _ _ _ _ (.int _ _) (.cons _ _ _ _ (.int _ _) (.nil))) run_32_11
    · exact go (.cons _ _ _ _ (.int _ _) (.cons _ _ _ _ (.int _ _) (.nil))) run_32_12
    · exact go (.cons _ _ _ _ (.int _ _) (.cons _ _ _ _ (.int _ _) (.nil))) run_32_13
    · exact go (.cons _ _ _ _ (.int _ _) (.cons _ _ _ _ (.int _ _) (.nil))) run_32_14
    · exact go (.cons _ _ _ _ (.int _ _) (.cons _ _ _ _ (.int _ _) (.nil))) run_32_15
    · exact go (.cons _ _ _ _ (.int _ _) (.cons _ _ _ _ (.int _ _) (.nil))) run_32_16
    · exact go (.cons _ _ _ _ (.int _ _) (.cons _ _ _ _ (.int _ _) (.nil))) run_32_17
    · exact go (.cons _ _ _ _ (.int _ _) (.cons _ _ _ _ (.int _ _) (.nil))) run_32_18
    · exact go (.cons _ _ _ _ (.int _ _) (.cons _ _ _ _ (.int _ _) (.nil))) run_32_19
    · exact go (.cons _ _ _ _ (.int _ _) (.cons _ _ _ _ (.int _ _) (.nil))) run_32_20
  · by_cases hb1 : a1 ≤ -1
    · exact go (.cons _ _ _ _ (.int _ _) (.cons _ _ _ _ (.ile _ _ _ hb1) (.nil))) run_33_le
    by_cases ha1 : 21 ≤ a1
    · exact go (.cons _ _ _ _ (.int _ _) (.cons _ _ _ _ (.ige _ _ _ ha1) (.nil))) run_33_ge
    have hc1 : a1 = 0 ∨ a1 = 1 ∨ a1 = 2 ∨ a1 = 3 ∨ a1 = 4 ∨ a1 = 5 ∨ a1 = 6 ∨ a1 = 7 ∨ a1 = 8 ∨ a1 = 9 ∨ a1 = 10 ∨ a1 = 11 ∨ a1 = 12 ∨ a1 = 13 ∨ a1 = 14 ∨ a1 = 15 ∨ a1 = 16 ∨ a1 = 17 ∨ a1 = 18 ∨ a1 = 19 ∨ a1 = 20 := by omega
    rcases hc1 with rfl | rfl | rfl | rfl | rfl | rfl | rfl | rfl | rfl | rfl | rfl | rfl | rfl | rfl | rfl | rfl | rfl | rfl | rfl | rfl | rfl
    · exact go (.cons _ _ _ _ (.int _ _) (.cons _ _ _ _ (.int _ _) (.nil))) run_33_0
    · exact go (.cons _ _ _ _ (.int _ _) (.cons _ _ _ _ (.int _ _) (.nil))) run_33_1
    · exact go (.cons _ _ _ _ (.int _ _) (.cons _ _ _ _ (.int _ _) (.nil))) run_33_2
    · exact go (.cons _ _ _ _ (.int _ _) (.cons _ _ _ _ (.int _ _) (.nil))) run_33_3
    · exact go (.cons _ _ _ _ (.int _ _) (.cons _ _ _ _ (.int _ _) (.nil))) run_33_4
    · exact go (.cons _ _ _ _ (.int _ _) (.cons _ _ _ _ (.int _ _) (.nil))) run_33_5
    · exact go (.cons _ _ _ _ (.int _ _) (.cons _ _ _ _ (.int _ _) (.nil))) run_33_6
    · exact go (.cons _ _ _ _ (.int _ _) (.cons _ _ _ _ (.int _ _) (.nil))) run_33_7
    · exact go (.cons _ _ _ _ (.int _ _) (.cons _ _ _ _ (.int _ _) (.nil))) run_33_8
    · exact go (.cons _ _ _ _ (.int _ _) (.cons _ _ _ _ (.int _ _) (.nil))) run_33_9
    · exact go (.cons _ _ _ _ (.int _ _) (.cons _ _ _ _ (.int _ _) (.nil))) run_33_10
    · exact go (.cons _ _ _ _ (.int _ _) (.cons _ _ _ _ (.int _ _) (.nil))) run_33_11
    · exact go (.cons _ _ _ _ (.int _ _) (.cons _ _ _ _ (.int _ _) (.nil))) run_33_12
    · exact go (.cons _ _ _ _ (.int _ _) (.cons _ _ _ _ (.int _ _) (.nil))) run_33_13
    · exact go (.cons _ _ _ _ (.int _ _) (.cons _ _ _ _ (.int _ _) (.nil))) run_33_14
    · exact go (.cons _ _ _ _ (.int _ _) (.cons _ _ _ _ (.int _ _) (.nil))) run_33_15
    · exact go (.cons _ _ _ _ (.int _ _) (.cons _ _ _ _ (.int _ _) (.nil))) run_33_16
    · exact go (.cons _ _ _ _ (.int _ _) (.cons _ _ _ _ (.int _ _) (.nil))) run_33_17
    · exact go (.cons _ _ _ _ (.int _ _) (.cons _ _ _ _ (.int _ _) (.nil))) run_33_18
    · exact go (.cons _ _ _ _ (.int _ _) (.cons _ _ _ _ (.int _ _) (.nil))) run_33_19
    · exact go (.cons _ _ _ _ (.int _ _) (.cons _ _ _ _ (.int _ _) (.nil))) run_33_20
  · by_cases hb1 : a1 ≤ -1
    · exact go (.cons _ _ _ _ (.int _ _) (.cons _ _ _ _ (.ile _ _ _ hb1) (.nil))) run_34_le
    by_cases ha1 : 21 ≤ a1
    · exact go (.cons _ _ _ _ (.int _ _) (.cons _ _ _ _ (.ige _ _ _ ha1) (.nil))) run_34_ge
    have hc1 : a1 = 0 ∨ a1 = 1 ∨ a1 = 2 ∨ a1 = 3 ∨ a1 = 4 ∨ a1 = 5 ∨ a1 = 6 ∨ a1 = 7 ∨ a1 = 8 ∨ a1 = 9 ∨ a1 = 10 ∨ a1 = 11 ∨ a1 = 12 ∨ a1 = 13 ∨ a1 = 14 ∨ a1 = 15 ∨ a1 = 16 ∨ a1 = 17 ∨ a1 = 18 ∨ a1 = 19 ∨ a1 = 20 := by omega
    rcases hc1 with rfl | rfl | rfl | rfl | rfl | rfl | rfl | rfl | rfl | rfl | rfl | rfl | rfl | rfl | rfl | rfl | rfl | rfl | rfl | rfl | rfl
    · exact go (.cons _ _ _ _ (.int _ _) (.cons _ _ _ _ (.int _ _) (.nil))) run_34_0
    · exact go (.cons _ _ _ _ (.int _ _) (.cons _ _ _ _ (.int _ _) (.nil))) run_34_1
    · exact go (.cons _ _ _ _ (.int _ _) (.cons _ _ _ _ (.int _ _) (.nil))) run_34_2
    · exact go (.cons _ _ _ _ (.int _ _) (.cons _ _ _ _ (.int _ _) (.nil))) run_34_3
    · exact go (.cons _ _ _ _ (.int _ _) (.cons _ _ _ _ (.int _ _) (.nil))) run_34_4
    · exact go (.cons _ _ _ _ (.int _ _) (.cons _ _ _ _ (.int _ _) (.nil))) run_34_5
    · exact go (.cons _ _ _ _ (.int _ _) (.cons _ _ _ _ (.int _ _) (.nil))) run_34_6
    · exact go (.cons _ _ _ _ (.int _ _) (.cons _ _ _ _ (.int _ _) (.nil))) run_34_7
    · exact go (.cons _ _ _ _ (.int _ _) (.cons _ _ _ _ (.int _ _) (.nil))) run_34_8
    · exact go (.cons _ _ _ _ (.int _ _) (.cons _ _ _ _ (.int _ _) (.nil))) run_34_9
    · exact go (.cons _ _ _ _ (.int _ _) (.cons _ _ _ _ (.int _ _) (.nil))) run_34_10
    · exact go (.cons _ _ _ _ (.int _ _) (.cons _ _ _ _ (.int _ _) (.nil))) run_34_11
    · exact go (.cons _ _ _ _ (.int _ _) (.cons _ _ _ _ (.int _ _) (.nil))) run_34_12
    · exact go (.cons _ _ _ _ (.int _ _) (.cons _ _ _ _ (.int _ _) (.nil))) run_34_13
    · exact go (.cons _ _ _ _ (.int _ _) (.cons _ _ _ _ (.int _ _) (.nil))) run_34_14
    · exact go (.cons _ _ _ _ (.int _ _) (.cons _ _ _ _ (.int _ _) (.nil))) run_34_15
    · exact go (.cons _ _ _ _ (.int _ _) (.cons _ _ _ _ (.int _ _) (.nil))) run_34_16
    · exact go (.cons _ _ _ _ (.int _ _) (.cons _ _ _ _ (.int _ _) (.nil))) run_34_17
    · exact go (.cons _ _ _ _ (.int _ _) (.cons _ _ _ _ (.int _ _) (.nil))) run_34_18
    · exact go (.cons _ _ _ _ (.int _ _) (.cons _ _ _ _ (.int _ _) (.nil))) run_34_19
    · exact go (.cons _ _ _ _ (.int _ _) (.cons _ _ _ _ (.int _ _) (.nil))) run_34_20
  · by_cases hb1 : a1 ≤ -1
    · exact go (.cons _ _ _ _ (.int _ _) (.cons _ _ _ _ (.ile _ _ _ hb1) (.nil))) run_35_le
    by_cases ha1 : 21 ≤ a1
    · exact go (.cons _ _ _ _ (.int _ _) (.cons _ _ _ _ (.ige _ _ _ ha1) (.nil))) run_35_ge
    have hc1 : a1 = 0 ∨ a1 = 1 ∨ a1 = 2 ∨ a1 = 3 ∨ a1 = 4 ∨ a1 = 5 ∨ a1 = 6 ∨ a1 = 7 ∨ a1 = 8 ∨ a1 = 9 ∨ a1 = 10 ∨ a1 = 11 ∨ a1 = 12 ∨ a1 = 13 ∨ a1 = 14 ∨ a1 = 15 ∨ a1 = 16 ∨ a1 = 17 ∨ a1 = 18 ∨ a1 = 19 ∨ a1 = 20 := by omega
    rcases hc1 with rfl | rfl | rfl | rfl | rfl | rfl | rfl | rfl | rfl | rfl | rfl | rfl | rfl | rfl | rfl | rfl | rfl | rfl | rfl | rfl | rfl
    · exact go (.cons _ _ _ _ (.int _ _) (.cons _ _ _ _ (.int _ _) (.nil))) run_35_0
    · exact go (.cons _ _ _ _ (.int _ _) (.cons _ _ _ _ (.int _ _) (.nil))) run_35_1
    · exact go (.cons _ _ _ _ (.int _ _) (.cons _ _ _ _ (.int _ _) (.nil))) run_35_2
    · exact go (.cons _ _ _ _ (.int _ _) (.cons _ _ _ _ (.int _ _) (.nil))) run_35_3
    · exact go (.cons _ _ _ _ (.int _ _) (.cons _ _ _ _ (.int _ _) (.nil))) run_35_4
    · exact go (.cons _ _ _ _ (.int _ _) (.cons _ _ _ _ (.int _ _) (.nil))) run_35_5
    · exact go (.cons _ _ _ _ (.int _ _) (.cons _ _ _ _ (.int _ _) (.nil))) run_35_6
    · exact go (.cons _ _ _ _ (.int _ _) (.cons _ _ _ _ (.int _ _) (.nil))) run_35_7
    · exact go (.cons _ _ _ _ (.int _ _) (.cons _ _ _ _ (.int _ _) (.nil))) run_35_8
    · exact go (.cons _ _ _ _ (.int _ _) (.cons _ _ _ _ (.int _ _) (.nil))) run_35_9
    · exact go (.cons _ _ _ _ (.int _ _) (.cons _ _ _ _ (.int _ _) (.nil))) run_35_10
    · exact go (.cons _ _ _ _ (.int _ _) (.cons _ _ _ _ (.int _ _) (.nil))) run_35_11
    · exact go (.cons _ _ _ _ (.int _ _) (.cons _ _ _ _ (.int _ _) (.nil))) run_35_12
    · exact go (.cons _ _ _ _ (.int _ _) (.cons _ _ _ _ (.int _ _) (.nil))) run_35_13
    · exact go (.cons _ _ _ _ (.int _ _) (.cons _ _ _ _ (.int _ _) (.nil))) run_35_14
    · exact go (.cons _ _ _ _ (.int _ _) (.cons _ _ _ _ (.int _ _) (.nil))) run_35_15
    · exact go (.cons _ _ _ _ (.int _ _) (.cons _ _ _ _ (.int _ _) (.nil))) run_35_16
    · exact go (.cons _ _ _ _ (.int _ _) (.cons _ _ _ _ (.int _ _) (.nil))) run_35_17
    · exact go (.cons _ _ _ _ (.int _ _) (.cons _ _ _ _ (.int _ _) (.nil))) run_35_18
    · exact go (.cons _ _ _ _ (.int _ _) (.cons _ _ _ _ (.int _ _) (.nil))) run_35_19
    · exact go (.cons _ _ _ _ (.int _ _) (.cons _ _ _ _ (.int _ _) (.nil))) run_35_20
  · by_cases hb1 : a1 ≤ -1
    · exact go (.cons _ _ _ _ (.int _ _) (.cons _ _ _ _ (.ile _ _ _ hb1) (.nil))) run_36_le
    by_cases ha1 : 21 ≤ a1
    · exact go (.cons _ _ _ _ (.int _ _) (.cons _ _ _ _ (.ige _ _ _ ha1) (.nil))) run_36_ge
    have hc1 : a1 = 0 ∨ a1 = 1 ∨ a1 = 2 ∨ a1 = 3 ∨ a1 = 4 ∨ a1 = 5 ∨ a1 = 6 ∨ a1 = 7 ∨ a1 = 8 ∨ a1 = 9 ∨ a1 = 10 ∨ a1 = 11 ∨ a1 = 12 ∨ a1 = 13 ∨ a1 = 14 ∨ a1 = 15 ∨ a1 = 16 ∨ a1 = 17 ∨ a1 = 18 ∨ a1 = 19 ∨ a1 = 20 := by omega
    rcases hc1 with rfl | rfl | rfl | rfl | rfl | rfl | rfl | rfl | rfl | rfl | rfl | rfl | rfl | rfl | rfl | rfl | rfl | rfl | rfl | rfl | rfl
    · exact go (.cons _ _ _ _ (.int _ _) (.cons _ _ _ _ (.int _ _) (.nil))) run_36_0
    · exact go (.cons _ _ _ _ (.int _ _) (.cons _ _ _ _ (.int _ _) (.nil))) run_36_1
    · exact go (.cons _ _ _ _ (.int _ _) (.cons _ _ _ _ (.int _ _) (.nil))) run_36_2
    · exact go (.cons _ _ _ _ (.int _ _) (.cons _ _ _ _ (.int _ _) (.nil))) run_36_3
    · exact go (.cons _ _ _ _ (.int _ _) (.cons _ _ _ _ (.int _ _) (.nil))) run_36_4
    · exact go (.cons _ _ _ _ (.int _ _) (.cons _ _ _ _ (.int _ _) (.nil))) run_36_5
    · exact go (.cons _ _ _ _ (.int _ _) (.cons _ _ _ _ (.int _ _) (.nil))) run_36_6
    · exact go (.cons _ _ _ _ (.int _ _) (.cons _ _ _ _ (.int _ _) (.nil))) run_36_7
    · exact go (.cons _ _ _ _ (.int _ _) (.cons _ _ _ _ (.int _ _) (.nil))) run_36_8
    · exact go (.cons _ _ _ _ (.int _ _) (.cons _ _ _ _ (.int _ _) (.nil))) run_36_9
    · exact go (.cons _ _ _ _ (.int _ _) (.cons _ _ _ _ (.int _ _) (.nil))) run_36_10
    · exact go (.cons _ _ _ _ (.int _ _) (.cons _ _ _ _ (.int _ _) (.nil))) run_36_11
    · exact go (.cons _ _ _ _ (.int _ _) (.cons _ _ _ _ (.int _ _) (.nil))) run_36_12
    · exact go (.cons _ _ _ _ (.int _ _) (.cons _ _ _ _ (.int _ _) (.nil))) run_36_13
    · exact go (.cons _ _ _ _ (.int _ _) (.cons _ _ _ _ (.int _ _) (.nil))) run_36_14
    · exact go (.cons _ _ _ _ (.int _ _) (.cons _ _ _ _ (.int _ _) (.nil))) run_36_15
    · exact go (.cons _ _ _ _ (.int _ _) (.cons _ _ _ _ (.int _ _) (.nil))) run_36_16
    · exact go (.cons _ _ _ _ (.int _ _) (.cons _ _ _ _ (.int _ _) (.nil))) run_36_17
    · exact go (.cons _ _ _ _ (.int _ _) (.cons _ _ _ _ (.int _ _) (.nil))) run_36_18
    · exact go (.cons _ _ _ _ (.int _ _) (.cons _ _ _ _ (.int _ _) (.nil))) run_36_19
    · exact go (.cons _ _ _ _ (.int _ _) (.cons _ _ _ _ (.int _ _) (.nil))) run_36_20
  · by_cases hb1 : a1 ≤ -1
    · exact go (.cons _ _ _ _ (.int _ _) (.cons _ _ _ _ (.ile _ _ _ hb1) (.nil))) run_37_le
    by_cases ha1 : 21 ≤ a1
    · exact go (.cons _ _ _ _ (.int _ _) (.cons _ _ _ _ (.ige _ _ _ ha1) (.nil))) run_37_ge
    have hc1 : a1 = 0 ∨ a1 = 1 ∨ a1 = 2 ∨ a1 = 3 ∨ a1 = 4 ∨ a1 = 5 ∨ a1 = 6 ∨ a1 = 7 ∨ a1 = 8 ∨ a1 = 9 ∨ a1 = 10 ∨ a1 = 11 ∨ a1 = 12 ∨ a1 = 13 ∨ a1 = 14 ∨ a1 = 15 ∨ a1 = 16 ∨ a1 = 17 ∨ a1 = 18 ∨ a1 = 19 ∨ a1 = 20 := by omega
    rcases hc1 with rfl | rfl | rfl | rfl | rfl | rfl | rfl | rfl | rfl | rfl | rfl | rfl | rfl | rfl | rfl | rfl | rfl | rfl | rfl | rfl | rfl
    · exact go (.cons _ _ _ _ (.int _ _) (.cons _ _ _ _ (.int _ _) (.nil))) run_37_0
    · exact go (.cons _ _ _ _ (.int _ _) (.cons _ _ _ _ (.int _ _) (.nil))) run_37_1
    · exact go (.cons _ _ _ _ (.int _ _) (.cons _ _ _ _ (.int _ _) (.nil))) run_37_2
    · exact go (.cons _ _ _ _ (.int _ _) (.cons _ _ _ _ (.int _ _) (.nil))) run_37_3
    · exact go (.cons _ _ _ _ (.int _ _) (.cons _ _ _ _ (.int _ _) (.nil))) run_37_4
    · exact go (.cons _ _ _ _ (.int _ _) (.cons _ _ _ _ (.int _ _) (.nil))) run_37_5
    · exact go (.cons _ _ _ _ (.int _ _) (.cons _ _ _ _ (.int _ _) (.nil))) run_37_6
    · exact go (.cons _ _ _ _ (.int _ _) (.cons _ _ _ _ (.int _ _) (.nil))) run_37_7
    · exact go (.cons _ _ _ _ (.int _ _) (.cons _ _ _ _ (.int _ _) (.nil))) run_37_8
    · exact go (.cons _ _ _ _ (.int _ _) (.cons _ _ _ _ (.int _ _) (.nil))) run_37_9
    · exact go (.cons _ _ _ _ (.int _ _) (.cons _ _ _ _ (.int _ _) (.nil))) run_37_10
    · exact go (.cons _ _ _ _ (.int _ _) (.cons _ _ _ _ (.int _ _) (.nil))) run_37_11
    · exact go (.cons _ _ _ _ (.int _ _) (.cons _ _ _ _ (.int _ _) (.nil))) run_37_12
    · exact go (.cons _ _ _ _ (.int _ _) (.cons _ _ _ _ (.int _ _) (.nil))) run_37_13
    · exact go (.cons _ _ _ _ (.int _ _) (.cons _ _ _ _ (.int _ _) (.nil))) run_37_14
    · exact go (.cons _ _ _ _ (.int _ _) (.cons _ _ _ _ (.int _ _) (.nil))) run_37_15
    · exact go (.cons _ _ _ _ (.int _ _) (.cons _ _ _ _ (.int _ _) (.nil))) run_37_16
    · exact go (.cons _ _ _ _ (.int _ _) (.cons _ _ _ _ (.int _ _) (.nil))) run_37_17
    · exact go (.cons _ _ _ _ (.int _ _) (.cons _ _ _ _ (.int _ _) (.nil))) run_37_18
    · exact go (.cons _ _ _ _ (.int _ _) (.cons _ _ _ _ (.int _ _) (.nil))) run_37_19
    · exact go (.cons _ _ _ _ (.int _ _) (.cons _ _ _ _ (.int _ _) (.nil))) run_37_20
  · by_cases hb1 : a1 ≤ -1
    · exact go (.cons _ _ _ _ (.int _ _) (.cons _ _ _ _ (.ile _ _ _ hb1) (.nil))) run_38_le
    by_cases ha1 : 21 ≤ a1
    · exact go (.cons _ _ _ _ (.int _ _) (.cons _ _ _ _ (.ige _ _ _ ha1) (.nil))) run_38_ge
    have hc1 : a1 = 0 ∨ a1 = 1 ∨ a1 = 2 ∨ a1 = 3 ∨ a1 = 4 ∨ a1 = 5 ∨ a1 = 6 ∨ a1 = 7 ∨ a1 = 8 ∨ a1 = 9 ∨ a1 = 10 ∨ a1 = 11 ∨ a1 = 12 ∨ a1 = 13 ∨ a1 = 14 ∨ a1 = 15 ∨ a1 = 16 ∨ a1 = 17 ∨ a1 = 18 ∨ a1 = 19 ∨ a1 = 20 := by omega
    rcases hc1 with rfl | rfl | rfl | rfl | rfl | rfl | rfl | rfl | rfl | rfl | rfl | rfl | rfl | rfl | rfl | rfl | rfl | rfl | rfl | rfl | rfl
    · exact go (.cons _ _ _ _ (.int _ _) (.cons _ _ _ _ (.int _ _) (.nil))) run_38_0
    · exact go (.cons _ _ _ _ (.int _ _) (.cons _ _ _ _ (.int _ _) (.nil))) run_38_1
    · exact go (.cons _ _ _ _ (.int _ _) (.cons _ _ _ _ (.int _ _) (.nil))) run_38_2
    · exact go (.cons _ _ _ _ (.int _ _) (.cons _ _ _ _ (.int _ _) (.nil))) run_38_3
    · exact go (.cons _ _ _ _ (.int _ _) (.cons _ _ _ _ (.int _ _) (.nil))) run_38_4
    · exact go (.cons _ _ _ _ (.int _ _) (.cons _ _ _ _ (.int _ _) (.nil))) run_38_5
    · exact go (.cons _ _ _ _ (.int _ _) (.cons _ _ _ _ (.int _ _) (.nil))) run_38_6
    · exact go (.cons _ _ _ _ (.int _ _) (.cons _ _ _ _ (.int _ _) (.nil))) run_38_7
    · exact go (.cons _ _ _ _ (.int _ _) (.cons _ _ _ _ (.int _ _) (.nil))) run_38_8
    · exact go (.cons _ _ _ _ (.int _ _) (.cons _ _ _ _ (.int _ _) (.nil))) run_38_9
    · exact go (.cons _ _ _ _ (.int _ _) (.cons _ _ _ _ (.int _ _) (.nil))) run_38_10
    · exact go (.cons _ _ _ _ (.int _ _) (.cons _ _ _ _ (.int _ _) (.nil))) run_38_11
    · exact go (.cons _ _ _ _ (.int _ _) (.cons _ _ _ _ (.int _ _) (.nil))) run_38_12
    · exact go (.cons _ _ _ _ (.int _ _) (.cons _ _ _ _ (.int _ _) (.nil))) run_38_13
    · exact go (.cons _ _ _ _ (.int _ _) (.cons _ _ _ _ (.int _ _) (.nil))) run_38_14
    · exact go (.cons _ _ _ _ (.int _ _) (.cons _ _ _ _ (.int _ _) (.nil))) run_38_15
    · exact go (.cons _ _ _ _ (.int _ _) (.cons _ _ _ _ (.int _ _) (.nil))) run_38_16
    · exact go (.cons _ _ _ _ (.int _ _) (.cons _ _ _ _ (.int _ _) (.nil))) run_38_17
    · exact go (.cons _ _ _ _ (.int _ _) (.cons _ _ _ _ (.int _ _) (.nil))) run_38_18
    · exact go (.cons _ _ _ _ (.int _ _) (.cons _ _ _ _ (.int _ _) (.nil))) run_38_19
    · exact go (.cons _ _ _ _ (.int _ _) (.cons _ _ _ _ (.int _ _) (.nil))) run_38_20
  · by_cases hb1 : a1 ≤ -1
    · exact go (.cons _ _ _ _ (.int _ _) (.cons _ _ _ _ (.ile _ _ _ hb1) (.nil))) run_39_le
    by_cases ha1 : 21 ≤ a1
    · exact go (.cons _ _ _ _ (.int _ _) (.cons _ _ _ _ (.ige _ _ _ ha1) (.nil))) run_39_ge
    have hc1 : a1 = 0 ∨ a1 = 1 ∨ a1 = 2 ∨ a1 = 3 ∨ a1 = 4 ∨ a1 = 5 ∨ a1 = 6 ∨ a1 = 7 ∨ a1 = 8 ∨ a1 = 9 ∨ a1 = 10 ∨ a1 = 11 ∨ a1 = 12 ∨ a1 = 13 ∨ a1 = 14 ∨ a1 = 15 ∨ a1 = 16 ∨ a1 = 17 ∨ a1 = 18 ∨ a1 = 19 ∨ a1 = 20 := by omega
    rcases hc1 with rfl | rfl | rfl | rfl | rfl | rfl | rfl | rfl | rfl | rfl | rfl | rfl | rfl | rfl | rfl | rfl | rfl | rfl | rfl | rfl | rfl
    · exact go (.cons _ _ _ _ (.int _ _) (.cons _ _ _ _ (.int _ _) (.nil))) run_39_0
    · exact go (.cons _ _ _ _ (.int _ _) (.cons _ _ _ _ (.int _ _) (.nil))) run_39_1
    · exact go (.cons _ _ _ _ (.int _ _) (.cons _ _ _ _ (.int _ _) (.nil))) run_39_2
    · exact go (.cons _ _ _ _ (.int _ _) (.cons _ _ _ _ (.int _ _) (.nil))) run_39_3
    · exact go (.cons _ _ _ _ (.int _ _) (.cons _ _ _ _ (.int _ _) (.nil))) run_39_4
    · exact go (.cons _ _ _ _ (.int _ _) (.cons _ _ _ _ (.int _ _) (.nil))) run_39_5
    · exact go (.cons _ _ _ _ (.int _ _) (.cons _ _ _ _ (.int _ _) (.nil))) run_39_6
    · exact go (.cons _ _ _ _ (.int _ _) (.cons _ _ _ _ (.int _ _) (.nil))) run_39_7
    · exact go (.cons _ _ _ _ (.int _ _) (.cons _ _ _ _ (.int _ _) (.nil))) run_39_8
    · exact go (.cons _ _ _ _ (.int _ _) (.cons _ _ _ _ (.int _ _) (.nil))) run_39_9
    · exact go (.cons _ _ _ _ (.int _ _) (.cons _ _ _ _ (.int _ _) (.nil))) run_39_10
    · exact go (.cons _ _ _ _ (.int _ _) (.cons _ _ _ _ (.int _ _) (.nil))) run_39_11
    · exact go (.cons _ _ _ _ (.int _ _) (.cons _ _ _ _ (.int _ _) (.nil))) run_39_12
    · exact go (.cons _ _ _ _ (.int _ _) (.cons _ _ _ _ (.int _ _) (.nil))) run_39_13
    · exact go (.cons _ _ _ _ (.int _ _) (.cons _ _ _ _ (.int _ _) (.nil))) run_39_14
    · exact go (.cons _ _ _ _ (.int _ _) (.cons _ _ _ _ (.int _ _) (.nil))) run_39_15
    · exact go (.cons _ _ _ _ (.int _ _) (.cons _ _ _ _ (.int _ _) (.nil))) run_39_16
    · exact go (.cons _ _ _ _ (.int _ _) (.cons _ _ _ _ (.int _ _) (.nil))) run_39_17
    · exact go (.cons _ _ _ _ (.int _ _) (.cons _ _ _ _ (.int _ _) (.nil))) run_39_18
    · exact go (.cons _ _ _ _ (.int _ _) (.cons _ _ _ _ (.int _ _) (.nil))) run_39_19
    · exact go (.cons _ _ _ _ (.int _ _) (.cons _ _ _ _ (.int _ _) (.nil))) run_39_20
  · by_cases hb1 : a1 ≤ -1
    · exact go (.cons _ _ _ _ (.int _ _) (.cons _ _ _ _ (.ile _ _ _ hb1) (.nil))) run_40_le
    by_cases ha1 : 21 ≤ a1
    · exact go (.cons _ _ _ _ (.int _ _) (.cons _ _ _ _ (.ige _ _ _ ha1) (.nil))) run_40_ge
    have hc1 : a1 = 0 ∨ a1 = 1 ∨ a1 = 2 ∨ a1 = 3 ∨ a1 = 4 ∨ a1 = 5 ∨ a1 = 6 ∨ a1 = 7 ∨ a1 = 8 ∨ a1 = 9 ∨ a1 = 10 ∨ a1 = 11 ∨ a1 = 12 ∨ a1 = 13 ∨ a1 = 14 ∨ a1 = 15 ∨ a1 = 16 ∨ a1 = 17 ∨ a1 = 18 ∨ a1 = 19 ∨ a1 = 20 := by omega
    rcases hc1 with rfl | rfl | rfl | rfl | rfl | rfl | rfl | rfl | rfl | rfl | rfl | rfl | rfl | rfl | rfl | rfl | rfl | rfl | rfl | rfl | rfl
    · exact go (.cons _ _ _ _ (.int _ _) (.cons _ _ _ _ (.int _ _) (.nil))) run_40_0
    · exact go (.cons _ _ _ _ (.int _ _) (.cons _ _ _ _ (.int _ _) (.nil))) run_40_1
    · exact go (.cons _ _ _ _ (.int _ _) (.cons _ _ _ _ (.int _ _) (.nil))) run_40_2
    · exact go (.cons _ _ _ _ (.int _ _) (.cons _ _ _ _ (.int _ _) (.nil))) run_40_3
    · exact go (.cons _ _ _ _ (.int _ _) (.cons _ _ _ _ (.int _ _) (.nil))) run_40_4
    · exact go (.cons _ _ _ _ (.int _ _) (.cons _ _ _ _ (.int _ _) (.nil))) run_40_5
    · exact go (.cons _ _ _ _ (.int _ _) (.cons _ _ _ _ (.int _ _) (.nil))) run_40_6
    · exact go (.cons _ _ _ _ (.int _ _) (.cons _ _ _ _ (.int _ _) (.nil))) run_40_7
    · exact go (.cons _ _ _ _ (.int _ _) (.cons _ _ _ _ (.int _ _) (.nil))) run_40_8
    · exact go (.cons _ _ _ _ (.int _ _) (.cons _ _ _ _ (.int _ _) (.nil))) run_40_9
    · exact go (.cons _ _ _ _ (.int _ _) (.cons _ _ _ _ (.int _ _) (.nil))) run_40_10
    · exact go (.cons _ _ _ _ (.int _ _) (.cons _ _ _ _ (.int _ _) (.nil))) run_40_11
    · exact go (.cons _ _ _ _ (.int _ _) (.cons _ _ _ _ (.int _ _) (.nil))) run_40_12
    · exact go (.cons _ _ _ _ (.int _ _) (.cons _ _ _ _ (.int _ _) (.nil))) run_40_13
    · exact go (.cons _ _ _ _ (.int _ _) (.cons _ _ _ _ (.int _ _) (.nil))) run_40_14
    · exact go (.cons _ _ _ _ (.int _ _) (.cons _ _ _ _ (.int _ _) (.nil))) run_40_15
    · exact go (.cons _ _ _ _ (.int _ _) (.cons _ _ _ _ (.int _ _) (.nil))) run_40_16
    · exact go (.cons _ _ _ _ (.int _ _) (.cons _ _ _ _ (.int _ _) (.nil))) run_40_17
    · exact go (.cons _ _ _ _ (.int _ _) (.cons _ _ _ _ (.int _ _) (.nil))) run_40_18
    · exact go (.cons _ _ _ _ (.int _ _) (.cons _ _ _ _ (.int _ _) (.nil))) run_40_19
    · exact go (.cons _ _ _ _ (.int _ _) (.cons _ _ _ _ (.int _ _) (.nil))) run_40_20
  · by_cases hb1 : a1 ≤ -1
    · exact go (.cons _ _ _ _ (.int _ _) (.cons _ _ _ _ (.ile _ _ _ hb1) (.nil))) run_41_le
    by_cases ha1 : 21 ≤ a1
    · exact go (.cons _ _ _ _ (.int _ _) (.cons _ _ _ _ (.ige _ _ _ ha1) (.nil))) run_41_ge
    have hc1 : a1 = 0 ∨ a1 = 1 ∨ a1 = 2 ∨ a1 = 3 ∨ a1 = 4 ∨ a1 = 5 ∨ a1 = 6 ∨ a1 = 7 ∨ a1 = 8 ∨ a1 = 9 ∨ a1 = 10 ∨ a1 = 11 ∨ a1 = 12 ∨ a1 = 13 ∨ a1 = 14 ∨ a1 = 15 ∨ a1 = 16 ∨ a1 = 17 ∨ a1 = 18 ∨ a1 = 19 ∨ a1 = 20 := by omega
    rcases hc1 with rfl | rfl | rfl | rfl | rfl | rfl | rfl | rfl | rfl | rfl | rfl | rfl | rfl | rfl | rfl | rfl | rfl | rfl | rfl | rfl | rfl
    · exact go (.cons _ _ _ _ (.int _ _) (.cons _ _ _ _ (.int _ _) (.nil))) run_41_0
    · exact go (.cons _ _ _ _ (.int _ _) (.cons _ _ _ _ (.int _ _) (.nil))) run_41_1
    · exact go (.cons _ _ _ _ (.int _ _) (.cons _ _ _ _ (.int _ _) (.nil))) run_41_2
    · exact go (.cons _ _ _ _ (.int _ _) (.cons _ _ _ _ (.int _ _) (.nil))) run_41_3
    · exact go (.cons _ _ _ _ (.int _ _) (.cons _ _ _ _ (.int _ _) (.nil))) run_41_4
    · exact go (.cons _ _ _ _ (.int _ _) (.cons _ _ _ _ (.int _ _) (.nil))) run_41_5
    · exact go (.cons _ _ _ _ (.int _ _) (.cons _ _ _ _ (.int _ _) (.nil))) run_41_6
    · exact go (.cons _ _ _ _ (.int _ _) (.cons _ _ _ _ (.int _ _) (.nil))) run_41_7
    · exact go (.cons _ _ _ _ (.int _ _) (.cons _ _ _ _ (.int _ _) (.nil))) run_41_8
    · exact go (.cons _ _ _ _ (.int _ _) (.cons _ _ _ _ (.int _ _) (.nil))) run_41_9
    · exact go (.cons _ _ _ _ (.int _ _) (.cons _ _ _ _ (.int _ _) (.nil))) run_41_10
    · exact go (.cons _ _ _ _ (.int _ _) (.cons _ _ _ _ (.int _ _) (.nil))) run_41_11
    · exact go (.cons _ _ _ _ (.int _ _) (.cons _ _ _ _ (.int _ _) (.nil))) run_41_12
    · exact go (.cons _ _ _ _ (.int _ _) (.cons _ _ _ _ (.int _ _) (.nil))) run_41_13
    · exact go (.cons _ _ _ _ (.int _ _) (.cons _ _ _ _ (.int _ _) (.nil))) run_41_14
    · exact go (.cons _ _ _ _ (.int _ _) (.cons _ _ _ _ (.int _ _) (.nil))) run_41_15
    · exact go (.cons _ _ _ _ (.int _ _) (.cons _ _ _ _ (.int _ _) (.nil))) run_41_16
    · exact go (.cons _ _ _ _ (.int _ _) (.cons _ _ _ _ (.int _ _) (.nil))) run_41_17
    · exact go (.cons _ _ _ _ (.int _ _) (.cons _ _ _ _ (.int _ _) (.nil))) run_41_18
    · exact go (.cons _ _ _ _ (.int _ _) (.cons _ _ _ _ (.int _ _) (.nil))) run_41_19
    · exact go (.cons _ _ _ _ (.int _ _) (.cons _ _ _ _ (.int _ _) (.nil))) run_41_20
  · by_cases hb1 : a1 ≤ -1
    · exact go (.cons _ _ _ _ (.int _ _) (.cons _ _ _ _ (.ile _ _ _ hb1) (.nil))) run_42_le
    by_cases ha1 : 21 ≤ a1
    · exact go (.cons _ _ _ _ (.int _ _) (.cons _ _ _ _ (.ige _ _ _ ha1) (.nil))) run_42_ge
    have hc1 : a1 = 0 ∨ a1 = 1 ∨ a1 = 2 ∨ a1 = 3 ∨ a1 = 4 ∨ a1 = 5 ∨ a1 = 6 ∨ a1 = 7 ∨ a1 = 8 ∨ a1 = 9 ∨ a1 = 10 ∨ a1 = 11 ∨ a1 = 12 ∨ a1 = 13 ∨ a1 = 14 ∨ a1 = 15 ∨ a1 = 16 ∨ a1 = 17 ∨ a1 = 18 ∨ a1 = 19 ∨ a1 = 20 := by omega
    rcases hc1 with rfl | rfl | rfl | rfl | rfl | rfl | rfl | rfl | rfl | rfl | rfl | rfl | rfl | rfl | rfl | rfl | rfl | rfl | rfl | rfl | rfl
    · exact go (.cons _ _ _ _ (.int _ _) (.cons _ _ _ _ (.int _ _) (.nil))) run_42_0
    · exact go (.cons _ _ _ _ (.int _ _) (.cons _ _ _ _ (.int _ _) (.nil))) run_42_1
    · exact go (.cons _ _ _ _ (.int _ _) (.cons _ _ _ _ (.int _ _) (.nil))) run_42_2
    · exact go (.cons _ _ _ _ (.int _ _) (.cons _ _ _ _ (.int _ _) (.nil))) run_42_3
    · exact go (.cons _ _ _ _ (.int _ _) (.cons _ _ _ _ (.int _ _) (.nil))) run_42_4
    · exact go (.cons _ _ _ _ (.int _ _) (.cons _ _ _ _ (.int _ _) (.nil))) run_42_5
    · exact go (.cons _ _ _ _ (.int _ _) (.cons _ _ _ _ (.int _ _) (.nil))) run_42_6
    · exact go (.cons _ _ _ _ (.int _ _) (.cons _ _ _ _ (.int _ _) (.nil))) run_42_7
    · exact go (.cons _ _ _ _ (.int _ _) (.cons _ _ _ _ (.int _ _) (.nil))) run_42_8
    · exact go (.cons _ _ _ _ (.int _ _) (.cons _ _ _ _ (.int _ _) (.nil))) run_42_9
    · exact go (.cons _ _ _ _ (.int _ _) (.cons _ _ _ _ (.int _ _) (.nil))) run_42_10
    · exact go (.cons _ _ _ _ (.int _ _) (.cons _ _ _ _ (.int _ _) (.nil))) run_42_11
    · exact go (.cons _ _ _ _ (.int _ _) (.cons _ _ _ _ (.int _ _) (.nil))) run_42_12
    · exact go (.cons _ _ _ _ (.int _ _) (.cons _ _ _ _ (.int _ _) (.nil))) run_42_13
    · exact go (.cons _ _ _ _ (.int _ _) (.cons _ _ _ _ (.int _ _) (.nil))) run_42_14
    · exact go (.cons _ _ _ _ (.int _ _) (.cons _ _ _ _ (.int _ _) (.nil))) run_42_15
    · exact go (.cons _ _ _ _ (.int _ _) (.cons _ _ _ _ (.int _ _) (.nil))) run_42_16
    · exact go (.cons _ _ _ _ (.int _ _) (.cons _ _ _ _ (.int _ _) (.nil))) run_42_17
    · exact go (.cons _ _ _ _ (.int _ _) (.cons _ _ _ _ (.int _ _) (.nil))) run_42_18
    · exact go (.cons _ _ _ _ (.int _ _) (.cons _ _ _ _ (.int _ _) (.nil))) run_42_19
    · exact go (.cons _ _ _ _ (.int _ _) (.cons _ _ _ _ (.int _ _) (.nil))) run_42_20
  · by_cases hb1 : a1 ≤ -1
    · exact go (.cons _ _ _ _ (.int _ _) (.cons _ _ _ _ (.ile _ _ _ hb1) (.nil))) run_43_le
    by_cases ha1 : 21 ≤ a1
    · exact go (.cons _ _ _ _ (.int _ _) (.cons _ _ _ _ (.ige _ _ _ ha1) (.nil))) run_43_ge
    have hc1 : a1 = 0 ∨ a1 = 1 ∨ a1 = 2 ∨ a1 = 3 ∨ a1 = 4 ∨ a1 = 5 ∨ a1 = 6 ∨ a1 = 7 ∨ a1 = 8 ∨ a1 = 9 ∨ a1 = 10 ∨ a1 = 11 ∨ a1 = 12 ∨ a1 = 13 ∨ a1 = 14 ∨ a1 = 15 ∨ a1 = 16 ∨ a1 = 17 ∨ a1 = 18 ∨ a1 = 19 ∨ a1 = 20 := by omega
    rcases hc1 with rfl | rfl | rfl | rfl | rfl | rfl | rfl | rfl | rfl | rfl | rfl | rfl | rfl | rfl | rfl | rfl | rfl | rfl | rfl | rfl | rfl
    · exact go (.cons _ _ _ _ (.int _ _) (.cons _ _ _ _ (.int _ _) (.nil))) run_43_0
    · exact go (.cons _ _ _ _ (.int _ _) (.cons _ _ _ _ (.int _ _) (.nil))) run_43_1
    · exact go (.cons _ _ _ _ (.int _ _) (.cons _ _ _ _ (.int _ _) (.nil))) run_43_2
    · exact go (.cons _ _ _ _ (.int _ _) (.cons _ _ _ _ (.int _ _) (.nil))) run_43_3
    · exact go (.cons _ _ _ _ (.int _ _) (.cons _ _ _ _ (.int _ _) (.nil))) run_43_4
    · exact go (.cons _ _ _ _ (.int _ _) (.cons _ _ _ _ (.int _ _) (.nil))) run_43_5
    · exact go (.cons _ _ _ _ (.int _ _) (.cons _ _ _ _ (.int _ _) (.nil))) run_43_6
    · exact go (.cons _ _ _ _ (.int _ _) (.cons _ _ _ _ (.int _ _) (.nil))) run_43_7
    · exact go (.cons _ _ _ _ (.int _ _) (.cons _ _ _ _ (.int _ _) (.nil))) run_43_8
    · exact go (.cons _ _ _ _ (.int _ _) (.cons _ _ _ _ (.int _ _) (.nil))) run_43_9
    · exact go (.cons _ _ _ _ (.int _ _) (.cons _ _ _ _ (.int _ _) (.nil))) run_43_10
    · exact go (.cons _ _ _ _ (.int _ _) (.cons _ _ _ _ (.int _ _) (.nil))) run_43_11
    · exact go (.cons _ _ _ _ (.int _ _) (.cons _ _ _ _ (.int _ _) (.nil))) run_43_12
    · exact go (.cons _ _ _ _ (.int _ _) (.cons _ _ _ _ (.int _ _) (.nil))) run_43_13
    · exact go (.cons _ _ _ _ (.int _ _) (.cons _ _ _ _ (.int _ _) (.nil))) run_43_14
    · exact go (.cons _ _ _ _ (.int _ _) (.cons _ _ _ _ (.int _ _) (.nil))) run_43_15
    · exact go (.cons _ _ _ _ (.int _ _) (.cons _ _ _ _ (.int _ _) (.nil))) run_43_16
    · exact go (.cons _ _ _ _ (.int _ _) (.cons _ _ _ _ (.int _ _) (.nil))) run_43_17
    · exact go (.cons _ _ _ _ (.int _ _) (.cons _ _ _ _ (.int _ _) (.nil))) run_43_18
    · exact go (.cons _ _ _ _ (.int _ _) (.cons _ _ _ _ (.int _ _) (.nil))) run_43_19
    · exact go (.cons _ _ _ _ (.int _ _) (.cons _ _ _ _ (.int _ _) (.nil))) run_43_20
  · by_cases hb1 : a1 ≤ -1
    · exact go (.cons _ _ _ _ (.int _ _) (.cons _ _ _ _ (.ile _ _ _ hb1) (.nil))) run_44_le
    by_cases ha1 : 21 ≤ a1
    · exact go (.cons _ _ _ _ (.int _ _) (.cons _ _ _ _ (.ige _ _ _ ha1) (.nil))) run_44_ge
    have hc1 : a1 = 0 ∨ a1 = 1 ∨ a1 = 2 ∨ a1 = 3 ∨ a1 = 4 ∨ a1 = 5 ∨ a1 = 6 ∨ a1 = 7 ∨ a1 = 8 ∨ a1 = 9 ∨ a1 = 10 ∨ a1 = 11 ∨ a1 = 12 ∨ a1 = 13 ∨ a1 = 14 ∨ a1 = 15 ∨ a1 = 16 ∨ a1 = 17 ∨ a1 = 18 ∨ a1 = 19 ∨ a1 = 20 := by omega
    rcases hc1 with rfl | rfl | rfl | rfl | rfl | rfl | rfl | rfl | rfl | rfl | rfl | rfl | rfl | rfl | rfl | rfl | rfl | rfl | rfl | rfl | rfl
    · exact go (.cons _ _ _ _ (.int _ _) (.cons _ _ _ _ (.int _ _) (.nil))) run_44_0
    · exact go (.cons _ _ _ _ (.int _ _) (.cons _ _ _ _ (.int _ _) (.nil))) run_44_1
    · exact go (.cons _ _ _ _ (.int _ _) (.cons _ _ _ _ (.int _ _) (.nil))) run_44_2
    · exact go (.cons _ _ _ _ (.int _ _) (.cons _ _ _ _ (.int _ _) (.nil))) run_44_3
    · exact go (.cons _ _ _ _ (.int _ _) (.cons _ _ _ _ (.int _ _) (.nil))) run_44_4
    · exact go (.cons _ _ _ _ (.int _ _) (.cons _ _ _ _ (.int _ _) (.nil))) run_44_5
    · exact go (.cons _ _ _ _ (.int _ _) (.cons _ _ _ _ (.int _ _) (.nil))) run_44_6
    · exact go (.cons _ _ _ _ (.int _ _) (.cons _ _ _ _ (.int _ _) (.nil))) run_44_7
    · exact go (.cons _ _ _ _ (.int _ _) (.cons _ _ _ _ (.int _ _) (.nil))) run_44_8
    · exact go (.cons _ _ _ _ (.int _ _) (.cons _ _ _ _ (.int _ _) (.nil))) run_44_9
    · exact go (.cons _ _ _ _ (.int _ _) (.cons _ _ _ _ (.int _ _) (.nil))) run_44_10
    · exact go (.cons _ _ _ _ (.int _ _) (.cons _ _ _ _ (.int _ _) (.nil))) run_44_11
    · exact go (.cons _ _ _ _ (.int _ _) (.cons _ _ _ _ (.int _ _) (.nil))) run_44_12
    · exact go (.cons _ _ _ _ (.int _ _) (.cons _ _ _ _ (.int _ _) (.nil))) run_44_13
    · exact go (.cons _ _ _ _ (.int _ _) (.cons _ _ _ _ (.int _ _) (.nil))) run_44_14
    · exact go (.cons _ _ _ _ (.int _ _) (.cons _ _ _ _ (.int _ _) (.nil))) run_44_15
    · exact go (.cons _ _ _ _ (.int _ _) (.cons _ _ _ _ (.int _ _) (.nil))) run_44_16
    · exact go (.cons _ _ _ _ (.int _ _) (.cons _ _ _ _ (.int _ _) (.nil))) run_44_17
    · exact go (.cons _ _ _ _ (.int _ _) (.cons _ _ _ _ (.int _ _) (.nil))) run_44_18
    · exact go (.cons _ _ _ _ (.int _ _) (.cons _ _ _ _ (.int _ _) (.nil))) run_44_19
    · exact go (.cons _ _ _ _ (.int _ _) (.cons _ _ _ _ (.int _ _) (.nil))) run_44_20
  · by_cases hb1 : a1 ≤ -1
    · exact go (.cons _ _ _ _ (.int _ _) (.cons _ _ _ _ (.ile _ _ _ hb1) (.nil))) run_45_le
    by_cases ha1 : 21 ≤ a1
    · exact go (.cons _ _ _ _ (.int _ _) (.cons _ _ _ _ (.ige _ _ _ ha1) (.nil))) run_45_ge
    have hc1 : a1 = 0 ∨ a1 = 1 ∨ a1 = 2 ∨ a1 = 3 ∨ a1 = 4 ∨ a1 = 5 ∨ a1 = 6 ∨ a1 = 7 ∨ a1 = 8 ∨ a1 = 9 ∨ a1 = 10 ∨ a1 = 11 ∨ a1 = 12 ∨ a1 = 13 ∨ a1 = 14 ∨ a1 = 15 ∨ a1 = 16 ∨ a1 = 17 ∨ a1 = 18 ∨ a1 = 19 ∨ a1 = 20 := by omega
    rcases hc1 with rfl | rfl | rfl | rfl | rfl | rfl | rfl | rfl | rfl | rfl | rfl | rfl | rfl | rfl | rfl | rfl | rfl | rfl | rfl | rfl | rfl
    · exact go (.cons _ _ _ _ (.int _ _) (.cons _ _ _ _ (.int _ _) (.nil))) run_45_0
    · exact go (.cons _ _ _ _ (.int _ _) (.cons _ _ _ _ (.int _ _) (.nil))) run_45_1
    · exact go (.cons _ _ _ _ (.int _ _) (.cons _ _ _ _ (.int _ _) (.nil))) run_45_2
    · exact go (.cons _ _ _ _ (.int _ _) (.cons _ _ _ _ (.int _ _) (.nil))) run_45_3
    · exact go (.cons _ _ _ _ (.int _ _) (.cons _ _ _ _ (.int _ _) (.nil))) run_45_4
    · exact go (.cons _ _ _ _ (.int _ _) (.cons _ _ _ _ (.int _ _) (.nil))) run_45_5
    · exact go (.cons _ _ _ _ (.int _ _) (.cons _ _ _ _ (.int _ _) (.nil))) run_45_6
    · exact go (.cons _ _ _ _ (.int _ _) (.cons _ _ _ _ (.int _ _) (.nil))) run_45_7
    · exact go (.cons _ _ _ _ (.int _ _) (.cons _ _ _ _ (.int _ _) (.nil))) run_45_8
    · exact go (.cons _ _ _ _ (.int _ _) (.cons _ _ _ _ (.int _ _) (.nil))) run_45_9
    · exact go (.cons _ _ _ _ (.int _ _) (.cons _ _ _ _ (.int _ _) (.nil))) run_45_10
    · exact go (.cons _ _ _ _ (.int _ _) (.cons _ _ _ _ (.int _ _) (.nil))) run_45_11
    · exact go (.cons _ _ _ _ (.int _ _) (.cons _ _ _ _ (.int _ _) (.nil))) run_45_12
    · exact go (.cons _ _ _ _ (.int _ _) (.cons _ _ _ _ (.int _ _) (.nil))) run_45_13
    · exact go (.cons _ _ _ _ (.int _ _) (.cons _ _ _ _ (.int _ _) (.nil))) run_45_14
    · exact go (.cons _ _ _ _ (.int _ _) (.cons _ _ _ _ (.int _ _) (.nil))) run_45_15
    · exact go (.cons _ _ _ _ (.int _ _) (.cons _ _ _ _ (.int _ _) (.nil))) run_45_16
    · exact go (.cons _ _ _ _ (.int _ _) (.cons _ _ _ _ (.int _ _) (.nil))) run_45_17
    · exact go (.cons _ _ _ _ (.int _ _) (.cons _ _ _ _ (.int _ _) (.nil))) run_45_18
    · exact go (.cons _ _ _ _ (.int _ _) (.cons _ _ _ _ (.int _ _) (.nil))) run_45_19
    · exact go (.cons _ _ _ _ (.int _ _) (.cons _ _ _ _ (.int _ _) (.nil))) run_45_20
  · by_cases hb1 : a1 ≤ -1
    · exact go (.cons _ _ _ _ (.int _ _) (.cons _ _ _ _ (.ile _ _ _ hb1) (.nil))) run_46_le
    by_cases ha1 : 21 ≤ a1
    · exact go (.cons _ _ _ _ (.int _ _) (.cons _ _ _ _ (.ige _ _ _ ha1) (.nil))) run_46_ge
    have hc1 : a1 = 0 ∨ a1 = 1 ∨ a1 = 2 ∨ a1 = 3 ∨ a1 = 4 ∨ a1 = 5 ∨ a1 = 6 ∨ a1 = 7 ∨ a1 = 8 ∨ a1 = 9 ∨ a1 = 10 ∨ a1 = 11 ∨ a1 = 12 ∨ a1 = 13 ∨ a1 = 14 ∨ a1 = 15 ∨ a1 = 16 ∨ a1 = 17 ∨ a1 = 18 ∨ a1 = 19 ∨ a1 = 20 := by omega
    rcases hc1 with rfl | rfl | rfl | rfl | rfl | rfl | rfl | rfl | rfl | rfl | rfl | rfl | rfl | rfl | rfl | rfl | rfl | rfl | rfl | rfl | rfl
    · exact go (.cons _ _ _ _ (.int _ _) (.cons _ _ _ _ (.int _ _) (.nil))) run_46_0
    · exact go (.cons _ _ _ _ (.int _ _) (.cons _ _ _ _ (.int _ _) (.nil))) run_46_1
    · exact go (.cons _ _ _ _ (.int _ _) (.cons _ _ _ _ (.int _ _) (.nil))) run_46_2
    · exact go (.cons _ _ _ _ (.int _ _) (.cons _ _ _ _ (.int _ _) (.nil))) run_46_3
    · exact go (.cons _ _ _ _ (.int _ _) (.cons _ _ _ _ (.int _ _) (.nil))) run_46_4
    · exact go (.cons _ _ _ _ (.int _ _) (.cons _ _ _ _ (.int _ _) (.nil))) run_46_5
    · exact go (.cons _ _ _ _ (.int _ _) (.cons _ _ _ _ (.int _ _) (.nil))) run_46_6
    · exact go (.cons _ _ _ _ (.int _ _) (.cons _ _ _ _ (.int _ _) (.nil))) run_46_7
    · exact go (.cons _ _ _ _ (.int _ _) (.cons _ _ _ _ (.int _ _) (.nil))) run_46_8
    · exact go (.cons _ _ _ _ (.int _ _) (.cons _ _ _ _ (.int _ _) (.nil))) run_46_9
    · exact go (.cons _ _ _ _ (.int _ _) (.cons _ _ _ _ (.int _ _) (.nil))) run_46_10
    · exact go (.cons _ _ _ _ (.int _ _) (.cons _ _ _ _ (.int _ _) (.nil))) run_46_11
    · exact go (.cons _ _ _ _ (.int _ _) (.cons _ _ _ _ (.int _ _) (.nil))) run_46_12
    · exact go (.cons _ _ _ _ (.int _ _) (.cons _ _ _ _ (.int _ _) (.nil))) run_46_13
    · exact go (.cons _ _ _ _ (.int _ _) (.cons _ _ _ _ (.int _ _) (.nil))) run_46_14
    · exact go (.cons _ _ _ _ (.int _ _) (.cons _ _ _ _ (.int _ _) (.nil))) run_46_15
    · exact go (.cons _ _ _ _ (.int _ _) (.cons _ _ _ _ (.int _ _) (.nil))) run_46_16
    · exact go (.cons _ _ _ _ (.int _ _) (.cons _ _ _ _ (.int _ _) (.nil))) run_46_17
    · exact go (.cons _ _ _ _ (.int _ _) (.cons _ _ _ _ (.int _ _) (.nil))) run_46_18
    · exact go (.cons _ _ _ _ (.int _ _) (.cons _ _ _ _ (.int _ _) (.nil))) run_46_19
    · exact go (.cons _ _ _ _ (.int _ _) (.cons _ _ _ _ (.int _ _) (.nil))) run_46_20
  · by_cases hb1 : a1 ≤ -1
    · exact go (.cons _ _ _ _ (.int _ _) (.cons _ _ _ _ (.ile _ _ _ hb1) (.nil))) run_47_le
    by_cases ha1 : 21 ≤ a1
    · exact go (.cons _ _ _ _ (.int _ _) (.cons _ _ _ _ (.ige _ _ _ ha1) (.nil))) run_47_ge
    have hc1 : a1 = 0 ∨ a1 = 1 ∨ a1 = 2 ∨ a1 = 3 ∨ a1 = 4 ∨ a1 = 5 ∨ a1 = 6 ∨ a1 = 7 ∨ a1 = 8 ∨ a1 = 9 ∨ a1 = 10 ∨ a1 = 11 ∨ a1 = 12 ∨ a1 = 13 ∨ a1 = 14 ∨ a1 = 15 ∨ a1 = 16 ∨ a1 = 17 ∨ a1 = 18 ∨ a1 = 19 ∨ a1 = 20 := by omega
    rcases hc1 with rfl | rfl | rfl | rfl | rfl | rfl | rfl | rfl | rfl | rfl | rfl | rfl | rfl | rfl | rfl | rfl | rfl | rfl | rfl | rfl | rfl
    · exact go (.cons _ _ _ _ (.int _ _) (.cons _ _ _ _ (.int _ _) (.nil))) run_47_0
    · exact go (.cons _ _ _ _ (.int _ _) (.cons _ _ _ _ (.int _ _) (.nil))) run_47_1
    · exact go (.cons _ _ _ _ (.int _ _) (.cons _ _ _ _ (.int _ _) (.nil))) run_47_2
    · exact go (.cons _ _ _ _ (.int _ _) (.cons _ _ _ _ (.int _ _) (.nil))) run_47_3
    · exact go (.cons _ _ _ _ (.int _ _) (.cons _ _ _ _ (.int _ _) (.nil))) run_47_4
    · exact go (.cons _ _ _ _ (.int _ _) (.cons _ _ _ _ (.int _ _) (.nil))) run_47_5
    · exact go (.cons _ _ _ _ (.int _ _) (.cons _ _ _ _ (.int _ _) (.nil))) run_47_6
    · exact go (.cons _ _ _ _ (.int _ _) (.cons _ _ _ _ (.int _ _) (.nil))) run_47_7
    · exact go (.cons _ _ _ _ (.int _ _) (.cons _ _ _ _ (.int _ _) (.nil))) run_47_8
    · exact go (.cons _ _ _ _ (.int _ _) (.cons _ _ _ _ (.int _ _) (.nil))) run_47_9
    · exact go (.cons _ _ _ _ (.int _ _) (.cons _ _ _ _ (.int _ _) (.nil))) run_47_10
    · exact go (.cons _ _ _ _ (.int _ _) (.cons _ _ _ _ (.int _ _) (.nil))) run_47_11
    · exact go (.cons _ _ _ _ (.int _ _) (.cons _ _ _ _ (.int _ _) (.nil))) run_47_12
    · exact go (.cons _ _ _ _ (.int _ _) (.cons _ _ _ _ (.int _ _) (.nil))) run_47_13
    · exact go (.cons _ _ _ _ (.int _ _) (.cons _ _ _ _ (.int _ _) (.nil))) run_47_14
    · exact go (.cons _ _ _ _ (.int _ _) (.cons _ _ _ _ (.int _ _) (.nil))) run_47_15
    · exact go (.cons _ _ _ _ (.int _ _) (.cons _ _ _ _ (.int _ _) (.nil))) run_47_16
    · exact go (.cons _ _ _ _ (.int _ _) (.cons _ _ _ _ (.int _ _) (.nil))) run_47_17
    · exact go (.cons _ _ _ _ (.int _ _) (.cons _ _ _ _ (.int _ _) (.nil))) run_47_18
    · exact go (.cons _ _ _ _ (.int _ _) (.cons _ _ _ _ (.int _ _) (.nil))) run_47_19
    · exact go (.cons _ _ _ _ (.int _ _) (.cons _ _ _ _ (.int _ _) (.nil))) run_47_20
  · by_cases hb1 : a1 ≤ -1
    · exact go (.cons _ _ _ _ (.int _ _) (.cons _ _ _ _ (.ile _ _ _ hb1) (.nil))) run_48_le
    by_cases ha1 : 21 ≤ a1
    · exact go (.cons _ _ _ _ (.int _ _) (.cons _ _ _ _ (.ige _ _ _ ha1) (.nil))) run_48_ge
    have hc1 : a1 = 0 ∨ a1 = 1 ∨ a1 = 2 ∨ a1 = 3 ∨ a1 = 4 ∨ a1 = 5 ∨ a1 = 6 ∨ a1 = 7 ∨ a1 = 8 ∨ a1 = 9 ∨ a1 = 10 ∨ a1 = 11 ∨ a1 = 12 ∨ a1 = 13 ∨ a1 = 14 ∨ a1 = 15 ∨ a1 = 16 ∨ a1 = 17 ∨ a1 = 18 ∨ a1 = 19 ∨ a1 = 20 := by omega
    rcases hc1 with rfl | rfl | rfl | rfl | rfl | rfl | rfl | rfl | rfl | rfl | rfl | rfl | rfl | rfl | rfl | rfl | rfl | rfl | rfl | rfl | rfl
    · exact go (.cons _ _ _ _ (.int _ _) (.cons _ _ _ _ (.int _ _) (.nil))) run_48_0
    · exact go (.cons _ _ _ _ (.int _ _) (.cons _ _ _ _ (.int _ _) (.nil))) run_48_1
    · exact go (.cons _ _ _ _ (.int _ _) (.cons _ _ _ _ (.int _ _) (.nil))) run_48_2
    · exact go (.cons _ _ _ _ (.int _ _) (.cons _ _ _ _ (.int _ _) (.nil))) run_48_3
    · exact go (.cons _ _ _ _ (.int _ _) (.cons _ _ _ _ (.int _ _) (.nil))) run_48_4
    · exact go (.cons _ _ _ _ (.int _ _) (.cons _ _ _ _ (.int _ _) (.nil))) run_48_5
    · exact go (.cons _ _ _ _ (.int _ _) (.cons _ _ _ _ (.int _ _) (.nil))) run_48_6
    · exact go (.cons _ _ _ _ (.int _ _) (.cons _ _ _ _ (.int _ _) (.nil))) run_48_7
    · exact go (.cons _ _ _ _ (.int _ _) (.cons _ _ _ _ (.int _ _) (.nil))) run_48_8
    · exact go (.cons _ _ _ _ (.int _ _) (.cons _ _ _ _ (.int _ _) (.nil))) run_48_9
    · exact go (.cons _ _ _ _ (.int _ _) (.cons _ _ _ _ (.int _ _) (.nil))) run_48_10
    · exact go (.cons _ _ _ _ (.int _ _) (.cons _ _ _ _ (.int _ _) (.nil))) run_48_11
    · exact go (.cons _ _ _ _ (.int _ _) (.cons _ _ _ _ (.int _ _) (.nil))) run_48_12
    · exact go (.cons _ _ _ _ (.int _ _) (.cons _ _ _ _ (.int _ _) (.nil))) run_48_13
    · exact go (.cons _ _ _ _ (.int _ _) (.cons _ _ _ _ (.int _ _) (.nil))) run_48_14
    · exact go (.cons _ _ _ _ (.int _ _) (.cons _ _ _ _ (.int _ _) (.nil))) run_48_15
    · exact go (.cons _ _ _ _ (.int _ _) (.cons _ _ _ _ (.int _ _) (.nil))) run_48_16
    · exact go (.cons _ _ _ _ (.int _ _) (.cons _ _ _ _ (.int _ _) (.nil))) run_48_17
    · exact go (.cons _ _ _ _ (.int _ _) (.cons _ _ _ _ (.int _ _) (.nil))) run_48_18
    · exact go (.cons _ _ _ _ (.int _ _) (.cons _ _ _ _ (.int _ _) (.nil))) run_48_19
    · exact go (.cons _ _ _ _ (.int _ _) (.cons _ _ _ _ (.int _ _) (.nil))) run_48_20
  · by_cases hb1 : a1 ≤ -1
    · exact go (.cons _ _ _ _ (.int _ _) (.cons _ _ _ _ (.ile _ _ _ hb1) (.nil))) run_49_le
    by_cases ha1 : 21 ≤ a1
    · exact go (.cons _ _ _ _ (.int _ _) (.cons _ _ _ _ (.ige _ _ _ ha1) (.nil))) run_49_ge
    have hc1 : a1 = 0 ∨ a1 = 1 ∨ a1 = 2 ∨ a1 = 3 ∨ a1 = 4 ∨ a1 = 5 ∨ a1 = 6 ∨ a1 = 7 ∨ a1 = 8 ∨ a1 = 9 ∨ a1 = 10 ∨ a1 = 11 ∨ a1 = 12 ∨ a1 = 13 ∨ a1 = 14 ∨ a1 = 15 ∨ a1 = 16 ∨ a1 = 17 ∨ a1 = 18 ∨ a1 = 19 ∨ a1 = 20 := by omega
    rcases hc1 with rfl | rfl | rfl | rfl | rfl | rfl | rfl | rfl | rfl | rfl | rfl | rfl | rfl | rfl | rfl | rfl | rfl | rfl | rfl | rfl | rfl
    · exact go (.cons _ _ _ _ (.int _ _) (.cons _ _ _ _ (.int _ _) (.nil))) run_49_0
    · exact go (.cons _ _ _ _ (.int _ _) (.cons _ _ _ _ (.int _ _) (.nil))) run_49_1
    · exact go (.cons _ _ _ _ (.int _ _) (.cons _ _ _ _ (.int _ _) (.nil))) run_49_2
    · exact go (.cons _ _ _ _ (.int _ _) (.cons _ _ _ _ (.int _ _) (.nil))) run_49_3
    · exact go (.cons _ _ _ _ (.int _ _) (.cons _ _ _ _ (.int _ _) (.nil))) run_49_4
    · exact go (.cons _ _ _ _ (.int _ _) (.cons _ _ _ _ (.int _ _) (.nil))) run_49_5
    · exact go (.cons _ _ _ _ (.int _ _) (.cons _ _ _ _ (.int _ _) (.nil))) run_49_6
    · exact go (.cons _ _ _ _ (.int _ _) (.cons _ _ _ _ (.int _ _) (.nil))) run_49_7
    · exact go (.cons _ _ _ _ (.int _ _) (.cons _ _ _ _ (.int _ _) (.nil))) run_49_8
    · exact go (.cons _ _ _ _ (.int _ _) (.cons _ _ _ _ (.int _ _) (.nil))) run_49_9
    · exact go (.cons _ _ _ _ (.int _ _) (.cons _ _ _ _ (.int _ _) (.nil))) run_49_10
    · exact go (.cons _ _ _ _ (.int _ _) (.cons _ _ _ _ (.int _ _) (.nil))) run_49_11
    · exact go (.cons _ _ _ _ (.int _ _) (.cons _ _ _ _ (.int _ _) (.nil))) run_49_12
    · exact go (.cons _ _ _ _ (.int _ _) (.cons _ _ _ _ (.int _ _) (.nil))) run_49_13
    · exact go (.cons _ _ _ _ (.int _ _) (.cons _ _ _ _ (.int _ _) (.nil))) run_49_14
    · exact go (.cons _ _ _ _ (.int _ _) (.cons _ _ _ _ (.int _ _) (.nil))) run_49_15
    · exact go (.cons _ _ _ _ (.int _ _) (.cons _ _ _ _ (.int _ _) (.nil))) run_49_16
    · exact go (.cons _ _ _ _ (.int _ _) (.cons _ _ _ _ (.int _ _) (.nil))) run_49_17
    · exact go (.cons _ _ _ _ (.int _ _) (.cons _ _ _ _ (.int _ _) (.nil))) run_49_18
    · exact go (.cons _ _ _ _ (.int _ _) (.cons _ _ _ _ (.int _ _) (.nil))) run_49_19
    · exact go (.cons _ _ _ _ (.int _ _) (.cons _ _ _ _ (.int _ _) (.nil))) run_49_20
  · by_cases hb1 : a1 ≤ -1
    · exact go (.cons _ _ _ _ (.int _ _) (.cons _ _ _ _ (.ile _ _ _ hb1) (.nil))) run_50_le
    by_cases ha1 : 21 ≤ a1
    · exact go (.cons _ _ _ _ (.int _ _) (.cons _ _ _ _ (.ige _ _ _ ha1) (.nil))) run_50_ge
    have hc1 : a1 = 0 ∨ a1 = 1 ∨ a1 = 2 ∨ a1 = 3 ∨ a1 = 4 ∨ a1 = 5 ∨ a1 = 6 ∨ a1 = 7 ∨ a1 = 8 ∨ a1 = 9 ∨ a1 = 10 ∨ a1 = 11 ∨ a1 = 12 ∨ a1 = 13 ∨ a1 = 14 ∨ a1 = 15 ∨ a1 = 16 ∨ a1 = 17 ∨ a1 = 18 ∨ a1 = 19 ∨ a1 = 20 := by omega
    rcases hc1 with rfl | rfl | rfl | rfl | rfl | rfl | rfl | rfl | rfl | rfl | rfl | rfl | rfl | rfl | rfl | rfl | rfl | rfl | rfl | rfl | rfl
    · exact go (.cons _ _ _ _ (.int _ _) (.cons _ _ _ _ (.int _ _) (.nil))) run_50_0
    · exact go (.cons _ _ _ _ (.int _ _) (.cons _ _ _ _ (.int _ _) (.nil))) run_50_1
    · exact go (.cons _ _ _ _ (.int _ _) (.cons _ _ _ _ (.int _ _) (.nil))) run_50_2
    · exact go (.cons _ _ _ _ (.int _ _) (.cons _ _ _ _ (.int _ _) (.nil))) run_50_3
    · exact go (.cons _ _ _ _ (.int _ _) (.cons _ _ _ _ (.int _ _) (.nil))) run_50_4
    · exact go (.cons _ _ _ _ (.int _ _) (.cons _ _ _ _ (.int _ _) (.nil))) run_50_5
    · exact go (.cons _ _ _ _ (.int _ _) (.cons _ _ _ _ (.int _ _) (.nil))) run_50_6
    · exact go (.cons _ _ _ _ (.int _ _) (.cons _ _ _ _ (.int _ _) (.nil))) run_50_7
    · exact go (.cons _ _ _ _ (.int _ _) (.cons _ _ _ _ (.int _ _) (.nil))) run_50_8
    · exact go (.cons _ _ _ _ (.int _ _) (.cons _ _ _ _ (.int _ _) (.nil))) run_50_9
    · exact go (.cons _ _ _ _ (.int _ _) (.cons _ _ _ _ (.int _ _) (.nil))) run_50_10
    · exact go (.cons _ _ _ _ (.int _ _) (.cons _ _ _ _ (.int _ _) (.nil))) run_50_11
    · exact go (.cons _ _ _ _ (.int _ _) (.cons _ _ _ _ (.int _ _) (.nil))) run_50_12
    · exact go (.cons _ _ _ _ (.int _ _) (.cons _ _ _ _ (.int _ _) (.nil))) run_50_13
    · exact go (.cons _ _ _ _ (.int _ _) (.cons _ _ _ _ (.int _ _) (.nil))) run_50_14
    · exact go (.cons _ _ _ _ (.int _ _) (.cons _ _ _ _ (.int _ _) (.nil))) run_50_15
    · exact go (.cons _ _ _ _ (.int _ _) (.cons _ _ _ _ (.int _ _) (.nil))) run_50_16
    · exact go (.cons _ _ _ _ (.int _ _) (.cons _ _ _ _ (.int _ _) (.nil))) run_50_17
    · exact go (.cons _ _ _ _ (.int _ _) (.cons _ _ _ _ (.int _ _) (.nil))) run_50_18
    · exact go (.cons _ _ _ _ (.int _ _) (.cons _ _ _ _ (.int _ _) (.nil))) run_50_19
    · exact go (.cons _ _ _ _ (.int _ _) (.cons _ _ _ _ (.int _ _) (.nil))) run_50_20
  · by_cases hb1 : a1 ≤ -1
    · exact go (.cons _ _ _ _ (.int _ _) (.cons _ _ _ _ (.ile _ _ _ hb1) (.nil))) run_51_le
    by_cases ha1 : 21 ≤ a1
    · exact go (.cons _ _ _ _ (.int _ _) (.cons _ _ _ _ (.ige _ _ _ ha1) (.nil))) run_51_ge
    have hc1 : a1 = 0 ∨ a1 = 1 ∨ a1 = 2 ∨ a1 = 3 ∨ a1 = 4 ∨ a1 = 5 ∨ a1 = 6 ∨ a1 = 7 ∨ a1 = 8 ∨ a1 = 9 ∨ a1 = 10 ∨ a1 = 11 ∨ a1 = 12 ∨ a1 = 13 ∨ a1 = 14 ∨ a1 = 15 ∨ a1 = 16 ∨ a1 = 17 ∨ a1 = 18 ∨ a1 = 19 ∨ a1 = 20 := by omega
    rcases hc1 with rfl | rfl | rfl | rfl | rfl | rfl | rfl | rfl | rfl | rfl | rfl | rfl | rfl | rfl | rfl | rfl | rfl | rfl | rfl | rfl | rfl
    · exact go (.cons _ _ _ _ (.int _ _) (.cons _ _ _ _ (.int _ _) (.nil))) run_51_0
    · exact go (.cons _ _ _ _ (.int _ _) (.cons _ _ _ _ (.int _ _) (.nil))) run_51_1
    · exact go (.cons _ _ _ _ (.int _ _) (.cons _ _ _ _ (.int _ _) (.nil))) run_51_2
    · exact go (.cons _ _ _ _ (.int _ _) (.cons _ _ _ _ (.int _ _) (.nil))) run_51_3
    · exact go (.cons _ _ _ _ (.int _ _) (.cons _ _ _ _ (.int _ _) (.nil))) run_51_4
    · exact go (.cons _ _ _ _ (.int _ _) (.cons _ _ _ _ (.int _ _) (.nil))) run_51_5
    · exact go (.cons _ _ _ _ (.int _ _) (.cons _ _ _ _ (.int _ _) (.nil))) run_51_6
    · exact go (.cons _ _ _ _ (.int _ _) (.cons _ _ _ _ (.int _ _) (.nil))) run_51_7
    · exact go (.cons _ _ _ _ (.int _ _) (.cons _ _ _ _ (.int _ _) (.nil))) run_51_8
    · exact go (.cons _ _ _ _ (.int _ _) (.cons _ _ _ _ (.int _ _) (.nil))) run_51_9
    · exact go (.cons _ _ _ _ (.int _ _) (.cons _ _ _ _ (.int _ _) (.nil))) run_51_10
    · exact go (.cons _ _ _ _ (.int _ _) (.cons _ _ _ _ (.int _ _) (.nil))) run_51_11
    · exact go (.cons _ _ _ _ (.int _ _) (.cons _ _ _ _ (.int _ _) (.nil))) run_51_12
    · exact go (.cons _ _ _ _ (.int _ _) (.cons _ _ _ _ (.int _ _) (.nil))) run_51_13
    · exact go (.cons _ _ _ _ (.int _ _) (.cons _ _ _ _ (.int _ _) (.nil))) run_51_14
    · exact go (.cons _ _ _ _ (.int _ _) (.cons _ _ _ _ (.int _ _) (.nil))) run_51_15
    · exact go (.cons _ _ _ _ (.int _ _) (.cons _ _ _ _ (.int _ _) (.nil))) run_51_16
    · exact go (.cons _ _ _ _ (.int _ _) (.cons _ _ _ _ (.int _ _) (.nil))) run_51_17
    · exact go (.cons _ _ _ _ (.int _ _) (.cons _ _ _ _ (.int _ _) (.nil))) run_51_18
    · exact go (.cons _ _ _ _ (.int _ _) (.cons _ _ _ _ (.int _ _) (.nil))) run_51_19
    · exact go (.cons _ _ _ _ (.int _ _) (.cons _ _ _ _ (.int _ _) (.nil))) run_51_20
  · by_cases hb1 : a1 ≤ -1
    · exact go (.cons _ _ _ _ (.int _ _) (.cons _ _ _ _ (.ile _ _ _ hb1) (.nil))) run_52_le
    by_cases ha1 : 21 ≤ a1
    · exact go (.cons _ _ _ _ (.int _ _) (.cons _ _ _ _ (.ige _ _ _ ha1) (.nil))) run_52_ge
    have hc1 : a1 = 0 ∨ a1 = 1 ∨ a1 = 2 ∨ a1 = 3 ∨ a1 = 4 ∨ a1 = 5 ∨ a1 = 6 ∨ a1 = 7 ∨ a1 = 8 ∨ a1 = 9 ∨ a1 = 10 ∨ a1 = 11 ∨ a1 = 12 ∨ a1 = 13 ∨ a1 = 14 ∨ a1 = 15 ∨ a1 = 16 ∨ a1 = 17 ∨ a1 = 18 ∨ a1 = 19 ∨ a1 = 20 := by omega
    rcases hc1 with rfl | rfl | rfl | rfl | rfl | rfl | rfl | rfl | rfl | rfl | rfl | rfl | rfl | rfl | rfl | rfl | rfl | rfl | rfl | rfl | rfl
    · exact go (.cons _ _ _ _ (.int _ _) (.cons _ _ _ _ (.int _ _) (.nil))) run_52_0
    · exact go (.cons _ _ _ _ (.int _ _) (.cons _ _ _ _ (.int _ _) (.nil))) run_52_1
    · exact go (.cons _ _ _ _ (.int _ _) (.cons _ _ _ _ (.int _ _) (.nil))) run_52_2
    · exact go (.cons _ _ _ _ (.int _ _) (.cons _ _ _ _ (.int _ _) (.nil))) run_52_3
    · exact go (.cons _ _ _ _ (.int _ _) (.cons _ _ _ _ (.int _ _) (.nil))) run_52_4
    · exact go (.cons _ _ _ _ (.int _ _) (.cons _ _ _ _ (.int _ _) (.nil))) run_52_5
    · exact go (.cons _ _ _ _ (.int _ _) (.cons _ _ _ _ (.int _ _) (.nil))) run_52_6
    · exact go (.cons _ _ _ _ (.int _ _) (.cons _ _ _ _ (.int _ _) (.nil))) run_52_7
    · exact go (.cons _ _ _ _ (.int _ _) (.cons _ _ _ _ (.int _ _) (.nil))) run_52_8
    · exact go (.cons _ _ _ _ (.int _ _) (.cons _ _ _ _ (.int _ _) (.nil))) run_52_9
    · exact go (.cons _ _ _ _ (.int _ _) (.cons _ _ _ _ (.int _ _) (.nil))) run_52_10
    · exact go (.cons _ _ _ _ (.int _ _) (.cons _ _ _ _ (.int _ _) (.nil))) run_52_11
    · exact go (.cons _ _ _ _ (.int _ _) (.cons _ _ _ _ (.int _ _) (.nil))) run_52_12
    · exact go (.cons _ _ _ _ (.int _ _) (.cons _ _ _ _ (.int _ _) (.nil))) run_52_13
    · exact go (.cons _ _ _ _ (.int _ _) (.cons _ _ _ _ (.int _ _) (.nil))) run_52_14
    · exact go (.cons _ _ _ _ (.int _ _) (.cons _ _ _ _ (.int _ _) (.nil))) run_52_15
    · exact go (.cons _ _ _ _ (.int _ _) (.cons _ _ _ _ (.int _ _) (.nil))) run_52_16
    · exact go (.cons _ _ _ _ (.int _ _) (.cons _ _ _ _ (.int _ _) (.nil))) run_52_17
    · exact go (.cons _ _ _ _ (.int _ _) (.cons _ _ _ _ (.int _ _) (.nil))) run_52_18
    · exact go (.cons _ _ _ _ (.int _ _) (.cons _ _ _ _ (.int _ _) (.nil))) run_52_19
    · exact go (.cons _ _ _ _ (.int _ _) (.cons _ _ _ _ (.int _ _) (.nil))) run_52_20
  · by_cases hb1 : a1 ≤ -1
    · exact go (.cons _ _ _ _ (.int _ _) (.cons _ _ _ _ (.ile _ _ _ hb1) (.nil))) run_53_le
    by_cases ha1 : 21 ≤ a1
    · exact go (.cons _ _ _ _ (.int _ _) (.cons _ _ _ _ (.ige _ _ _ ha1) (.nil))) run_53_ge
    have hc1 : a1 = 0 ∨ a1 = 1 ∨ a1 = 2 ∨ a1 = 3 ∨ a1 = 4 ∨ a1 = 5 ∨ a1 = 6 ∨ a1 = 7 ∨ a1 = 8 ∨ a1 = 9 ∨ a1 = 10 ∨ a1 = 11 ∨ a1 = 12 ∨ a1 = 13 ∨ a1 = 14 ∨ a1 = 15 ∨ a1 = 16 ∨ a1 = 17 ∨ a1 = 18 ∨ a1 = 19 ∨ a1 = 20 := by omega
    rcases hc1 with rfl | rfl | rfl | rfl | rfl | rfl | rfl | rfl | rfl | rfl | rfl | rfl | rfl | rfl | rfl | rfl | rfl | rfl | rfl | rfl | rfl
    · exact go (.cons _ _ _ _ (.int _ _) (.cons _ _ _ _ (.int _ _) (.nil))) run_53_0
    · exact go (.cons _ _ _ _ (.int _ _) (.cons _ _ _ _ (.int _ _) (.nil))) run_53_1
    · exact go (.cons _ _ _ _ (.int _ _) (.cons _ _ _ _ (.int _ _) (.nil))) run_53_2
    · exact go (.cons _ _ _ _ (.int _ _) (.cons _ _ _ _ (.int _ _) (.nil))) run_53_3
    · exact go (.cons _ _ _ _ (.int _ _) (.cons _ _ _ _ (.int _ _) (.nil))) run_53_4
    · exact go (.cons _ _ _ _ (.int _ _) (.cons _ _ _ _ (.int _ _) (.nil))) run_53_5
    · exact go (.cons _ _ _ _ (.int _ _) (.cons _ _ _ _ (.int _ _) (.nil))) run_53_6
    · exact go (.cons _ _ _ _ (.int _ _) (.cons _ _ _ _ (.int _ _) (.nil))) run_53_7
    · exact go (.cons _ _ _ _ (.int _ _) (.cons _ _ _ _ (.int _ _) (.nil))) run_53_8
    · exact go (.cons _ _ _ _ (.int _ _) (.cons _ _ _ _ (.int _ _) (.nil))) run_53_9
    · exact go (.cons _ _ _ _ (.int _ _) (.cons _ _ _ _ (.int _ _) (.nil))) run_53_10
    · exact go (.cons _ _ _ _ (.int _ _) (.cons _ _ _ _ (.int _ _) (.nil))) run_53_11
    · exact go (.cons _ _ _ _ (.int _ _) (.cons _ _ _ _ (.int _ _) (.nil))) run_53_12
    · exact go (.cons _ _ _ _ (.int _ _) (.cons _ _ _ _ (.int _ _) (.nil))) run_53_13
    · exact go (.cons _ _ _ _ (.int _ _) (.cons _ _ _ _ (.int _ _) (.nil))) run_53_14
    · exact go (.cons _ _ _ _ (.int _ _) (.cons _ _ _ _ (.int _ _) (.nil))) run_53_15
    · exact go (.cons _ _ _ _ (.int _ _) (.cons _ _ _ _ (.int _ _) (.nil))) run_53_16
    · exact go (.cons _ _ _ _ (.int _ _) (.cons _ _ _ _ (.int _ _) (.nil))) run_53_17
    · exact go (.cons _ _ _ _ (.int _ _) (.cons _ _ _ _ (.int _ _) (.nil))) run_53_18
    · exact go (.cons _ _ _ _ (.int _ _) (.cons _ _ _ _ (.int _ _) (.nil))) run_53_19
    · exact go (.cons _ _ _ _ (.int _ _) (.cons _ _ _ _ (.int _ _) (.nil))) run_53_20
  · by_cases hb1 : a1 ≤ -1
    · exact go (.cons _ _ _ _ (.int _ _) (.cons _ _ _ _ (.ile _ _ _ hb1) (.nil))) run_54_le
    by_cases ha1 : 21 ≤ a1
    · exact go (.cons _ _ _ _ (.int _ _) (.cons _ _ _ _ (.ige _ _ _ ha1) (.nil))) run_54_ge
    have hc1 : a1 = 0 ∨ a1 = 1 ∨ a1 = 2 ∨ a1 = 3 ∨ a1 = 4 ∨ a1 = 5 ∨ a1 = 6 ∨ a1 = 7 ∨ a1 = 8 ∨ a1 = 9 ∨ a1 = 10 ∨ a1 = 11 ∨ a1 = 12 ∨ a1 = 13 ∨ a1 = 14 ∨ a1 = 15 ∨ a1 = 16 ∨ a1 = 17 ∨ a1 = 18 ∨ a1 = 19 ∨ a1 = 20 := by omega
    rcases hc1 with rfl | rfl | rfl | rfl | rfl | rfl | rfl | rfl | rfl | rfl | rfl | rfl | rfl | rfl | rfl | rfl | rfl | rfl | rfl | rfl | rfl
    · exact go (.cons _ _ _ _ (.int _ _) (.cons _ _ _ _ (.int _ _) (.nil))) run_54_0
    · exact go (.cons _ _ _ _ (.int _ _) (.cons _ _ _ _ (.int _ _) (.nil))) run_54_1
    · exact go (.cons _ _ _ _ (.int _ _) (.cons _ _ _ _ (.int _ _) (.nil))) run_54_2
    · exact go (.cons _ _ _ _ (.int _ _) (.cons _ _ _ _ (.int _ _) (.nil))) run_54_3
    · exact go (.cons _ _ _ _ (.int _ _) (.cons _ _ _ _ (.int _ _) (.nil))) run_54_4
    · exact go (.cons _ _ _ _ (.int _ _) (.cons _ _ _ _ (.int _ _) (.nil))) run_54_5
    · exact go (.cons _ _ _ _ (.int _ _) (.cons _ _ _ _ (.int _ _) (.nil))) run_54_6
    · exact go (.cons _ _ _ _ (.int _ _) (.cons _ _ _ _ (.int _ _) (.nil))) run_54_7
    · exact go (.cons _ _ _ _ (.int _ _) (.cons _ _ _ _ (.int _ _) (.nil))) run_54_8
    · exact go (.cons _ _ _ _ (.int _ _) (.cons _ _ _ _ (.int _ _) (.nil))) run_54_9
    · exact go (.cons _ _ _ _ (.int _ _) (.cons _ _ _ _ (.int _ _) (.nil))) run_54_10
    · exact go (.cons _ _ _ _ (.int _ _) (.cons _ _ _ _ (.int _ _) (.nil))) run_54_11
    · exact go (.cons _ _ _ _ (.int _ _) (.cons _ _ _ _ (.int _ _) (.nil))) run_54_12
    · exact go (.cons _ _ _ _ (.int _ _) (.cons _ _ _ _ (.int _ _) (.nil))) run_54_13
    · exact go (.cons _ _ _ _ (.int _ _) (.cons _ _ _ _ (.int _ _) (.nil))) run_54_14
    · exact go (.cons _ _ _ _ (.int _ _) (.cons _ _ _ _ (.int _ _) (.nil))) run_54_15
    · exact go (.cons _ _ _ _ (.int _ _) (.cons _ _ _ _ (.int _ _) (.nil))) run_54_16
    · exact go (.cons _ _ _ _ (.int _ _) (.cons _ _ _ _ (.int _ _) (.nil))) run_54_17
    · exact go (.cons _ _ _ _ (.int _ _) (.cons _ _ _ _ (.int _ _) (.nil))) run_54_18
    · exact go (.cons _ _ _ _ (.int _ _) (.cons _ _ _ _ (.int _ _) (.nil))) run_54_19
    · exact go (.cons _ _ _ _ (.int _ _) (.cons _ _ _ _ (.int _ _) (.nil))) run_54_20
  · by_cases hb1 : a1 ≤ -1
    · exact go (.cons _ _ _ _ (.int _ _) (.cons _ _ _ _ (.ile _ _ _ hb1) (.nil))) run_55_le
    by_cases ha1 : 21 ≤ a1
    · exact go (.cons _ _ _ _ (.int _ _) (.cons _ _ _ _ (.ige _ _ _ ha1) (.nil))) run_55_ge
    have hc1 : a1 = 0 ∨ a1 = 1 ∨ a1 = 2 ∨ a1 = 3 ∨ a1 = 4 ∨ a1 = 5 ∨ a1 = 6 ∨ a1 = 7 ∨ a1 = 8 ∨ a1 = 9 ∨ a1 = 10 ∨ a1 = 11 ∨ a1 = 12 ∨ a1 = 13 ∨ a1 = 14 ∨ a1 = 15 ∨ a1 = 16 ∨ a1 = 17 ∨ a1 = 18 ∨ a1 = 19 ∨ a1 = 20 := by omega
    rcases hc1 with rfl | rfl | rfl | rfl | rfl | rfl | rfl | rfl | rfl | rfl | rfl | rfl | rfl | rfl | rfl | rfl | rfl | rfl | rfl | rfl | rfl
    · exact go (.cons _ _ _ _ (.int _ _) (.cons _ _ _ _ (.int _ _) (.nil))) run_55_0
    · exact go (.cons _ _ _ _ (.int _ _) (.cons _ _ _ _ (.int _ _) (.nil))) run_55_1
    · exact go (.cons _ _ _ _ (.int _ _) (.cons _ _ _ _ (.int _ _) (.nil))) run_55_2
    · exact go (.cons _ _ _ _ (.int _ _) (.cons _ _ _ _ (.int _ _) (.nil))) run_55_3
    · exact go (.cons _ _ _ _ (.int _ _) (.cons _ _ _ _ (.int _ _) (.nil))) run_55_4
    · exact go (.cons _ _ _ _ (.int _ _) (.cons _ _ _ _ (.int _ _) (.nil))) run_55_5
    · exact go (.cons _ _ _ _ (.int _ _) (.cons _ _ _ _ (.int _ _) (.nil))) run_55_6
    · exact go (.cons _ _ _ _ (.int _ _) (.cons _ _ _ _ (.int _ _) (.nil))) run_55_7
    · exact go (.cons _ _ _ _ (.int _ _) (.cons _ _ _ _ (.int _ _) (.nil))) run_55_8
    · exact go (.cons _ _ _ _ (.int _ _) (.cons _ _ _ _ (.int _ _) (.nil))) run_55_9
    · exact go (.cons _ _ _ _ (.int _ _) (.cons _ _ _ _ (.int _ _) (.nil))) run_55_10
    · exact go (.cons _ _ _ _ (.int _ _) (.cons _ _ _ _ (.int _ _) (.nil))) run_55_11
    · exact go (.cons _ _ _ _ (.int _ _) (.cons _ _ _ _ (.int _ _) (.nil))) run_55_12
    · exact go (.cons _ _ _ _ (.int _ _) (.cons _ _ _ _ (.int _ _) (.nil))) run_55_13
    · exact go (.cons _ _ _ _ (.int _ _) (.cons _ _ _ _ (.int _ _) (.nil))) run_55_14
    · exact go (.cons _ _ _ _ (.int _ _) (.cons _ _ _ _ (.int _ _) (.nil))) run_55_15
    · exact go (.cons _ _ _ _ (.int _ _) (.cons _ _ _ _ (.int _ _) (.nil))) run_55_16
    · exact go (.cons _ _ _ _ (.int _ _) (.cons _ _ _ _ (.int _ _) (.nil))) run_55_17
    · exact go (.cons _ _ _ _ (.int _ _) (.cons _ _ _ _ (.int _ _) (.nil))) run_55_18
    · exact go (.cons _ _ _ _ (.int _ _) (.cons _ _ _ _ (.int _ _) (.nil))) run_55_19
    · exact go (.cons _ _ _ _ (.int _ _) (.cons _ _ _ _ (.int _ _) (.nil))) run_55_20
  · by_cases hb1 : a1 ≤ -1
    · exact go (.cons _ _ _ _ (.int _ _) (.cons _ _ _ _ (.ile _ _ _ hb1) (.nil))) run_56_le
    by_cases ha1 : 21 ≤ a1
    · exact go (.cons _ _ _ _ (.int _ _) (.cons _ _ _ _ (.ige _ _ _ ha1) (.nil))) run_56_ge
    have hc1 : a1 = 0 ∨ a1 = 1 ∨ a1 = 2 ∨ a1 = 3 ∨ a1 = 4 ∨ a1 = 5 ∨ a1 = 6 ∨ a1 = 7 ∨ a1 = 8 ∨ a1 = 9 ∨ a1 = 10 ∨ a1 = 11 ∨ a1 = 12 ∨ a1 = 13 ∨ a1 = 14 ∨ a1 = 15 ∨ a1 = 16 ∨ a1 = 17 ∨ a1 = 18 ∨ a1 = 19 ∨ a1 = 20 := by omega
    rcases hc1 with rfl | rfl | rfl | rfl | rfl | rfl | rfl | rfl | rfl | rfl | rfl | rfl | rfl | rfl | rfl | rfl | rfl | rfl | rfl | rfl | rfl
    · exact go (.cons _ _ _ _ (.int _ _) (.cons _ _ _ _ (.int _ _) (.nil))) run_56_0
    · exact go (.cons _ _ _ _ (.int _ _) (.cons _ _ _ _ (.int _ _) (.nil))) run_56_1
    · exact go (.cons _ _ _ _ (.int _ _) (.cons _ _ _ _ (.int _ _) (.nil))) run_56_2
    · exact go (.cons _ _ _ _ (.int _ _) (.cons _ _ _ _ (.int _ _) (.nil))) run_56_3
    · exact go (.cons _ _ _ _ (.int _ _) (.cons _ _ _ _ (.int _ _) (.nil))) run_56_4
    · exact go (.cons _ _ _ _ (.int _ _) (.cons _ _ _ _ (.int _ _) (.nil))) run_56_5
    · exact go (.cons _ _ _ _ (.int _ _) (.cons _ _ _ _ (.int _ _) (.nil))) run_56_6
    · exact go (.cons _ _ _ _ (.int _ _) (.cons _ _ _ _ (.int _ _) (.nil))) run_56_7
    · exact go (.cons _ _ _ _ (.int _ _) (.cons _ _ _ _ (.int _ _) (.nil))) run_56_8
    · exact go (.cons _ _ _ _ (.int _ _) (.cons _ _ _ _ (.int _ _) (.nil))) run_56_9
    · exact go (.cons _ _ _ _ (.int _ _) (.cons _ _ _ _ (.int _ _) (.nil))) run_56_10
    · exact go (.cons _ _ _ _ (.int _ _) (.cons _ _ _ _ (.int _ _) (.nil))) run_56_11
    · exact go (.cons _ _ _ _ (.int _ _) (.cons _ _ _ _ (.int _ _) (.nil))) run_56_12
    · exact go (.cons _ _ _ _ (.int _ _) (.cons _ _ _ _ (.int _ _) (.nil))) run_56_13
    · exact go (.cons _ _ _ _ (.int _ _) (.cons _ _ _ _ (.int _ _) (.nil))) run_56_14
    · exact go (.cons _ _ _ _ (.int _ _) (.cons _ _ _ _ (.int _ _) (.nil))) run_56_15
    · exact go (.cons _ _ _ _ (.int _ _) (.cons _ _ _ _ (.int _ _) (.nil))) run_56_16
    · exact go (.cons _ _ _ _ (.int _ _) (.cons _ _ _ _ (.int _ _) (.nil))) run_56_17
    · exact go (.cons _ _ _ _ (.int _ _) (.cons _ _ _ _ (.int _ _) (.nil))) run_56_18
    · exact go (.cons _ _ _ _ (.int _ _) (.cons _ _ _ _ (.int _ _) (.nil))) run_56_19
    · exact go (.cons _ _ _ _ (.int _ _) (.cons _ _ _ _ (.int _ _) (.nil))) run_56_20
  · by_cases hb1 : a1 ≤ -1
    · exact go (.cons _ _ _ _ (.int _ _) (.cons _ _ _ _ (.ile _ _ _ hb1) (.nil))) run_57_le
    by_cases ha1 : 21 ≤ a1
    · exact go (.cons _ _ _ _ (.int _ _) (.cons _ _ _ _ (.ige _ _ _ ha1) (.nil))) run_57_ge
    have hc1 : a1 = 0 ∨ a1 = 1 ∨ a1 = 2 ∨ a1 = 3 ∨ a1 = 4 ∨ a1 = 5 ∨ a1 = 6 ∨ a1 = 7 ∨ a1 = 8 ∨ a1 = 9 ∨ a1 = 10 ∨ a1 = 11 ∨ a1 = 12 ∨ a1 = 13 ∨ a1 = 14 ∨ a1 = 15 ∨ a1 = 16 ∨ a1 = 17 ∨ a1 = 18 ∨ a1 = 19 ∨ a1 = 20 := by omega
    rcases hc1 with rfl | rfl | rfl | rfl | rfl | rfl | rfl | rfl | rfl | rfl | rfl | rfl | rfl | rfl | rfl | rfl | rfl | rfl | rfl | rfl | rfl
    · exact go (.cons _ _ _ _ (.int _ _) (.cons _ _ _ _ (.int _ _) (.nil))) run_57_0
    · exact go (.cons _ _ _ _ (.int _ _) (.cons _ _ _ _ (.int _ _) (.nil))) run_57_1
    · exact go (.cons _ _ _ _ (.int _ _) (.cons _ _ _ _ (.int _ _) (.nil))) run_57_2
    · exact go (.cons _ _ _ _ (.int _ _) (.cons _ _ _ _ (.int _ _) (.nil))) run_57_3
    · exact go (.cons _ _ _ _ (.int _ _) (.cons _ _ _ _ (.int _ _) (.nil))) run_57_4
    · exact go (.cons _ _ _ _ (.int _ _) (.cons _ _ _ _ (.int _ _) (.nil))) run_57_5
    · exact go (.cons _ _ _ _ (.int _ _) (.cons _ _ _ _ (.int _ _) (.nil))) run_57_6
    · exact go (.cons _ _ _ _ (.int _ _) (.cons _ _ _ _ (.int _ _) (.nil))) run_57_7
    · exact go (.cons _ _ _ _ (.int _ _) (.cons _ _ _ _ (.int _ _) (.nil))) run_57_8
    · exact go (.cons _ _ _ _ (.int _ _) (.cons _ _ _ _ (.int _ _) (.nil))) run_57_9
    · exact go (.cons _ _ _ _ (.int _ _) (.cons _ _ _ _ (.int _ _) (.nil))) run_57_10
    · exact go (.cons _ _ _ _ (.int _ _) (.cons _ _ _ _ (.int _ _) (.nil))) run_57_11
    · exact go (.cons _ _ _ _ (.int _ _) (.cons _ _ _ _ (.int _ _) (.nil))) run_57_12
    · exact go (.cons _ _ _ _ (.int _ _) (.cons _ _ _ _ (.int _ _) (.nil))) run_57_13
    · exact go (.cons _ _ _ _ (.int _ _) (.cons _ _ _ _ (.int _ _) (.nil))) run_57_14
    · exact go (.cons _ _ _ _ (.int _ _) (.cons _ _ _ _ (.int _ _) (.nil))) run_57_15
    · exact go (.cons _ _ _ _ (.int _ _) (.cons _ _ _ _ (.int _ _) (.nil))) run_57_16
    · exact go (.cons _ _ _ _ (.int _ _) (.cons _ _ _ _ (.int _ _) (.nil))) run_57_17
    · exact go (.cons _ _ _ _ (.int _ _) (.cons _ _ _ _ (.int _ _) (.nil))) run_57_18
    · exact go (.cons _ _ _ _ (.int _ _) (.cons _ _ _ _ (.int _ _) (.nil))) run_57_19
    · exact go (.cons _ _ _ _ (.int _ _) (.cons _ _ _ _ (.int _ _) (.nil))) run_57_20
  · by_cases hb1 : a1 ≤ -1
    · exact go (.cons _ _ _ _ (.int _ _) (.cons _ _ _ _ (.ile _ _ _ hb1) (.nil))) run_58_le
    by_cases ha1 : 21 ≤ a1
    · exact go (.cons _ _ _ _ (.int _ _) (.cons _ _ _ _ (.ige _ _ _ ha1) (.nil))) run_58_ge
    have hc1 : a1 = 0 ∨ a1 = 1 ∨ a1 = 2 ∨ a1 = 3 ∨ a1 = 4 ∨ a1 = 5 ∨ a1 = 6 ∨ a1 = 7 ∨ a1 = 8 ∨ a1 = 9 ∨ a1 = 10 ∨ a1 = 11 ∨ a1 = 12 ∨ a1 = 13 ∨ a1 = 14 ∨ a1 = 15 ∨ a1 = 16 ∨ a1 = 17 ∨ a1 = 18 ∨ a1 = 19 ∨ a1 = 20 := by omega
    rcases hc1 with rfl | rfl | rfl | rfl | rfl | rfl | rfl | rfl | rfl | rfl | rfl | rfl | rfl | rfl | rfl | rfl | rfl | rfl | rfl | rfl | rfl
    · exact go (.cons _ _ _ _ (.int _ _) (.cons _ _ _ _ (.int _ _) (.nil))) run_58_0
    · exact go (.cons _ _ _ _ (.int _ _) (.cons _ _ _ _ (.int _ _) (.nil))) run_58_1
    · exact go (.cons _ _ _ _ (.int _ _) (.cons _ _ _ _ (.int _ _) (.nil))) run_58_2
    · exact go (.cons _ _ _ _ (.int _ _) (.cons _ _ _ _ (.int _ _) (.nil))) run_58_3
    · exact go (.cons _ _ _ _ (.int _ _) (.cons _ _ _ _ (.int _ _) (.nil))) run_58_4
    · exact go (.cons _ _ _ _ (.int _ _) (.cons _ _ _ _ (.int _ _) (.nil))) run_58_5
    · exact go (.cons _ _ _ _ (.int _ _) (.cons _ _ _ _ (.int _ _) (.nil))) run_58_6
    · exact go (.cons _ _ _ _ (.int _ _) (.cons _ _ _ _ (.int _ _) (.nil))) run_58_7
    · exact go (.cons _ _ _ _ (.int _ _) (.cons _ _ _ _ (.int _ _) (.nil))) run_58_8
    · exact go (.cons _ _ _ _ (.int _ _) (.cons _ _ _ _ (.int _ _) (.nil))) run_58_9
    · exact go (.cons _ _ _ _ (.int _ _) (.cons _ _ _ _ (.int _ _) (.nil))) run_58_10
    · exact go (.cons _ _ _ _ (.int _ _) (.cons _ _ _ _ (.int _ _) (.nil))) run_58_11
    · exact go (.cons _ _ _ _ (.int _ _) (.cons _ _ _ _ (.int _ _) (.nil))) run_58_12
    · exact go (.cons _ _ _ _ (.int _ _) (.cons _ _ _ _ (.int _ _) (.nil))) run_58_13
    · exact go (.cons _ _ _ _ (.int _ _) (.cons _ _ _ _ (.int _ _) (.nil))) run_58_14
    · exact go (.cons _ _ _ _ (.int _ _) (.cons _ _ _ _ (.int _ _) (.nil))) run_58_15
    · exact go (.cons _ _ _ _ (.int _ _) (.cons _ _ _ _ (.int _ _) (.nil))) run_58_16
    · exact go (.cons _ _ _ _ (.int _ _) (.cons _ _ _ _ (.int _ _) (.nil))) run_58_17
    · exact go (.cons _ _ _ _ (.int _ _) (.cons _ _ _ _ (.int _ _) (.nil))) run_58_18
    · exact go (.cons _ _ _ _ (.int _ _) (.cons _ _ _ _ (.int _ _) (.nil))) run_58_19
    · exact go (.cons _ _ _ _ (.int _ _) (.cons _ _ _ _ (.int _ _) (.nil))) run_58_20
  · by_cases hb1 : a1 ≤ -1
    · exact go (.cons _ _ _ _ (.int _ _) (.cons _ _ _ _ (.ile _ _ _ hb1) (.nil))) run_59_le
    by_cases ha1 : 21 ≤ a1
    · exact go (.cons _ _ _ _ (.int _ _) (.cons _ _ _ _ (.ige _ _ _ ha1) (.nil))) run_59_ge
    have hc1 : a1 = 0 ∨ a1 = 1 ∨ a1 = 2 ∨ a1 = 3 ∨ a1 = 4 ∨ a1 = 5 ∨ a1 = 6 ∨ a1 = 7 ∨ a1 = 8 ∨ a1 = 9 ∨ a1 = 10 ∨ a1 = 11 ∨ a1 = 12 ∨ a1 = 13 ∨ a1 = 14 ∨ a1 = 15 ∨ a1 = 16 ∨ a1 = 17 ∨ a1 = 18 ∨ a1 = 19 ∨ a1 = 20 := by omega
    rcases hc1 with rfl | rfl | rfl | rfl | rfl | rfl | rfl | rfl | rfl | rfl | rfl | rfl | rfl | rfl | rfl | rfl | rfl | rfl | rfl | rfl | rfl
    · exact go (.cons _ _ _ _ (.int _ _) (.cons _ _ _ _ (.int _ _) (.nil))) run_59_0
    · exact go (.cons _ _ _ _ (.int _ _) (.cons _ _ _ _ (.int _ _) (.nil))) run_59_1
    · exact go (.cons _ _ _ _ (.int _ _) (.cons _ _ _ _ (.int _ _) (.nil))) run_59_2
    · exact go (.cons _ _ _ _ (.int _ _) (.cons _ _ _ _ (.int _ _) (.nil))) run_59_3
    · exact go (.cons _ _ _ _ (.int _ _) (.cons _ _ _ _ (.int _ _) (.nil))) run_59_4
    · exact go (.cons _ _ _ _ (.int _ _) (.cons _ _ _ _ (.int _ _) (.nil))) run_59_5
    · exact go (.cons _ _ _ _ (.int _ _) (.cons _ _ _ _ (.int _ _) (.nil))) run_59_6
    · exact go (.cons _ _ _ _ (.int _ _) (.cons _ _ _ _ (.int _ _) (.nil))) run_59_7
    · exact go (.cons _ _ _ _ (.int _ _) (.cons _ _ _ _ (.int _ _) (.nil))) run_59_8
    · exact go (.cons _ _ _ _ (.int _ _) (.cons _ _ _ _ (.int _ _) (.nil))) run_59_9
    · exact go (.cons _ _ _ _ (.int _ _) (.cons _ _ _ _ (.int _ _) (.nil))) run_59_10
    · exact go (.cons _ _ _ _ (.int _ _) (.cons _ _ _ _ (.int _ _) (.nil))) run_59_11
    · exact go (.cons _ _ _ _ (.int _ _) (.cons _ _ _ _ (.int _ _) (.nil))) run_59_12
    · exact go (.cons _ _ _ _ (.int _ _) (.cons _ _ _ _ (.int _ _) (.nil))) run_59_13
    · exact go (.cons _ _ _ _ (.int _ _) (.cons _ _ _ _ (.int _ _) (.nil))) run_59_14
    · exact go (.cons _ _ _ _ (.int _ _) (.cons _ _ _ _ (.int _ _) (.nil))) run_59_15
    · exact go (.cons _ _ _ _ (.int _ _) (.cons _ _ _ _ (.int _ _) (.nil))) run_59_16
    · exact go (.cons _ _ _ _ (.int _ _) (.cons _ _ _ _ (.int _ _) (.nil))) run_59_17
    · exact go (.cons _ _ _ _ (.int _ _) (.cons _ _ _ _ (.int _ _) (.nil))) run_59_18
    · exact go (.cons _ _ _ _ (.int _ _) (.cons _ _ _ _ (.int _ _) (.nil))) run_59_19
    · exact go (.cons _ _ _ _ (.int _ _) (.cons _ _ _ _ (.int _ _) (.nil))) run_59_20
  · by_cases hb1 : a1 ≤ -1
    · exact go (.cons _ _ _ _ (.int _ _) (.cons _ _ _ _ (.ile _ _ _ hb1) (.nil))) run_60_le
    by_cases ha1 : 21 ≤ a1
    · exact go (.cons _ _ _ _ (.int _ _) (.cons _ _ _ _ (.ige _ _ _ ha1) (.nil))) run_60_ge
    have hc1 : a1 = 0 ∨ a1 = 1 ∨ a1 = 2 ∨ a1 = 3 ∨ a1 = 4 ∨ a1 = 5 ∨ a1 = 6 ∨ a1 = 7 ∨ a1 = 8 ∨ a1 = 9 ∨ a1 = 10 ∨ a1 = 11 ∨ a1 = 12 ∨ a1 = 13 ∨ a1 = 14 ∨ a1 = 15 ∨ a1 = 16 ∨ a1 = 17 ∨ a1 = 18 ∨ a1 = 19 ∨ a1 = 20 := by omega
    rcases hc1 with rfl | rfl | rfl | rfl | rfl | rfl | rfl | rfl | rfl | rfl | rfl | rfl | rfl | rfl | rfl | rfl | rfl | rfl | rfl | rfl | rfl
    · exact go (.cons _ _ _ _ (.int _ _) (.cons _ _ _ _ (.int _ _) (.nil))) run_60_0
    · exact go (.cons _ _ _ _ (.int _ _) (.cons _ _ _ _ (.int _ _) (.nil))) run_60_1
    · exact go (.cons _ _ _ _ (.int _ _) (.cons _ _ _ _ (.int _ _) (.nil))) run_60_2
    · exact go (.cons _ _ _ _ (.int _ _) (.cons _ _ _ _ (.int _ _) (.nil))) run_60_3
    · exact go (.cons _ _ _ _ (.int _ _) (.cons _ _ _ _ (.int _ _) (.nil))) run_60_4
    · exact go (.cons _ _ _ _ (.int _ _) (.cons _ _ _ _ (.int _ _) (.nil))) run_60_5
    · exact go (.cons _ _ _ _ (.int _ _) (.cons _ _ _ _ (.int _ _) (.nil))) run_60_6
    · exact go (.cons _ _ _ _ (.int _ _) (.cons _ _ _ _ (.int _ _) (.nil))) run_60_7
    · exact go (.cons _ _ _ _ (.int _ _) (.cons _ _ _ _ (.int _ _) (.nil))) run_60_8
    · exact go (.cons _ _ _ _ (.int _ _) (.cons _ _ _ _ (.int _ _) (.nil))) run_60_9
    · exact go (.cons _ _ _ _ (.int _ _) (.cons _ _ _ _ (.int _ _) (.nil))) run_60_10
    · exact go (.cons _ _ _ _ (.int _ _) (.cons _ _ _ _ (.int _ _) (.nil))) run_60_11
    · exact go (.cons _ _ _ _ (.int _ _) (.cons _ _ _ _ (.int _ _) (.nil))) run_60_12
    · exact go (.cons _ _ _ _ (.int _ _) (.cons _ _ _ _ (.int _ _) (.nil))) run_60_13
    · exact go (.cons _ _ _ _ (.int _ _) (.cons _ _ _ _ (.int _ _) (.nil))) run_60_14
    · exact go (.cons _ _ _ _ (.int _ _) (.cons _ _ _ _ (.int _ _) (.nil))) run_60_15
    · exact go (.cons _ _ _ _ (.int _ _) (.cons _ _ _ _ (.int _ _) (.nil))) run_60_16
    · exact go (.cons _ _ _ _ (.int _ _) (.cons _ _ _ _ (.int _ _) (.nil))) run_60_17
    · exact go (.cons _ _ _ _ (.int _ _) (.cons _ _ _ _ (.int _ _) (.nil))) run_60_18
    · exact go (.cons _ _ _ _ (.int _ _) (.cons _ _ _ _ (.int _ _) (.nil))) run_60_19
    · exact go (.cons _ _ _ _ (.int _ _) (.cons _ _ _ _ (.int _ _) (.nil))) run_60_20
  · by_cases hb1 : a1 ≤ -1
    · exact go (.cons _ _ _ _ (.int _ _) (.cons _ _ _ _ (.ile _ _ _ hb1) (.nil))) run_61_le
    by_cases ha1 : 21 ≤ a1
    · exact go (.cons _ _ _ _ (.int _ _) (.cons _ _ _ _ (.ige _ _ _ ha1) (.nil))) run_61_ge
    have hc1 : a1 = 0 ∨ a1 = 1 ∨ a1 = 2 ∨ a1 = 3 ∨ a1 = 4 ∨ a1 = 5 ∨ a1 = 6 ∨ a1 = 7 ∨ a1 = 8 ∨ a1 = 9 ∨ a1 = 10 ∨ a1 = 11 ∨ a1 = 12 ∨ a1 = 13 ∨ a1 = 14 ∨ a1 = 15 ∨ a1 = 16 ∨ a1 = 17 ∨ a1 = 18 ∨ a1 = 19 ∨ a1 = 20 := by omega
    rcases hc1 with rfl | rfl | rfl | rfl | rfl | rfl | rfl | rfl | rfl | rfl | rfl | rfl | rfl | rfl | rfl | rfl | rfl | rfl | rfl | rfl | rfl
    · exact go (.cons _ _ _ _ (.int _ _) (.cons _ _ _ _ (.int _ _) (.nil))) run_61_0
    · exact go (.cons _ _ _ _ (.int _ _) (.cons _ _ _ _ (.int _ _) (.nil))) run_61_1
    · exact go (.cons _ _ _ _ (.int _ _) (.cons _ _ _ _ (.int _ _) (.nil))) run_61_2
    · exact go (.cons _ _ _ _ (.int _ _) (.cons _ _ _ _ (.int _ _) (.nil))) run_61_3
    · exact go (.cons _ _ _ _ (.int _ _) (.cons _ _ _ _ (.int _ _) (.nil))) run_61_4
    · exact go (.cons _ _ _ _ (.int _ _) (.cons _ _ _ _ (.int _ _) (.nil))) run_61_5
    · exact go (.cons _ _ _ _ (.int _ _) (.cons _ _ _ _ (.int _ _) (.nil))) run_61_6
    · exact go (.cons _ _ _ _ (.int _ _) (.cons _ _ _ _ (.int _ _) (.nil))) run_61_7
    · exact go (.cons _ _ _ _ (.int _ _) (.cons _ _ _ _ (.int _ _) (.nil))) run_61_8
    · exact go (.cons _ _ _ _ (.int _ _) (.cons _ _ _ _ (.int _ _) (.nil))) run_61_9
    · exact go (.cons _ _ _ _ (.int _ _) (.cons _ _ _ _ (.int _ _) (.nil))) run_61_10
    · exact go (.cons _ _ _ _ (.int _ _) (.cons _ _ _ _ (.int _ _) (.nil))) run_61_11
    · exact go (.cons _ _ _ _ (.int _ _) (.cons _ _ _ _ (.int _ _) (.nil))) run_61_12
    · exact go (.cons _ _ _ _ (.int _ _) (.cons _ _ _ _ (.int _ _) (.nil))) run_61_13
    · exact go (.cons _ _ _ _ (.int _ _) (.cons _ _ _ _ (.int _ _) (.nil))) run_61_14
    · exact go (.cons _ _ _ _ (.int _ _) (.cons _ _ _ _ (.int _ _) (.nil))) run_61_15
    · exact go (.cons _ _ _ _ (.int _ _) (.cons _ _ _ _ (.int _ _) (.nil))) run_61_16
    · exact go (.cons _ _ _ _ (.int _ _) (.cons _ _ _ _ (.int _ _) (.nil))) run_61_17
    · exact go (.cons _ _ _ _ (.int _ _) (.cons _ _ _ _ (.int _ _) (.nil))) run_61_18
    · exact go (.cons _ _ _ _ (.int _ _) (.cons _ _ _ _ (.int _ _) (.nil))) run_61_19
    · exact go (.cons _ _ _ _ (.int _ _) (.cons _ _ _ _ (.int _ _) (.nil))) run_61_20
  · by_cases hb1 : a1 ≤ -1
    · exact go (.cons _ _ _ _ (.int _ _) (.cons _ _ _ _ (.ile _ _ _ hb1) (.nil))) run_62_le
    by_cases ha1 : 21 ≤ a1
    · exact go (.cons _ _ _ _ (.int _ _) (.cons _ _ _ _ (.ige _ _ _ ha1) (.nil))) run_62_ge
    have hc1 : a1 = 0 ∨ a1 = 1 ∨ a1 = 2 ∨ a1 = 3 ∨ a1 = 4 ∨ a1 = 5 ∨ a1 = 6 ∨ a1 = 7 ∨ a1 = 8 ∨ a1 = 9 ∨ a1 = 10 ∨ a1 = 11 ∨ a1 = 12 ∨ a1 = 13 ∨ a1 = 14 ∨ a1 = 15 ∨ a1 = 16 ∨ a1 = 17 ∨ a1 = 18 ∨ a1 = 19 ∨ a1 = 20 := by omega
    rcases hc1 with rfl | rfl | rfl | rfl | rfl | rfl | rfl | rfl | rfl | rfl | rfl | rfl | rfl | rfl | rfl | rfl | rfl | rfl | rfl | rfl | rfl
    · exact go (.cons _ _ _ _ (.int _ _) (.cons _ _ _ _ (.int _ _) (.nil))) run_62_0
    · exact go (.cons _ _ _ _ (.int _ _) (.cons _ _ _ _ (.int _ _) (.nil))) run_62_1
    · exact go (.cons _ _ _ _ (.int _ _) (.cons _ _ _ _ (.int _ _) (.nil))) run_62_2
    · exact go (.cons _ _ _ _ (.int _ _) (.cons _ _ _ _ (.int _ _) (.nil))) run_62_3
    · exact go (.cons _ _ _ _ (.int _ _) (.cons _ _ _ _ (.int _ _) (.nil))) run_62_4
    · exact go (.cons _ _ _ _ (.int _ _) (.cons _ _ _ _ (.int _ _) (.nil))) run_62_5
    · exact go (.cons _ _ _ _ (.int _ _) (.cons _ _ _ _ (.int _ _) (.nil))) run_62_6
    · exact go (.cons _ _ _ _ (.int _ _) (.cons _ _ _ _ (.int _ _) (.nil))) run_62_7
    · exact go (.cons _ _ _ _ (.int _ _) (.cons _ _ _ _ (.int _ _) (.nil))) run_62_8
    · exact go (.cons _ _ _ _ (.int _ _) (.cons _ _ _ _ (.int _ _) (.nil))) run_62_9
    · exact go (.cons _ _ _ _ (.int _ _) (.cons _ _ _ _ (.int _ _) (.nil))) run_62_10
    · exact go (.cons _ _ _ _ (.int _ _) (.cons _ _ _ _ (.int _ _) (.nil))) run_62_11
    · exact go (.cons _ _ _ _ (.int _ _) (.cons _ _ _ _ (.int _ _) (.nil))) run_62_12
    · exact go (.cons _ _ _ _ (.int _ _) (.cons _ _ _ _ (.int _ _) (.nil))) run_62_13
    · exact go (.cons _ _ _ _ (.int _ _) (.cons _ _ _ _ (.int _ _) (.nil))) run_62_14
    · exact go (.cons _ _ _ _ (.int _ _) (.cons _ _ _ _ (.int _ _) (.nil))) run_62_15
    · exact go (.cons _ _ _ _ (.int _ _) (.cons _ _ _ _ (.int _ _) (.nil))) run_62_16
    · exact go (.cons _ _ _ _ (.int _ _) (.cons _ _ _ _ (.int _ _) (.nil))) run_62_17
    · exact go (.cons _ _ _ _ (.int _ _) (.cons _ _ _ _ (.int _ _) (.nil))) run_62_18
    · exact go (.cons _ _ _ _ (.int _ _) (.cons _ _ _ _ (.int _ _) (.nil))) run_62_19
    · exact go (.cons _ _ _ _ (.int _ _) (.cons _ _ _ _ (.int _ _) (.nil))) run_62_20
  · by_cases hb1 : a1 ≤ -1
    · exact go (.cons _ _ _ _ (.int _ _) (.cons _ _ _ _ (.ile _ _ _ hb1) (.nil))) run_63_le
    by_cases ha1 : 21 ≤ a1
    · exact go (.cons _ _ _ _ (.int _ _) (.cons _ _ _ _ (.ige _ _ _ ha1) (.nil))) run_63_ge
    have hc1 : a1 = 0 ∨ a1 = 1 ∨ a1 = 2 ∨ a1 = 3 ∨ a1 = 4 ∨ a1 = 5 ∨ a1 = 6 ∨ a1 = 7 ∨ a1 = 8 ∨ a1 = 9 ∨ a1 = 10 ∨ a1 = 11 ∨ a1 = 12 ∨ a1 = 13 ∨ a1 = 14 ∨ a1 = 15 ∨ a1 = 16 ∨ a1 = 17 ∨ a1 = 18 ∨ a1 = 19 ∨ a1 = 20 := by omega
    rcases hc1 with rfl | rfl | rfl | rfl | rfl | rfl | rfl | rfl | rfl | rfl | rfl | rfl | rfl | rfl | rfl | rfl | rfl | rfl | rfl | rfl | rfl
    · exact go (.cons _ _ _ _ (.int _ _) (.cons _ _ _ _ (.int _ _) (.nil))) run_63_0
    · exact go (.cons _ _ _ _ (.int _ _) (.cons _ _ _ _ (.int _ _) (.nil))) run_63_1
    · exact go (.cons _ _ _ _ (.int _ _) (.cons _ _ _ _ (.int _ _) (.nil))) run_63_2
    · exact go (.cons _ _ _ _ (.int _ _) (.cons _ _ _ _ (.int _ _) (.nil))) run_63_3
    · exact go (.cons _ _ _ _ (.int _ _) (.cons _ _ _ _ (.int _ _) (.nil))) run_63_4
    · exact go (.cons _ _ _ _ (.int _ _) (.cons _ _ _ _ (.int _ _) (.nil))) run_63_5
    · exact go (.cons _ _ _ _ (.int _ _) (.cons _ _ _ _ (.int _ _) (.nil))) run_63_6
    · exact go (.cons _ _ _ _ (.int _ _) (.cons _ _ _ _ (.int _ _) (.nil))) run_63_7
    · exact go (.cons _ _ _ _ (.int _ _) (.cons _ _ _ _ (.int _ _) (.nil))) run_63_8
    · exact go (.cons _ _ _ _ (.int _ _) (.cons _ _ _ _ (.int _ _) (.nil))) run_63_9
    · exact go (.cons _ _ _ _ (.int _ _) (.cons _ _ _ _ (.int _ _) (.nil))) run_63_10
    · exact go (.cons _ _ _ _ (.int _ _) (.cons _ _ _ _ (.int _ _) (.nil))) run_63_11
    · exact go (.cons _ _ _ _ (.int _ _) (.cons _ _ _ _ (.int _ _) (.nil))) run_63_12
    · exact go (.cons _ _ _ _ (.int _ _) (.cons _ _ _ _ (.int _ _) (.nil))) run_63_13
    · exact go (.cons _ _ _ _ (.int _ _) (.cons _ _ _ _ (.int _ _) (.nil))) run_63_14
    · exact go (.cons _ _ _ _ (.int _ _) (.cons _ _ _ _ (.int _ _) (.nil))) run_63_15
    · exact go (.cons _ _ _ _ (.int _ _) (.cons _ _ _ _ (.int _ _) (.nil))) run_63_16
    · exact go (.cons _ _ _ _ (.int _ _) (.cons _ _ _ _ (.int _ _) (.nil))) run_63_17
    · exact go (.cons _ _ _ _ (.int _ _) (.cons _ _ _ _ (.int _ _) (.nil))) run_63_18
    · exact go (.cons _ _ _ _ (.int _ _) (.cons _ _ _ _ (.int _ _) (.nil))) run_63_19
    · exact go (.cons _ _ _ _ (.int _ _) (.cons _ _ _ _ (.int _ _) (.nil))) run_63_20
  · by_cases hb1 : a1 ≤ -1
    · exact go (.cons _ _ _ _ (.int _ _) (.cons _ _ _ _ (.ile _ _ _ hb1) (.nil))) run_64_le
    by_cases ha1 : 21 ≤ a1
    · exact go (.cons _ _ _ _ (.int _ _) (.cons _ _ _ _ (.ige _ _ _ ha1) (.nil))) run_64_ge
    have hc1 : a1 = 0 ∨ a1 = 1 ∨ a1 = 2 ∨ a1 = 3 ∨ a1 = 4 ∨ a1 = 5 ∨ a1 = 6 ∨ a1 = 7 ∨ a1 = 8 ∨ a1 = 9 ∨ a1 = 10 ∨ a1 = 11 ∨ a1 = 12 ∨ a1 = 13 ∨ a1 = 14 ∨ a1 = 15 ∨ a1 = 16 ∨ a1 = 17 ∨ a1 = 18 ∨ a1 = 19 ∨ a1 = 20 := by omega
    rcases hc1 with rfl | rfl | rfl | rfl | rfl | rfl | rfl | rfl | rfl | rfl | rfl | rfl | rfl | rfl | rfl | rfl | rfl | rfl | rfl | rfl | rfl
    · exact go (.cons _ _ _ _ (.int _ _) (.cons _ _ _ _ (.int _ _) (.nil))) run_64_0
    · exact go (.cons _ _ _ _ (.int _ _) (.cons _ _ _ _ (.int _ _) (.nil))) run_64_1
    · exact go (.cons _ _ _ _ (.int _ _) (.cons _ _ _ _ (.int _ _) (.nil))) run_64_2
    · exact go (.cons _ _ _ _ (.int _ _) (.cons _ _ _ _ (.int _ _) (.nil))) run_64_3
    · exact go (.cons _ _ _ _ (.int _ _) (.cons _ _ _ _ (.int _ _) (.nil))) run_64_4
    · exact go (.cons _ _ _ _ (.int _ _) (.cons _ _ _ _ (.int _ _) (.nil))) run_64_5
    · exact go (.cons _ _ _ _ (.int _ _) (.cons _ _ _ _ (.int _ _) (.nil))) run_64_6
    · exact go (.cons _ _ _ _ (.int _ _) (.cons _ _ _ _ (.int _ _) (.nil))) run_64_7
    · exact go (.cons _ _ _ _ (.int _ _) (.cons _ _ _ _ (.int _ _) (.nil))) run_64_8
    · exact go (.cons _ _ _ _ (.int _ _) (.cons _ _ _ _ (.int _ _) (.nil))) run_64_9
    · exact go (.cons _ _ _ _ (.int _ _) (.cons _ _ _ _ (.int _ _) (.nil))) run_64_10
    · exact go (.cons _ _ _ _ (.int _ _) (.cons _ _ _ _ (.int _ _) (.nil))) run_64_11
    · exact go (.cons _ _ _ _ (.int _ _) (.cons _ _ _ _ (.int _ _) (.nil))) run_64_12
    · exact go (.cons _ _ _ _ (.int _ _) (.cons _ _ _ _ (.int _ _) (.nil))) run_64_13
    · exact go (.cons _ _ _ _ (.int _ _) (.cons _ _ _ _ (.int _ _) (.nil))) run_64_14
    · exact go (.cons _ _ _ _ (.int _ _) (.cons _ _ _ _ (.int _ _) (.nil))) run_64_15
    · exact go (.cons _ _ _ _ (.int _ _) (.cons _ _ _ _ (.int _ _) (.nil))) run_64_16
    · exact go (.cons _ _ _ _ (.int _ _) (.cons _ _ _ _ (.int _ _) (.nil))) run_64_17
    · exact go (.cons _ _ _ _ (.int _ _) (.cons _ _ _ _ (.int _ _) (.nil))) run_64_18
    · exact go (.cons _ _ _ _ (.int _ _) (.cons _ _ _ _ (.int _ _) (.nil))) run_64_19
    · exact go (.cons _ _ _ _ (.int _ _) (.cons _ _ _ _ (.int _ _) (.nil))) run_64_20

/-! ### THE ROW's STEP: WRITTEN OUT: LEAVE IT -/
set_option maxRecDepth 100000 in
theorem lifted (os : Os) (started : os.Started) (H : Type) (enc : TypeId × Value → H) :
    ReturnsInHanded {} Try.checked os 8 .any (Rows.checkSizesSpec.pre6 enc Try.prog Try.f8 Rows.checkSizesRow.domain false) (Rows.checkSizesSpec.post enc Try.prog Try.f8 false true false false) := by
  refine returnsInHanded_of_change (C := Try.checked) own started (by kernel_rfl) Try.func8
    (ChangeSpec.witness6 (enc := enc) (C := Try.checked) false ⟨#[], #[.int .i64 0, .int .i64 0], []⟩ 8 (by kernel_rfl) (by kernel_rfl) (by kernel_rfl) (by kernel_rfl)) ?_
  intro W base args ds gs before hval0 hW hcnd _
  have hval : ∀ (j : Nat) t v, Try.f8.params[j]? = some t → args[j]? = some v → Value.okWide Try.prog W .any base t v := hval0
  have hW' := hW
  obtain ⟨p, q, hA0, hV, rfl, hfz, hnd⟩ := hW
  have hA : DataW.TrodAll enc Try.prog W 0 (fun _ => true) true Try.f8.params.toList args.toList ds p := hA0
  rw [Try.params8] at hA hval
  obtain ⟨v0, vs0, d0, ds0, p0, q0, hargs, rfl, rfl, h0, r0⟩ := trodAll_cons hA
  obtain ⟨v1, vs1, d1, ds1, p1, q1, rfl, rfl, rfl, h1, r1⟩ := trodAll_cons r0
  obtain ⟨rfl, rfl, rfl⟩ := trodAll_nil r1
  obtain rfl : args = #[v0, v1] := by cases args; simp_all
  obtain ⟨rfl, rfl⟩ := trodVars_none hV
  obtain ⟨a0, rfl, rfl, rfl, w0⟩ := open_int Try.underlying3 (hval 0 3 v0 rfl rfl) h0
  obtain ⟨a1, rfl, rfl, rfl, w1⟩ := open_int Try.underlying3 (hval 1 3 v1 rfl rfl) h1
  clear hA0 hval0
  simp only [List.append_nil] at hW'
  refine (walk a0 a1 w0 w1 W).mono fun e W' ⟨he, hg⟩ => ?_
  subst he
  exact ⟨_, rfl, post_below (pa := []) (pv := []) hW' (fun _ _ _ => (trodAll_cons_mk (shut_bool Try.underlying4 _) trodAll_mk0)) (fun sp _ => (trodAll_cons_mk (shut_int Try.underlying3 w0) (trodAll_cons_mk (shut_int Try.underlying3 w1) trodAll_mk0))) (fun _ _ => rfl) rfl
    hg (ok_one (by kernel_rfl) rfl (okWide_bool_mk Try.underlying4 _))⟩

theorem over : Rows.checkSizesRow.holds Try.pinned (OpenSpec.ofChange Rows.checkSizesSpec) :=
  OpenClaim.holds_of_wide 8 Try.f8 rfl rfl rfl rfl rfl rfl rfl ⟨rfl, rfl, rfl, rfl, rfl⟩ rfl rfl rfl rfl rfl (by kernel_rfl) Try.func8 facts
    (of_decide_eq_true (by kernel_rfl)) (by unfold Func.isWrapper; first | (rw [if_pos (by decide +kernel)]; kernel_rfl) | (rw [if_neg (by decide +kernel)]; exact ⟨rfl, rfl⟩))
    (fun os started H enc _ => lifted os started H enc)

/-- ████ THE STATEMENT ████ -/
theorem proved : Rows.CheckSizesSaid :=
  over
#print axioms proved
end Go.Proofs.Ytpgjmiieecdjhaa.checkSizes
