/- The law ParseDeep of the document returns true for every input, and its arguments read behind the call as they read before. No condition. -/
import Derived.Test.YtmclfljfkglenaaRows
import Derived.WalkKit
import Derived.ProofKit
import Derived.OpenShut
import Derived.Below
import Derived.ChangeSame
import Derived.Test.YtmclfljfkglenaaParseDeepBase
import Derived.Test.YtmclfljfkglenaaParseDeepRuns0
import Derived.Test.YtmclfljfkglenaaParseDeepRuns1
import Derived.Test.YtmclfljfkglenaaParseDeepRuns2
import Derived.Test.YtmclfljfkglenaaParseDeepRuns3
import Derived.Test.YtmclfljfkglenaaParseDeepRuns4
import Derived.Test.YtmclfljfkglenaaParseDeepRuns5
import Derived.Test.YtmclfljfkglenaaParseDeepRuns6
import Derived.Test.YtmclfljfkglenaaParseDeepRuns7
import Derived.Test.YtmclfljfkglenaaParseDeepRuns8
import Derived.Test.YtmclfljfkglenaaParseDeepRuns9
import Derived.Test.YtmclfljfkglenaaParseDeepRuns10
import Derived.Test.YtmclfljfkglenaaParseDeepRuns11
import Derived.Test.YtmclfljfkglenaaParseDeepRuns12
import Derived.Test.YtmclfljfkglenaaParseDeepRuns13
import Derived.Test.YtmclfljfkglenaaParseDeepRuns14
import Derived.Test.YtmclfljfkglenaaParseDeepRuns15
import Derived.Test.YtmclfljfkglenaaParseDeepRuns16
import Derived.Test.YtmclfljfkglenaaParseDeepRuns17
import Derived.Test.YtmclfljfkglenaaParseDeepRuns18
import Derived.Test.YtmclfljfkglenaaParseDeepRuns19
import Derived.Test.YtmclfljfkglenaaParseDeepRuns20
import Derived.Test.YtmclfljfkglenaaParseDeepRuns21
import Derived.Test.YtmclfljfkglenaaParseDeepRuns22
import Derived.Test.YtmclfljfkglenaaParseDeepRuns23
import Derived.Test.YtmclfljfkglenaaParseDeepRuns24
import Derived.Test.YtmclfljfkglenaaParseDeepRuns25
import Derived.Test.YtmclfljfkglenaaParseDeepRuns26
import Derived.Test.YtmclfljfkglenaaChecked
import Derived.Test.YtmclfljfkglenaaParseDeepFacts
namespace Go.Proofs.Ytmclfljfkglenaa.parseDeep
open Nm Go.ChangeShapes Go.WideShapes Go.ChangeAt Go.RowKit
set_option linter.unusedVariables false      -- a walk need not use every 'w<i>' (that an integer argument fits its kind)

theorem own : ownKnob Try.prog.godebug = none := by kernel_rfl

theorem mixed : Try.prog.follows .mixedOrders = true := by kernel_rfl
theorem tabOK0 : TabOK Try.prog tab0 := tab_add mixed Try.codeOk tab_none (code_is.kept kept_alive)
section
variable {H : Type} {enc : TypeId × Value → H} {P : Program}
/-- what a call leaves that turned nothing that was there -/
theorem post_below {f : Func} {s : ChangeSpec} {apart fresh handsOn again : Bool} {W W' : World} {args : Array Value} {v : Value} {ds gs : List (DataW H)} {before pa pv : List MemPlace}
    (hW : DataW.Whole enc P f.params.toList s.vars apart W args.toList ds gs before)
    (hres : ∀ (b : Nat) (sp : Nat → Bool) (hd : Bool), DataW.TrodAll enc P W' b sp hd f.resultTypes.toList (v.resultList f.resultTypes.size) (s.fn H (ds ++ gs)).results [])
    (hargs : ∀ sp : Nat → Bool, (∀ p ∈ before, sp p.block = true) → DataW.TrodAll enc P W' 0 sp true f.params.toList args.toList (s.fn H (ds ++ gs)).args pa)
    (hvars : ∀ sp : Nat → Bool, (∀ p ∈ before, sp p.block = true) → DataW.TrodVars enc P W' sp s.vars (s.fn H (ds ++ gs)).vars pv)
    (hps : before = pa ++ pv) (hb : Below W.heap.size W W')
    (hok : ∀ (j : Nat) (t : TypeId) (r : Value), f.resultTypes[j]? = some t → (v.resultList f.resultTypes.size)[j]? = some r → Value.okWide P W' .any 0 t r) :
    s.post enc P f apart fresh handsOn again W args v W' := by
  have hlt : ∀ p ∈ before, p.block < W.heap.size := fun p hp => hW.lt p hp
  have hold : ∀ p ∈ before, (fun b => decide (b < W.heap.size)) p.block = true := fun p hp => by simpa using hlt p hp
  refine ⟨ds, gs, before, [], pa, pv, hW, hres _ _ _, hargs _ hold, hvars _ hold, World.keptBut_mono (fun p hp => ⟨hp, ?_⟩) (hb.frame (· ∈ before)), fun _ => ?_⟩
  · rw [hps, List.mem_append] at hp
    exact Or.inr hp
  · obtain ⟨_, _, _, _, _, hz, hn⟩ := hW
    refine ⟨hok, _, _, ([] ++ pa) ++ pv, ⟨[] ++ pa, pv, trodAll_append (hargs _ (fun _ _ => rfl)) (hres _ _ _), hvars _ (fun _ _ => rfl), rfl, ?_, ?_⟩, ?_⟩
    · intro b off hp
      have hin : MemPlace.cell b off ∈ before := by rw [hps]; simpa using hp
      rw [hb.frozen (hlt _ hin)]
      exact hz b off hin
    · intro ha
      have := hn ha
      rw [hps] at this
      simpa using this
    · intro p hp _
      rw [hps]
      simpa using hp
end

/-! ### STEP 1: THE WALK: the Go text returns true. 'Grown w w'': the world has at most new blocks (Derived/RowKit3.lean). Part the cases AHEAD of 'go_enter' where a test parts the walk; take each callee by a contract of your own. -/
theorem walk (a0 : Int) (a1 : Int) (w0 : (Lit.int .i64 a0).wf = true) (w1 : (Lit.int .i64 a1).wf = true) (w : World) :
    Calls Try.prog 3 #[.int .i64 a0, .int .i64 a1] w fun e w' => e = .returned (.bool true) ∧ Below w.heap.size w w' := by
  have go : ∀ {l : List NV}, VRL ι0 l [.int .i64 a0, .int .i64 a1] → topTrue code tab0 2000 3 l = true → Calls Try.prog 3 #[.int .i64 a0, .int .i64 a1] w fun e w' => e = .returned (.bool true) ∧ Below w.heap.size w w' :=
    fun hv hr => top_true mixed Try.codeOk tabOK0 (code_is.run hr) (args' := [.int .i64 a0, .int .i64 a1]) hv w
  by_cases hb0 : a0 ≤ -1
  · by_cases hb1 : a1 ≤ -1
    · exact go (.cons _ _ _ _ (.ile _ _ _ hb0) (.cons _ _ _ _ (.ile _ _ _ hb1) (.nil))) run_le_le
    by_cases ha1 : 3 ≤ a1
    · exact go (.cons _ _ _ _ (.ile _ _ _ hb0) (.cons _ _ _ _ (.ige _ _ _ ha1) (.nil))) run_le_ge
    have hc1 : a1 = 0 ∨ a1 = 1 ∨ a1 = 2 := by omega
    rcases hc1 with rfl | rfl | rfl
    · exact go (.cons _ _ _ _ (.ile _ _ _ hb0) (.cons _ _ _ _ (.int _ _) (.nil))) run_le_0
    · exact go (.cons _ _ _ _ (.ile _ _ _ hb0) (.cons _ _ _ _ (.int _ _) (.nil))) run_le_1
    · exact go (.cons _ _ _ _ (.ile _ _ _ hb0) (.cons _ _ _ _ (.int _ _) (.nil))) run_le_2
  by_cases ha0 : 61 ≤ a0
  · by_cases hb1 : a1 ≤ -1
    · exact go (.cons _ _ _ _ (.ige _ _ _ ha0) (.cons _ _ _ _ (.ile _ _ _ hb1) (.nil))) run_ge_le
    by_cases ha1 : 3 ≤ a1
    · exact go (.cons _ _ _ _ (.ige _ _ _ ha0) (.cons _ _ _ _ (.ige _ _ _ ha1) (.nil))) run_ge_ge
    have hc1 : a1 = 0 ∨ a1 = 1 ∨ a1 = 2 := by omega
    rcases hc1 with rfl | rfl | rfl
    · exact go (.cons _ _ _ _ (.ige _ _ _ ha0) (.cons _ _ _ _ (.int _ _) (.nil))) run_ge_0
    · exact go (.cons _ _ _ _ (.ige _ _ _ ha0) (.cons _ _ _ _ (.int _ _) (.nil))) run_ge_1
    · exact go (.cons _ _ _ _ (.ige _ _ _ ha0) (.cons _ _ _ _ (.int _ _) (.nil))) run_ge_2
  have hc0 : a0 = 0 ∨ a0 = 1 ∨ a0 = 2 ∨ a0 = 3 ∨ a0 = 4 ∨ a0 = 5 ∨ a0 = 6 ∨ a0 = 7 ∨ a0 = 8 ∨ a0 = 9 ∨ a0 = 10 ∨ a0 = 11 ∨ a0 = 12 ∨ a0 = 13 ∨ a0 = 14 ∨ a0 = 15 ∨ a0 = 16 ∨ a0 = 17 ∨ a0 = 18 ∨ a0 = 19 ∨ a0 = 20 ∨ a0 = 21 ∨ a0 = 22 ∨ a0 = 23 ∨ a0 = 24 ∨ a0 = 25 ∨ a0 = 26 ∨ a0 = 27 ∨ a0 = 28 ∨ a0 = 29 ∨ a0 = 30 ∨ a0 = 31 ∨ a0 = 32 ∨ a0 = 33 ∨ a0 = 34 ∨ a0 = 35 ∨ a0 = 36 ∨ a0 = 37 ∨ a0 = 38 ∨ a0 = 39 ∨ a0 = 40 ∨ a0 = 41 ∨ a0 = 42 ∨ a0 = 43 ∨ a0 = 44 ∨ a0 = 45 ∨ a0 = 46 ∨ a0 = 47 ∨ a0 = 48 ∨ a0 = 49 ∨ a0 = 50 ∨ a0 = 51 ∨ a0 = 52 ∨ a0 = 53 ∨ a0 = 54 ∨ a0 = 55 ∨ a0 = 56 ∨ a0 = 57 ∨ a0 = 58 ∨ a0 = 59 ∨ a0 = 60 := by omega
  rcases hc0 with rfl | rfl | rfl | rfl | rfl | rfl | rfl | rfl | rfl | rfl | rfl | rfl | rfl | rfl | rfl | rfl | rfl | rfl | rfl | rfl | rfl | rfl | rfl | rfl | rfl | rfl | rfl | rfl | rfl | rfl | rfl | rfl | rfl | rfl | rfl | rfl | rfl | rfl | rfl | rfl | rfl | rfl | rfl | rfl | rfl | rfl | rfl | rfl | rfl | rfl | rfl | rfl | rfl | rfl | rfl | rfl | rfl | rfl | rfl | rfl | rfl
  · by_cases hb1 : a1 ≤ -1
    · exact go (.cons _ _ _ _ (.int _ _) (.cons _ _ _ _ (.ile _ _ _ hb1) (.nil))) run_0_le
    by_cases ha1 : 3 ≤ a1
    · exact go (.cons _ _ _ _ (.int _ _) (.cons _ _ _ _ (.ige _ _ _ ha1) (.nil))) run_0_ge
    have hc1 : a1 = 0 ∨ a1 = 1 ∨ a1 = 2 := by omega
    rcases hc1 with rfl | rfl | rfl
    · exact go (.cons _ _ _ _ (.int _ _) (.cons _ _ _ _ (.int _ _) (.nil))) run_0_0
    · exact go (.cons _ _ _ _ (.int _ _) (.cons _ _ _ _ (.int _ _) (.nil))) run_0_1
    · exact go (.cons _ _ _ _ (.int _ _) (.cons _ _ _ _ (.int _ _) (.nil))) run_0_2
  · by_cases hb1 : a1 ≤ -1
    · exact go (.cons _ _ _ _ (.int _ _) (.cons _ _ _ _ (.ile _ _ _ hb1) (.nil))) run_1_le
    by_cases ha1 : 3 ≤ a1
    · exact go (.cons _ _ _ _ (.int _ _) (.cons _ _ _ _ (.ige _ _ _ ha1) (.nil))) run_1_ge
    have hc1 : a1 = 0 ∨ a1 = 1 ∨ a1 = 2 := by omega
    rcases hc1 with rfl | rfl | rfl
    · exact go (.cons _ _ _ _ (.int _ _) (.cons _ _ _ _ (.int _ _) (.nil))) run_1_0
    · exact go (.cons _ _ _ _ (.int _ _) (.cons _ _ _ _ (.int _ _) (.nil))) run_1_1
    · exact go (.cons _ _ _ _ (.int _ _) (.cons _ _ _ _ (.int _ _) (.nil))) run_1_2
  · by_cases hb1 : a1 ≤ -1
    · exact go (.cons _ _ _ _ (.int _ _) (.cons _ _ _ _ (.ile _ _ _ hb1) (.nil))) run_2_le
    by_cases ha1 : 3 ≤ a1
    · exact go (.cons _ _ _ _ (.int _ _) (.cons _ _ _ _ (.ige _ _ _ ha1) (.nil))) run_2_ge
    have hc1 : a1 = 0 ∨ a1 = 1 ∨ a1 = 2 := by omega
    rcases hc1 with rfl | rfl | rfl
    · exact go (.cons _ _ _ _ (.int _ _) (.cons _ _ _ _ (.int _ _) (.nil))) run_2_0
    · exact go (.cons _ _ _ _ (.int _ _) (.cons _ _ _ _ (.int _ _) (.nil))) run_2_1
    · exact go (.cons _ _ _ _ (.int _ _) (.cons _ _ _ _ (.int _ _) (.nil))) run_2_2
  · by_cases hb1 : a1 ≤ -1
    · exact go (.cons _ _ _ _ (.int _ _) (.cons _ _ _ _ (.ile _ _ _ hb1) (.nil))) run_3_le
    by_cases ha1 : 3 ≤ a1
    · exact go (.cons _ _ _ _ (.int _ _) (.cons _ _ _ _ (.ige _ _ _ ha1) (.nil))) run_3_ge
    have hc1 : a1 = 0 ∨ a1 = 1 ∨ a1 = 2 := by omega
    rcases hc1 with rfl | rfl | rfl
    · exact go (.cons _ _ _ _ (.int _ _) (.cons _ _ _ _ (.int _ _) (.nil))) run_3_0
    · exact go (.cons _ _ _ _ (.int _ _) (.cons _ _ _ _ (.int _ _) (.nil))) run_3_1
    · exact go (.cons _ _ _ _ (.int _ _) (.cons _ _ _ _ (.int _ _) (.nil))) run_3_2
  · by_cases hb1 : a1 ≤ -1
    · exact go (.cons _ _ _ _ (.int _ _) (.cons _ _ _ _ (.ile _ _ _ hb1) (.nil))) run_4_le
    by_cases ha1 : 3 ≤ a1
    · exact go (.cons _ _ _ _ (.int _ _) (.cons _ _ _ _ (.ige _ _ _ ha1) (.nil))) run_4_ge
    have hc1 : a1 = 0 ∨ a1 = 1 ∨ a1 = 2 := by omega
    rcases hc1 with rfl | rfl | rfl
    · exact go (.cons _ _ _ _ (.int _ _) (.cons _ _ _ _ (.int _ _) (.nil))) run_4_0
    · exact go (.cons _ _ _ _ (.int _ _) (.cons _ _ _ _ (.int _ _) (.nil))) run_4_1
    · exact go (.cons _ _ _ _ (.int _ _) (.cons _ _ _ _ (.int _ _) (.nil))) run_4_2
  · by_cases hb1 : a1 ≤ -1
    · exact go (.cons _ _ _ _ (.int _ _) (.cons _ _ _ _ (.ile _ _ _ hb1) (.nil))) run_5_le
    by_cases ha1 : 3 ≤ a1
    · exact go (.cons _ _ _ _ (.int _ _) (.cons _ _ _ _ (.ige _ _ _ ha1) (.nil))) run_5_ge
    have hc1 : a1 = 0 ∨ a1 = 1 ∨ a1 = 2 := by omega
    rcases hc1 with rfl | rfl | rfl
    · exact go (.cons _ _ _ _ (.int _ _) (.cons _ _ _ _ (.int _ _) (.nil))) run_5_0
    · exact go (.cons _ _ _ _ (.int _ _) (.cons _ _ _ _ (.int _ _) (.nil))) run_5_1
    · exact go (.cons _ _ _ _ (.int _ _) (.cons _ _ _ _ (.int _ _) (.nil))) run_5_2
  · by_cases hb1 : a1 ≤ -1
    · exact go (.cons _ _ _ _ (.int _ _) (.cons _ _ _ _ (.ile _ _ _ hb1) (.nil))) run_6_le
    by_cases ha1 : 3 ≤ a1
    · exact go (.cons _ _ _ _ (.int _ _) (.cons _ _ _ _ (.ige _ _ _ ha1) (.nil))) run_6_ge
    have hc1 : a1 = 0 ∨ a1 = 1 ∨ a1 = 2 := by omega
    rcases hc1 with rfl | rfl | rfl
    · exact go (.cons _ _ _ _ (.int _ _) (.cons _ _ _ _ (.int _ _) (.nil))) run_6_0
    · exact go (.cons _ _ _ _ (.int _ _) (.cons _ _ _ _ (.int _ _) (.nil))) run_6_1
    · exact go (.cons _ _ _ _ (.int _ _) (.cons _ _ _ _ (.int _ _) (.nil))) run_6_2
  · by_cases hb1 : a1 ≤ -1
    · exact go (.cons _ _ _ _ (.int _ _) (.cons _ _ _ _ (.ile _ _ _ hb1) (.nil))) run_7_le
    by_cases ha1 : 3 ≤ a1
    · exact go (.cons _ _ _ _ (.int _ _) (.cons _ _ _ _ (.ige _ _ _ ha1) (.nil))) run_7_ge
    have hc1 : a1 = 0 ∨ a1 = 1 ∨ a1 = 2 := by omega
    rcases hc1 with rfl | rfl | rfl
    · exact go (.cons _ _ _ _ (.int _ _) (.cons _ _ _ _ (.int _ _) (.nil))) run_7_0
    · exact go (.cons _ _ _ _ (.int _ _) (.cons _ _ _ _ (.int _ _) (.nil))) run_7_1
    · exact go (.cons _ _ _ _ (.int _ _) (.cons _ _ _ _ (.int _ _) (.nil))) run_7_2
  · by_cases hb1 : a1 ≤ -1
    · exact go (.cons _ _ _ _ (.int _ _) (.cons _ _ _ _ (.ile _ _ _ hb1) (.nil))) run_8_le
    by_cases ha1 : 3 ≤ a1
    · exact go (.cons _ _ _ _ (.int _ _) (.cons _ _ _ _ (.ige _ _ _ ha1) (.nil))) run_8_ge
    have hc1 : a1 = 0 ∨ a1 = 1 ∨ a1 = 2 := by omega
    rcases hc1 with rfl | rfl | rfl
    · exact go (.cons _ _ _ _ (.int _ _) (.cons _ _ _ _ (.int _ _) (.nil))) run_8_0
    · exact go (.cons _ _ _ _ (.int _ _) (.cons _ _ _ _ (.int _ _) (.nil))) run_8_1
    · exact go (.cons _ _ _ _ (.int _ _) (.cons _ _ _ _ (.int _ _) (.nil))) run_8_2
  · by_cases hb1 : a1 ≤ -1
    · exact go (.cons _ _ _ _ (.int _ _) (.cons _ _ _ _ (.ile _ _ _ hb1) (.nil))) run_9_le
    by_cases ha1 : 3 ≤ a1
    · exact go (.cons _ _ _ _ (.int _ _) (.cons _ _ _ _ (.ige _ _ _ ha1) (.nil))) run_9_ge
    have hc1 : a1 = 0 ∨ a1 = 1 ∨ a1 = 2 := by omega
    rcases hc1 with rfl | rfl | rfl
    · exact go (.cons _ _ _ _ (.int _ _) (.cons _ _ _ _ (.int _ _) (.nil))) run_9_0
    · exact go (.cons _ _ _ _ (.int _ _) (.cons _ _ _ _ (.int _ _) (.nil))) run_9_1
    · exact go (.cons _ _ _ _ (.int _ _) (.cons _ _ _ _ (.int _ _) (.nil))) run_9_2
  · by_cases hb1 : a1 ≤ -1
    · exact go (.cons _ _ _ _ (.int _ _) (.cons _ _ _ _ (.ile _ _ _ hb1) (.nil))) run_10_le
    by_cases ha1 : 3 ≤ a1
    · exact go (.cons _ _ _ _ (.int _ _) (.cons _ _ _ _ (.ige _ _ _ ha1) (.nil))) run_10_ge
    have hc1 : a1 = 0 ∨ a1 = 1 ∨ a1 = 2 := by omega
    rcases hc1 with rfl | rfl | rfl
    · exact go (.cons _ _ _ _ (.int _ _) (.cons _ _ _ _ (.int _ _) (.nil))) run_10_0
    · exact go (.cons _ _ _ _ (.int _ _) (.cons _ _ _ _ (.int _ _) (.nil))) run_10_1
    · exact go (.cons _ _ _ _ (.int _ _) (.cons _ _ _ _ (.int _ _) (.nil))) run_10_2
  · by_cases hb1 : a1 ≤ -1
    · exact go (.cons _ _ _ _ (.int _ _) (.cons _ _ _ _ (.ile _ _ _ hb1) (.nil))) run_11_le
    by_cases ha1 : 3 ≤ a1
    · exact go (.cons _ _ _ _ (.int _ _) (.cons _ _ _ _ (.ige _ _ _ ha1) (.nil))) run_11_ge
    have hc1 : a1 = 0 ∨ a1 = 1 ∨ a1 = 2 := by omega
    rcases hc1 with rfl | rfl | rfl
    · exact go (.cons _ _ _ _ (.int _ _) (.cons _ _ _ _ (.int _ _) (.nil))) run_11_0
    · exact go (.cons _ _ _ _ (.int _ _) (.cons _ _ _ _ (.int _ _) (.nil))) run_11_1
    · exact go (.cons _ _ _ _ (.int _ _) (.cons _ _ _ _ (.int _ _) (.nil))) run_11_2
  · by_cases hb1 : a1 ≤ -1
    · exact go (.cons _ _ _ _ (.int _ _) (.cons _ _ _ _ (.ile _ _ _ hb1) (.nil))) run_12_le
    by_cases ha1 : 3 ≤ a1
    · exact go (.cons _ _ _ _ (.int _ _) (.cons _ _ _ _ (.ige _ _ _ ha1) (.nil))) run_12_ge
    have hc1 : a1 = 0 ∨ a1 = 1 ∨ a1 = 2 := by omega
    rcases hc1 with rfl | rfl | rfl
    · exact go (.cons _ _ _ _ (.int _ _) (.cons _ _ _ _ (.int _ _) (.nil))) run_12_0
    · exact go (.cons _ _ _ _ (.int _ _) (.cons _ _ _ _ (.int _ _) (.nil))) run_12_1
    · exact go (.cons _ _ _ _ (.int _ _) (.cons _ _ _ _ (.int _ _) (.nil))) run_12_2
  · by_cases hb1 : a1 ≤ -1
    · exact go (.cons _ _ _ _ (.int _ _) (.cons _ _ _ _ (.ile _ _ _ hb1) (.nil))) run_13_le
    by_cases ha1 : 3 ≤ a1
    · exact go (.cons _ _ _ _ (.int _ _) (.cons _ _ _ _ (.ige _ _ _ ha1) (.nil))) run_13_ge
    have hc1 : a1 = 0 ∨ a1 = 1 ∨ a1 = 2 := by omega
    rcases hc1 with rfl | rfl | rfl
    · exact go (.cons _ _ _ _ (.int _ _) (.cons _ _ _ _ (.int _ _) (.nil))) run_13_0
    · exact go (.cons _ _ _ _ (.int _ _) (.cons _ _ _ _ (.int _ _) (.nil))) run_13_1
    · exact go (.cons _ _ _ _ (.int _ _) (.cons _ _ _ _ (.int _ _) (.nil))) run_13_2
  · by_cases hb1 : a1 ≤ -1
    · exact go (.cons _ _ _ _ (.int _ _) (.cons _ _ _ _ (.ile _ _ _ hb1) (.nil))) run_14_le
    by_cases ha1 : 3 ≤ a1
    · exact go (.cons _ _ _ _ (.int _ _) (.cons _ _ _ _ (.ige _ _ _ ha1) (.nil))) run_14_ge
    have hc1 : a1 = 0 ∨ a1 = 1 ∨ a1 = 2 := by omega
    rcases hc1 with rfl | rfl | rfl
    · exact go (.cons _ _ _ _ (.int _ _) (.cons _ _ _ _ (.int _ _) (.nil))) run_14_0
    · exact go (.cons _ _ _ _ (.int _ _) (.cons _ _ _ _ (.int _ _) (.nil))) run_14_1
    · exact go (.cons _ _ _ _ (.int _ _) (.cons _ _ _ _ (.int _ _) (.nil))) run_14_2
  · by_cases hb1 : a1 ≤ -1
    · exact go (.cons _ _ _ _ (.int _ _) (.cons _ _ _ _ (.ile _ _ _ hb1) (.nil))) run_15_le
    by_cases ha1 : 3 ≤ a1
    · exact go (.cons _ _ _ _ (.int _ _) (.cons _ _ _ _ (.ige _ _ _ ha1) (.nil))) run_15_ge
    have hc1 : a1 = 0 ∨ a1 = 1 ∨ a1 = 2 := by omega
    rcases hc1 with rfl | rfl | rfl
    · exact go (.cons _ _ _ _ (.int _ _) (.cons _ _ _ _ (.int _ _) (.nil))) run_15_0
    · exact go (.cons _ _ _ _ (.int _ _) (.cons _ _ _ _ (.int _ _) (.nil))) run_15_1
    · exact go (.cons _ _ _ _ (.int _ _) (.cons _ _ _ _ (.int _ _) (.nil))) run_15_2
  · by_cases hb1 : a1 ≤ -1
    · exact go (.cons _ _ _ _ (.int _ _) (.cons _ _ _ _ (.ile _ _ _ hb1) (.nil))) run_16_le
    by_cases ha1 : 3 ≤ a1
    · exact go (.cons _ _ _ _ (.int _ _) (.cons _ _ _ _ (.ige _ _ _ ha1) (.nil))) run_16_ge
    have hc1 : a1 = 0 ∨ a1 = 1 ∨ a1 = 2 := by omega
    rcases hc1 with rfl | rfl | rfl
    · exact go (.cons _ _ _ _ (.int _ _) (.cons _ _ _ _ (.int _ _) (.nil))) run_16_0
    · exact go (.cons _ _ _ _ (.int _ _) (.cons _ _ _ _ (.int _ _) (.nil))) run_16_1
    · exact go (.cons _ _ _ _ (.int _ _) (.cons _ _ _ _ (.int _ _) (.nil))) run_16_2
  · by_cases hb1 : a1 ≤ -1
    · exact go (.cons _ _ _ _ (.int _ _) (.cons _ _ _ _ (.ile _ _ _ hb1) (.nil))) run_17_le
    by_cases ha1 : 3 ≤ a1
    · exact go (.cons _ _ _ _ (.int _ _) (.cons _ _ _ _ (.ige _ _ _ ha1) (.nil))) run_17_ge
    have hc1 : a1 = 0 ∨ a1 = 1 ∨ a1 = 2 := by omega
    rcases hc1 with rfl | rfl | rfl
    · exact go (.cons _ _ _ _ (.int _ _) (.cons _ _ _ _ (.int _ _) (.nil))) run_17_0
    · exact go (.cons _ _ _ _ (.int _ _) (.cons _ _ _ _ (.int _ _) (.nil))) run_17_1
    · exact go (.cons _ _ _ _ (.int _ _) (.cons _ _ _ _ (.int _ _) (.nil))) run_17_2
  · by_cases hb1 : a1 ≤ -1
    · exact go (.cons _ _ _ _ (.int _ _) (.cons _ _ _ _ (.ile _ _ _ hb1) (.nil))) run_18_le
    by_cases ha1 : 3 ≤ a1
    · exact go (.cons _ _ _ _ (.int _ _) (.cons _ _ _ _ (.ige _ _ _ ha1) (.nil))) run_18_ge
    have hc1 : a1 = 0 ∨ a1 = 1 ∨ a1 = 2 := by omega
    rcases hc1 with rfl | rfl | rfl
    · exact go (.cons _ _ _ _ (.int _ _) (.cons _ _ _ _ (.int _ _) (.nil))) run_18_0
    · exact go (.cons _ _ _ _ (.int _ _) (.cons _ _ _ _ (.int _ _) (.nil))) run_18_1
    · exact go (.cons _ _ _ _ (.int _ _) (.cons _ _ _ _ (.int _ _) (.nil))) run_18_2
  · by_cases hb1 : a1 ≤ -1
    · exact go (.cons _ _ _ _ (.int _ _) (.cons _ _ _ _ (.ile _ _ _ hb1) (.nil))) run_19_le
    by_cases ha1 : 3 ≤ a1
    · exact go (.cons _ _ _ _ (.int _ _) (.cons _ _ _ _ (.ige _ _ _ ha1) (.nil))) run_19_ge
    have hc1 : a1 = 0 ∨ a1 = 1 ∨ a1 = 2 := by omega
    rcases hc1 with rfl | rfl | rfl
    · exact go (.cons _ _ _ _ (.int _ _) (.cons _ _ _ _ (.int _ _) (.nil))) run_19_0
    · exact go (.cons _ _ _ _ (.int _ _) (.cons _ _ _ _ (.int _ _) (.nil))) run_19_1
    · exact go (.cons _ _ _ _ (.int _ _) (.cons _ _ _ _ (.int _ _) (.nil))) run_19_2
  · by_cases hb1 : a1 ≤ -1
    · exact go (.cons _ _ _ _ (.int _ _) (.cons _ _ _ _ (.ile _ _ _ hb1) (.nil))) run_20_le
    by_cases ha1 : 3 ≤ a1
    · exact go (.cons _ _ _ _ (.int _ _) (.cons _ _ _ _ (.ige _ _ _ ha1) (.nil))) run_20_ge
    have hc1 : a1 = 0 ∨ a1 = 1 ∨ a1 = 2 := by omega
    rcases hc1 with rfl | rfl | rfl
    · exact go (.cons _ _ _ _ (.int _ _) (.cons _ _ _ _ (.int _ _) (.nil))) run_20_0
    · exact go (.cons _ _ _ _ (.int _ _) (.cons _ _ _ _ (.int _ _) (.nil))) run_20_1
    · exact go (.cons _ _ _ _ (.int _ _) (.cons _ _ _ _ (.int _ _) (.nil))) run_20_2
  · by_cases hb1 : a1 ≤ -1
    · exact go (.cons _ _ _ _ (.int _ _) (.cons _ _ _ _ (.ile _ _ _ hb1) (.nil))) run_21_le
    by_cases ha1 : 3 ≤ a1
    · exact go (.cons _ _ _ _ (.int _ _) (.cons _ _ _ _ (.ige _ _ _ ha1) (.nil))) run_21_ge
    have hc1 : a1 = 0 ∨ a1 = 1 ∨ a1 = 2 := by omega
    rcases hc1 with rfl | rfl | rfl
    · exact go (.cons _ _ _ _ (.int _ _) (.cons _ _ _ _ (.int _ _) (.nil))) run_21_0
    · exact go (.cons _ _ _ _ (.int _ _) (.cons _ _ _ _ (.int _ _) (.nil))) run_21_1
    · exact go (.cons _ _ _ _ (.int _ _) (.cons _ _ _ _ (.int _ _) (.nil))) run_21_2
  · by_cases hb1 : a1 ≤ -1
    · exact go (.cons _ _ _ _ (.int _ _) (.cons _ _ _ _ (.ile _ _ _ hb1) (.nil))) run_22_le
    by_cases ha1 : 3 ≤ a1
    · exact go (.cons _ _ _ _ (.int _ _) (.cons _ _ _ _ (.ige _ _ _ ha1) (.nil))) run_22_ge
    have hc1 : a1 = 0 ∨ a1 = 1 ∨ a1 = 2 := by omega
    rcases hc1 with rfl | rfl | rfl
    · exact go (.cons _ _ _ _ (.int _ _) (.cons _ _ _ _ (.int _ _) (.nil))) run_22_0
    · exact go (.cons _ _ _ _ (.int _ _) (.cons _ _ _ _ (.int _ _) (.nil))) run_22_1
    · exact go (.cons _ _ _ _ (.int _ _) (.cons _ _ _ _ (.int _ _) (.nil))) run_22_2
  · by_cases hb1 : a1 ≤ -1
    · exact go (.cons _ _ _ _ (.int _ _) (.cons _ _ _ _ (.ile _ _ _ hb1) (.nil))) run_23_le
    by_cases ha1 : 3 ≤ a1
    · exact go (.cons _ _ _ _ (.int _ _) (.cons _ _ _ _ (.ige _ _ _ ha1) (.nil))) run_23_ge
    have hc1 : a1 = 0 ∨ a1 = 1 ∨ a1 = 2 := by omega
    rcases hc1 with rfl | rfl | rfl
    · exact go (.cons _ _ _ _ (.int _ _) (.cons _ _ _ _ (.int _ _) (.nil))) run_23_0
    · exact go (.cons _ _ _ _ (.int _ _) (.cons _ _ _ _ (.int _ _) (.nil))) run_23_1
    · exact go (.cons _ _ _ _ (.int _ _) (.cons _ _ _ _ (.int _ _) (.nil))) run_23_2
  · by_cases hb1 : a1 ≤ -1
    · exact go (.cons _ _ _ _ (.int _ _) (.cons _ _ _ _ (.ile _ _ _ hb1) (.nil))) run_24_le
    by_cases ha1 : 3 ≤ a1
    · exact go (.cons _ _ _ _ (.int _ _) (.cons _ _ _ _ (.ige _ _ _ ha1) (.nil))) run_24_ge
    have hc1 : a1 = 0 ∨ a1 = 1 ∨ a1 = 2 := by omega
    rcases hc1 with rfl | rfl | rfl
    · exact go (.cons _ _ _ _ (.int _ _) (.cons _ _ _ _ (.int _ _) (.nil))) run_24_0
    · exact go (.cons _ _ _ _ (.int _ _) (.cons _ _ _ _ (.int _ _) (.nil))) run_24_1
    · exact go (.cons _ _ _ _ (.int _ _) (.cons _ _ _ _ (.int _ _) (.nil))) run_24_2
  · by_cases hb1 : a1 ≤ -1
    · exact go (.cons _ _ _ _ (.int _ _) (.cons _ _ _ _ (.ile _ _ _ hb1) (.nil))) run_25_le
    by_cases ha1 : 3 ≤ a1
    · exact go (.cons _ _ _ _ (.int _ _) (.cons _ _ _ _ (.ige _ _ _ ha1) (.nil))) run_25_ge
    have hc1 : a1 = 0 ∨ a1 = 1 ∨ a1 = 2 := by omega
    rcases hc1 with rfl | rfl | rfl
    · exact go (.cons _ _ _ _ (.int _ _) (.cons _ _ _ _ (.int _ _) (.nil))) run_25_0
    · exact go (.cons _ _ _ _ (.int _ _) (.cons _ _ _ _ (.int _ _) (.nil))) run_25_1
    · exact go (.cons _ _ _ _ (.int _ _) (.cons _ _ _ _ (.int _ _) (.nil))) run_25_2
  · by_cases hb1 : a1 ≤ -1
    · exact go (.cons _ _ _ _ (.int _ _) (.cons _ _ _ _ (.ile _ _ _ hb1) (.nil))) run_26_le
    by_cases ha1 : 3 ≤ a1
    · exact go (.cons _ _ _ _ (.int _ _) (.cons _ _ _ _ (.ige _ _ _ ha1) (.nil))) run_26_ge
    have hc1 : a1 = 0 ∨ a1 = 1 ∨ a1 = 2 := by omega
    rcases hc1 with rfl | rfl | rfl
    · exact go (.cons _ _ _ _ (.int _ _) (.cons _ _ _ _ (.int _ _) (.nil))) run_26_0
    · exact go (.cons _ _ _ _ (.int _ _) (.cons _ _ _ _ (.int _ _) (.nil))) run_26_1
    · exact go (.cons _ _ _ _ (.int _ _) (.cons _ _ _ _ (.int _ _) (.nil))) run_26_2
  · by_cases hb1 : a1 ≤ -1
    · exact go (.cons _ _ _ _ (.int _ _) (.cons _ _ _ _ (.ile _ _ _ hb1) (.nil))) run_27_le
    by_cases ha1 : 3 ≤ a1
    · exact go (.cons _ _ _ _ (.int _ _) (.cons _ _ _ _ (.ige _ _ _ ha1) (.nil))) run_27_ge
    have hc1 : a1 = 0 ∨ a1 = 1 ∨ a1 = 2 := by omega
    rcases hc1 with rfl | rfl | rfl
    · exact go (.cons _ _ _ _ (.int _ _) (.cons _ _ _ _ (.int _ _) (.nil))) run_27_0
    · exact go (.cons _ _ _ _ (.int _ _) (.cons _ _ _ _ (.int _ _) (.nil))) run_27_1
    · exact go (.cons _ _ _ _ (.int _ _) (.cons _ _ _ _ (.int _ _) (.nil))) run_27_2
  · by_cases hb1 : a1 ≤ -1
    · exact go (.cons _ _ _ _ (.int _ _) (.cons _ _ _ _ (.ile _ _ _ hb1) (.nil))) run_28_le
    by_cases ha1 : 3 ≤ a1
    · exact go (.cons _ _ _ _ (.int _ _) (.cons _ _ _ _ (.ige _ _ _ ha1) (.nil))) run_28_ge
    have hc1 : a1 = 0 ∨ a1 = 1 ∨ a1 = 2 := by omega
    rcases hc1 with rfl | rfl | rfl
    · exact go (.cons _ _ _ _ (.int _ _) (.cons _ _ _ _ (.int _ _) (.nil))) run_28_0
    · exact go (.cons _ _ _ _ (.int _ _) (.cons _ _ _ _ (.int _ _) (.nil))) run_28_1
    · exact go (.cons _ _ _ _ (.int _ _) (.cons _ _ _ _ (.int _ _) (.nil))) run_28_2
  · by_cases hb1 : a1 ≤ -1
    · exact go (.cons _ _ _ _ (.int _ _) (.cons _ _ _ _ (.ile _ _ _ hb1) (.nil))) run_29_le
    by_cases ha1 : 3 ≤ a1
    · exact go (.cons _ _ _ _ (.int _ _) (.cons _ _ _ _ (.ige _ _ _ ha1) (.nil))) run_29_ge
    have hc1 : a1 = 0 ∨ a1 = 1 ∨ a1 = 2 := by omega
    rcases hc1 with rfl | rfl | rfl
    · exact go (.cons _ _ _ _ (.int _ _) (.cons _ _ _ _ (.int _ _) (.nil))) run_29_0
    · exact go (.cons _ _ _ _ (.int _ _) (.cons _ _ _ _ (.int _ _) (.nil))) run_29_1
    · exact go (.cons _ _ _ _ (.int _ _) (.cons _ _ _ _ (.int _ _) (.nil))) run_29_2
  · by_cases hb1 : a1 ≤ -1
    · exact go (.cons _ _ _ _ (.int _ _) (.cons _ _ _ _ (.ile _ _ _ hb1) (.nil))) run_30_le
    by_cases ha1 : 3 ≤ a1
    · exact go (.cons _ _ _ _ (.int _ _) (.cons _ _ _ _ (.ige _ _ _ ha1) (.nil))) run_30_ge
    have hc1 : a1 = 0 ∨ a1 = 1 ∨ a1 = 2 := by omega
    rcases hc1 with rfl | rfl | rfl
    · exact go (.cons _ _ _ _ (.int _ _) (.cons _ _ _ _ (.int _ _) (.nil))) run_30_0
    · exact go (.cons _ _ _ _ (.int _ _) (.cons _ _ _ _ (.int _ _) (.nil))) run_30_1
    · exact go (.cons _ _ _ _ (.int _ _) (.cons _ _ _ _ (.int _ _) (.nil))) run_30_2
  · by_cases hb1 : a1 ≤ -1
    · exact go (.cons _ _ _ _ (.int _ _) (.cons _ _ _ _ (.ile _ _ _ hb1) (.nil))) run_31_le
    by_cases ha1 : 3 ≤ a1
    · exact go (.cons _ _ _ _ (.int _ _) (.cons _ _ _ _ (.ige _ _ _ ha1) (.nil))) run_31_ge
    have hc1 : a1 = 0 ∨ a1 = 1 ∨ a1 = 2 := by omega
    rcases hc1 with rfl | rfl | rfl
    · exact go (.cons _ _ _ _ (.int _ _) (.cons _ _ _ _ (.int _ _) (.nil))) run_31_0
    · exact go (.cons _ _ _ _ (.int _ _) (.cons _ _ _ _ (.int _ _) (.nil))) run_31_1
    · exact go (.cons _ _ _ _ (.int _ _) (.cons _ _ _ _ (.int _ _) (.nil))) run_31_2
  · by_cases hb1 : a1 ≤ -1
    · exact go (.cons _ _ _ _ (.int _ _) (.cons _ _ _ _ (.ile _ _ _ hb1) (.nil))) run_32_le
    by_cases ha1 : 3 ≤ a1
    · exact go (.cons _ _ _ _ (.int _ _) (.cons _ _ _ _ (.ige _ _ _ ha1) (.nil))) run_32_ge
    have hc1 : a1 = 0 ∨ a1 = 1 ∨ a1 = 2 := by omega
    rcases hc1 with rfl | rfl | rfl
    · exact go (.cons _ _ _ _ (.int _ _) (.cons _ _ _ _ (.int _ _) (.nil))) run_32_0
    · exact go (.cons _ _ _ _ (.int _ _) (.cons _ _ _ _ (.int _ _) (.nil))) run_32_1
    · exact go (.cons _ _ _ _ (.int _ _) (.cons _ _ _ _ (.int _ _) (.nil))) run_32_2
  · by_cases hb1 : a1 ≤ -1
    · exact go (.cons _ _ _ _ (.int _ _) (.cons _ _ _ _ (.ile _ _ _ hb1) (.nil))) run_33_le
    by_cases ha1 : 3 ≤ a1
    · exact go (.cons _ _ _ _ (.int _ _) (.cons _ _ _ _ (.ige _ _ _ ha1) (.nil))) run_33_ge
    have hc1 : a1 = 0 ∨ a1 = 1 ∨ a1 = 2 := by omega
    rcases hc1 with rfl | rfl | rfl
    · exact go (.cons _ _ _ _ (.int _ _) (.cons _ _ _ _ (.int _ _) (.nil))) run_33_0
    · exact go (.cons _ _ _ _ (.int _ _) (.cons _ _ _ _ (.int _ _) (.nil))) run_33_1
    · exact go (.cons _ _ _ _ (.int _ _) (.cons _ _ _ _ (.int _ _) (.nil))) run_33_2
  · by_cases hb1 : a1 ≤ -1
    · exact go (.cons _ _ _ _ (.int _ _) (.cons _ _ _ _ (.ile _ _ _ hb1) (.nil))) run_34_le
    by_cases ha1 : 3 ≤ a1
    · exact go (.cons _ _ _ _ (.int _ _) (.cons _ _ _ _ (.ige _ _ _ ha1) (.nil))) run_34_ge
    have hc1 : a1 = 0 ∨ a1 = 1 ∨ a1 = 2 := by omega
    rcases hc1 with rfl | rfl | rfl
    · exact go (.cons _ _ _ _ (.int _ _) (.cons _ _ _ _ (.int _ _) (.nil))) run_34_0
    · exact go (.cons _ _ _ _ (.int _ _) (.cons _ _ _ _ (.int _ _) (.nil))) run_34_1
    · exact go (.cons _ _ _ _ (.int _ _) (.cons _ _ _ _ (.int _ _) (.nil))) run_34_2
  · by_cases hb1 : a1 ≤ -1
    · exact go (.cons _ _ _ _ (.int _ _) (.cons _ _ _ _ (.ile _ _ _ hb1) (.nil))) run_35_le
    by_cases ha1 : 3 ≤ a1
    · exact go (.cons _ _ _ _ (.int _ _) (.cons _ _ _ _ (.ige _ _ _ ha1) (.nil))) run_35_ge
    have hc1 : a1 = 0 ∨ a1 = 1 ∨ a1 = 2 := by omega
    rcases hc1 with rfl | rfl | rfl
    · exact go (.cons _ _ _ _ (.int _ _) (.cons _ _ _ _ (.int _ _) (.nil))) run_35_0
    · exact go (.cons _ _ _ _ (.int _ _) (.cons _ _ _ _ (.int _ _) (.nil))) run_35_1
    · exact go (.cons _ _ _ _ (.int _ _) (.cons _ _ _ _ (.int _ _) (.nil))) run_35_2
  · by_cases hb1 : a1 ≤ -1
    · exact go (.cons _ _ _ _ (.int _ _) (.cons _ _ _ _ (.ile _ _ _ hb1) (.nil))) run_36_le
    by_cases ha1 : 3 ≤ a1
    · exact go (.cons _ _ _ _ (.int _ _) (.cons _ _ _ _ (.ige _ _ _ ha1) (.nil))) run_36_ge
    have hc1 : a1 = 0 ∨ a1 = 1 ∨ a1 = 2 := by omega
    rcases hc1 with rfl | rfl | rfl
    · exact go (.cons _ _ _ _ (.int _ _) (.cons _ _ _ _ (.int _ _) (.nil))) run_36_0
    · exact go (.cons _ _ _ _ (.int _ _) (.cons _ _ _ _ (.int _ _) (.nil))) run_36_1
    · exact go (.cons _ _ _ _ (.int _ _) (.cons _ _ _ _ (.int _ _) (.nil))) run_36_2
  · by_cases hb1 : a1 ≤ -1
    · exact go (.cons _ _ _ _ (.int _ _) (.cons _ _ _ _ (.ile _ _ _ hb1) (.nil))) run_37_le
    by_cases ha1 : 3 ≤ a1
    · exact go (.cons _ _ _ _ (.int _ _) (.cons _ _ _ _ (.ige _ _ _ ha1) (.nil))) run_37_ge
    have hc1 : a1 = 0 ∨ a1 = 1 ∨ a1 = 2 := by omega
    rcases hc1 with rfl | rfl | rfl
    · exact go (.cons _ _ _ _ (.int _ _) (.cons _ _ _ _ (.int _ _) (.nil))) run_37_0
    · exact go (.cons _ _ _ _ (.int _ _) (.cons _ _ _ _ (.int _ _) (.nil))) run_37_1
    · exact go (.cons _ _ _ _ (.int _ _) (.cons _ _ _ _ (.int _ _) (.nil))) run_37_2
  · by_cases hb1 : a1 ≤ -1
    · exact go (.cons _ _ _ _ (.int _ _) (.cons _ _ _ _ (.ile _ _ _ hb1) (.nil))) run_38_le
    by_cases ha1 : 3 ≤ a1
    · exact go (.cons _ _ _ _ (.int _ _) (.cons _ _ _ _ (.ige _ _ _ ha1) (.nil))) run_38_ge
    have hc1 : a1 = 0 ∨ a1 = 1 ∨ a1 = 2 := by omega
    rcases hc1 with rfl | rfl | rfl
    · exact go (.cons _ _ _ _ (.int _ _) (.cons _ _ _ _ (.int _ _) (.nil))) run_38_0
    · exact go (.cons _ _ _ _ (.int _ _) (.cons _ _ _ _ (.int _ _) (.nil))) run_38_1
    · exact go (.cons _ _ _ _ (.int _ _) (.cons _ _ _ _ (.int _ _) (.nil))) run_38_2
  · by_cases hb1 : a1 ≤ -1
    · exact go (.cons _ _ _ _ (.int _ _) (.cons _ _ _ _ (.ile _ _ _ hb1) (.nil))) run_39_le
    by_cases ha1 : 3 ≤ a1
    · exact go (.cons _ _ _ _ (.int _ _) (.cons _ _ _ _ (.ige _ _ _ ha1) (.nil))) run_39_ge
    have hc1 : a1 = 0 ∨ a1 = 1 ∨ a1 = 2 := by omega
    rcases hc1 with rfl | rfl | rfl
    · exact go (.cons _ _ _ _ (.int _ _) (.cons _ _ _ _ (.int _ _) (.nil))) run_39_0
    · exact go (.cons _ _ _ _ (.int _ _) (.cons _ _ _ _ (.int _ _) (.nil))) run_39_1
    · exact go (.cons _ _ _ _ (.int _ _) (.cons _ _ _ _ (.int _ _) (.nil))) run_39_2
  · by_cases hb1 : a1 ≤ -1
    · exact go (.cons _ _ _ _ (.int _ _) (.cons _ _ _ _ (.ile _ _ _ hb1) (.nil))) run_40_le
    by_cases ha1 : 3 ≤ a1
    · exact go (.cons _ _ _ _ (.int _ _) (.cons _ _ _ _ (.ige _ _ _ ha1) (.nil))) run_40_ge
    have hc1 : a1 = 0 ∨ a1 = 1 ∨ a1 = 2 := by omega
    rcases hc1 with rfl | rfl | rfl
    · exact go (.cons _ _ _ _ (.int _ _) (.cons _ _ _ _ (.int _ _) (.nil))) run_40_0
    · exact go (.cons _ _ _ _ (.int _ _) (.cons _ _ _ _ (.int _ _) (.nil))) run_40_1
    · exact go (.cons _ _ _ _ (.int _ _) (.cons _ _ _ _ (.int _ _) (.nil))) run_40_2
  · by_cases hb1 : a1 ≤ -1
    · exact go (.cons _ _ _ _ (.int _ _) (.cons _ _ _ _ (.ile _ _ _ hb1) (.nil))) run_41_le
    by_cases ha1 : 3 ≤ a1
    · exact go (.cons _ _ _ _ (.int _ _) (.cons _ _ _ _ (.ige _ _ _ ha1) (.nil))) run_41_ge
    have hc1 : a1 = 0 ∨ a1 = 1 ∨ a1 = 2 := by omega
    rcases hc1 with rfl | rfl | rfl
    · exact go (.cons _ _ _ _ (.int _ _) (.cons _ _ _ _ (.int _ _) (.nil))) run_41_0
    · exact go (.cons _ _ _ _ (.int _ _) (.cons _ _ _ _ (.int _ _) (.nil))) run_41_1
    · exact go (.cons _ _ _ _ (.int _ _) (.cons _ _ _ _ (.int _ _) (.nil))) run_41_2
  · by_cases hb1 : a1 ≤ -1
    · exact go (.cons _ _ _ _ (.int _ _) (.cons _ _ _ _ (.ile _ _ _ hb1) (.nil))) run_42_le
    by_cases ha1 : 3 ≤ a1
    · exact go (.cons _ _ _ _ (.int _ _) (.cons _ _ _ _ (.ige _ _ _ ha1) (.nil))) run_42_ge
    have hc1 : a1 = 0 ∨ a1 = 1 ∨ a1 = 2 := by omega
    rcases hc1 with rfl | rfl | rfl
    · exact go (.cons _ _ _ _ (.int _ _) (.cons _ _ _ _ (.int _ _) (.nil))) run_42_0
    · exact go (.cons _ _ _ _ (.int _ _) (.cons _ _ _ _ (.int _ _) (.nil))) run_42_1
    · exact go (.cons _ _ _ _ (.int _ _) (.cons _ _ _ _ (.int _ _) (.nil))) run_42_2
  · by_cases hb1 : a1 ≤ -1
    · exact go (.cons _ _ _ _ (.int _ _) (.cons _ _ _ _ (.ile _ _ _ hb1) (.nil))) run_43_le
    by_cases ha1 : 3 ≤ a1
    · exact go (.cons _ _ _ _ (.int _ _) (.cons _ _ _ _ (.ige _ _ _ ha1) (.nil))) run_43_ge
    have hc1 : a1 = 0 ∨ a1 = 1 ∨ a1 = 2 := by omega
    rcases hc1 with rfl | rfl | rfl
    · exact go (.cons _ _ _ _ (.int _ _) (.cons _ _ _ _ (.int _ _) (.nil))) run_43_0
    · exact go (.cons _ _ _ _ (.int _ _) (.cons _ _ _ _ (.int _ _) (.nil))) run_43_1
    · exact go (.cons _ _ _ _ (.int _ _) (.cons _ _ _ _ (.int _ _) (.nil))) run_43_2
  · by_cases hb1 : a1 ≤ -1
    · exact go (.cons _ _ _ _ (.int _ _) (.cons _ _ _ _ (.ile _ _ _ hb1) (.nil))) run_44_le
    by_cases ha1 : 3 ≤ a1
    · exact go (.cons _ _ _ _ (.int _ _) (.cons _ _ _ _ (.ige _ _ _ ha1) (.nil))) run_44_ge
    have hc1 : a1 = 0 ∨ a1 = 1 ∨ a1 = 2 := by omega
    rcases hc1 with rfl | rfl | rfl
    · exact go (.cons _ _ _ _ (.int _ _) (.cons _ _ _ _ (.int _ _) (.nil))) run_44_0
    · exact go (.cons _ _ _ _ (.int _ _) (.cons _ _ _ _ (.int _ _) (.nil))) run_44_1
    · exact go (.cons _ _ _ _ (.int _ _) (.cons _ _ _ _ (.int _ _) (.nil))) run_44_2
  · by_cases hb1 : a1 ≤ -1
    · exact go (.cons _ _ _ _ (.int _ _) (.cons _ _ _ _ (.ile _ _ _ hb1) (.nil))) run_45_le
    by_cases ha1 : 3 ≤ a1
    · exact go (.cons _ _ _ _ (.int _ _) (.cons _ _ _ _ (.ige _ _ _ ha1) (.nil))) run_45_ge
    have hc1 : a1 = 0 ∨ a1 = 1 ∨ a1 = 2 := by omega
    rcases hc1 with rfl | rfl | rfl
    · exact go (.cons _ _ _ _ (.int _ _) (.cons _ _ _ _ (.int _ _) (.nil))) run_45_0
    · exact go (.cons _ _ _ _ (.int _ _) (.cons _ _ _ _ (.int _ _) (.nil))) run_45_1
    · exact go (.cons _ _ _ _ (.int _ _) (.cons _ _ _ _ (.int _ _) (.nil))) run_45_2
  · by_cases hb1 : a1 ≤ -1
    · exact go (.cons _ _ _ _ (.int _ _) (.cons _ _ _ _ (.ile _ _ _ hb1) (.nil))) run_46_le
    by_cases ha1 : 3 ≤ a1
    · exact go (.cons _ _ _ _ (.int _ _) (.cons _ _ _ _ (.ige _ _ _ ha1) (.nil))) run_46_ge
    have hc1 : a1 = 0 ∨ a1 = 1 ∨ a1 = 2 := by omega
    rcases hc1 with rfl | rfl | rfl
    · exact go (.cons _ _ _ _ (.int _ _) (.cons _ _ _ _ (.int _ _) (.nil))) run_46_0
    · exact go (.cons _ _ _ _ (.int _ _) (.cons _ _ _ _ (.int _ _) (.nil))) run_46_1
    · exact go (.cons _ _ _ _ (.int _ _) (.cons _ _ _ _ (.int _ _) (.nil))) run_46_2
  · by_cases hb1 : a1 ≤ -1
    · exact go (.cons _ _ _ _ (.int _ _) (.cons _ _ _ _ (.ile _ _ _ hb1) (.nil))) run_47_le
    by_cases ha1 : 3 ≤ a1
    · exact go (.cons _ _ _ _ (.int _ _) (.cons _ _ _ _ (.ige _ _ _ ha1) (.nil))) run_47_ge
    have hc1 : a1 = 0 ∨ a1 = 1 ∨ a1 = 2 := by omega
    rcases hc1 with rfl | rfl | rfl
    · exact go (.cons _ _ _ _ (.int _ _) (.cons _ _ _ _ (.int _ _) (.nil))) run_47_0
    · exact go (.cons _ _ _ _ (.int _ _) (.cons _ _ _ _ (.int _ _) (.nil))) run_47_1
    · exact go (.cons _ _ _ _ (.int _ _) (.cons _ _ _ _ (.int _ _) (.nil))) run_47_2
  · by_cases hb1 : a1 ≤ -1
    · exact go (.cons _ _ _ _ (.int _ _) (.cons _ _ _ _ (.ile _ _ _ hb1) (.nil))) run_48_le
    by_cases ha1 : 3 ≤ a1
    · exact go (.cons _ _ _ _ (.int _ _) (.cons _ _ _ _ (.ige _ _ _ ha1) (.nil))) run_48_ge
    have hc1 : a1 = 0 ∨ a1 = 1 ∨ a1 = 2 := by omega
    rcases hc1 with rfl | rfl | rfl
    · exact go (.cons _ _ _ _ (.int _ _) (.cons _ _ _ _ (.int _ _) (.nil))) run_48_0
    · exact go (.cons _ _ _ _ (.int _ _) (.cons _ _ _ _ (.int _ _) (.nil))) run_48_1
    · exact go (.cons _ _ _ _ (.int _ _) (.cons _ _ _ _ (.int _ _) (.nil))) run_48_2
  · by_cases hb1 : a1 ≤ -1
    · exact go (.cons _ _ _ _ (.int _ _) (.cons _ _ _ _ (.ile _ _ _ hb1) (.nil))) run_49_le
    by_cases ha1 : 3 ≤ a1
    · exact go (.cons _ _ _ _ (.int _ _) (.cons _ _ _ _ (.ige _ _ _ ha1) (.nil))) run_49_ge
    have hc1 : a1 = 0 ∨ a1 = 1 ∨ a1 = 2 := by omega
    rcases hc1 with rfl | rfl | rfl
    · exact go (.cons _ _ _ _ (.int _ _) (.cons _ _ _ _ (.int _ _) (.nil))) run_49_0
    · exact go (.cons _ _ _ _ (.int _ _) (.cons _ _ _ _ (.int _ _) (.nil))) run_49_1
    · exact go (.cons _ _ _ _ (.int _ _) (.cons _ _ _ _ (.int _ _) (.nil))) run_49_2
  · by_cases hb1 : a1 ≤ -1
    · exact go (.cons _ _ _ _ (.int _ _) (.cons _ _ _ _ (.ile _ _ _ hb1) (.nil))) run_50_le
    by_cases ha1 : 3 ≤ a1
    · exact go (.cons _ _ _ _ (.int _ _) (.cons _ _ _ _ (.ige _ _ _ ha1) (.nil))) run_50_ge
    have hc1 : a1 = 0 ∨ a1 = 1 ∨ a1 = 2 := by omega
    rcases hc1 with rfl | rfl | rfl
    · exact go (.cons _ _ _ _ (.int _ _) (.cons _ _ _ _ (.int _ _) (.nil))) run_50_0
    · exact go (.cons _ _ _ _ (.int _ _) (.cons _ _ _ _ (.int _ _) (.nil))) run_50_1
    · exact go (.cons _ _ _ _ (.int _ _) (.cons _ _ _ _ (.int _ _) (.nil))) run_50_2
  · by_cases hb1 : a1 ≤ -1
    · exact go (.cons _ _ _ _ (.int _ _) (.cons _ _ _ _ (.ile _ _ _ hb1) (.nil))) run_51_le
    by_cases ha1 : 3 ≤ a1
    · exact go (.cons _ _ _ _ (.int _ _) (.cons _ _ _ _ (.ige _ _ _ ha1) (.nil))) run_51_ge
    have hc1 : a1 = 0 ∨ a1 = 1 ∨ a1 = 2 := by omega
    rcases hc1 with rfl | rfl | rfl
    · exact go (.cons _ _ _ _ (.int _ _) (.cons _ _ _ _ (.int _ _) (.nil))) run_51_0
    · exact go (.cons _ _ _ _ (.int _ _) (.cons _ _ _ _ (.int _ _) (.nil))) run_51_1
    · exact go (.cons _ _ _ _ (.int _ _) (.cons _ _ _ _ (.int _ _) (.nil))) run_51_2
  · by_cases hb1 : a1 ≤ -1
    · exact go (.cons _ _ _ _ (.int _ _) (.cons _ _ _ _ (.ile _ _ _ hb1) (.nil))) run_52_le
    by_cases ha1 : 3 ≤ a1
    · exact go (.cons _ _ _ _ (.int _ _) (.cons _ _ _ _ (.ige _ _ _ ha1) (.nil))) run_52_ge
    have hc1 : a1 = 0 ∨ a1 = 1 ∨ a1 = 2 := by omega
    rcases hc1 with rfl | rfl | rfl
    · exact go (.cons _ _ _ _ (.int _ _) (.cons _ _ _ _ (.int _ _) (.nil))) run_52_0
    · exact go (.cons _ _ _ _ (.int _ _) (.cons _ _ _ _ (.int _ _) (.nil))) run_52_1
    · exact go (.cons _ _ _ _ (.int _ _) (.cons _ _ _ _ (.int _ _) (.nil))) run_52_2
  · by_cases hb1 : a1 ≤ -1
    · exact go (.cons _ _ _ _ (.int _ _) (.cons _ _ _ _ (.ile _ _ _ hb1) (.nil))) run_53_le
    by_cases ha1 : 3 ≤ a1
    · exact go (.cons _ _ _ _ (.int _ _) (.cons _ _ _ _ (.ige _ _ _ ha1) (.nil))) run_53_ge
    have hc1 : a1 = 0 ∨ a1 = 1 ∨ a1 = 2 := by omega
    rcases hc1 with rfl | rfl | rfl
    · exact go (.cons _ _ _ _ (.int _ _) (.cons _ _ _ _ (.int _ _) (.nil))) run_53_0
    · exact go (.cons _ _ _ _ (.int _ _) (.cons _ _ _ _ (.int _ _) (.nil))) run_53_1
    · exact go (.cons _ _ _ _ (.int _ _) (.cons _ _ _ _ (.int _ _) (.nil))) run_53_2
  · by_cases hb1 : a1 ≤ -1
    · exact go (.cons _ _ _ _ (.int _ _) (.cons _ _ _ _ (.ile _ _ _ hb1) (.nil))) run_54_le
    by_cases ha1 : 3 ≤ a1
    · exact go (.cons _ _ _ _ (.int _ _) (.cons _ _ _ _ (.ige _ _ _ ha1) (.nil))) run_54_ge
    have hc1 : a1 = 0 ∨ a1 = 1 ∨ a1 = 2 := by omega
    rcases hc1 with rfl | rfl | rfl
    · exact go (.cons _ _ _ _ (.int _ _) (.cons _ _ _ _ (.int _ _) (.nil))) run_54_0
    · exact go (.cons _ _ _ _ (.int _ _) (.cons _ _ _ _ (.int _ _) (.nil))) run_54_1
    · exact go (.cons _ _ _ _ (.int _ _) (.cons _ _ _ _ (.int _ _) (.nil))) run_54_2
  · by_cases hb1 : a1 ≤ -1
    · exact go (.cons _ _ _ _ (.int _ _) (.cons _ _ _ _ (.ile _ _ _ hb1) (.nil))) run_55_le
    by_cases ha1 : 3 ≤ a1
    · exact go (.cons _ _ _ _ (.int _ _) (.cons _ _ _ _ (.ige _ _ _ ha1) (.nil))) run_55_ge
    have hc1 : a1 = 0 ∨ a1 = 1 ∨ a1 = 2 := by omega
    rcases hc1 with rfl | rfl | rfl
    · exact go (.cons _ _ _ _ (.int _ _) (.cons _ _ _ _ (.int _ _) (.nil))) run_55_0
    · exact go (.cons _ _ _ _ (.int _ _) (.cons _ _ _ _ (.int _ _) (.nil))) run_55_1
    · exact go (.cons _ _ _ _ (.int _ _) (.cons _ _ _ _ (.int _ _) (.nil))) run_55_2
  · by_cases hb1 : a1 ≤ -1
    · exact go (.cons _ _ _ _ (.int _ _) (.cons _ _ _ _ (.ile _ _ _ hb1) (.nil))) run_56_le
    by_cases ha1 : 3 ≤ a1
    · exact go (.cons _ _ _ _ (.int _ _) (.cons _ _ _ _ (.ige _ _ _ ha1) (.nil))) run_56_ge
    have hc1 : a1 = 0 ∨ a1 = 1 ∨ a1 = 2 := by omega
    rcases hc1 with rfl | rfl | rfl
    · exact go (.cons _ _ _ _ (.int _ _) (.cons _ _ _ _ (.int _ _) (.nil))) run_56_0
    · exact go (.cons _ _ _ _ (.int _ _) (.cons _ _ _ _ (.int _ _) (.nil))) run_56_1
    · exact go (.cons _ _ _ _ (.int _ _) (.cons _ _ _ _ (.int _ _) (.nil))) run_56_2
  · by_cases hb1 : a1 ≤ -1
    · exact go (.cons _ _ _ _ (.int _ _) (.cons _ _ _ _ (.ile _ _ _ hb1) (.nil))) run_57_le
    by_cases ha1 : 3 ≤ a1
    · exact go (.cons _ _ _ _ (.int _ _) (.cons _ _ _ _ (.ige _ _ _ ha1) (.nil))) run_57_ge
    have hc1 : a1 = 0 ∨ a1 = 1 ∨ a1 = 2 := by omega
    rcases hc1 with rfl | rfl | rfl
    · exact go (.cons _ _ _ _ (.int _ _) (.cons _ _ _ _ (.int _ _) (.nil))) run_57_0
    · exact go (.cons _ _ _ _ (.int _ _) (.cons _ _ _ _ (.int _ _) (.nil))) run_57_1
    · exact go (.cons _ _ _ _ (.int _ _) (.cons _ _ _ _ (.int _ _) (.nil))) run_57_2
  · by_cases hb1 : a1 ≤ -1
    · exact go (.cons _ _ _ _ (.int _ _) (.cons _ _ _ _ (.ile _ _ _ hb1) (.nil))) run_58_le
    by_cases ha1 : 3 ≤ a1
    · exact go (.cons _ _ _ _ (.int _ _) (.cons _ _ _ _ (.ige _ _ _ ha1) (.nil))) run_58_ge
    have hc1 : a1 = 0 ∨ a1 = 1 ∨ a1 = 2 := by omega
    rcases hc1 with rfl | rfl | rfl
    · exact go (.cons _ _ _ _ (.int _ _) (.cons _ _ _ _ (.int _ _) (.nil))) run_58_0
    · exact go (.cons _ _ _ _ (.int _ _) (.cons _ _ _ _ (.int _ _) (.nil))) run_58_1
    · exact go (.cons _ _ _ _ (.int _ _) (.cons _ _ _ _ (.int _ _) (.nil))) run_58_2
  · by_cases hb1 : a1 ≤ -1
    · exact go (.cons _ _ _ _ (.int _ _) (.cons _ _ _ _ (.ile _ _ _ hb1) (.nil))) run_59_le
    by_cases ha1 : 3 ≤ a1
    · exact go (.cons _ _ _ _ (.int _ _) (.cons _ _ _ _ (.ige _ _ _ ha1) (.nil))) run_59_ge
    have hc1 : a1 = 0 ∨ a1 = 1 ∨ a1 = 2 := by omega
    rcases hc1 with rfl | rfl | rfl
    · exact go (.cons _ _ _ _ (.int _ _) (.cons _ _ _ _ (.int _ _) (.nil))) run_59_0
    · exact go (.cons _ _ _ _ (.int _ _) (.cons _ _ _ _ (.int _ _) (.nil))) run_59_1
    · exact go (.cons _ _ _ _ (.int _ _) (.cons _ _ _ _ (.int _ _) (.nil))) run_59_2
  · by_cases hb1 : a1 ≤ -1
    · exact go (.cons _ _ _ _ (.int _ _) (.cons _ _ _ _ (.ile _ _ _ hb1) (.nil))) run_60_le
    by_cases ha1 : 3 ≤ a1
    · exact go (.cons _ _ _ _ (.int _ _) (.cons _ _ _ _ (.ige _ _ _ ha1) (.nil))) run_60_ge
    have hc1 : a1 = 0 ∨ a1 = 1 ∨ a1 = 2 := by omega
    rcases hc1 with rfl | rfl | rfl
    · exact go (.cons _ _ _ _ (.int _ _) (.cons _ _ _ _ (.int _ _) (.nil))) run_60_0
    · exact go (.cons _ _ _ _ (.int _ _) (.cons _ _ _ _ (.int _ _) (.nil))) run_60_1
    · exact go (.cons _ _ _ _ (.int _ _) (.cons _ _ _ _ (.int _ _) (.nil))) run_60_2

/-! ### THE ROW's STEP: WRITTEN OUT: LEAVE IT -/
set_option maxRecDepth 100000 in
theorem lifted (os : Os) (started : os.Started) (H : Type) (enc : TypeId × Value → H) :
    ReturnsInHanded {} Try.checked os 3 .any (Rows.parseDeepSpec.pre6 enc Try.prog Try.f3 Rows.parseDeepRow.domain false) (Rows.parseDeepSpec.post enc Try.prog Try.f3 false true false false) := by
  refine returnsInHanded_of_change (C := Try.checked) own started (by kernel_rfl) Try.func3
    (ChangeSpec.witness6 (enc := enc) (C := Try.checked) false ⟨#[], #[.int .i64 0, .int .i64 0], []⟩ 8 (by kernel_rfl) (by kernel_rfl) (by kernel_rfl) (by kernel_rfl)) ?_
  intro W base args ds gs before hval0 hW hcnd _
  have hval : ∀ (j : Nat) t v, Try.f3.params[j]? = some t → args[j]? = some v → Value.okWide Try.prog W .any base t v := hval0
  have hW' := hW
  obtain ⟨p, q, hA0, hV, rfl, hfz, hnd⟩ := hW
  have hA : DataW.TrodAll enc Try.prog W 0 (fun _ => true) true Try.f3.params.toList args.toList ds p := hA0
  rw [Try.params3] at hA hval
  obtain ⟨v0, vs0, d0, ds0, p0, q0, hargs, rfl, rfl, h0, r0⟩ := trodAll_cons hA
  obtain ⟨v1, vs1, d1, ds1, p1, q1, rfl, rfl, rfl, h1, r1⟩ := trodAll_cons r0
  obtain ⟨rfl, rfl, rfl⟩ := trodAll_nil r1
  obtain rfl : args = #[v0, v1] := by cases args; simp_all
  obtain ⟨rfl, rfl⟩ := trodVars_none hV
  obtain ⟨a0, rfl, rfl, rfl, w0⟩ := open_int Try.underlying3 (hval 0 3 v0 rfl rfl) h0
  obtain ⟨a1, rfl, rfl, rfl, w1⟩ := open_int Try.underlying3 (hval 1 3 v1 rfl rfl) h1
  clear hA0 hval0
  simp only [List.append_nil] at hW'
  refine (walk a0 a1 w0 w1 W).mono fun e W' ⟨he, hg⟩ => ?_
  subst he
  exact ⟨_, rfl, post_below (pa := []) (pv := []) hW' (fun _ _ _ => (trodAll_cons_mk (shut_bool Try.underlying4 _) trodAll_mk0)) (fun sp _ => (trodAll_cons_mk (shut_int Try.underlying3 w0) (trodAll_cons_mk (shut_int Try.underlying3 w1) trodAll_mk0))) (fun _ _ => rfl) rfl
    hg (ok_one (by kernel_rfl) rfl (okWide_bool_mk Try.underlying4 _))⟩

theorem over : Rows.parseDeepRow.holds Try.pinned (OpenSpec.ofChange Rows.parseDeepSpec) :=
  OpenClaim.holds_of_wide 3 Try.f3 rfl rfl rfl rfl rfl rfl rfl ⟨rfl, rfl, rfl, rfl, rfl⟩ rfl rfl rfl rfl rfl (by kernel_rfl) Try.func3 facts
    (of_decide_eq_true (by kernel_rfl)) (by unfold Func.isWrapper; first | (rw [if_pos (by decide +kernel)]; kernel_rfl) | (rw [if_neg (by decide +kernel)]; exact ⟨rfl, rfl⟩))
    (fun os started H enc _ => lifted os started H enc)

/-- ████ THE STATEMENT ████ -/
theorem proved : Rows.ParseDeepSaid :=
  over
#print axioms proved
end Go.Proofs.Ytmclfljfkglenaa.parseDeep
