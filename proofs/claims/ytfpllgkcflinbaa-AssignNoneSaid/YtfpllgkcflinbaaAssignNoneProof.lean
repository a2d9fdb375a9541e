/- The law AssignNone of the document returns true for every input, and its arguments read behind the call as they read before. No condition. -/
import Derived.Test.YtfpllgkcflinbaaRows
import Derived.WalkKit
import Derived.ProofKit
import Derived.OpenShut
import Derived.Below
import Derived.ChangeSame
import Derived.Test.YtfpllgkcflinbaaAssignNoneBase
import Derived.Test.YtfpllgkcflinbaaAssignNoneRuns0
import Derived.Test.YtfpllgkcflinbaaAssignNoneRuns1
import Derived.Test.YtfpllgkcflinbaaAssignNoneRuns2
import Derived.Test.YtfpllgkcflinbaaAssignNoneRuns3
import Derived.Test.YtfpllgkcflinbaaAssignNoneRuns4
import Derived.Test.YtfpllgkcflinbaaAssignNoneRuns5
import Derived.Test.YtfpllgkcflinbaaAssignNoneRuns6
import Derived.Test.YtfpllgkcflinbaaAssignNoneRuns7
import Derived.Test.YtfpllgkcflinbaaAssignNoneRuns8
import Derived.Test.YtfpllgkcflinbaaChecked
import Derived.Test.YtfpllgkcflinbaaAssignNoneFacts
namespace Go.Proofs.Ytfpllgkcflinbaa.assignNone
open Nm Go.ChangeShapes Go.WideShapes Go.ChangeAt Go.RowKit
set_option linter.unusedVariables false      -- a walk need not use every 'w<i>' (that an integer argument fits its kind)

theorem own : ownKnob Try.prog.godebug = none := by kernel_rfl

theorem mixed : Try.prog.follows .mixedOrders = true := by kernel_rfl
theorem tabOK0 : TabOK Try.prog tab0 := tab_add mixed Try.codeOk tab_none kept_alive
section
variable {H : Type} {enc : TypeId × Value → H} {P : Program}
/-- what a call leaves that turned nothing that was there -/
theorem post_below {f : Func} {s : ChangeSpec} {apart fresh handsOn again : Bool} {W W' : World} {args : Array Value} {v : Value} {ds gs : List (DataW H)} {before pa pv : List MemPlace}
    (hW : DataW.Whole enc P f.params.toList s.vars apart W args.toList ds gs before)
    (hres : ∀ (b : Nat) (sp : Nat → Bool) (hd : Bool), DataW.TrodAll enc P W' b sp hd f.resultTypes.toList (v.resultList f.resultTypes.size) (s.fn H (ds ++ gs)).results [])
    (hargs : ∀ sp : Nat → Bool, (∀ p ∈ before, sp p.block = true) → DataW.TrodAll enc P W' 0 sp true f.params.toList args.toList (s.fn H (ds ++ gs)).args pa)
    (hvars : ∀ sp : Nat → Bool, (∀ p ∈ before, sp p.block = true) → DataW.TrodVars enc P W' sp s.vars (s.fn H (ds ++ gs)).vars pv)
    (hps : before = pa ++ pv) (hb : Below W.heap.size W W')
    (hok : ∀ (j : Nat) (t : TypeId) (r : Value), f.resultTypes[j]? = some t → (v.resultList f.resultTypes.size)[j]? = some r → Value.okWide P W' .any 0 t r) :
    s.post enc P f apart fresh handsOn again W args v W' := by
  have hlt : ∀ p ∈ before, p.block < W.heap.size := fun p hp => hW.lt p hp
  have hold : ∀ p ∈ before, (fun b => decide (b < W.heap.size)) p.block = true := fun p hp => by simpa using hlt p hp
  refine ⟨ds, gs, before, [], pa, pv, hW, hres _ _ _, hargs _ hold, hvars _ hold, World.keptBut_mono (fun p hp => ⟨hp, ?_⟩) (hb.frame (· ∈ before)), fun _ => ?_⟩
  · rw [hps, List.mem_append] at hp
    exact Or.inr hp
  · obtain ⟨_, _, _, _, _, hz, hn⟩ := hW
    refine ⟨hok, _, _, ([] ++ pa) ++ pv, ⟨[] ++ pa, pv, trodAll_append (hargs _ (fun _ _ => rfl)) (hres _ _ _), hvars _ (fun _ _ => rfl), rfl, ?_, ?_⟩, ?_⟩
    · intro b off hp
      have hin : MemPlace.cell b off ∈ before := by rw [hps]; simpa using hp
      rw [hb.frozen (hlt _ hin)]
      exact hz b off hin
    · intro ha
      have := hn ha
      rw [hps] at this
      simpa using this
    · intro p hp _
      rw [hps]
      simpa using hp
end

/-! ### STEP 1: THE WALK: the Go text returns true. 'Grown w w'': the world has at most new blocks (Derived/RowKit3.lean). Part the cases AHEAD of 'go_enter' where a test parts the walk; take each callee by a contract of your own. -/
theorem walk (a0 : Int) (w0 : (Lit.int .i64 a0).wf = true) (w : World) :
    Calls Try.prog 6 #[.int .i64 a0] w fun e w' => e = .returned (.bool true) ∧ Below w.heap.size w w' := by
  have go : ∀ {l : List NV}, VRL ι0 l [.int .i64 a0] → topTrue Try.prog tab0 2000 6 l = true → Calls Try.prog 6 #[.int .i64 a0] w fun e w' => e = .returned (.bool true) ∧ Below w.heap.size w w' :=
    fun hv hr => top_true mixed Try.codeOk tabOK0 hr (args' := [.int .i64 a0]) hv w
  by_cases hb0 : a0 ≤ -1
  · exact go (.cons _ _ _ _ (.ile _ _ _ hb0) (.nil)) run_le
  by_cases ha0 : 101 ≤ a0
  · exact go (.cons _ _ _ _ (.ige _ _ _ ha0) (.nil)) run_ge
  have hc0 : a0 = 0 ∨ a0 = 1 ∨ a0 = 2 ∨ a0 = 3 ∨ a0 = 4 ∨ a0 = 5 ∨ a0 = 6 ∨ a0 = 7 ∨ a0 = 8 ∨ a0 = 9 ∨ a0 = 10 ∨ a0 = 11 ∨ a0 = 12 ∨ a0 = 13 ∨ a0 = 14 ∨ a0 = 15 ∨ a0 = 16 ∨ a0 = 17 ∨ a0 = 18 ∨ a0 = 19 ∨ a0 = 20 ∨ a0 = 21 ∨ a0 = 22 ∨ a0 = 23 ∨ a0 = 24 ∨ a0 = 25 ∨ a0 = 26 ∨ a0 = 27 ∨ a0 = 28 ∨ a0 = 29 ∨ a0 = 30 ∨ a0 = 31 ∨ a0 = 32 ∨ a0 = 33 ∨ a0 = 34 ∨ a0 = 35 ∨ a0 = 36 ∨ a0 = 37 ∨ a0 = 38 ∨ a0 = 39 ∨ a0 = 40 ∨ a0 = 41 ∨ a0 = 42 ∨ a0 = 43 ∨ a0 = 44 ∨ a0 = 45 ∨ a0 = 46 ∨ a0 = 47 ∨ a0 = 48 ∨ a0 = 49 ∨ a0 = 50 ∨ a0 = 51 ∨ a0 = 52 ∨ a0 = 53 ∨ a0 = 54 ∨ a0 = 55 ∨ a0 = 56 ∨ a0 = 57 ∨ a0 = 58 ∨ a0 = 59 ∨ a0 = 60 ∨ a0 = 61 ∨ a0 = 62 ∨ a0 = 63 ∨ a0 = 64 ∨ a0 = 65 ∨ a0 = 66 ∨ a0 = 67 ∨ a0 = 68 ∨ a0 = 69 ∨ a0 = 70 ∨ a0 = 71 ∨ a0 = 72 ∨ a0 = 73 ∨ a0 = 74 ∨ a0 = 75 ∨ a0 = 76 ∨ a0 = 77 ∨ a0 = 78 ∨ a0 = 79 ∨ a0 = 80 ∨ a0 = 81 ∨ a0 = 82 ∨ a0 = 83 ∨ a0 = 84 ∨ a0 = 85 ∨ a0 = 86 ∨ a0 = 87 ∨ a0 = 88 ∨ a0 = 89 ∨ a0 = 90 ∨ a0 = 91 ∨ a0 = 92 ∨ a0 = 93 ∨ a0 = 94 ∨ a0 = 95 ∨ a0 = 96 ∨ a0 = 97 ∨ a0 = 98 ∨ a0 = 99 ∨ a0 = 100 := by omega
  rcases hc0 with rfl | rfl | rfl | rfl | rfl | rfl | rfl | rfl | rfl | rfl | rfl | rfl | rfl | rfl | rfl | rfl | rfl | rfl | rfl | rfl | rfl | rfl | rfl | rfl | rfl | rfl | rfl | rfl | rfl | rfl | rfl | rfl | rfl | rfl | rfl | rfl | rfl | rfl | rfl | rfl | rfl | rfl | rfl | rfl | rfl | rfl | rfl | rfl | rfl | rfl | rfl | rfl | rfl | rfl | rfl | rfl | rfl | rfl | rfl | rfl | rfl | rfl | rfl | rfl | rfl | rfl | rfl | rfl | rfl | rfl | rfl | rfl | rfl | rfl | rfl | rfl | rfl | rfl | rfl | rfl | rfl | rfl | rfl | rfl | rfl | rfl | rfl | rfl | rfl | rfl | rfl | rfl | rfl | rfl | rfl | rfl | rfl | rfl | rfl | rfl | rfl
  · exact go (.cons _ _ _ _ (.int _ _) (.nil)) run_0
  · exact go (.cons _ _ _ _ (.int _ _) (.nil)) run_1
  · exact go (.cons _ _ _ _ (.int _ _) (.nil)) run_2
  · exact go (.cons _ _ _ _ (.int _ _) (.nil)) run_3
  · exact go (.cons _ _ _ _ (.int _ _) (.nil)) run_4
  · exact go (.cons _ _ _ _ (.int _ _) (.nil)) run_5
  · exact go (.cons _ _ _ _ (.int _ _) (.nil)) run_6
  · exact go (.cons _ _ _ _ (.int _ _) (.nil)) run_7
  · exact go (.cons _ _ _ _ (.int _ _) (.nil)) run_8
  · exact go (.cons _ _ _ _ (.int _ _) (.nil)) run_9
  · exact go (.cons _ _ _ _ (.int _ _) (.nil)) run_10
  · exact go (.cons _ _ _ _ (.int _ _) (.nil)) run_11
  · exact go (.cons _ _ _ _ (.int _ _) (.nil)) run_12
  · exact go (.cons _ _ _ _ (.int _ _) (.nil)) run_13
  · exact go (.cons _ _ _ _ (.int _ _) (.nil)) run_14
  · exact go (.cons _ _ _ _ (.int _ _) (.nil)) run_15
  · exact go (.cons _ _ _ _ (.int _ _) (.nil)) run_16
  · exact go (.cons _ _ _ _ (.int _ _) (.nil)) run_17
  · exact go (.cons _ _ _ _ (.int _ _) (.nil)) run_18
  · exact go (.cons _ _ _ _ (.int _ _) (.nil)) run_19
  · exact go (.cons _ _ _ _ (.int _ _) (.nil)) run_20
  · exact go (.cons _ _ _ _ (.int _ _) (.nil)) run_21
  · exact go (.cons _ _ _ _ (.int _ _) (.nil)) run_22
  · exact go (.cons _ _ _ _ (.int _ _) (.nil)) run_23
  · exact go (.cons _ _ _ _ (.int _ _) (.nil)) run_24
  · exact go (.cons _ _ _ _ (.int _ _) (.nil)) run_25
  · exact go (.cons _ _ _ _ (.int _ _) (.nil)) run_26
  · exact go (.cons _ _ _ _ (.int _ _) (.nil)) run_27
  · exact go (.cons _ _ _ _ (.int _ _) (.nil)) run_28
  · exact go (.cons _ _ _ _ (.int _ _) (.nil)) run_29
  · exact go (.cons _ _ _ _ (.int _ _) (.nil)) run_30
  · exact go (.cons _ _ _ _ (.int _ _) (.nil)) run_31
  · exact go (.cons _ _ _ _ (.int _ _) (.nil)) run_32
  · exact go (.cons _ _ _ _ (.int _ _) (.nil)) run_33
  · exact go (.cons _ _ _ _ (.int _ _) (.nil)) run_34
  · exact go (.cons _ _ _ _ (.int _ _) (.nil)) run_35
  · exact go (.cons _ _ _ _ (.int _ _) (.nil)) run_36
  · exact go (.cons _ _ _ _ (.int _ _) (.nil)) run_37
  · exact go (.cons _ _ _ _ (.int _ _) (.nil)) run_38
  · exact go (.cons _ _ _ _ (.int _ _) (.nil)) run_39
  · exact go (.cons _ _ _ _ (.int _ _) (.nil)) run_40
  · exact go (.cons _ _ _ _ (.int _ _) (.nil)) run_41
  · exact go (.cons _ _ _ _ (.int _ _) (.nil)) run_42
  · exact go (.cons _ _ _ _ (.int _ _) (.nil)) run_43
  · exact go (.cons _ _ _ _ (.int _ _) (.nil)) run_44
  · exact go (.cons _ _ _ _ (.int _ _) (.nil)) run_45
  · exact go (.cons _ _ _ _ (.int _ _) (.nil)) run_46
  · exact go (.cons _ _ _ _ (.int _ _) (.nil)) run_47
  · exact go (.cons _ _ _ _ (.int _ _) (.nil)) run_48
  · exact go (.cons _ _ _ _ (.int _ _) (.nil)) run_49
  · exact go (.cons _ _ _ _ (.int _ _) (.nil)) run_50
  · exact go (.cons _ _ _ _ (.int _ _) (.nil)) run_51
  · exact go (.cons _ _ _ _ (.int _ _) (.nil)) run_52
  · exact go (.cons _ _ _ _ (.int _ _) (.nil)) run_53
  · exact go (.cons _ _ _ _ (.int _ _) (.nil)) run_54
  · exact go (.cons _ _ _ _ (.int _ _) (.nil)) run_55
  · exact go (.cons _ _ _ _ (.int _ _) (.nil)) run_56
  · exact go (.cons _ _ _ _ (.int _ _) (.nil)) run_57
  · exact go (.cons _ _ _ _ (.int _ _) (.nil)) run_58
  · exact go (.cons _ _ _ _ (.int _ _) (.nil)) run_59
  · exact go (.cons _ _ _ _ (.int _ _) (.nil)) run_60
  · exact go (.cons _ _ _ _ (.int _ _) (.nil)) run_61
  · exact go (.cons _ _ _ _ (.int _ _) (.nil)) run_62
  · exact go (.cons _ _ _ _ (.int _ _) (.nil)) run_63
  · exact go (.cons _ _ _ _ (.int _ _) (.nil)) run_64
  · exact go (.cons _ _ _ _ (.int _ _) (.nil)) run_65
  · exact go (.cons _ _ _ _ (.int _ _) (.nil)) run_66
  · exact go (.cons _ _ _ _ (.int _ _) (.nil)) run_67
  · exact go (.cons _ _ _ _ (.int _ _) (.nil)) run_68
  · exact go (.cons _ _ _ _ (.int _ _) (.nil)) run_69
  · exact go (.cons _ _ _ _ (.int _ _) (.nil)) run_70
  · exact go (.cons _ _ _ _ (.int _ _) (.nil)) run_71
  · exact go (.cons _ _ _ _ (.int _ _) (.nil)) run_72
  · exact go (.cons _ _ _ _ (.int _ _) (.nil)) run_73
  · exact go (.cons _ _ _ _ (.int _ _) (.nil)) run_74
  · exact go (.cons _ _ _ _ (.int _ _) (.nil)) run_75
  · exact go (.cons _ _ _ _ (.int _ _) (.nil)) run_76
  · exact go (.cons _ _ _ _ (.int _ _) (.nil)) run_77
  · exact go (.cons _ _ _ _ (.int _ _) (.nil)) run_78
  · exact go (.cons _ _ _ _ (.int _ _) (.nil)) run_79
  · exact go (.cons _ _ _ _ (.int _ _) (.nil)) run_80
  · exact go (.cons _ _ _ _ (.int _ _) (.nil)) run_81
  · exact go (.cons _ _ _ _ (.int _ _) (.nil)) run_82
  · exact go (.cons _ _ _ _ (.int _ _) (.nil)) run_83
  · exact go (.cons _ _ _ _ (.int _ _) (.nil)) run_84
  · exact go (.cons _ _ _ _ (.int _ _) (.nil)) run_85
  · exact go (.cons _ _ _ _ (.int _ _) (.nil)) run_86
  · exact go (.cons _ _ _ _ (.int _ _) (.nil)) run_87
  · exact go (.cons _ _ _ _ (.int _ _) (.nil)) run_88
  · exact go (.cons _ _ _ _ (.int _ _) (.nil)) run_89
  · exact go (.cons _ _ _ _ (.int _ _) (.nil)) run_90
  · exact go (.cons _ _ _ _ (.int _ _) (.nil)) run_91
  · exact go (.cons _ _ _ _ (.int _ _) (.nil)) run_92
  · exact go (.cons _ _ _ _ (.int _ _) (.nil)) run_93
  · exact go (.cons _ _ _ _ (.int _ _) (.nil)) run_94
  · exact go (.cons _ _ _ _ (.int _ _) (.nil)) run_95
  · exact go (.cons _ _ _ _ (.int _ _) (.nil)) run_96
  · exact go (.cons _ _ _ _ (.int _ _) (.nil)) run_97
  · exact go (.cons _ _ _ _ (.int _ _) (.nil)) run_98
  · exact go (.cons _ _ _ _ (.int _ _) (.nil)) run_99
  · exact go (.cons _ _ _ _ (.int _ _) (.nil)) run_100

/-! ### THE ROW's STEP: WRITTEN OUT: LEAVE IT -/
set_option maxRecDepth 100000 in
theorem lifted (os : Os) (started : os.Started) (H : Type) (enc : TypeId × Value → H) :
    ReturnsInHanded {} Try.checked os 6 .any (Rows.assignNoneSpec.pre6 enc Try.prog Try.f6 Rows.assignNoneRow.domain false) (Rows.assignNoneSpec.post enc Try.prog Try.f6 false true false false) := by
  refine returnsInHanded_of_change (C := Try.checked) own started (by kernel_rfl) Try.func6
    (ChangeSpec.witness6 (enc := enc) (C := Try.checked) false ⟨#[], #[.int .i64 0], []⟩ 8 (by kernel_rfl) (by kernel_rfl) (by kernel_rfl) (by kernel_rfl)) ?_
  intro W base args ds gs before hval0 hW hcnd _
  have hval : ∀ (j : Nat) t v, Try.f6.params[j]? = some t → args[j]? = some v → Value.okWide Try.prog W .any base t v := hval0
  have hW' := hW
  obtain ⟨p, q, hA0, hV, rfl, hfz, hnd⟩ := hW
  have hA : DataW.TrodAll enc Try.prog W 0 (fun _ => true) true Try.f6.params.toList args.toList ds p := hA0
  rw [Try.params6] at hA hval
  obtain ⟨v0, vs0, d0, ds0, p0, q0, hargs, rfl, rfl, h0, r0⟩ := trodAll_cons hA
  obtain ⟨rfl, rfl, rfl⟩ := trodAll_nil r0
  obtain rfl : args = #[v0] := by cases args; simp_all
  obtain ⟨rfl, rfl⟩ := trodVars_none hV
  obtain ⟨a0, rfl, rfl, rfl, w0⟩ := open_int Try.underlying3 (hval 0 3 v0 rfl rfl) h0
  clear hA0 hval0
  simp only [List.append_nil] at hW'
  refine (walk a0 w0 W).mono fun e W' ⟨he, hg⟩ => ?_
  subst he
  exact ⟨_, rfl, post_below (pa := []) (pv := []) hW' (fun _ _ _ => (trodAll_cons_mk (shut_bool Try.underlying4 _) trodAll_mk0)) (fun sp _ => (trodAll_cons_mk (shut_int Try.underlying3 w0) trodAll_mk0)) (fun _ _ => rfl) rfl
    hg (ok_one (by kernel_rfl) rfl (okWide_bool_mk Try.underlying4 _))⟩

theorem over : Rows.assignNoneRow.holds Try.pinned (OpenSpec.ofChange Rows.assignNoneSpec) :=
  OpenClaim.holds_of_wide 6 Try.f6 rfl rfl rfl rfl rfl rfl rfl ⟨rfl, rfl, rfl, rfl, rfl⟩ rfl rfl rfl rfl rfl (by kernel_rfl) Try.func6 facts
    (of_decide_eq_true (by kernel_rfl)) (by unfold Func.isWrapper; first | (rw [if_pos (by decide +kernel)]; kernel_rfl) | (rw [if_neg (by decide +kernel)]; exact ⟨rfl, rfl⟩))
    (fun os started H enc _ => lifted os started H enc)

/-- ████ THE STATEMENT ████ -/
theorem proved : Rows.AssignNoneSaid :=
  over
#print axioms proved
end Go.Proofs.Ytfpllgkcflinbaa.assignNone
