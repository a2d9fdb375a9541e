/- The law ParseWrong of the document returns true for every input, and its arguments read behind the call as they read before. No condition. -/
import Derived.Test.YtfpllgkcflinbaaRows
import Derived.WalkKit
import Derived.ProofKit
import Derived.OpenShut
import Derived.Below
import Derived.ChangeSame
import Derived.Test.YtfpllgkcflinbaaParseWrongBase
import Derived.Test.YtfpllgkcflinbaaParseWrongRuns0
import Derived.Test.YtfpllgkcflinbaaChecked
import Derived.Test.YtfpllgkcflinbaaParseWrongFacts
namespace Go.Proofs.Ytfpllgkcflinbaa.parseWrong
open Nm Go.ChangeShapes Go.WideShapes Go.ChangeAt Go.RowKit
set_option linter.unusedVariables false      -- a walk need not use every 'w<i>' (that an integer argument fits its kind)

theorem own : ownKnob Try.prog.godebug = none := by kernel_rfl

theorem mixed : Try.prog.follows .mixedOrders = true := by kernel_rfl
theorem tabOK0 : TabOK Try.prog tab0 := tab_add mixed Try.codeOk tab_none kept_alive
section
variable {H : Type} {enc : TypeId × Value → H} {P : Program}
/-- what a call leaves that turned nothing that was there -/
theorem post_below {f : Func} {s : ChangeSpec} {apart fresh handsOn again : Bool} {W W' : World} {args : Array Value} {v : Value} {ds gs : List (DataW H)} {before pa pv : List MemPlace}
    (hW : DataW.Whole enc P f.params.toList s.vars apart W args.toList ds gs before)
    (hres : ∀ (b : Nat) (sp : Nat → Bool) (hd : Bool), DataW.TrodAll enc P W' b sp hd f.resultTypes.toList (v.resultList f.resultTypes.size) (s.fn H (ds ++ gs)).results [])
    (hargs : ∀ sp : Nat → Bool, (∀ p ∈ before, sp p.block = true) → DataW.TrodAll enc P W' 0 sp true f.params.toList args.toList (s.fn H (ds ++ gs)).args pa)
    (hvars : ∀ sp : Nat → Bool, (∀ p ∈ before, sp p.block = true) → DataW.TrodVars enc P W' sp s.vars (s.fn H (ds ++ gs)).vars pv)
    (hps : before = pa ++ pv) (hb : Below W.heap.size W W')
    (hok : ∀ (j : Nat) (t : TypeId) (r : Value), f.resultTypes[j]? = some t → (v.resultList f.resultTypes.size)[j]? = some r → Value.okWide P W' .any 0 t r) :
    s.post enc P f apart fresh handsOn again W args v W' := by
  have hlt : ∀ p ∈ before, p.block < W.heap.size := fun p hp => hW.lt p hp
  have hold : ∀ p ∈ before, (fun b => decide (b < W.heap.size)) p.block = true := fun p hp => by simpa using hlt p hp
  refine ⟨ds, gs, before, [], pa, pv, hW, hres _ _ _, hargs _ hold, hvars _ hold, World.keptBut_mono (fun p hp => ⟨hp, ?_⟩) (hb.frame (· ∈ before)), fun _ => ?_⟩
  · rw [hps, List.mem_append] at hp
    exact Or.inr hp
  · obtain ⟨_, _, _, _, _, hz, hn⟩ := hW
    refine ⟨hok, _, _, ([] ++ pa) ++ pv, ⟨[] ++ pa, pv, trodAll_append (hargs _ (fun _ _ => rfl)) (hres _ _ _), hvars _ (fun _ _ => rfl), rfl, ?_, ?_⟩, ?_⟩
    · intro b off hp
      have hin : MemPlace.cell b off ∈ before := by rw [hps]; simpa using hp
      rw [hb.frozen (hlt _ hin)]
      exact hz b off hin
    · intro ha
      have := hn ha
      rw [hps] at this
      simpa using this
    · intro p hp _
      rw [hps]
      simpa using hp
end

/-! ### STEP 1: THE WALK: the Go text returns true. 'Grown w w'': the world has at most new blocks (Derived/RowKit3.lean). Part the cases AHEAD of 'go_enter' where a test parts the walk; take each callee by a contract of your own. -/
theorem walk (a0 : Int) (w0 : (Lit.int .i64 a0).wf = true) (w : World) :
    Calls Try.prog 12 #[.int .i64 a0] w fun e w' => e = .returned (.bool true) ∧ Below w.heap.size w w' := by
  have go : ∀ {l : List NV}, VRL ι0 l [.int .i64 a0] → topTrue Try.prog tab0 2000 12 l = true → Calls Try.prog 12 #[.int .i64 a0] w fun e w' => e = .returned (.bool true) ∧ Below w.heap.size w w' :=
    fun hv hr => top_true mixed Try.codeOk tabOK0 hr (args' := [.int .i64 a0]) hv w
  by_cases hb0 : a0 ≤ -1
  · exact go (.cons _ _ _ _ (.ile _ _ _ hb0) (.nil)) run_le
  by_cases ha0 : 31 ≤ a0
  · exact go (.cons _ _ _ _ (.ige _ _ _ ha0) (.nil)) run_ge
  have hc0 : a0 = 0 ∨ a0 = 1 ∨ a0 = 2 ∨ a0 = 3 ∨ a0 = 4 ∨ a0 = 5 ∨ a0 = 6 ∨ a0 = 7 ∨ a0 = 8 ∨ a0 = 9 ∨ a0 = 10 ∨ a0 = 11 ∨ a0 = 12 ∨ a0 = 13 ∨ a0 = 14 ∨ a0 = 15 ∨ a0 = 16 ∨ a0 = 17 ∨ a0 = 18 ∨ a0 = 19 ∨ a0 = 20 ∨ a0 = 21 ∨ a0 = 22 ∨ a0 = 23 ∨ a0 = 24 ∨ a0 = 25 ∨ a0 = 26 ∨ a0 = 27 ∨ a0 = 28 ∨ a0 = 29 ∨ a0 = 30 := by omega
  rcases hc0 with rfl | rfl | rfl | rfl | rfl | rfl | rfl | rfl | rfl | rfl | rfl | rfl | rfl | rfl | rfl | rfl | rfl | rfl | rfl | rfl | rfl | rfl | rfl | rfl | rfl | rfl | rfl | rfl | rfl | rfl | rfl
  · exact go (.cons _ _ _ _ (.int _ _) (.nil)) run_0
  · exact go (.cons _ _ _ _ (.int _ _) (.nil)) run_1
  · exact go (.cons _ _ _ _ (.int _ _) (.nil)) run_2
  · exact go (.cons _ _ _ _ (.int _ _) (.nil)) run_3
  · exact go (.cons _ _ _ _ (.int _ _) (.nil)) run_4
  · exact go (.cons _ _ _ _ (.int _ _) (.nil)) run_5
  · exact go (.cons _ _ _ _ (.int _ _) (.nil)) run_6
  · exact go (.cons _ _ _ _ (.int _ _) (.nil)) run_7
  · exact go (.cons _ _ _ _ (.int _ _) (.nil)) run_8
  · exact go (.cons _ _ _ _ (.int _ _) (.nil)) run_9
  · exact go (.cons _ _ _ _ (.int _ _) (.nil)) run_10
  · exact go (.cons _ _ _ _ (.int _ _) (.nil)) run_11
  · exact go (.cons _ _ _ _ (.int _ _) (.nil)) run_12
  · exact go (.cons _ _ _ _ (.int _ _) (.nil)) run_13
  · exact go (.cons _ _ _ _ (.int _ _) (.nil)) run_14
  · exact go (.cons _ _ _ _ (.int _ _) (.nil)) run_15
  · exact go (.cons _ _ _ _ (.int _ _) (.nil)) run_16
  · exact go (.cons _ _ _ _ (.int _ _) (.nil)) run_17
  · exact go (.cons _ _ _ _ (.int _ _) (.nil)) run_18
  · exact go (.cons _ _ _ _ (.int _ _) (.nil)) run_19
  · exact go (.cons _ _ _ _ (.int _ _) (.nil)) run_20
  · exact go (.cons _ _ _ _ (.int _ _) (.nil)) run_21
  · exact go (.cons _ _ _ _ (.int _ _) (.nil)) run_22
  · exact go (.cons _ _ _ _ (.int _ _) (.nil)) run_23
  · exact go (.cons _ _ _ _ (.int _ _) (.nil)) run_24
  · exact go (.cons _ _ _ _ (.int _ _) (.nil)) run_25
  · exact go (.cons _ _ _ _ (.int _ _) (.nil)) run_26
  · exact go (.cons _ _ _ _ (.int _ _) (.nil)) run_27
  · exact go (.cons _ _ _ _ (.int _ _) (.nil)) run_28
  · exact go (.cons _ _ _ _ (.int _ _) (.nil)) run_29
  · exact go (.cons _ _ _ _ (.int _ _) (.nil)) run_30

/-! ### THE ROW's STEP: WRITTEN OUT: LEAVE IT -/
set_option maxRecDepth 100000 in
theorem lifted (os : Os) (started : os.Started) (H : Type) (enc : TypeId × Value → H) :
    ReturnsInHanded {} Try.checked os 12 .any (Rows.parseWrongSpec.pre6 enc Try.prog Try.f12 Rows.parseWrongRow.domain false) (Rows.parseWrongSpec.post enc Try.prog Try.f12 false true false false) := by
  refine returnsInHanded_of_change (C := Try.checked) own started (by kernel_rfl) Try.func12
    (ChangeSpec.witness6 (enc := enc) (C := Try.checked) false ⟨#[], #[.int .i64 0], []⟩ 8 (by kernel_rfl) (by kernel_rfl) (by kernel_rfl) (by kernel_rfl)) ?_
  intro W base args ds gs before hval0 hW hcnd _
  have hval : ∀ (j : Nat) t v, Try.f12.params[j]? = some t → args[j]? = some v → Value.okWide Try.prog W .any base t v := hval0
  have hW' := hW
  obtain ⟨p, q, hA0, hV, rfl, hfz, hnd⟩ := hW
  have hA : DataW.TrodAll enc Try.prog W 0 (fun _ => true) true Try.f12.params.toList args.toList ds p := hA0
  rw [Try.params12] at hA hval
  obtain ⟨v0, vs0, d0, ds0, p0, q0, hargs, rfl, rfl, h0, r0⟩ := trodAll_cons hA
  obtain ⟨rfl, rfl, rfl⟩ := trodAll_nil r0
  obtain rfl : args = #[v0] := by cases args; simp_all
  obtain ⟨rfl, rfl⟩ := trodVars_none hV
  obtain ⟨a0, rfl, rfl, rfl, w0⟩ := open_int Try.underlying3 (hval 0 3 v0 rfl rfl) h0
  clear hA0 hval0
  simp only [List.append_nil] at hW'
  refine (walk a0 w0 W).mono fun e W' ⟨he, hg⟩ => ?_
  subst he
  exact ⟨_, rfl, post_below (pa := []) (pv := []) hW' (fun _ _ _ => (trodAll_cons_mk (shut_bool Try.underlying4 _) trodAll_mk0)) (fun sp _ => (trodAll_cons_mk (shut_int Try.underlying3 w0) trodAll_mk0)) (fun _ _ => rfl) rfl
    hg (ok_one (by kernel_rfl) rfl (okWide_bool_mk Try.underlying4 _))⟩

theorem over : Rows.parseWrongRow.holds Try.pinned (OpenSpec.ofChange Rows.parseWrongSpec) :=
  OpenClaim.holds_of_wide 12 Try.f12 rfl rfl rfl rfl rfl rfl rfl ⟨rfl, rfl, rfl, rfl, rfl⟩ rfl rfl rfl rfl rfl (by kernel_rfl) Try.func12 facts
    (of_decide_eq_true (by kernel_rfl)) (by unfold Func.isWrapper; first | (rw [if_pos (by decide +kernel)]; kernel_rfl) | (rw [if_neg (by decide +kernel)]; exact ⟨rfl, rfl⟩))
    (fun os started H enc _ => lifted os started H enc)

/-- ████ THE STATEMENT ████ -/
theorem proved : Rows.ParseWrongSaid :=
  over
#print axioms proved
end Go.Proofs.Ytfpllgkcflinbaa.parseWrong
