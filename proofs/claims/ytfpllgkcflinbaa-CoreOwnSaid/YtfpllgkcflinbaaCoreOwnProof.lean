/- The law CoreOwn of the document returns true for every input, and its arguments read behind the call as they read before. No condition. -/
import Derived.Test.YtfpllgkcflinbaaRows
import Derived.WalkKit
import Derived.ProofKit
import Derived.OpenShut
import Derived.Below
import Derived.ChangeSame
import Derived.Test.YtfpllgkcflinbaaCoreOwnBase
import Derived.Test.YtfpllgkcflinbaaCoreOwnRuns0
import Derived.Test.YtfpllgkcflinbaaCoreOwnRuns1
import Derived.Test.YtfpllgkcflinbaaCoreOwnRuns2
import Derived.Test.YtfpllgkcflinbaaCoreOwnRuns3
import Derived.Test.YtfpllgkcflinbaaCoreOwnRuns4
import Derived.Test.YtfpllgkcflinbaaCoreOwnRuns5
import Derived.Test.YtfpllgkcflinbaaCoreOwnRuns6
import Derived.Test.YtfpllgkcflinbaaCoreOwnRuns7
import Derived.Test.YtfpllgkcflinbaaCoreOwnRuns8
import Derived.Test.YtfpllgkcflinbaaCoreOwnRuns9
import Derived.Test.YtfpllgkcflinbaaCoreOwnRuns10
import Derived.Test.YtfpllgkcflinbaaCoreOwnRuns11
import Derived.Test.YtfpllgkcflinbaaCoreOwnRuns12
import Derived.Test.YtfpllgkcflinbaaCoreOwnRuns13
import Derived.Test.YtfpllgkcflinbaaCoreOwnRuns14
import Derived.Test.YtfpllgkcflinbaaCoreOwnRuns15
import Derived.Test.YtfpllgkcflinbaaCoreOwnRuns16
import Derived.Test.YtfpllgkcflinbaaChecked
import Derived.Test.YtfpllgkcflinbaaCoreOwnFacts
namespace Go.Proofs.Ytfpllgkcflinbaa.coreOwn
open Nm Go.ChangeShapes Go.WideShapes Go.ChangeAt Go.RowKit
set_option linter.unusedVariables false      -- a walk need not use every 'w<i>' (that an integer argument fits its kind)

theorem own : ownKnob Try.prog.godebug = none := by kernel_rfl

theorem mixed : Try.prog.follows .mixedOrders = true := by kernel_rfl
variable [Val] in
theorem tabOK0 : TabOK Try.prog tab0 := tab_add mixed Try.codeOk tab_none (code_is.kept kept_alive)
theorem part_ok (x : Nat) (h : right x = true) : @okT (lowVal (part x)) [.mk 1024 0 0 3, .mk 65536 1 0 7] ∧ @sumT (lowVal (part x)) [.mk 1024 0 0 3, .mk 65536 1 0 7] = 1024 * x := by
  letI V : Val := lowVal (part x)
  unfold right at h
  cases h1 : Nat.ble x 451 with
  | false => rw [h1] at h; cases h
  | true =>
    rw [h1] at h
    have h1 := Nat.le_of_ble_eq_true h1
    have h2 : x % 64 ≤ 3 := Nat.le_of_ble_eq_true h
    refine ⟨okT_cons (Nat.zero_le _) (show x % 64 ≤ 3 from h2) (okT_cons (Nat.zero_le _) (show x / 64 ≤ 7 by omega) okT_nil), ?_⟩
    show 1024 * (x % 64) + (65536 * (x / 64) + 0) = 1024 * x
    omega
variable [Val] in
theorem rowOK0 : TabOK Try.prog row0 := tab_gen mixed Try.codeOk tabOK0 (fun V => @tab_none V _) (code_is.kept gen_0) part_ok
variable [Val] in
theorem rowOK1 : TabOK Try.prog row1 := tab_gen mixed Try.codeOk rowOK0 (fun V => @tab_none V _) (code_is.kept gen_1) part_ok
variable [Val] in
theorem rowOK2 : TabOK Try.prog row2 := tab_gen mixed Try.codeOk rowOK1 (fun V => @tab_none V _) (code_is.kept gen_2) part_ok
variable [Val] in
theorem rowOK3 : TabOK Try.prog row3 := tab_gen mixed Try.codeOk rowOK2 (fun V => @tab_none V _) (code_is.kept gen_3) part_ok
variable [Val] in
theorem rowOK4 : TabOK Try.prog row4 := tab_gen mixed Try.codeOk rowOK3 (fun V => @tab_none V _) (code_is.kept gen_4) part_ok
variable [Val] in
theorem rowOK5 : TabOK Try.prog row5 := tab_gen mixed Try.codeOk rowOK4 (fun V => @tab_none V _) (code_is.kept gen_5) part_ok
variable [Val] in
theorem rowOK6 : TabOK Try.prog row6 := tab_gen mixed Try.codeOk rowOK5 (fun V => @tab_none V _) (code_is.kept gen_6) part_ok
variable [Val] in
theorem rowOK7 : TabOK Try.prog row7 := tab_gen mixed Try.codeOk rowOK6 (fun V => @tab_none V _) (code_is.kept gen_7) part_ok
variable [Val] in
theorem rowOK8 : TabOK Try.prog row8 := tab_gen mixed Try.codeOk rowOK7 (fun V => @tab_none V _) (code_is.kept gen_8) part_ok
variable [Val] in
theorem rowOK9 : TabOK Try.prog row9 := tab_gen mixed Try.codeOk rowOK8 (fun V => @tab_none V _) (code_is.kept gen_9) part_ok
variable [Val] in
theorem rowOK10 : TabOK Try.prog row10 := tab_gen mixed Try.codeOk rowOK9 (fun V => @tab_none V _) (code_is.kept gen_10) part_ok
variable [Val] in
theorem rowOK11 : TabOK Try.prog row11 := tab_gen mixed Try.codeOk rowOK10 (fun V => @tab_none V _) (code_is.kept gen_11) part_ok
variable [Val] in
theorem rowOK12 : TabOK Try.prog row12 := tab_gen mixed Try.codeOk rowOK11 (fun V => @tab_none V _) (code_is.kept gen_12) part_ok
variable [Val] in
theorem rowOK13 : TabOK Try.prog row13 := tab_gen mixed Try.codeOk rowOK12 (fun V => @tab_none V _) (code_is.kept gen_13) part_ok
variable [Val] in
theorem rowOK14 : TabOK Try.prog row14 := tab_gen mixed Try.codeOk rowOK13 (fun V => @tab_none V _) (code_is.kept gen_14) part_ok
variable [Val] in
theorem rowOK15 : TabOK Try.prog row15 := tab_gen mixed Try.codeOk rowOK14 (fun V => @tab_none V _) (code_is.kept gen_15) part_ok
variable [Val] in
theorem rowOK16 : TabOK Try.prog row16 := tab_gen mixed Try.codeOk rowOK15 (fun V => @tab_none V _) (code_is.kept gen_16) part_ok
variable [Val] in
theorem rowOK17 : TabOK Try.prog row17 := tab_gen mixed Try.codeOk rowOK16 (fun V => @tab_none V _) (code_is.kept gen_17) part_ok
variable [Val] in
theorem rowOK18 : TabOK Try.prog row18 := tab_gen mixed Try.codeOk rowOK17 (fun V => @tab_none V _) (code_is.kept gen_18) part_ok
variable [Val] in
theorem rowOK19 : TabOK Try.prog row19 := tab_gen mixed Try.codeOk rowOK18 (fun V => @tab_none V _) (code_is.kept gen_19) part_ok
variable [Val] in
theorem rowOK20 : TabOK Try.prog row20 := tab_gen mixed Try.codeOk rowOK19 (fun V => @tab_none V _) (code_is.kept gen_20) part_ok
variable [Val] in
theorem rowOK21 : TabOK Try.prog row21 := tab_gen mixed Try.codeOk rowOK20 (fun V => @tab_none V _) (code_is.kept gen_21) part_ok
variable [Val] in
theorem rowOK22 : TabOK Try.prog row22 := tab_gen mixed Try.codeOk rowOK21 (fun V => @tab_none V _) (code_is.kept gen_22) part_ok
variable [Val] in
theorem rowOK23 : TabOK Try.prog row23 := tab_gen mixed Try.codeOk rowOK22 (fun V => @tab_none V _) (code_is.kept gen_23) part_ok
variable [Val] in
theorem rowOK24 : TabOK Try.prog row24 := tab_gen mixed Try.codeOk rowOK23 (fun V => @tab_none V _) (code_is.kept gen_24) part_ok
variable [Val] in
theorem rowOK25 : TabOK Try.prog row25 := tab_gen mixed Try.codeOk rowOK24 (fun V => @tab_none V _) (code_is.kept gen_25) part_ok
variable [Val] in
theorem rowOK26 : TabOK Try.prog row26 := tab_gen mixed Try.codeOk rowOK25 (fun V => @tab_none V _) (code_is.kept gen_26) part_ok
variable [Val] in
theorem rowOK27 : TabOK Try.prog row27 := tab_gen mixed Try.codeOk rowOK26 (fun V => @tab_none V _) (code_is.kept gen_27) part_ok
variable [Val] in
theorem rowOK28 : TabOK Try.prog row28 := tab_gen mixed Try.codeOk rowOK27 (fun V => @tab_none V _) (code_is.kept gen_28) part_ok
variable [Val] in
theorem rowOK29 : TabOK Try.prog row29 := tab_gen mixed Try.codeOk rowOK28 (fun V => @tab_none V _) (code_is.kept gen_29) part_ok
variable [Val] in
theorem rowOK30 : TabOK Try.prog row30 := tab_gen mixed Try.codeOk rowOK29 (fun V => @tab_none V _) (code_is.kept gen_30) part_ok
variable [Val] in
theorem rowOK31 : TabOK Try.prog row31 := tab_gen mixed Try.codeOk rowOK30 (fun V => @tab_none V _) (code_is.kept gen_31) part_ok
section
variable {H : Type} {enc : TypeId × Value → H} {P : Program}
/-- what a call leaves that turned nothing that was there -/
theorem post_below {f : Func} {s : ChangeSpec} {apart fresh handsOn again : Bool} {W W' : World} {args : Array Value} {v : Value} {ds gs : List (DataW H)} {before pa pv : List MemPlace}
    (hW : DataW.Whole enc P f.params.toList s.vars apart W args.toList ds gs before)
    (hres : ∀ (b : Nat) (sp : Nat → Bool) (hd : Bool), DataW.TrodAll enc P W' b sp hd f.resultTypes.toList (v.resultList f.resultTypes.size) (s.fn H (ds ++ gs)).results [])
    (hargs : ∀ sp : Nat → Bool, (∀ p ∈ before, sp p.block = true) → DataW.TrodAll enc P W' 0 sp true f.params.toList args.toList (s.fn H (ds ++ gs)).args pa)
    (hvars : ∀ sp : Nat → Bool, (∀ p ∈ before, sp p.block = true) → DataW.TrodVars enc P W' sp s.vars (s.fn H (ds ++ gs)).vars pv)
    (hps : before = pa ++ pv) (hb : Below W.heap.size W W')
    (hok : ∀ (j : Nat) (t : TypeId) (r : Value), f.resultTypes[j]? = some t → (v.resultList f.resultTypes.size)[j]? = some r → Value.okWide P W' .any 0 t r) :
    s.post enc P f apart fresh handsOn again W args v W' := by
  have hlt : ∀ p ∈ before, p.block < W.heap.size := fun p hp => hW.lt p hp
  have hold : ∀ p ∈ before, (fun b => decide (b < W.heap.size)) p.block = true := fun p hp => by simpa using hlt p hp
  refine ⟨ds, gs, before, [], pa, pv, hW, hres _ _ _, hargs _ hold, hvars _ hold, World.keptBut_mono (fun p hp => ⟨hp, ?_⟩) (hb.frame (· ∈ before)), fun _ => ?_⟩
  · rw [hps, List.mem_append] at hp
    exact Or.inr hp
  · obtain ⟨_, _, _, _, _, hz, hn⟩ := hW
    refine ⟨hok, _, _, ([] ++ pa) ++ pv, ⟨[] ++ pa, pv, trodAll_append (hargs _ (fun _ _ => rfl)) (hres _ _ _), hvars _ (fun _ _ => rfl), rfl, ?_, ?_⟩, ?_⟩
    · intro b off hp
      have hin : MemPlace.cell b off ∈ before := by rw [hps]; simpa using hp
      rw [hb.frozen (hlt _ hin)]
      exact hz b off hin
    · intro ha
      have := hn ha
      rw [hps] at this
      simpa using this
    · intro p hp _
      rw [hps]
      simpa using hp
end

/-! ### STEP 1: THE WALK: the Go text returns true. 'Grown w w'': the world has at most new blocks (Derived/RowKit3.lean). Part the cases AHEAD of 'go_enter' where a test parts the walk; take each callee by a contract of your own. -/
theorem wf_low {a : Int} (h : (Lit.int .i64 a).wf = true) : -9223372036854775808 ≤ a := by
  have h1 : IntKind.i64.min = -9223372036854775808 := rfl
  have h2 : IntKind.i64.max = 9223372036854775807 := rfl
  simp only [Lit.wf, Bool.and_eq_true, decide_eq_true_eq, h1, h2] at h
  exact h.1
theorem walk (a0 : Int) (a1 : Int) (w0 : (Lit.int .i64 a0).wf = true) (w1 : (Lit.int .i64 a1).wf = true) (w : World) :
    Calls Try.prog 11 #[.int .i64 a0, .int .i64 a1] w fun e w' => e = .returned (.bool true) ∧ Below w.heap.size w w' := by
  have go : ∀ (V : Val) {l : List NV}, VRL ι0 l [.int .i64 a0, .int .i64 a1] → topTrue code row31 2000 11 l = true → Calls Try.prog 11 #[.int .i64 a0, .int .i64 a1] w fun e w' => e = .returned (.bool true) ∧ Below w.heap.size w w' := by
    intro V l hv hr
    exact top_true mixed Try.codeOk rowOK31 (code_is.run hr) (args' := [.int .i64 a0, .int .i64 a1]) hv w
  by_cases h : a0 ≤ -1
  · exact (fun (V : Val) (_ : True) => (by refine go V ?_ run_nle; exact .cons _ _ _ _ (.ile _ _ _ h) (.cons _ _ _ _ (.ige _ _ _ (wf_low w1)) (.nil)))) (stdVal) trivial
  by_cases h : 512 ≤ a0
  · exact (fun (V : Val) (_ : True) => (by refine go V ?_ run_nge; exact .cons _ _ _ _ (.ige _ _ _ h) (.cons _ _ _ _ (.ige _ _ _ (wf_low w1)) (.nil)))) (stdVal) trivial
  obtain ⟨y, rfl, hy⟩ : ∃ y : Nat, a0 = y ∧ y ≤ 511 := ⟨a0.toNat, by omega, by omega⟩
  by_cases h : a1 ≤ -1
  · exact (fun (V : Val) (e1 : V.σ 1 = y) => (by refine go V ?_ run_vle; exact .cons _ _ _ _ (.sym _ _ _ _ (okT_cons (by rw [e1]; omega) (by rw [e1]; omega) okT_nil) (by show ((y : Nat) : Int) = 0 + ((1 * Val.σ 1 + 0) : Nat); rw [e1]; omega)) (.cons _ _ _ _ (.ile _ _ _ h) (.nil)))) (lowVal fun _ => y) rfl
  by_cases h : 65536 ≤ a1
  · exact (fun (V : Val) (e1 : V.σ 1 = y) => (by refine go V ?_ run_vge; exact .cons _ _ _ _ (.sym _ _ _ _ (okT_cons (by rw [e1]; omega) (by rw [e1]; omega) okT_nil) (by show ((y : Nat) : Int) = 0 + ((1 * Val.σ 1 + 0) : Nat); rw [e1]; omega)) (.cons _ _ _ _ (.ige _ _ _ h) (.nil)))) (lowVal fun _ => y) rfl
  obtain ⟨x, rfl, hx⟩ : ∃ x : Nat, a1 = x ∧ x ≤ 65535 := ⟨a1.toNat, by omega, by omega⟩
  have key : ∀ V : Val, V.σ 0 = x → @VR V ι0 (.int .i64 (.sym 0 [.mk 1 0 0 65535])) (.int .i64 x) := fun V e0 => .sym _ _ _ _ (okT_cons (by rw [e0]; omega) (by rw [e0]; omega) okT_nil) (by show ((x : Nat) : Int) = 0 + ((1 * Val.σ 0 + 0) : Nat); rw [e0]; omega)
  have go2 : topTrue code row31 2000 11 [.int .i64 (.lit (Int.ofNat y)), .int .i64 (.sym 0 [.mk 1 0 0 65535])] = true → Calls Try.prog 11 #[.int .i64 (y : Int), .int .i64 (x : Int)] w fun e w' => e = .returned (.bool true) ∧ Below w.heap.size w w' := fun hr =>
    (fun (V : Val) (e0 : V.σ 0 = x) => (by refine go V (l := [.int .i64 (.lit (Int.ofNat y)), .int .i64 (.sym 0 [.mk 1 0 0 65535])]) ?_ hr; exact .cons _ _ _ _ (.int _ _) (.cons _ _ _ _ (key V e0) .nil))) (lowVal fun _ => x) rfl
  obtain ⟨q, r, hq, hr, e⟩ : ∃ q r, q ≤ 15 ∧ r ≤ 31 ∧ y = 32 * q + r := ⟨y / 32, y % 32, by omega, by omega, by omega⟩
  have hq : q = 0 ∨ q = 1 ∨ q = 2 ∨ q = 3 ∨ q = 4 ∨ q = 5 ∨ q = 6 ∨ q = 7 ∨ q = 8 ∨ q = 9 ∨ q = 10 ∨ q = 11 ∨ q = 12 ∨ q = 13 ∨ q = 14 ∨ q = 15 := by omega
  have hr : r = 0 ∨ r = 1 ∨ r = 2 ∨ r = 3 ∨ r = 4 ∨ r = 5 ∨ r = 6 ∨ r = 7 ∨ r = 8 ∨ r = 9 ∨ r = 10 ∨ r = 11 ∨ r = 12 ∨ r = 13 ∨ r = 14 ∨ r = 15 ∨ r = 16 ∨ r = 17 ∨ r = 18 ∨ r = 19 ∨ r = 20 ∨ r = 21 ∨ r = 22 ∨ r = 23 ∨ r = 24 ∨ r = 25 ∨ r = 26 ∨ r = 27 ∨ r = 28 ∨ r = 29 ∨ r = 30 ∨ r = 31 := by omega
  subst e
  rcases hq with rfl | rfl | rfl | rfl | rfl | rfl | rfl | rfl | rfl | rfl | rfl | rfl | rfl | rfl | rfl | rfl
  · rcases hr with rfl | rfl | rfl | rfl | rfl | rfl | rfl | rfl | rfl | rfl | rfl | rfl | rfl | rfl | rfl | rfl | rfl | rfl | rfl | rfl | rfl | rfl | rfl | rfl | rfl | rfl | rfl | rfl | rfl | rfl | rfl | rfl
    · exact go2 run_0
    · exact go2 run_1
    · exact go2 run_2
    · exact go2 run_3
    · exact go2 run_4
    · exact go2 run_5
    · exact go2 run_6
    · exact go2 run_7
    · exact go2 run_8
    · exact go2 run_9
    · exact go2 run_10
    · exact go2 run_11
    · exact go2 run_12
    · exact go2 run_13
    · exact go2 run_14
    · exact go2 run_15
    · exact go2 run_16
    · exact go2 run_17
    · exact go2 run_18
    · exact go2 run_19
    · exact go2 run_20
    · exact go2 run_21
    · exact go2 run_22
    · exact go2 run_23
    · exact go2 run_24
    · exact go2 run_25
    · exact go2 run_26
    · exact go2 run_27
    · exact go2 run_28
    · exact go2 run_29
    · exact go2 run_30
    · exact go2 run_31
  · rcases hr with rfl | rfl | rfl | rfl | rfl | rfl | rfl | rfl | rfl | rfl | rfl | rfl | rfl | rfl | rfl | rfl | rfl | rfl | rfl | rfl | rfl | rfl | rfl | rfl | rfl | rfl | rfl | rfl | rfl | rfl | rfl | rfl
    · exact go2 run_32
    · exact go2 run_33
    · exact go2 run_34
    · exact go2 run_35
    · exact go2 run_36
    · exact go2 run_37
    · exact go2 run_38
    · exact go2 run_39
    · exact go2 run_40
    · exact go2 run_41
    · exact go2 run_42
    · exact go2 run_43
    · exact go2 run_44
    · exact go2 run_45
    · exact go2 run_46
    · exact go2 run_47
    · exact go2 run_48
    · exact go2 run_49
    · exact go2 run_50
    · exact go2 run_51
    · exact go2 run_52
    · exact go2 run_53
    · exact go2 run_54
    · exact go2 run_55
    · exact go2 run_56
    · exact go2 run_57
    · exact go2 run_58
    · exact go2 run_59
    · exact go2 run_60
    · exact go2 run_61
    · exact go2 run_62
    · exact go2 run_63
  · rcases hr with rfl | rfl | rfl | rfl | rfl | rfl | rfl | rfl | rfl | rfl | rfl | rfl | rfl | rfl | rfl | rfl | rfl | rfl | rfl | rfl | rfl | rfl | rfl | rfl | rfl | rfl | rfl | rfl | rfl | rfl | rfl | rfl
    · exact go2 run_64
    · exact go2 run_65
    · exact go2 run_66
    · exact go2 run_67
    · exact go2 run_68
    · exact go2 run_69
    · exact go2 run_70
    · exact go2 run_71
    · exact go2 run_72
    · exact go2 run_73
    · exact go2 run_74
    · exact go2 run_75
    · exact go2 run_76
    · exact go2 run_77
    · exact go2 run_78
    · exact go2 run_79
    · exact go2 run_80
    · exact go2 run_81
    · exact go2 run_82
    · exact go2 run_83
    · exact go2 run_84
    · exact go2 run_85
    · exact go2 run_86
    · exact go2 run_87
    · exact go2 run_88
    · exact go2 run_89
    · exact go2 run_90
    · exact go2 run_91
    · exact go2 run_92
    · exact go2 run_93
    · exact go2 run_94
    · exact go2 run_95
  · rcases hr with rfl | rfl | rfl | rfl | rfl | rfl | rfl | rfl | rfl | rfl | rfl | rfl | rfl | rfl | rfl | rfl | rfl | rfl | rfl | rfl | rfl | rfl | rfl | rfl | rfl | rfl | rfl | rfl | rfl | rfl | rfl | rfl
    · exact go2 run_96
    · exact go2 run_97
    · exact go2 run_98
    · exact go2 run_99
    · exact go2 run_100
    · exact go2 run_101
    · exact go2 run_102
    · exact go2 run_103
    · exact go2 run_104
    · exact go2 run_105
    · exact go2 run_106
    · exact go2 run_107
    · exact go2 run_108
    · exact go2 run_109
    · exact go2 run_110
    · exact go2 run_111
    · exact go2 run_112
    · exact go2 run_113
    · exact go2 run_114
    · exact go2 run_115
    · exact go2 run_116
    · exact go2 run_117
    · exact go2 run_118
    · exact go2 run_119
    · exact go2 run_120
    · exact go2 run_121
    · exact go2 run_122
    · exact go2 run_123
    · exact go2 run_124
    · exact go2 run_125
    · exact go2 run_126
    · exact go2 run_127
  · rcases hr with rfl | rfl | rfl | rfl | rfl | rfl | rfl | rfl | rfl | rfl | rfl | rfl | rfl | rfl | rfl | rfl | rfl | rfl | rfl | rfl | rfl | rfl | rfl | rfl | rfl | rfl | rfl | rfl | rfl | rfl | rfl | rfl
    · exact go2 run_128
    · exact go2 run_129
    · exact go2 run_130
    · exact go2 run_131
    · exact go2 run_132
    · exact go2 run_133
    · exact go2 run_134
    · exact go2 run_135
    · exact go2 run_136
    · exact go2 run_137
    · exact go2 run_138
    · exact go2 run_139
    · exact go2 run_140
    · exact go2 run_141
    · exact go2 run_142
    · exact go2 run_143
    · exact go2 run_144
    · exact go2 run_145
    · exact go2 run_146
    · exact go2 run_147
    · exact go2 run_148
    · exact go2 run_149
    · exact go2 run_150
    · exact go2 run_151
    · exact go2 run_152
    · exact go2 run_153
    · exact go2 run_154
    · exact go2 run_155
    · exact go2 run_156
    · exact go2 run_157
    · exact go2 run_158
    · exact go2 run_159
  · rcases hr with rfl | rfl | rfl | rfl | rfl | rfl | rfl | rfl | rfl | rfl | rfl | rfl | rfl | rfl | rfl | rfl | rfl | rfl | rfl | rfl | rfl | rfl | rfl | rfl | rfl | rfl | rfl | rfl | rfl | rfl | rfl | rfl
    · exact go2 run_160
    · exact go2 run_161
    · exact go2 run_162
    · exact go2 run_163
    · exact go2 run_164
    · exact go2 run_165
    · exact go2 run_166
    · exact go2 run_167
    · exact go2 run_168
    · exact go2 run_169
    · exact go2 run_170
    · exact go2 run_171
    · exact go2 run_172
    · exact go2 run_173
    · exact go2 run_174
    · exact go2 run_175
    · exact go2 run_176
    · exact go2 run_177
    · exact go2 run_178
    · exact go2 run_179
    · exact go2 run_180
    · exact go2 run_181
    · exact go2 run_182
    · exact go2 run_183
    · exact go2 run_184
    · exact go2 run_185
    · exact go2 run_186
    · exact go2 run_187
    · exact go2 run_188
    · exact go2 run_189
    · exact go2 run_190
    · exact go2 run_191
  · rcases hr with rfl | rfl | rfl | rfl | rfl | rfl | rfl | rfl | rfl | rfl | rfl | rfl | rfl | rfl | rfl | rfl | rfl | rfl | rfl | rfl | rfl | rfl | rfl | rfl | rfl | rfl | rfl | rfl | rfl | rfl | rfl | rfl
    · exact go2 run_192
    · exact go2 run_193
    · exact go2 run_194
    · exact go2 run_195
    · exact go2 run_196
    · exact go2 run_197
    · exact go2 run_198
    · exact go2 run_199
    · exact go2 run_200
    · exact go2 run_201
    · exact go2 run_202
    · exact go2 run_203
    · exact go2 run_204
    · exact go2 run_205
    · exact go2 run_206
    · exact go2 run_207
    · exact go2 run_208
    · exact go2 run_209
    · exact go2 run_210
    · exact go2 run_211
    · exact go2 run_212
    · exact go2 run_213
    · exact go2 run_214
    · exact go2 run_215
    · exact go2 run_216
    · exact go2 run_217
    · exact go2 run_218
    · exact go2 run_219
    · exact go2 run_220
    · exact go2 run_221
    · exact go2 run_222
    · exact go2 run_223
  · rcases hr with rfl | rfl | rfl | rfl | rfl | rfl | rfl | rfl | rfl | rfl | rfl | rfl | rfl | rfl | rfl | rfl | rfl | rfl | rfl | rfl | rfl | rfl | rfl | rfl | rfl | rfl | rfl | rfl | rfl | rfl | rfl | rfl
    · exact go2 run_224
    · exact go2 run_225
    · exact go2 run_226
    · exact go2 run_227
    · exact go2 run_228
    · exact go2 run_229
    · exact go2 run_230
    · exact go2 run_231
    · exact go2 run_232
    · exact go2 run_233
    · exact go2 run_234
    · exact go2 run_235
    · exact go2 run_236
    · exact go2 run_237
    · exact go2 run_238
    · exact go2 run_239
    · exact go2 run_240
    · exact go2 run_241
    · exact go2 run_242
    · exact go2 run_243
    · exact go2 run_244
    · exact go2 run_245
    · exact go2 run_246
    · exact go2 run_247
    · exact go2 run_248
    · exact go2 run_249
    · exact go2 run_250
    · exact go2 run_251
    · exact go2 run_252
    · exact go2 run_253
    · exact go2 run_254
    · exact go2 run_255
  · rcases hr with rfl | rfl | rfl | rfl | rfl | rfl | rfl | rfl | rfl | rfl | rfl | rfl | rfl | rfl | rfl | rfl | rfl | rfl | rfl | rfl | rfl | rfl | rfl | rfl | rfl | rfl | rfl | rfl | rfl | rfl | rfl | rfl
    · exact go2 run_256
    · exact go2 run_257
    · exact go2 run_258
    · exact go2 run_259
    · exact go2 run_260
    · exact go2 run_261
    · exact go2 run_262
    · exact go2 run_263
    · exact go2 run_264
    · exact go2 run_265
    · exact go2 run_266
    · exact go2 run_267
    · exact go2 run_268
    · exact go2 run_269
    · exact go2 run_270
    · exact go2 run_271
    · exact go2 run_272
    · exact go2 run_273
    · exact go2 run_274
    · exact go2 run_275
    · exact go2 run_276
    · exact go2 run_277
    · exact go2 run_278
    · exact go2 run_279
    · exact go2 run_280
    · exact go2 run_281
    · exact go2 run_282
    · exact go2 run_283
    · exact go2 run_284
    · exact go2 run_285
    · exact go2 run_286
    · exact go2 run_287
  · rcases hr with rfl | rfl | rfl | rfl | rfl | rfl | rfl | rfl | rfl | rfl | rfl | rfl | rfl | rfl | rfl | rfl | rfl | rfl | rfl | rfl | rfl | rfl | rfl | rfl | rfl | rfl | rfl | rfl | rfl | rfl | rfl | rfl
    · exact go2 run_288
    · exact go2 run_289
    · exact go2 run_290
    · exact go2 run_291
    · exact go2 run_292
    · exact go2 run_293
    · exact go2 run_294
    · exact go2 run_295
    · exact go2 run_296
    · exact go2 run_297
    · exact go2 run_298
    · exact go2 run_299
    · exact go2 run_300
    · exact go2 run_301
    · exact go2 run_302
    · exact go2 run_303
    · exact go2 run_304
    · exact go2 run_305
    · exact go2 run_306
    · exact go2 run_307
    · exact go2 run_308
    · exact go2 run_309
    · exact go2 run_310
    · exact go2 run_311
    · exact go2 run_312
    · exact go2 run_313
    · exact go2 run_314
    · exact go2 run_315
    · exact go2 run_316
    · exact go2 run_317
    · exact go2 run_318
    · exact go2 run_319
  · rcases hr with rfl | rfl | rfl | rfl | rfl | rfl | rfl | rfl | rfl | rfl | rfl | rfl | rfl | rfl | rfl | rfl | rfl | rfl | rfl | rfl | rfl | rfl | rfl | rfl | rfl | rfl | rfl | rfl | rfl | rfl | rfl | rfl
    · exact go2 run_320
    · exact go2 run_321
    · exact go2 run_322
    · exact go2 run_323
    · exact go2 run_324
    · exact go2 run_325
    · exact go2 run_326
    · exact go2 run_327
    · exact go2 run_328
    · exact go2 run_329
    · exact go2 run_330
    · exact go2 run_331
    · exact go2 run_332
    · exact go2 run_333
    · exact go2 run_334
    · exact go2 run_335
    · exact go2 run_336
    · exact go2 run_337
    · exact go2 run_338
    · exact go2 run_339
    · exact go2 run_340
    · exact go2 run_341
    · exact go2 run_342
    · exact go2 run_343
    · exact go2 run_344
    · exact go2 run_345
    · exact go2 run_346
    · exact go2 run_347
    · exact go2 run_348
    · exact go2 run_349
    · exact go2 run_350
    · exact go2 run_351
  · rcases hr with rfl | rfl | rfl | rfl | rfl | rfl | rfl | rfl | rfl | rfl | rfl | rfl | rfl | rfl | rfl | rfl | rfl | rfl | rfl | rfl | rfl | rfl | rfl | rfl | rfl | rfl | rfl | rfl | rfl | rfl | rfl | rfl
    · exact go2 run_352
    · exact go2 run_353
    · exact go2 run_354
    · exact go2 run_355
    · exact go2 run_356
    · exact go2 run_357
    · exact go2 run_358
    · exact go2 run_359
    · exact go2 run_360
    · exact go2 run_361
    · exact go2 run_362
    · exact go2 run_363
    · exact go2 run_364
    · exact go2 run_365
    · exact go2 run_366
    · exact go2 run_367
    · exact go2 run_368
    · exact go2 run_369
    · exact go2 run_370
    · exact go2 run_371
    · exact go2 run_372
    · exact go2 run_373
    · exact go2 run_374
    · exact go2 run_375
    · exact go2 run_376
    · exact go2 run_377
    · exact go2 run_378
    · exact go2 run_379
    · exact go2 run_380
    · exact go2 run_381
    · exact go2 run_382
    · exact go2 run_383
  · rcases hr with rfl | rfl | rfl | rfl | rfl | rfl | rfl | rfl | rfl | rfl | rfl | rfl | rfl | rfl | rfl | rfl | rfl | rfl | rfl | rfl | rfl | rfl | rfl | rfl | rfl | rfl | rfl | rfl | rfl | rfl | rfl | rfl
    · exact go2 run_384
    · exact go2 run_385
    · exact go2 run_386
    · exact go2 run_387
    · exact go2 run_388
    · exact go2 run_389
    · exact go2 run_390
    · exact go2 run_391
    · exact go2 run_392
    · exact go2 run_393
    · exact go2 run_394
    · exact go2 run_395
    · exact go2 run_396
    · exact go2 run_397
    · exact go2 run_398
    · exact go2 run_399
    · exact go2 run_400
    · exact go2 run_401
    · exact go2 run_402
    · exact go2 run_403
    · exact go2 run_404
    · exact go2 run_405
    · exact go2 run_406
    · exact go2 run_407
    · exact go2 run_408
    · exact go2 run_409
    · exact go2 run_410
    · exact go2 run_411
    · exact go2 run_412
    · exact go2 run_413
    · exact go2 run_414
    · exact go2 run_415
  · rcases hr with rfl | rfl | rfl | rfl | rfl | rfl | rfl | rfl | rfl | rfl | rfl | rfl | rfl | rfl | rfl | rfl | rfl | rfl | rfl | rfl | rfl | rfl | rfl | rfl | rfl | rfl | rfl | rfl | rfl | rfl | rfl | rfl
    · exact go2 run_416
    · exact go2 run_417
    · exact go2 run_418
    · exact go2 run_419
    · exact go2 run_420
    · exact go2 run_421
    · exact go2 run_422
    · exact go2 run_423
    · exact go2 run_424
    · exact go2 run_425
    · exact go2 run_426
    · exact go2 run_427
    · exact go2 run_428
    · exact go2 run_429
    · exact go2 run_430
    · exact go2 run_431
    · exact go2 run_432
    · exact go2 run_433
    · exact go2 run_434
    · exact go2 run_435
    · exact go2 run_436
    · exact go2 run_437
    · exact go2 run_438
    · exact go2 run_439
    · exact go2 run_440
    · exact go2 run_441
    · exact go2 run_442
    · exact go2 run_443
    · exact go2 run_444
    · exact go2 run_445
    · exact go2 run_446
    · exact go2 run_447
  · rcases hr with rfl | rfl | rfl | rfl | rfl | rfl | rfl | rfl | rfl | rfl | rfl | rfl | rfl | rfl | rfl | rfl | rfl | rfl | rfl | rfl | rfl | rfl | rfl | rfl | rfl | rfl | rfl | rfl | rfl | rfl | rfl | rfl
    · exact go2 run_448
    · exact go2 run_449
    · exact go2 run_450
    · exact go2 run_451
    · exact go2 run_452
    · exact go2 run_453
    · exact go2 run_454
    · exact go2 run_455
    · exact go2 run_456
    · exact go2 run_457
    · exact go2 run_458
    · exact go2 run_459
    · exact go2 run_460
    · exact go2 run_461
    · exact go2 run_462
    · exact go2 run_463
    · exact go2 run_464
    · exact go2 run_465
    · exact go2 run_466
    · exact go2 run_467
    · exact go2 run_468
    · exact go2 run_469
    · exact go2 run_470
    · exact go2 run_471
    · exact go2 run_472
    · exact go2 run_473
    · exact go2 run_474
    · exact go2 run_475
    · exact go2 run_476
    · exact go2 run_477
    · exact go2 run_478
    · exact go2 run_479
  · rcases hr with rfl | rfl | rfl | rfl | rfl | rfl | rfl | rfl | rfl | rfl | rfl | rfl | rfl | rfl | rfl | rfl | rfl | rfl | rfl | rfl | rfl | rfl | rfl | rfl | rfl | rfl | rfl | rfl | rfl | rfl | rfl | rfl
    · exact go2 run_480
    · exact go2 run_481
    · exact go2 run_482
    · exact go2 run_483
    · exact go2 run_484
    · exact go2 run_485
    · exact go2 run_486
    · exact go2 run_487
    · exact go2 run_488
    · exact go2 run_489
    · exact go2 run_490
    · exact go2 run_491
    · exact go2 run_492
    · exact go2 run_493
    · exact go2 run_494
    · exact go2 run_495
    · exact go2 run_496
    · exact go2 run_497
    · exact go2 run_498
    · exact go2 run_499
    · exact go2 run_500
    · exact go2 run_501
    · exact go2 run_502
    · exact go2 run_503
    · exact go2 run_504
    · exact go2 run_505
    · exact go2 run_506
    · exact go2 run_507
    · exact go2 run_508
    · exact go2 run_509
    · exact go2 run_510
    · exact go2 run_511

/-! ### THE ROW's STEP: WRITTEN OUT: LEAVE IT -/
set_option maxRecDepth 100000 in
theorem lifted (os : Os) (started : os.Started) (H : Type) (enc : TypeId × Value → H) :
    ReturnsInHanded {} Try.checked os 11 .any (Rows.coreOwnSpec.pre6 enc Try.prog Try.f11 Rows.coreOwnRow.domain false) (Rows.coreOwnSpec.post enc Try.prog Try.f11 false true false false) := by
  refine returnsInHanded_of_change (C := Try.checked) own started (by kernel_rfl) Try.func11
    (ChangeSpec.witness6 (enc := enc) (C := Try.checked) false ⟨#[], #[.int .i64 0, .int .i64 0], []⟩ 8 (by kernel_rfl) (by kernel_rfl) (by kernel_rfl) (by kernel_rfl)) ?_
  intro W base args ds gs before hval0 hW hcnd _
  have hval : ∀ (j : Nat) t v, Try.f11.params[j]? = some t → args[j]? = some v → Value.okWide Try.prog W .any base t v := hval0
  have hW' := hW
  obtain ⟨p, q, hA0, hV, rfl, hfz, hnd⟩ := hW
  have hA : DataW.TrodAll enc Try.prog W 0 (fun _ => true) true Try.f11.params.toList args.toList ds p := hA0
  rw [Try.params11] at hA hval
  obtain ⟨v0, vs0, d0, ds0, p0, q0, hargs, rfl, rfl, h0, r0⟩ := trodAll_cons hA
  obtain ⟨v1, vs1, d1, ds1, p1, q1, rfl, rfl, rfl, h1, r1⟩ := trodAll_cons r0
  obtain ⟨rfl, rfl, rfl⟩ := trodAll_nil r1
  obtain rfl : args = #[v0, v1] := by cases args; simp_all
  obtain ⟨rfl, rfl⟩ := trodVars_none hV
  obtain ⟨a0, rfl, rfl, rfl, w0⟩ := open_int Try.underlying3 (hval 0 3 v0 rfl rfl) h0
  obtain ⟨a1, rfl, rfl, rfl, w1⟩ := open_int Try.underlying3 (hval 1 3 v1 rfl rfl) h1
  clear hA0 hval0
  simp only [List.append_nil] at hW'
  refine (walk a0 a1 w0 w1 W).mono fun e W' ⟨he, hg⟩ => ?_
  subst he
  exact ⟨_, rfl, post_below (pa := []) (pv := []) hW' (fun _ _ _ => (trodAll_cons_mk (shut_bool Try.underlying4 _) trodAll_mk0)) (fun sp _ => (trodAll_cons_mk (shut_int Try.underlying3 w0) (trodAll_cons_mk (shut_int Try.underlying3 w1) trodAll_mk0))) (fun _ _ => rfl) rfl
    hg (ok_one (by kernel_rfl) rfl (okWide_bool_mk Try.underlying4 _))⟩

theorem over : Rows.coreOwnRow.holds Try.pinned (OpenSpec.ofChange Rows.coreOwnSpec) :=
  OpenClaim.holds_of_wide 11 Try.f11 rfl rfl rfl rfl rfl rfl rfl ⟨rfl, rfl, rfl, rfl, rfl⟩ rfl rfl rfl rfl rfl (by kernel_rfl) Try.func11 facts
    (of_decide_eq_true (by kernel_rfl)) (by unfold Func.isWrapper; first | (rw [if_pos (by decide +kernel)]; kernel_rfl) | (rw [if_neg (by decide +kernel)]; exact ⟨rfl, rfl⟩))
    (fun os started H enc _ => lifted os started H enc)

/-- ████ THE STATEMENT ████ -/
theorem proved : Rows.CoreOwnSaid :=
  over
#print axioms proved
end Go.Proofs.Ytfpllgkcflinbaa.coreOwn
