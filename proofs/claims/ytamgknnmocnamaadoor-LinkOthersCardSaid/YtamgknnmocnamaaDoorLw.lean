/- The law LinkOthers of concierge is true for every input, and leaves its arguments as they were. Conditions: those of its card (what the listed package variables read as). -/
import Derived.Test.YtamgknnmocnamaaDoorSo
import Derived.Test.YtamgknnmocnamaaDoorRu1
import Derived.Test.YtamgknnmocnamaaDoorRu2
import Derived.Test.YtamgknnmocnamaaDoorRu3
import Derived.Test.YtamgknnmocnamaaDoorRu4
import Derived.Test.YtamgknnmocnamaaDoorRu5
import Derived.Test.YtamgknnmocnamaaDoorRu6
import Derived.Test.YtamgknnmocnamaaDoorRu7
import Derived.Test.YtamgknnmocnamaaDoorRu8
import Derived.Test.YtamgknnmocnamaaDoorRu9
import Derived.Test.YtamgknnmocnamaaDoorRu10
import Derived.Test.YtamgknnmocnamaaDoorRu11
import Derived.Test.YtamgknnmocnamaaDoorRu12
import Derived.Test.YtamgknnmocnamaaDoorRu13
import Derived.Test.YtamgknnmocnamaaDoorRu14
import Derived.Test.YtamgknnmocnamaaDoorRu15
import Derived.Test.YtamgknnmocnamaaDoorRu16
import Derived.Test.YtamgknnmocnamaaDoorRows
import Derived.Test.YtamgknnmocnamaaDoorCards
import Derived.Test.YtamgknnmocnamaaDoorTie
import Derived.Test.YtamgknnmocnamaaDoorFa5
import Derived.Test.YtamgknnmocnamaaDoorFa6
import Derived.Test.YtamgknnmocnamaaDoorFa7
import Derived.Test.YtamgknnmocnamaaDoorFa8
import Derived.WalkKit
import Derived.ProofKit
import Derived.OpenShut
import Derived.Handy
import Derived.Lay
import Derived.LaidOnce
import Derived.SevenTiedAt
namespace Go.Proofs.YtamgknnmocnamaaDoor.linkOthers
open Go.ChangeShapes Go.WideShapes Go.ChangeAt Go.RowKit Go.Cg
set_option linter.unusedVariables false

theorem own : ownKnob Tryd.prog.godebug = none := by kernel_rfl

theorem begun_ret (w : World) : Calls Tryd.prog 16 #[] w fun e w' => e = .returned (.bool true) ∧ Kept w w' :=
  letI : Syms := ⟨fun _ => 0⟩
  law_call (Cg.Law.sound0 60) (f := Cg.Law.p16) rfl Tryd.func16 (by kernel_rfl) (by kernel_rfl) .nil Cg.Law.begunRun

theorem outside (a0 : Int) (a1 : Int) (h : ¬ (0 ≤ a0 ∧ a0 ≤ 40 ∧ 0 ≤ a1 ∧ a1 ≤ 3)) (w : World) : Calls Tryd.prog 4 #[.int .i64 a0, .int .i64 a1] w fun e w' => e = .returned (.bool true) ∧ Kept w w' := by
  go_enter Tryd.func4, Tryd.ntmps4
  go_wp2_with fail
  go_call begun_ret w as e w' ⟨rfl, hk⟩
  go_wp2
  all_goals first | omega | (go_ret; exact ⟨rfl, hk⟩) | skip

theorem walk (a0 : Int) (w0 : (Lit.int .i64 a0).wf = true) (a1 : Int) (w1 : (Lit.int .i64 a1).wf = true) (w : World) : Calls Tryd.prog 4 #[.int .i64 a0, .int .i64 a1] w fun e w' => e = .returned (.bool true) ∧ Kept w w' := by
  by_cases h : 0 ≤ a0 ∧ a0 ≤ 40 ∧ 0 ≤ a1 ∧ a1 ≤ 3
  case neg => exact outside a0 a1 h w
  letI : Syms := ⟨fun _ => 0⟩
  have fin : ∀ b0 b1 : Int, isTrue (callF Cg.Law.prog 100000 60 Cg.Law.p4 [.int .i64 b0, .int .i64 b1] (.mk .e .lf)) = true → Calls Tryd.prog 4 #[.int .i64 b0, .int .i64 b1] w fun e w' => e = .returned (.bool true) ∧ Kept w w' := fun b0 b1 hk =>
    law_call (Cg.Law.sound 60) (f := Cg.Law.p4) rfl Tryd.func4 (by kernel_rfl) (by kernel_rfl) (.cons _ _ _ _ (.int _ _) (.cons _ _ _ _ (.int _ _) .nil)) hk
  have h0 : ∃ n : Nat, n < 41 ∧ a0 = 0 + (n : Int) := ⟨(a0 - 0).toNat, by omega, by omega⟩
  obtain ⟨n0, l0, rfl⟩ := h0
  have h1 : ∃ n : Nat, n < 4 ∧ a1 = 0 + (n : Int) := ⟨(a1 - 0).toNat, by omega, by omega⟩
  obtain ⟨n1, l1, rfl⟩ := h1
  clear h w0 w1
  match n0, l0 with
  | 0, _ =>
    match n1, l1 with
    | 0, _ =>
      exact fin 0 0 Cg.Law.run_0_0
    | 1, _ =>
      exact fin 0 1 Cg.Law.run_0_1
    | 2, _ =>
      exact fin 0 2 Cg.Law.run_0_2
    | 3, _ =>
      exact fin 0 3 Cg.Law.run_0_3
  | 1, _ =>
    match n1, l1 with
    | 0, _ =>
      exact fin 1 0 Cg.Law.run_1_0
    | 1, _ =>
      exact fin 1 1 Cg.Law.run_1_1
    | 2, _ =>
      exact fin 1 2 Cg.Law.run_1_2
    | 3, _ =>
      exact fin 1 3 Cg.Law.run_1_3
  | 2, _ =>
    match n1, l1 with
    | 0, _ =>
      exact fin 2 0 Cg.Law.run_2_0
    | 1, _ =>
      exact fin 2 1 Cg.Law.run_2_1
    | 2, _ =>
      exact fin 2 2 Cg.Law.run_2_2
    | 3, _ =>
      exact fin 2 3 Cg.Law.run_2_3
  | 3, _ =>
    match n1, l1 with
    | 0, _ =>
      exact fin 3 0 Cg.Law.run_3_0
    | 1, _ =>
      exact fin 3 1 Cg.Law.run_3_1
    | 2, _ =>
      exact fin 3 2 Cg.Law.run_3_2
    | 3, _ =>
      exact fin 3 3 Cg.Law.run_3_3
  | 4, _ =>
    match n1, l1 with
    | 0, _ =>
      exact fin 4 0 Cg.Law.run_4_0
    | 1, _ =>
      exact fin 4 1 Cg.Law.run_4_1
    | 2, _ =>
      exact fin 4 2 Cg.Law.run_4_2
    | 3, _ =>
      exact fin 4 3 Cg.Law.run_4_3
  | 5, _ =>
    match n1, l1 with
    | 0, _ =>
      exact fin 5 0 Cg.Law.run_5_0
    | 1, _ =>
      exact fin 5 1 Cg.Law.run_5_1
    | 2, _ =>
      exact fin 5 2 Cg.Law.run_5_2
    | 3, _ =>
      exact fin 5 3 Cg.Law.run_5_3
  | 6, _ =>
    match n1, l1 with
    | 0, _ =>
      exact fin 6 0 Cg.Law.run_6_0
    | 1, _ =>
      exact fin 6 1 Cg.Law.run_6_1
    | 2, _ =>
      exact fin 6 2 Cg.Law.run_6_2
    | 3, _ =>
      exact fin 6 3 Cg.Law.run_6_3
  | 7, _ =>
    match n1, l1 with
    | 0, _ =>
      exact fin 7 0 Cg.Law.run_7_0
    | 1, _ =>
      exact fin 7 1 Cg.Law.run_7_1
    | 2, _ =>
      exact fin 7 2 Cg.Law.run_7_2
    | 3, _ =>
      exact fin 7 3 Cg.Law.run_7_3
  | 8, _ =>
    match n1, l1 with
    | 0, _ =>
      exact fin 8 0 Cg.Law.run_8_0
    | 1, _ =>
      exact fin 8 1 Cg.Law.run_8_1
    | 2, _ =>
      exact fin 8 2 Cg.Law.run_8_2
    | 3, _ =>
      exact fin 8 3 Cg.Law.run_8_3
  | 9, _ =>
    match n1, l1 with
    | 0, _ =>
      exact fin 9 0 Cg.Law.run_9_0
    | 1, _ =>
      exact fin 9 1 Cg.Law.run_9_1
    | 2, _ =>
      exact fin 9 2 Cg.Law.run_9_2
    | 3, _ =>
      exact fin 9 3 Cg.Law.run_9_3
  | 10, _ =>
    match n1, l1 with
    | 0, _ =>
      exact fin 10 0 Cg.Law.run_10_0
    | 1, _ =>
      exact fin 10 1 Cg.Law.run_10_1
    | 2, _ =>
      exact fin 10 2 Cg.Law.run_10_2
    | 3, _ =>
      exact fin 10 3 Cg.Law.run_10_3
  | 11, _ =>
    match n1, l1 with
    | 0, _ =>
      exact fin 11 0 Cg.Law.run_11_0
    | 1, _ =>
      exact fin 11 1 Cg.Law.run_11_1
    | 2, _ =>
      exact fin 11 2 Cg.Law.run_11_2
    | 3, _ =>
      exact fin 11 3 Cg.Law.run_11_3
  | 12, _ =>
    match n1, l1 with
    | 0, _ =>
      exact fin 12 0 Cg.Law.run_12_0
    | 1, _ =>
      exact fin 12 1 Cg.Law.run_12_1
    | 2, _ =>
      exact fin 12 2 Cg.Law.run_12_2
    | 3, _ =>
      exact fin 12 3 Cg.Law.run_12_3
  | 13, _ =>
    match n1, l1 with
    | 0, _ =>
      exact fin 13 0 Cg.Law.run_13_0
    | 1, _ =>
      exact fin 13 1 Cg.Law.run_13_1
    | 2, _ =>
      exact fin 13 2 Cg.Law.run_13_2
    | 3, _ =>
      exact fin 13 3 Cg.Law.run_13_3
  | 14, _ =>
    match n1, l1 with
    | 0, _ =>
      exact fin 14 0 Cg.Law.run_14_0
    | 1, _ =>
      exact fin 14 1 Cg.Law.run_14_1
    | 2, _ =>
      exact fin 14 2 Cg.Law.run_14_2
    | 3, _ =>
      exact fin 14 3 Cg.Law.run_14_3
  | 15, _ =>
    match n1, l1 with
    | 0, _ =>
      exact fin 15 0 Cg.Law.run_15_0
    | 1, _ =>
      exact fin 15 1 Cg.Law.run_15_1
    | 2, _ =>
      exact fin 15 2 Cg.Law.run_15_2
    | 3, _ =>
      exact fin 15 3 Cg.Law.run_15_3
  | 16, _ =>
    match n1, l1 with
    | 0, _ =>
      exact fin 16 0 Cg.Law.run_16_0
    | 1, _ =>
      exact fin 16 1 Cg.Law.run_16_1
    | 2, _ =>
      exact fin 16 2 Cg.Law.run_16_2
    | 3, _ =>
      exact fin 16 3 Cg.Law.run_16_3
  | 17, _ =>
    match n1, l1 with
    | 0, _ =>
      exact fin 17 0 Cg.Law.run_17_0
    | 1, _ =>
      exact fin 17 1 Cg.Law.run_17_1
    | 2, _ =>
      exact fin 17 2 Cg.Law.run_17_2
    | 3, _ =>
      exact fin 17 3 Cg.Law.run_17_3
  | 18, _ =>
    match n1, l1 with
    | 0, _ =>
      exact fin 18 0 Cg.Law.run_18_0
    | 1, _ =>
      exact fin 18 1 Cg.Law.run_18_1
    | 2, _ =>
      exact fin 18 2 Cg.Law.run_18_2
    | 3, _ =>
      exact fin 18 3 Cg.Law.run_18_3
  | 19, _ =>
    match n1, l1 with
    | 0, _ =>
      exact fin 19 0 Cg.Law.run_19_0
    | 1, _ =>
      exact fin 19 1 Cg.Law.run_19_1
    | 2, _ =>
      exact fin 19 2 Cg.Law.run_19_2
    | 3, _ =>
      exact fin 19 3 Cg.Law.run_19_3
  | 20, _ =>
    match n1, l1 with
    | 0, _ =>
      exact fin 20 0 Cg.Law.run_20_0
    | 1, _ =>
      exact fin 20 1 Cg.Law.run_20_1
    | 2, _ =>
      exact fin 20 2 Cg.Law.run_20_2
    | 3, _ =>
      exact fin 20 3 Cg.Law.run_20_3
  | 21, _ =>
    match n1, l1 with
    | 0, _ =>
      exact fin 21 0 Cg.Law.run_21_0
    | 1, _ =>
      exact fin 21 1 Cg.Law.run_21_1
    | 2, _ =>
      exact fin 21 2 Cg.Law.run_21_2
    | 3, _ =>
      exact fin 21 3 Cg.Law.run_21_3
  | 22, _ =>
    match n1, l1 with
    | 0, _ =>
      exact fin 22 0 Cg.Law.run_22_0
    | 1, _ =>
      exact fin 22 1 Cg.Law.run_22_1
    | 2, _ =>
      exact fin 22 2 Cg.Law.run_22_2
    | 3, _ =>
      exact fin 22 3 Cg.Law.run_22_3
  | 23, _ =>
    match n1, l1 with
    | 0, _ =>
      exact fin 23 0 Cg.Law.run_23_0
    | 1, _ =>
      exact fin 23 1 Cg.Law.run_23_1
    | 2, _ =>
      exact fin 23 2 Cg.Law.run_23_2
    | 3, _ =>
      exact fin 23 3 Cg.Law.run_23_3
  | 24, _ =>
    match n1, l1 with
    | 0, _ =>
      exact fin 24 0 Cg.Law.run_24_0
    | 1, _ =>
      exact fin 24 1 Cg.Law.run_24_1
    | 2, _ =>
      exact fin 24 2 Cg.Law.run_24_2
    | 3, _ =>
      exact fin 24 3 Cg.Law.run_24_3
  | 25, _ =>
    match n1, l1 with
    | 0, _ =>
      exact fin 25 0 Cg.Law.run_25_0
    | 1, _ =>
      exact fin 25 1 Cg.Law.run_25_1
    | 2, _ =>
      exact fin 25 2 Cg.Law.run_25_2
    | 3, _ =>
      exact fin 25 3 Cg.Law.run_25_3
  | 26, _ =>
    match n1, l1 with
    | 0, _ =>
      exact fin 26 0 Cg.Law.run_26_0
    | 1, _ =>
      exact fin 26 1 Cg.Law.run_26_1
    | 2, _ =>
      exact fin 26 2 Cg.Law.run_26_2
    | 3, _ =>
      exact fin 26 3 Cg.Law.run_26_3
  | 27, _ =>
    match n1, l1 with
    | 0, _ =>
      exact fin 27 0 Cg.Law.run_27_0
    | 1, _ =>
      exact fin 27 1 Cg.Law.run_27_1
    | 2, _ =>
      exact fin 27 2 Cg.Law.run_27_2
    | 3, _ =>
      exact fin 27 3 Cg.Law.run_27_3
  | 28, _ =>
    match n1, l1 with
    | 0, _ =>
      exact fin 28 0 Cg.Law.run_28_0
    | 1, _ =>
      exact fin 28 1 Cg.Law.run_28_1
    | 2, _ =>
      exact fin 28 2 Cg.Law.run_28_2
    | 3, _ =>
      exact fin 28 3 Cg.Law.run_28_3
  | 29, _ =>
    match n1, l1 with
    | 0, _ =>
      exact fin 29 0 Cg.Law.run_29_0
    | 1, _ =>
      exact fin 29 1 Cg.Law.run_29_1
    | 2, _ =>
      exact fin 29 2 Cg.Law.run_29_2
    | 3, _ =>
      exact fin 29 3 Cg.Law.run_29_3
  | 30, _ =>
    match n1, l1 with
    | 0, _ =>
      exact fin 30 0 Cg.Law.run_30_0
    | 1, _ =>
      exact fin 30 1 Cg.Law.run_30_1
    | 2, _ =>
      exact fin 30 2 Cg.Law.run_30_2
    | 3, _ =>
      exact fin 30 3 Cg.Law.run_30_3
  | 31, _ =>
    match n1, l1 with
    | 0, _ =>
      exact fin 31 0 Cg.Law.run_31_0
    | 1, _ =>
      exact fin 31 1 Cg.Law.run_31_1
    | 2, _ =>
      exact fin 31 2 Cg.Law.run_31_2
    | 3, _ =>
      exact fin 31 3 Cg.Law.run_31_3
  | 32, _ =>
    match n1, l1 with
    | 0, _ =>
      exact fin 32 0 Cg.Law.run_32_0
    | 1, _ =>
      exact fin 32 1 Cg.Law.run_32_1
    | 2, _ =>
      exact fin 32 2 Cg.Law.run_32_2
    | 3, _ =>
      exact fin 32 3 Cg.Law.run_32_3
  | 33, _ =>
    match n1, l1 with
    | 0, _ =>
      exact fin 33 0 Cg.Law.run_33_0
    | 1, _ =>
      exact fin 33 1 Cg.Law.run_33_1
    | 2, _ =>
      exact fin 33 2 Cg.Law.run_33_2
    | 3, _ =>
      exact fin 33 3 Cg.Law.run_33_3
  | 34, _ =>
    match n1, l1 with
    | 0, _ =>
      exact fin 34 0 Cg.Law.run_34_0
    | 1, _ =>
      exact fin 34 1 Cg.Law.run_34_1
    | 2, _ =>
      exact fin 34 2 Cg.Law.run_34_2
    | 3, _ =>
      exact fin 34 3 Cg.Law.run_34_3
  | 35, _ =>
    match n1, l1 with
    | 0, _ =>
      exact fin 35 0 Cg.Law.run_35_0
    | 1, _ =>
      exact fin 35 1 Cg.Law.run_35_1
    | 2, _ =>
      exact fin 35 2 Cg.Law.run_35_2
    | 3, _ =>
      exact fin 35 3 Cg.Law.run_35_3
  | 36, _ =>
    match n1, l1 with
    | 0, _ =>
      exact fin 36 0 Cg.Law.run_36_0
    | 1, _ =>
      exact fin 36 1 Cg.Law.run_36_1
    | 2, _ =>
      exact fin 36 2 Cg.Law.run_36_2
    | 3, _ =>
      exact fin 36 3 Cg.Law.run_36_3
  | 37, _ =>
    match n1, l1 with
    | 0, _ =>
      exact fin 37 0 Cg.Law.run_37_0
    | 1, _ =>
      exact fin 37 1 Cg.Law.run_37_1
    | 2, _ =>
      exact fin 37 2 Cg.Law.run_37_2
    | 3, _ =>
      exact fin 37 3 Cg.Law.run_37_3
  | 38, _ =>
    match n1, l1 with
    | 0, _ =>
      exact fin 38 0 Cg.Law.run_38_0
    | 1, _ =>
      exact fin 38 1 Cg.Law.run_38_1
    | 2, _ =>
      exact fin 38 2 Cg.Law.run_38_2
    | 3, _ =>
      exact fin 38 3 Cg.Law.run_38_3
  | 39, _ =>
    match n1, l1 with
    | 0, _ =>
      exact fin 39 0 Cg.Law.run_39_0
    | 1, _ =>
      exact fin 39 1 Cg.Law.run_39_1
    | 2, _ =>
      exact fin 39 2 Cg.Law.run_39_2
    | 3, _ =>
      exact fin 39 3 Cg.Law.run_39_3
  | 40, _ =>
    match n1, l1 with
    | 0, _ =>
      exact fin 40 0 Cg.Law.run_40_0
    | 1, _ =>
      exact fin 40 1 Cg.Law.run_40_1
    | 2, _ =>
      exact fin 40 2 Cg.Law.run_40_2
    | 3, _ =>
      exact fin 40 3 Cg.Law.run_40_3
  | n + 41, hl => exact absurd hl (by omega)

theorem met (os : Os) (args : Array Value) : laidMetH Tryd.prog Rows.linkOthersRow.laid ((World.laidAll Tryd.prog os Rows.linkOthersRow.laid).forCall (fun _ _ => 0) ⟨#[], args, []⟩).memory := by
  rw [MakeChecks.laidMetH_plain _ _ _ (by kernel_rfl)]; exact laidMet_laidAll _ (by kernel_rfl) (by kernel_rfl)

set_option maxRecDepth 100000 in
theorem lifted (os : Os) (started : os.Started) (H : Type) (enc : TypeId × Value → H) :
    ReturnsInHanded {} Tryd.checked os 4 .any (fun w args => (Rows.linkOthersSpec.pre enc Tryd.prog Tryd.f4 [] false w args ∧ laidMetH Tryd.prog Rows.linkOthersRow.laid w) ∧ sizedMet enc Tryd.prog Tryd.f4 (OpenSpec.ofChange Rows.linkOthersSpec) false w args)
      (Rows.linkOthersSpec.post enc Tryd.prog Tryd.f4 false true false false) := by
  refine returnsInHanded_of_change_and (C := Tryd.checked) (X := fun w _ => laidMetH Tryd.prog Rows.linkOthersRow.laid w) (fun _ _ _ hh h => h.of_heap hh) own started (by kernel_rfl) Tryd.func4
    (ChangeSpec.witness_shaped (enc := enc) (C := Tryd.checked) (os := os) (X := fun w _ => laidMetH Tryd.prog Rows.linkOthersRow.laid w) false (World.laidAll Tryd.prog os Rows.linkOthersRow.laid) #[.int .i64 0, .int .i64 0] 8 (World.laidAll_os _ _ _)
      (World.shaped_of_ZipB (by kernel_rfl) (by kernel_rfl)) (by kernel_rfl) (by kernel_rfl) (by kernel_rfl) (met os _)) ?_
  intro W base args ds gs before hval0 hW _ _ hL _
  have hval : ∀ (j : Nat) t v, Tryd.f4.params[j]? = some t → args[j]? = some v → Value.okWide Tryd.prog W .any base t v := hval0
  have hW' := hW
  obtain ⟨p, q, hA0, hV, rfl, _, _⟩ := hW
  have hA : DataW.TrodAll enc Tryd.prog W 0 (fun _ => true) true Tryd.f4.params.toList args.toList ds p := hA0
  rw [Tryd.params4] at hA hval
  obtain ⟨v0, vs0, d0, ds0, p0, q0, hargs, rfl, rfl, h0, r0⟩ := trodAll_cons hA
  obtain ⟨v1, vs1, d1, ds1, p1, q1, rfl, rfl, rfl, h1, r1⟩ := trodAll_cons r0
  obtain ⟨rfl, rfl, rfl⟩ := trodAll_nil r1
  obtain rfl : args = #[v0, v1] := by cases args; simp_all
  obtain ⟨rfl, rfl⟩ := trodVars_none hV
  obtain ⟨a0, rfl, rfl, rfl, w0⟩ := open_int Tryd.underlying3 (hval 0 3 v0 rfl rfl) h0
  obtain ⟨a1, rfl, rfl, rfl, w1⟩ := open_int Tryd.underlying3 (hval 1 3 v1 rfl rfl) h1
  simp only [List.append_nil] at hW'
  refine (walk a0 w0 a1 w1 W).mono fun e W' ⟨he, hb⟩ => ?_
  subst he
  exact ⟨_, rfl, _, _, _, [], [], [], hW', trodAll_mk1 (shut_bool Tryd.underlying4 _), (trodAll_cons_mk (shut_int Tryd.underlying3 w0) (trodAll_cons_mk (shut_int Tryd.underlying3 w1) trodAll_mk0)), rfl, @Kept.frame ⟨fun _ => 0⟩ _ _ hb _, fun h => by cases h⟩

theorem over : Rows.linkOthersRow.holds Tryd.pinned (OpenSpec.ofChange Rows.linkOthersSpec) :=
  OpenClaim.holds_of_wide 4 Tryd.f4 rfl rfl rfl rfl rfl rfl rfl ⟨rfl, rfl, rfl, rfl, rfl⟩ rfl rfl rfl rfl rfl named Tryd.func4 closed
    (of_decide_eq_true (by kernel_rfl)) (by unfold Func.isWrapper; first | (rw [if_pos (by decide +kernel)]; kernel_rfl) | (rw [if_neg (by decide +kernel)]; exact ⟨rfl, rfl⟩))
    (fun os started H enc _ => lifted os started H enc)

theorem proved : Rows.LinkOthersCardSaid :=
  Claim7.holds_tied_plain_at .later [] [.data, .pinned] true (true, "aa27b08c577acecbdbe3192b7d27716d652f3b8434f359c689c3434aa6aeea20") true over (fun _ h => by cases h) t0 (fun _ h => by cases h) linkOthers_row_tie rfl ⟨rfl, rfl⟩ t1 rfl
    (fun f fn hf hfn => by
      obtain rfl : f = 4 := Option.some.inj ((show Tryd.prog.funcNamed "concierge/conciergelaw17.LinkOthers" = some 4 from named).symm.trans hf) |>.symm
      obtain rfl : fn = Tryd.f4 := (Option.some.inj (Tryd.func4.symm.trans hfn)).symm
      exact ⟨t2, fun j t ht => by
        obtain ⟨h1, h2⟩ := Array.getElem?_eq_some_iff.1 ht
        have hall := Array.all_eq_true.1 t4 j h1
        rw [h2] at hall
        exact (show Tryd.prog.wantsStandIn t = false by simpa using hall)⟩)
    t3
#print axioms proved
end Go.Proofs.YtamgknnmocnamaaDoor.linkOthers
