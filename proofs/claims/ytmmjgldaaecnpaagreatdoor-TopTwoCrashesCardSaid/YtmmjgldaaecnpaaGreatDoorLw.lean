/- The law TopTwoCrashes of concierge is true for every input, and leaves its arguments as they were. Conditions: those of its card (what the listed package variables read as). -/
import Derived.Test.YtmmjgldaaecnpaaGreatDoorSo
import Derived.Test.YtmmjgldaaecnpaaGreatDoorRu1
import Derived.Test.YtmmjgldaaecnpaaGreatDoorRu2
import Derived.Test.YtmmjgldaaecnpaaGreatDoorRu3
import Derived.Test.YtmmjgldaaecnpaaGreatDoorRu4
import Derived.Test.YtmmjgldaaecnpaaGreatDoorRu5
import Derived.Test.YtmmjgldaaecnpaaGreatDoorRu6
import Derived.Test.YtmmjgldaaecnpaaGreatDoorRu7
import Derived.Test.YtmmjgldaaecnpaaGreatDoorRu8
import Derived.Test.YtmmjgldaaecnpaaGreatDoorRows
import Derived.Test.YtmmjgldaaecnpaaGreatDoorCards
import Derived.Test.YtmmjgldaaecnpaaGreatDoorTie
import Derived.Test.YtmmjgldaaecnpaaGreatDoorFa5
import Derived.Test.YtmmjgldaaecnpaaGreatDoorFa6
import Derived.Test.YtmmjgldaaecnpaaGreatDoorFa7
import Derived.Test.YtmmjgldaaecnpaaGreatDoorFa8
import Derived.WalkKit
import Derived.ProofKit
import Derived.OpenShut
import Derived.Lay
import Derived.LaidOnce
import Derived.SevenTiedAt
namespace Go.Proofs.YtmmjgldaaecnpaaGreatDoor.topTwoCrashes
open Go.ChangeShapes Go.WideShapes Go.ChangeAt Go.RowKit Go.Cg
set_option linter.unusedVariables false

theorem own : ownKnob Tryz.prog.godebug = none := by kernel_rfl

theorem small_9 (n : Int) (w0 : (Lit.int .i64 n).wf = true) (w : World) :
    Calls Tryz.prog 5 #[.int .i64 n, .int .i64 9] w fun e w' => e = .returned (.int .i64 (smallI n 9)) ∧ w' = w := by
  have hb : -9 < n.tmod 9 ∧ n.tmod 9 < 9 := @small_bounds ⟨fun _ => 0⟩ n 9 (by decide)
  have hs : ((smallI n 9 : Nat) : Int) = ((n.tmod 9).natAbs : Int) := rfl
  generalize smallI n 9 = r at hs ⊢
  go_enter Tryz.func5, Tryz.ntmps5
  go_wp2
  · have e : -n.tmod 9 = (r : Int) := by omega
    rw [e]
    go_ret
    exact ⟨rfl, rfl⟩
  · have e : n.tmod 9 = (r : Int) := by omega
    rw [e]
    go_ret
    exact ⟨rfl, rfl⟩

theorem small_12 (n : Int) (w0 : (Lit.int .i64 n).wf = true) (w : World) :
    Calls Tryz.prog 5 #[.int .i64 n, .int .i64 12] w fun e w' => e = .returned (.int .i64 (smallI n 12)) ∧ w' = w := by
  have hb : -12 < n.tmod 12 ∧ n.tmod 12 < 12 := @small_bounds ⟨fun _ => 0⟩ n 12 (by decide)
  have hs : ((smallI n 12 : Nat) : Int) = ((n.tmod 12).natAbs : Int) := rfl
  generalize smallI n 12 = r at hs ⊢
  go_enter Tryz.func5, Tryz.ntmps5
  go_wp2
  · have e : -n.tmod 12 = (r : Int) := by omega
    rw [e]
    go_ret
    exact ⟨rfl, rfl⟩
  · have e : n.tmod 12 = (r : Int) := by omega
    rw [e]
    go_ret
    exact ⟨rfl, rfl⟩

theorem walk (a0 : Int) (w0 : (Lit.int .i64 a0).wf = true) (a1 : Int) (w1 : (Lit.int .i64 a1).wf = true) (w : World) : Calls Tryz.prog 3 #[.int .i64 a0, .int .i64 a1] w fun e w' => e = .returned (.bool true) ∧ Kept w w' := by
  letI : Syms := ⟨fun i => if i = 0 then a0 else if i = 1 then a1 else 0⟩
  have key : ∀ r0 r1 : Nat, smallI a0 9 = r0 → smallI a1 12 = r1 → RestOk Tryz.prog Cg.Law.p5 [(0, 9, r0), (1, 12, r1)] := fun r0 r1 h0 h1 e he w => by
    simp only [List.mem_cons, List.mem_nil_iff, or_false] at he
    rcases he with rfl | rfl
    · subst h0; exact small_9 a0 w0 w
    · subst h1; exact small_12 a1 w1 w
  have fin : ∀ r0 r1 : Nat, smallI a0 9 = r0 → smallI a1 12 = r1 → isTrue (callF (Cg.Law.prog [(0, 9, r0), (1, 12, r1)]) 100000 60 Cg.Law.p3 [.sym 0, .sym 1] (.mk .e .lf)) = true → Calls Tryz.prog 3 #[.int .i64 a0, .int .i64 a1] w fun e w' => e = .returned (.bool true) ∧ Kept w w' := fun r0 r1 h0 h1 hk =>
    law_call (Cg.Law.sound [(0, 9, r0), (1, 12, r1)] (key r0 r1 h0 h1) 60) (f := Cg.Law.p3) rfl Tryz.func3 (by kernel_rfl) (by kernel_rfl) (.cons _ _ _ _ (.sym 0) (.cons _ _ _ _ (.sym 1) .nil)) hk
  have hlt0 := small_lt a0 9 (by decide)
  generalize e0 : smallI a0 9 = q0 at hlt0
  match q0, hlt0, e0 with
  | 0, _, e0 =>
    have hlt1 := small_lt a1 12 (by decide)
    generalize e1 : smallI a1 12 = q1 at hlt1
    match q1, hlt1, e1 with
    | 0, _, e1 =>
      exact fin 0 0 e0 e1 Cg.Law.run_0_0
    | 1, _, e1 =>
      exact fin 0 1 e0 e1 Cg.Law.run_0_1
    | 2, _, e1 =>
      exact fin 0 2 e0 e1 Cg.Law.run_0_2
    | 3, _, e1 =>
      exact fin 0 3 e0 e1 Cg.Law.run_0_3
    | 4, _, e1 =>
      exact fin 0 4 e0 e1 Cg.Law.run_0_4
    | 5, _, e1 =>
      exact fin 0 5 e0 e1 Cg.Law.run_0_5
    | 6, _, e1 =>
      exact fin 0 6 e0 e1 Cg.Law.run_0_6
    | 7, _, e1 =>
      exact fin 0 7 e0 e1 Cg.Law.run_0_7
    | 8, _, e1 =>
      exact fin 0 8 e0 e1 Cg.Law.run_0_8
    | 9, _, e1 =>
      exact fin 0 9 e0 e1 Cg.Law.run_0_9
    | 10, _, e1 =>
      exact fin 0 10 e0 e1 Cg.Law.run_0_10
    | 11, _, e1 =>
      exact fin 0 11 e0 e1 Cg.Law.run_0_11
  | 1, _, e0 =>
    have hlt1 := small_lt a1 12 (by decide)
    generalize e1 : smallI a1 12 = q1 at hlt1
    match q1, hlt1, e1 with
    | 0, _, e1 =>
      exact fin 1 0 e0 e1 Cg.Law.run_1_0
    | 1, _, e1 =>
      exact fin 1 1 e0 e1 Cg.Law.run_1_1
    | 2, _, e1 =>
      exact fin 1 2 e0 e1 Cg.Law.run_1_2
    | 3, _, e1 =>
      exact fin 1 3 e0 e1 Cg.Law.run_1_3
    | 4, _, e1 =>
      exact fin 1 4 e0 e1 Cg.Law.run_1_4
    | 5, _, e1 =>
      exact fin 1 5 e0 e1 Cg.Law.run_1_5
    | 6, _, e1 =>
      exact fin 1 6 e0 e1 Cg.Law.run_1_6
    | 7, _, e1 =>
      exact fin 1 7 e0 e1 Cg.Law.run_1_7
    | 8, _, e1 =>
      exact fin 1 8 e0 e1 Cg.Law.run_1_8
    | 9, _, e1 =>
      exact fin 1 9 e0 e1 Cg.Law.run_1_9
    | 10, _, e1 =>
      exact fin 1 10 e0 e1 Cg.Law.run_1_10
    | 11, _, e1 =>
      exact fin 1 11 e0 e1 Cg.Law.run_1_11
  | 2, _, e0 =>
    have hlt1 := small_lt a1 12 (by decide)
    generalize e1 : smallI a1 12 = q1 at hlt1
    match q1, hlt1, e1 with
    | 0, _, e1 =>
      exact fin 2 0 e0 e1 Cg.Law.run_2_0
    | 1, _, e1 =>
      exact fin 2 1 e0 e1 Cg.Law.run_2_1
    | 2, _, e1 =>
      exact fin 2 2 e0 e1 Cg.Law.run_2_2
    | 3, _, e1 =>
      exact fin 2 3 e0 e1 Cg.Law.run_2_3
    | 4, _, e1 =>
      exact fin 2 4 e0 e1 Cg.Law.run_2_4
    | 5, _, e1 =>
      exact fin 2 5 e0 e1 Cg.Law.run_2_5
    | 6, _, e1 =>
      exact fin 2 6 e0 e1 Cg.Law.run_2_6
    | 7, _, e1 =>
      exact fin 2 7 e0 e1 Cg.Law.run_2_7
    | 8, _, e1 =>
      exact fin 2 8 e0 e1 Cg.Law.run_2_8
    | 9, _, e1 =>
      exact fin 2 9 e0 e1 Cg.Law.run_2_9
    | 10, _, e1 =>
      exact fin 2 10 e0 e1 Cg.Law.run_2_10
    | 11, _, e1 =>
      exact fin 2 11 e0 e1 Cg.Law.run_2_11
  | 3, _, e0 =>
    have hlt1 := small_lt a1 12 (by decide)
    generalize e1 : smallI a1 12 = q1 at hlt1
    match q1, hlt1, e1 with
    | 0, _, e1 =>
      exact fin 3 0 e0 e1 Cg.Law.run_3_0
    | 1, _, e1 =>
      exact fin 3 1 e0 e1 Cg.Law.run_3_1
    | 2, _, e1 =>
      exact fin 3 2 e0 e1 Cg.Law.run_3_2
    | 3, _, e1 =>
      exact fin 3 3 e0 e1 Cg.Law.run_3_3
    | 4, _, e1 =>
      exact fin 3 4 e0 e1 Cg.Law.run_3_4
    | 5, _, e1 =>
      exact fin 3 5 e0 e1 Cg.Law.run_3_5
    | 6, _, e1 =>
      exact fin 3 6 e0 e1 Cg.Law.run_3_6
    | 7, _, e1 =>
      exact fin 3 7 e0 e1 Cg.Law.run_3_7
    | 8, _, e1 =>
      exact fin 3 8 e0 e1 Cg.Law.run_3_8
    | 9, _, e1 =>
      exact fin 3 9 e0 e1 Cg.Law.run_3_9
    | 10, _, e1 =>
      exact fin 3 10 e0 e1 Cg.Law.run_3_10
    | 11, _, e1 =>
      exact fin 3 11 e0 e1 Cg.Law.run_3_11
  | 4, _, e0 =>
    have hlt1 := small_lt a1 12 (by decide)
    generalize e1 : smallI a1 12 = q1 at hlt1
    match q1, hlt1, e1 with
    | 0, _, e1 =>
      exact fin 4 0 e0 e1 Cg.Law.run_4_0
    | 1, _, e1 =>
      exact fin 4 1 e0 e1 Cg.Law.run_4_1
    | 2, _, e1 =>
      exact fin 4 2 e0 e1 Cg.Law.run_4_2
    | 3, _, e1 =>
      exact fin 4 3 e0 e1 Cg.Law.run_4_3
    | 4, _, e1 =>
      exact fin 4 4 e0 e1 Cg.Law.run_4_4
    | 5, _, e1 =>
      exact fin 4 5 e0 e1 Cg.Law.run_4_5
    | 6, _, e1 =>
      exact fin 4 6 e0 e1 Cg.Law.run_4_6
    | 7, _, e1 =>
      exact fin 4 7 e0 e1 Cg.Law.run_4_7
    | 8, _, e1 =>
      exact fin 4 8 e0 e1 Cg.Law.run_4_8
    | 9, _, e1 =>
      exact fin 4 9 e0 e1 Cg.Law.run_4_9
    | 10, _, e1 =>
      exact fin 4 10 e0 e1 Cg.Law.run_4_10
    | 11, _, e1 =>
      exact fin 4 11 e0 e1 Cg.Law.run_4_11
  | 5, _, e0 =>
    have hlt1 := small_lt a1 12 (by decide)
    generalize e1 : smallI a1 12 = q1 at hlt1
    match q1, hlt1, e1 with
    | 0, _, e1 =>
      exact fin 5 0 e0 e1 Cg.Law.run_5_0
    | 1, _, e1 =>
      exact fin 5 1 e0 e1 Cg.Law.run_5_1
    | 2, _, e1 =>
      exact fin 5 2 e0 e1 Cg.Law.run_5_2
    | 3, _, e1 =>
      exact fin 5 3 e0 e1 Cg.Law.run_5_3
    | 4, _, e1 =>
      exact fin 5 4 e0 e1 Cg.Law.run_5_4
    | 5, _, e1 =>
      exact fin 5 5 e0 e1 Cg.Law.run_5_5
    | 6, _, e1 =>
      exact fin 5 6 e0 e1 Cg.Law.run_5_6
    | 7, _, e1 =>
      exact fin 5 7 e0 e1 Cg.Law.run_5_7
    | 8, _, e1 =>
      exact fin 5 8 e0 e1 Cg.Law.run_5_8
    | 9, _, e1 =>
      exact fin 5 9 e0 e1 Cg.Law.run_5_9
    | 10, _, e1 =>
      exact fin 5 10 e0 e1 Cg.Law.run_5_10
    | 11, _, e1 =>
      exact fin 5 11 e0 e1 Cg.Law.run_5_11
  | 6, _, e0 =>
    have hlt1 := small_lt a1 12 (by decide)
    generalize e1 : smallI a1 12 = q1 at hlt1
    match q1, hlt1, e1 with
    | 0, _, e1 =>
      exact fin 6 0 e0 e1 Cg.Law.run_6_0
    | 1, _, e1 =>
      exact fin 6 1 e0 e1 Cg.Law.run_6_1
    | 2, _, e1 =>
      exact fin 6 2 e0 e1 Cg.Law.run_6_2
    | 3, _, e1 =>
      exact fin 6 3 e0 e1 Cg.Law.run_6_3
    | 4, _, e1 =>
      exact fin 6 4 e0 e1 Cg.Law.run_6_4
    | 5, _, e1 =>
      exact fin 6 5 e0 e1 Cg.Law.run_6_5
    | 6, _, e1 =>
      exact fin 6 6 e0 e1 Cg.Law.run_6_6
    | 7, _, e1 =>
      exact fin 6 7 e0 e1 Cg.Law.run_6_7
    | 8, _, e1 =>
      exact fin 6 8 e0 e1 Cg.Law.run_6_8
    | 9, _, e1 =>
      exact fin 6 9 e0 e1 Cg.Law.run_6_9
    | 10, _, e1 =>
      exact fin 6 10 e0 e1 Cg.Law.run_6_10
    | 11, _, e1 =>
      exact fin 6 11 e0 e1 Cg.Law.run_6_11
  | 7, _, e0 =>
    have hlt1 := small_lt a1 12 (by decide)
    generalize e1 : smallI a1 12 = q1 at hlt1
    match q1, hlt1, e1 with
    | 0, _, e1 =>
      exact fin 7 0 e0 e1 Cg.Law.run_7_0
    | 1, _, e1 =>
      exact fin 7 1 e0 e1 Cg.Law.run_7_1
    | 2, _, e1 =>
      exact fin 7 2 e0 e1 Cg.Law.run_7_2
    | 3, _, e1 =>
      exact fin 7 3 e0 e1 Cg.Law.run_7_3
    | 4, _, e1 =>
      exact fin 7 4 e0 e1 Cg.Law.run_7_4
    | 5, _, e1 =>
      exact fin 7 5 e0 e1 Cg.Law.run_7_5
    | 6, _, e1 =>
      exact fin 7 6 e0 e1 Cg.Law.run_7_6
    | 7, _, e1 =>
      exact fin 7 7 e0 e1 Cg.Law.run_7_7
    | 8, _, e1 =>
      exact fin 7 8 e0 e1 Cg.Law.run_7_8
    | 9, _, e1 =>
      exact fin 7 9 e0 e1 Cg.Law.run_7_9
    | 10, _, e1 =>
      exact fin 7 10 e0 e1 Cg.Law.run_7_10
    | 11, _, e1 =>
      exact fin 7 11 e0 e1 Cg.Law.run_7_11
  | 8, _, e0 =>
    have hlt1 := small_lt a1 12 (by decide)
    generalize e1 : smallI a1 12 = q1 at hlt1
    match q1, hlt1, e1 with
    | 0, _, e1 =>
      exact fin 8 0 e0 e1 Cg.Law.run_8_0
    | 1, _, e1 =>
      exact fin 8 1 e0 e1 Cg.Law.run_8_1
    | 2, _, e1 =>
      exact fin 8 2 e0 e1 Cg.Law.run_8_2
    | 3, _, e1 =>
      exact fin 8 3 e0 e1 Cg.Law.run_8_3
    | 4, _, e1 =>
      exact fin 8 4 e0 e1 Cg.Law.run_8_4
    | 5, _, e1 =>
      exact fin 8 5 e0 e1 Cg.Law.run_8_5
    | 6, _, e1 =>
      exact fin 8 6 e0 e1 Cg.Law.run_8_6
    | 7, _, e1 =>
      exact fin 8 7 e0 e1 Cg.Law.run_8_7
    | 8, _, e1 =>
      exact fin 8 8 e0 e1 Cg.Law.run_8_8
    | 9, _, e1 =>
      exact fin 8 9 e0 e1 Cg.Law.run_8_9
    | 10, _, e1 =>
      exact fin 8 10 e0 e1 Cg.Law.run_8_10
    | 11, _, e1 =>
      exact fin 8 11 e0 e1 Cg.Law.run_8_11

theorem met (os : Os) (args : Array Value) : laidMetH Tryz.prog Rows.topTwoCrashesRow.laid ((World.laidAll Tryz.prog os Rows.topTwoCrashesRow.laid).forCall (fun _ _ => 0) ⟨#[], args, []⟩).memory := by
  rw [MakeChecks.laidMetH_plain _ _ _ (by kernel_rfl)]; exact laidMet_laidAll _ (by kernel_rfl) (by kernel_rfl)

set_option maxRecDepth 100000 in
theorem lifted (os : Os) (started : os.Started) (H : Type) (enc : TypeId × Value → H) :
    ReturnsInHanded {} Tryz.checked os 3 .any (fun w args => (Rows.topTwoCrashesSpec.pre enc Tryz.prog Tryz.f3 [] false w args ∧ laidMetH Tryz.prog Rows.topTwoCrashesRow.laid w) ∧ sizedMet enc Tryz.prog Tryz.f3 (OpenSpec.ofChange Rows.topTwoCrashesSpec) false w args)
      (Rows.topTwoCrashesSpec.post enc Tryz.prog Tryz.f3 false true false false) := by
  refine returnsInHanded_of_change_and (C := Tryz.checked) (X := fun w _ => laidMetH Tryz.prog Rows.topTwoCrashesRow.laid w) (fun _ _ _ hh h => h.of_heap hh) own started (by kernel_rfl) Tryz.func3
    (ChangeSpec.witness_shaped (enc := enc) (C := Tryz.checked) (os := os) (X := fun w _ => laidMetH Tryz.prog Rows.topTwoCrashesRow.laid w) false (World.laidAll Tryz.prog os Rows.topTwoCrashesRow.laid) #[.int .i64 0, .int .i64 0] 8 (World.laidAll_os _ _ _)
      (World.shaped_of_ZipB (by kernel_rfl) (by kernel_rfl)) (by kernel_rfl) (by kernel_rfl) (by kernel_rfl) (met os _)) ?_
  intro W base args ds gs before hval0 hW _ _ hL _
  have hval : ∀ (j : Nat) t v, Tryz.f3.params[j]? = some t → args[j]? = some v → Value.okWide Tryz.prog W .any base t v := hval0
  have hW' := hW
  obtain ⟨p, q, hA0, hV, rfl, _, _⟩ := hW
  have hA : DataW.TrodAll enc Tryz.prog W 0 (fun _ => true) true Tryz.f3.params.toList args.toList ds p := hA0
  rw [Tryz.params3] at hA hval
  obtain ⟨v0, vs0, d0, ds0, p0, q0, hargs, rfl, rfl, h0, r0⟩ := trodAll_cons hA
  obtain ⟨v1, vs1, d1, ds1, p1, q1, rfl, rfl, rfl, h1, r1⟩ := trodAll_cons r0
  obtain ⟨rfl, rfl, rfl⟩ := trodAll_nil r1
  obtain rfl : args = #[v0, v1] := by cases args; simp_all
  obtain ⟨rfl, rfl⟩ := trodVars_none hV
  obtain ⟨a0, rfl, rfl, rfl, w0⟩ := open_int Tryz.underlying3 (hval 0 3 v0 rfl rfl) h0
  obtain ⟨a1, rfl, rfl, rfl, w1⟩ := open_int Tryz.underlying3 (hval 1 3 v1 rfl rfl) h1
  simp only [List.append_nil] at hW'
  refine (walk a0 w0 a1 w1 W).mono fun e W' ⟨he, hb⟩ => ?_
  subst he
  exact ⟨_, rfl, _, _, _, [], [], [], hW', trodAll_mk1 (shut_bool Tryz.underlying4 _), (trodAll_cons_mk (shut_int Tryz.underlying3 w0) (trodAll_cons_mk (shut_int Tryz.underlying3 w1) trodAll_mk0)), rfl, @Kept.frame ⟨fun _ => 0⟩ _ _ hb _, fun h => by cases h⟩

theorem over : Rows.topTwoCrashesRow.holds Tryz.pinned (OpenSpec.ofChange Rows.topTwoCrashesSpec) :=
  OpenClaim.holds_of_wide 3 Tryz.f3 rfl rfl rfl rfl rfl rfl rfl ⟨rfl, rfl, rfl, rfl, rfl⟩ rfl rfl rfl rfl rfl named Tryz.func3 closed
    (of_decide_eq_true (by kernel_rfl)) (by unfold Func.isWrapper; first | (rw [if_pos (by decide +kernel)]; kernel_rfl) | (rw [if_neg (by decide +kernel)]; exact ⟨rfl, rfl⟩))
    (fun os started H enc _ => lifted os started H enc)

theorem proved : Rows.TopTwoCrashesCardSaid :=
  Claim7.holds_tied_plain_at .later [] [.data, .data, .data, .data, .sentinel, .sentinel, .pinned] true (true, "c13f4bd7e20950c4c82e3c1e938eb32b4f1a9552fc9c22cf558c07202690ae0a") true over (fun _ h => by cases h) t0 (fun _ h => by cases h) topTwoCrashes_row_tie rfl ⟨rfl, rfl⟩ t1 rfl
    (fun f fn hf hfn => by
      obtain rfl : f = 3 := Option.some.inj ((show Tryz.prog.funcNamed "concierge/conciergetop.TopTwoCrashes" = some 3 from named).symm.trans hf) |>.symm
      obtain rfl : fn = Tryz.f3 := (Option.some.inj (Tryz.func3.symm.trans hfn)).symm
      exact ⟨t2, fun j t ht => by
        obtain ⟨h1, h2⟩ := Array.getElem?_eq_some_iff.1 ht
        have hall := Array.all_eq_true.1 t4 j h1
        rw [h2] at hall
        exact (show Tryz.prog.wantsStandIn t = false by simpa using hall)⟩)
    t3
#print axioms proved
end Go.Proofs.YtmmjgldaaecnpaaGreatDoor.topTwoCrashes
