/- The law TopInvalidate of concierge is true for every input, and leaves its arguments as they were. Conditions: those of its card (what the listed package variables read as). -/
import Derived.Test.YtmigfpedabokcaaGreatDoorSo
import Derived.Test.YtmigfpedabokcaaGreatDoorRu1
import Derived.Test.YtmigfpedabokcaaGreatDoorRu2
import Derived.Test.YtmigfpedabokcaaGreatDoorRu3
import Derived.Test.YtmigfpedabokcaaGreatDoorRu4
import Derived.Test.YtmigfpedabokcaaGreatDoorRows
import Derived.Test.YtmigfpedabokcaaGreatDoorCards
import Derived.Test.YtmigfpedabokcaaGreatDoorTie
import Derived.Test.YtmigfpedabokcaaGreatDoorFa5
import Derived.Test.YtmigfpedabokcaaGreatDoorFa6
import Derived.Test.YtmigfpedabokcaaGreatDoorFa7
import Derived.Test.YtmigfpedabokcaaGreatDoorFa8
import Derived.WalkKit
import Derived.ProofKit
import Derived.OpenShut
import Derived.Lay
import Derived.LaidOnce
import Derived.SevenTiedAt
namespace Go.Proofs.YtmigfpedabokcaaGreatDoor.topInvalidate
open Go.ChangeShapes Go.WideShapes Go.ChangeAt Go.RowKit Go.Cg
set_option linter.unusedVariables false

theorem own : ownKnob Tryz.prog.godebug = none := by kernel_rfl

theorem small_5 (n : Int) (w0 : (Lit.int .i64 n).wf = true) (w : World) :
    Calls Tryz.prog 5 #[.int .i64 n, .int .i64 5] w fun e w' => e = .returned (.int .i64 (smallI n 5)) ∧ w' = w := by
  have hb : -5 < n.tmod 5 ∧ n.tmod 5 < 5 := @small_bounds ⟨fun _ => 0⟩ n 5 (by decide)
  have hs : ((smallI n 5 : Nat) : Int) = ((n.tmod 5).natAbs : Int) := rfl
  generalize smallI n 5 = r at hs ⊢
  go_enter Tryz.func5, Tryz.ntmps5
  go_wp2
  · have e : -n.tmod 5 = (r : Int) := by omega
    rw [e]
    go_ret
    exact ⟨rfl, rfl⟩
  · have e : n.tmod 5 = (r : Int) := by omega
    rw [e]
    go_ret
    exact ⟨rfl, rfl⟩

theorem walk (a0 : Int) (w0 : (Lit.int .i64 a0).wf = true) (a1 : Bool) (w : World) : Calls Tryz.prog 3 #[.int .i64 a0, .bool a1] w fun e w' => e = .returned (.bool true) ∧ Kept w w' := by
  letI : Syms := ⟨fun i => if i = 0 then a0 else 0⟩
  have key : ∀ r0 : Nat, smallI a0 5 = r0 → RestOk Tryz.prog Cg.Law.p5 [(0, 5, r0)] := fun r0 h0 e he w => by
    simp only [List.mem_cons, List.mem_nil_iff, or_false] at he
    subst he
    subst h0; exact small_5 a0 w0 w
  have fin : ∀ r0 : Nat, smallI a0 5 = r0 → isTrue (callF (Cg.Law.prog [(0, 5, r0)]) 100000 60 Cg.Law.p3 [.sym 0, .bool a1] (.mk .e .lf)) = true → Calls Tryz.prog 3 #[.int .i64 a0, .bool a1] w fun e w' => e = .returned (.bool true) ∧ Kept w w' := fun r0 h0 hk =>
    law_call (Cg.Law.sound [(0, 5, r0)] (key r0 h0) 60) (f := Cg.Law.p3) rfl Tryz.func3 (by kernel_rfl) (by kernel_rfl) (.cons _ _ _ _ (.sym 0) (.cons _ _ _ _ (.bool _) .nil)) hk
  have hlt0 := small_lt a0 5 (by decide)
  generalize e0 : smallI a0 5 = q0 at hlt0
  match q0, hlt0, e0 with
  | 0, _, e0 =>
    cases a1 with
    | true =>
      exact fin 0 e0 Cg.Law.run_0_true
    | false =>
      exact fin 0 e0 Cg.Law.run_0_false
  | 1, _, e0 =>
    cases a1 with
    | true =>
      exact fin 1 e0 Cg.Law.run_1_true
    | false =>
      exact fin 1 e0 Cg.Law.run_1_false
  | 2, _, e0 =>
    cases a1 with
    | true =>
      exact fin 2 e0 Cg.Law.run_2_true
    | false =>
      exact fin 2 e0 Cg.Law.run_2_false
  | 3, _, e0 =>
    cases a1 with
    | true =>
      exact fin 3 e0 Cg.Law.run_3_true
    | false =>
      exact fin 3 e0 Cg.Law.run_3_false
  | 4, _, e0 =>
    cases a1 with
    | true =>
      exact fin 4 e0 Cg.Law.run_4_true
    | false =>
      exact fin 4 e0 Cg.Law.run_4_false

theorem met (os : Os) (args : Array Value) : laidMetH Tryz.prog Rows.topInvalidateRow.laid ((World.laidAll Tryz.prog os Rows.topInvalidateRow.laid).forCall (fun _ _ => 0) ⟨#[], args, []⟩).memory := by
  rw [MakeChecks.laidMetH_plain _ _ _ (by kernel_rfl)]; exact laidMet_laidAll _ (by kernel_rfl) (by kernel_rfl)

set_option maxRecDepth 100000 in
theorem lifted (os : Os) (started : os.Started) (H : Type) (enc : TypeId × Value → H) :
    ReturnsInHanded {} Tryz.checked os 3 .any (fun w args => (Rows.topInvalidateSpec.pre enc Tryz.prog Tryz.f3 [] false w args ∧ laidMetH Tryz.prog Rows.topInvalidateRow.laid w) ∧ sizedMet enc Tryz.prog Tryz.f3 (OpenSpec.ofChange Rows.topInvalidateSpec) false w args)
      (Rows.topInvalidateSpec.post enc Tryz.prog Tryz.f3 false true false false) := by
  refine returnsInHanded_of_change_and (C := Tryz.checked) (X := fun w _ => laidMetH Tryz.prog Rows.topInvalidateRow.laid w) (fun _ _ _ hh h => h.of_heap hh) own started (by kernel_rfl) Tryz.func3
    (ChangeSpec.witness_shaped (enc := enc) (C := Tryz.checked) (os := os) (X := fun w _ => laidMetH Tryz.prog Rows.topInvalidateRow.laid w) false (World.laidAll Tryz.prog os Rows.topInvalidateRow.laid) #[.int .i64 0, .bool false] 8 (World.laidAll_os _ _ _)
      (World.shaped_of_ZipB (by kernel_rfl) (by kernel_rfl)) (by kernel_rfl) (by kernel_rfl) (by kernel_rfl) (met os _)) ?_
  intro W base args ds gs before hval0 hW _ _ hL _
  have hval : ∀ (j : Nat) t v, Tryz.f3.params[j]? = some t → args[j]? = some v → Value.okWide Tryz.prog W .any base t v := hval0
  have hW' := hW
  obtain ⟨p, q, hA0, hV, rfl, _, _⟩ := hW
  have hA : DataW.TrodAll enc Tryz.prog W 0 (fun _ => true) true Tryz.f3.params.toList args.toList ds p := hA0
  rw [Tryz.params3] at hA hval
  obtain ⟨v0, vs0, d0, ds0, p0, q0, hargs, rfl, rfl, h0, r0⟩ := trodAll_cons hA
  obtain ⟨v1, vs1, d1, ds1, p1, q1, rfl, rfl, rfl, h1, r1⟩ := trodAll_cons r0
  obtain ⟨rfl, rfl, rfl⟩ := trodAll_nil r1
  obtain rfl : args = #[v0, v1] := by cases args; simp_all
  obtain ⟨rfl, rfl⟩ := trodVars_none hV
  obtain ⟨a0, rfl, rfl, rfl, w0⟩ := open_int Tryz.underlying3 (hval 0 3 v0 rfl rfl) h0
  obtain ⟨a1, rfl, rfl, rfl⟩ := open_bool Tryz.underlying4 (hval 1 4 v1 rfl rfl) h1
  simp only [List.append_nil] at hW'
  refine (walk a0 w0 a1 W).mono fun e W' ⟨he, hb⟩ => ?_
  subst he
  exact ⟨_, rfl, _, _, _, [], [], [], hW', trodAll_mk1 (shut_bool Tryz.underlying4 _), (trodAll_cons_mk (shut_int Tryz.underlying3 w0) (trodAll_cons_mk (shut_bool Tryz.underlying4 _) trodAll_mk0)), rfl, @Kept.frame ⟨fun _ => 0⟩ _ _ hb _, fun h => by cases h⟩

theorem over : Rows.topInvalidateRow.holds Tryz.pinned (OpenSpec.ofChange Rows.topInvalidateSpec) :=
  OpenClaim.holds_of_wide 3 Tryz.f3 rfl rfl rfl rfl rfl rfl rfl ⟨rfl, rfl, rfl, rfl, rfl⟩ rfl rfl rfl rfl rfl named Tryz.func3 closed
    (of_decide_eq_true (by kernel_rfl)) (by unfold Func.isWrapper; first | (rw [if_pos (by decide +kernel)]; kernel_rfl) | (rw [if_neg (by decide +kernel)]; exact ⟨rfl, rfl⟩))
    (fun os started H enc _ => lifted os started H enc)

theorem proved : Rows.TopInvalidateCardSaid :=
  Claim7.holds_tied_plain_at .later [] [.data, .data, .data, .data, .sentinel, .sentinel, .pinned] true (true, "bfa87ad9746ce138932cd51932c8fee165073fd924e3c81146e6d0523619d17c") true over (fun _ h => by cases h) t0 (fun _ h => by cases h) topInvalidate_row_tie rfl ⟨rfl, rfl⟩ t1 rfl
    (fun f fn hf hfn => by
      obtain rfl : f = 3 := Option.some.inj ((show Tryz.prog.funcNamed "concierge/conciergetop.TopInvalidate" = some 3 from named).symm.trans hf) |>.symm
      obtain rfl : fn = Tryz.f3 := (Option.some.inj (Tryz.func3.symm.trans hfn)).symm
      exact ⟨t2, fun j t ht => by
        obtain ⟨h1, h2⟩ := Array.getElem?_eq_some_iff.1 ht
        have hall := Array.all_eq_true.1 t4 j h1
        rw [h2] at hall
        exact (show Tryz.prog.wantsStandIn t = false by simpa using hall)⟩)
    t3
#print axioms proved
end Go.Proofs.YtmigfpedabokcaaGreatDoor.topInvalidate
