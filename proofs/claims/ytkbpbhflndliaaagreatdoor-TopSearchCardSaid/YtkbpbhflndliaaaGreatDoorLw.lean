/- The law TopSearch of concierge is true for every input, and leaves its arguments as they were. Conditions: those of its card (what the listed package variables read as). -/
import Derived.Test.YtkbpbhflndliaaaGreatDoorSo
import Derived.Test.YtkbpbhflndliaaaGreatDoorRu1
import Derived.Test.YtkbpbhflndliaaaGreatDoorRu2
import Derived.Test.YtkbpbhflndliaaaGreatDoorRu3
import Derived.Test.YtkbpbhflndliaaaGreatDoorRows
import Derived.Test.YtkbpbhflndliaaaGreatDoorCards
import Derived.Test.YtkbpbhflndliaaaGreatDoorTie
import Derived.Test.YtkbpbhflndliaaaGreatDoorFa5
import Derived.Test.YtkbpbhflndliaaaGreatDoorFa6
import Derived.Test.YtkbpbhflndliaaaGreatDoorFa7
import Derived.Test.YtkbpbhflndliaaaGreatDoorFa8
import Derived.WalkKit
import Derived.ProofKit
import Derived.OpenShut
import Derived.Lay
import Derived.LaidOnce
import Derived.SevenTiedAt
namespace Go.Proofs.YtkbpbhflndliaaaGreatDoor.topSearch
open Go.ChangeShapes Go.WideShapes Go.ChangeAt Go.RowKit Go.Cg
set_option linter.unusedVariables false

theorem own : ownKnob Tryz.prog.godebug = none := by kernel_rfl

theorem small_3 (n : Int) (w0 : (Lit.int .i64 n).wf = true) (w : World) :
    Calls Tryz.prog 5 #[.int .i64 n, .int .i64 3] w fun e w' => e = .returned (.int .i64 (smallI n 3)) ∧ w' = w := by
  have hb : -3 < n.tmod 3 ∧ n.tmod 3 < 3 := @small_bounds ⟨fun _ => 0⟩ n 3 (by decide)
  have hs : ((smallI n 3 : Nat) : Int) = ((n.tmod 3).natAbs : Int) := rfl
  generalize smallI n 3 = r at hs ⊢
  go_enter Tryz.func5, Tryz.ntmps5
  go_wp2
  · have e : -n.tmod 3 = (r : Int) := by omega
    rw [e]
    go_ret
    exact ⟨rfl, rfl⟩
  · have e : n.tmod 3 = (r : Int) := by omega
    rw [e]
    go_ret
    exact ⟨rfl, rfl⟩

theorem walk (a0 : Int) (w0 : (Lit.int .i64 a0).wf = true) (w : World) : Calls Tryz.prog 3 #[.int .i64 a0] w fun e w' => e = .returned (.bool true) ∧ Kept w w' := by
  letI : Syms := ⟨fun i => if i = 0 then a0 else 0⟩
  have key : ∀ r0 : Nat, smallI a0 3 = r0 → RestOk Tryz.prog Cg.Law.p5 [(0, 3, r0)] := fun r0 h0 e he w => by
    simp only [List.mem_cons, List.mem_nil_iff, or_false] at he
    subst he
    subst h0; exact small_3 a0 w0 w
  have fin : ∀ r0 : Nat, smallI a0 3 = r0 → isTrue (callF (Cg.Law.prog [(0, 3, r0)]) 100000 60 Cg.Law.p3 [.sym 0] (.mk .e .lf)) = true → Calls Tryz.prog 3 #[.int .i64 a0] w fun e w' => e = .returned (.bool true) ∧ Kept w w' := fun r0 h0 hk =>
    law_call (Cg.Law.sound [(0, 3, r0)] (key r0 h0) 60) (f := Cg.Law.p3) rfl Tryz.func3 (by kernel_rfl) (by kernel_rfl) (.cons _ _ _ _ (.sym 0) .nil) hk
  have hlt0 := small_lt a0 3 (by decide)
  generalize e0 : smallI a0 3 = q0 at hlt0
  match q0, hlt0, e0 with
  | 0, _, e0 =>
    exact fin 0 e0 Cg.Law.run_0
  | 1, _, e0 =>
    exact fin 1 e0 Cg.Law.run_1
  | 2, _, e0 =>
    exact fin 2 e0 Cg.Law.run_2

theorem met (os : Os) (args : Array Value) : laidMetH Tryz.prog Rows.topSearchRow.laid ((World.laidAll Tryz.prog os Rows.topSearchRow.laid).forCall (fun _ _ => 0) ⟨#[], args, []⟩).memory := by
  rw [MakeChecks.laidMetH_plain _ _ _ (by kernel_rfl)]; exact laidMet_laidAll _ (by kernel_rfl) (by kernel_rfl)

set_option maxRecDepth 100000 in
theorem lifted (os : Os) (started : os.Started) (H : Type) (enc : TypeId × Value → H) :
    ReturnsInHanded {} Tryz.checked os 3 .any (fun w args => (Rows.topSearchSpec.pre enc Tryz.prog Tryz.f3 [] false w args ∧ laidMetH Tryz.prog Rows.topSearchRow.laid w) ∧ sizedMet enc Tryz.prog Tryz.f3 (OpenSpec.ofChange Rows.topSearchSpec) false w args)
      (Rows.topSearchSpec.post enc Tryz.prog Tryz.f3 false true false false) := by
  refine returnsInHanded_of_change_and (C := Tryz.checked) (X := fun w _ => laidMetH Tryz.prog Rows.topSearchRow.laid w) (fun _ _ _ hh h => h.of_heap hh) own started (by kernel_rfl) Tryz.func3
    (ChangeSpec.witness_shaped (enc := enc) (C := Tryz.checked) (os := os) (X := fun w _ => laidMetH Tryz.prog Rows.topSearchRow.laid w) false (World.laidAll Tryz.prog os Rows.topSearchRow.laid) #[.int .i64 0] 8 (World.laidAll_os _ _ _)
      (World.shaped_of_ZipB (by kernel_rfl) (by kernel_rfl)) (by kernel_rfl) (by kernel_rfl) (by kernel_rfl) (met os _)) ?_
  intro W base args ds gs before hval0 hW _ _ hL _
  have hval : ∀ (j : Nat) t v, Tryz.f3.params[j]? = some t → args[j]? = some v → Value.okWide Tryz.prog W .any base t v := hval0
  have hW' := hW
  obtain ⟨p, q, hA0, hV, rfl, _, _⟩ := hW
  have hA : DataW.TrodAll enc Tryz.prog W 0 (fun _ => true) true Tryz.f3.params.toList args.toList ds p := hA0
  rw [Tryz.params3] at hA hval
  obtain ⟨v0, vs0, d0, ds0, p0, q0, hargs, rfl, rfl, h0, r0⟩ := trodAll_cons hA
  obtain ⟨rfl, rfl, rfl⟩ := trodAll_nil r0
  obtain rfl : args = #[v0] := by cases args; simp_all
  obtain ⟨rfl, rfl⟩ := trodVars_none hV
  obtain ⟨a0, rfl, rfl, rfl, w0⟩ := open_int Tryz.underlying3 (hval 0 3 v0 rfl rfl) h0
  simp only [List.append_nil] at hW'
  refine (walk a0 w0 W).mono fun e W' ⟨he, hb⟩ => ?_
  subst he
  exact ⟨_, rfl, _, _, _, [], [], [], hW', trodAll_mk1 (shut_bool Tryz.underlying4 _), (trodAll_cons_mk (shut_int Tryz.underlying3 w0) trodAll_mk0), rfl, @Kept.frame ⟨fun _ => 0⟩ _ _ hb _, fun h => by cases h⟩

theorem over : Rows.topSearchRow.holds Tryz.pinned (OpenSpec.ofChange Rows.topSearchSpec) :=
  OpenClaim.holds_of_wide 3 Tryz.f3 rfl rfl rfl rfl rfl rfl rfl ⟨rfl, rfl, rfl, rfl, rfl⟩ rfl rfl rfl rfl rfl named Tryz.func3 closed
    (of_decide_eq_true (by kernel_rfl)) (by unfold Func.isWrapper; first | (rw [if_pos (by decide +kernel)]; kernel_rfl) | (rw [if_neg (by decide +kernel)]; exact ⟨rfl, rfl⟩))
    (fun os started H enc _ => lifted os started H enc)

theorem proved : Rows.TopSearchCardSaid :=
  Claim7.holds_tied_plain_at .later [] [.data, .data, .data, .data, .sentinel, .sentinel, .pinned] true (true, "3645531574303ab78068265497d979b95dcb18d50c42b8181e71488e886f8031") true over (fun _ h => by cases h) t0 (fun _ h => by cases h) topSearch_row_tie rfl ⟨rfl, rfl⟩ t1 rfl
    (fun f fn hf hfn => by
      obtain rfl : f = 3 := Option.some.inj ((show Tryz.prog.funcNamed "concierge/conciergetop.TopSearch" = some 3 from named).symm.trans hf) |>.symm
      obtain rfl : fn = Tryz.f3 := (Option.some.inj (Tryz.func3.symm.trans hfn)).symm
      exact ⟨t2, fun j t ht => by
        obtain ⟨h1, h2⟩ := Array.getElem?_eq_some_iff.1 ht
        have hall := Array.all_eq_true.1 t4 j h1
        rw [h2] at hall
        exact (show Tryz.prog.wantsStandIn t = false by simpa using hall)⟩)
    t3
#print axioms proved
end Go.Proofs.YtkbpbhflndliaaaGreatDoor.topSearch
