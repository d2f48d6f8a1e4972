/- The evaluator is sound: what it gives is what the model gives, whatever the tape. Part 5. No condition. -/
import Derived.Test.YtamgknnmocnamaaDoorSd4
import Derived.Laws.Externs
import Derived.Lib.Bytealg
import Derived.Lib.BytesEntry
import Derived.Defers
import Derived.ChangeShapes
import Derived.Shelf.Strings.OnBuilder
set_option linter.unusedVariables false
set_option linter.unusedSimpArgs false
set_option linter.unusedSectionVars false
noncomputable section
/- Regions whose order is open: sound. -/
namespace Go.Cg
variable [Syms]

variable {P : Program} {dyn : List TypeId} {E : Tr Unit} {C : CallF} {nt : Nat} {ops : Array Oper} {infos : List DInfo}

section
variable {μ0 : Mu} {h0 : Heap} {w0 : World} {a0 : Act} {L : Nat → Prop} {a : Act} {w : World} {μ : Mu} {S : Nat → DInfo → Prop} {D : List Nat} {e : Env} {h : Heap} {B : Nat → Option Pos}

/-- The model runs the next one that runs alone. -/
theorem Inv.stepNew (hp : Plan P dyn E nt ops infos) (hC : CSound P C) (hr0 : HRel μ0 h0 w0) (hi : Inv C E nt ops infos μ0 h0 w0 a0 L a w μ (fun _ _ => True) D e h B) {i : Nat} {I : DInfo} (hI : infos[i]? = some I) (hrd : ∀ j, BindsAt ops j i → L j) (hnL : ¬ L i) (hiD : i ∉ D)
    {segs : List Seg} {r : Res} (hr : r ≠ .fail) (hc : chkSegs infos D segs = true) (hk : runDops C (flatSegs infos segs) e h = r)
    {Q : Exit → Act → World → Prop} {K : Act → World → Prop} (hK : ∀ a1 w1 μ1 D' e' h' B' segs', Inv C E nt ops infos μ0 h0 w0 a0 (fun j => j = i ∨ L j) a1 w1 μ1 (fun _ _ => True) D' e' h' B' → chkSegs infos D' segs' = true → runDops C (flatSegs infos segs') e' h' = r → K a1 w1) : wpOp P ops Q i K a w := by
  have hlt : i < infos.length := (List.getElem?_eq_some_iff.1 hI).1
  cases segs with
  | nil =>
    have := List.all_eq_true.1 hc i (List.mem_range.2 hlt)
    exact absurd (hasN_iff.1 this) hiD
  | cons s segs =>
  simp only [chkSegs, nth_eq] at hc
  split at hc
  · cases hc
  rename_i I' hI'
  split at hc
  · cases hc
  rename_i hchk
  simp only [Bool.and_eq_true, Bool.not_eq_true'] at hchk
  obtain ⟨⟨⟨c1, c2⟩, c3⟩, c4⟩ := hchk
  split at hc
  case h_2 => cases hc
  rename_i D' hruns
  have hs : i = s.hv := by
    have := (chkSeg_ok c4 i I hI).1
    rw [Nat.zero_add] at this
    rcases this hiD with h1 | h1
    · exact h1
    · have := (hp.mask i I hI _ h1).of_ready hi.closedL hrd
      exact absurd (hi.sub _ this) (hasN_not.1 c1)
  subst hs
  rw [hI] at hI'
  cases hI'
  simp only [flatSegs] at hk
  rw [atX_cons hI, List.cons_append, runDops_false] at hk
  obtain ⟨v, H, k1, k2⟩ := stepOper_one hr hk
  obtain ⟨hx, hx2, _⟩ := compDrawn_dst (hp.comp _ I hI)
  have hS : ∀ t ∈ looksC ops I.o, ∀ u, Tr.get (slotPos t) e = some u → VRel μ u (a.eval (.tmp t)) := fun t ht u hu =>
    hi.sees hp hI hrd (by rw [hp.looks _ I hI]; exact ht) hu
  refine (drawn_op hC (hp.op _ I hI) (hp.comp _ I hI) hS (hi.meth hp hI hrd) hi.heap (.inl hi.bnd) k1 fun cv w1 μ1 hv hr1 hxt hm => ?_).2.2
  have hkeep : ∀ j J, infos[j]? = some J → j ∈ D → ¬ L j → _ := fun j J hJ hj hn => hi.keeps hp hI hJ hiD hj (fun _ ha => hn (ha.of_ready hi.closedL hrd)) (v := v)
  have hnh : ∀ j J, infos[j]? = some J → j ∈ D → ¬ L j → heavy J = false := fun j J hJ hj hn => by
    cases hv' : heavy J with
    | false => rfl
    | true => exact absurd (hi.heavyL j J hJ hj hv') hn
  have hi1 : Inv C E nt ops infos μ0 h0 w0 a0 (fun j => j = s.hv ∨ L j) (a.put I.o.dst cv) w1 μ1 (fun j J => j ∈ D → reads J = false) (s.hv :: D) (putD I.x.dst v e) H B := by
    refine hi.list hp hI hrd hnL hxt.mono hr1 (hxt.bounded hi.bnd) (Ext.trans hr0 hi.ext hxt) (fun p hpd => ⟨hv p hpd, putD_same hpd⟩) List.mem_cons_self (fun j => List.mem_cons) (fun t ht => ?_) (fun t ht => ?_) hxt.next hm (fun j J hJ hj hn hne => ?_) fun j J hJ hj hn hne hs => ?_
    · refine putD_other fun q hq e' => ?_
      obtain ⟨t', rfl, h2, _⟩ := hx q hq
      have := slotPos_inj e'
      subst this
      exact ht h2
    · rw [putD_other fun q hq e' => ?_]
      · exact hi.outs t ht
      · obtain ⟨t', rfl, _, h3⟩ := hx q hq
        have := slotPos_inj e'
        subst this
        rw [ht] at h3; cases h3
    · have hj := (List.mem_cons.1 hj).resolve_left hne
      obtain ⟨q1, q2⟩ := hkeep j J hJ hj hn
      exact (hi.weak j J hJ hj hn).sameEnv q1 q2
    · have hj := (List.mem_cons.1 hj).resolve_left hne
      obtain ⟨q1, q2⟩ := hkeep j J hJ hj hn
      exact ((hi.fact j J hJ hj hn trivial).ext (hnh j J hJ hj hn) (hs hj) hxt).sameEnv q1 q2
  rw [show atX infos false ([] : List Nat) = [] from rfl, List.nil_append] at k2
  obtain ⟨e2, h2, B2, hi2, k3⟩ := hi1.emits hp hr hruns k2
  have hres : ∀ j ∈ s.res, j ∈ D' := fun j hj => by
    have h1 := hasN_iff.1 (List.all_eq_true.1 c3 j hj)
    -- what was run is run
    have hsub : ∀ {runs : List Nat} {D1 D2 : List Nat}, chkRuns infos D1 runs = some D2 → ∀ j ∈ D1, j ∈ D2 := by
      intro runs
      induction runs with
      | nil => intro D1 D2 h j hj; cases h; exact hj
      | cons i0 runs ih =>
        intro D1 D2 h j hj
        simp only [chkRuns, nth_eq] at h
        split at h
        · cases h
        split at h
        · exact ih h j (List.mem_cons_of_mem _ hj)
        · cases h
    exact hsub hruns j (List.mem_cons_of_mem _ h1)
  obtain ⟨k4, hfr⟩ := hi2.again hp hr hres k3
  refine hK _ w1 μ1 D' e2 h2 B2 segs { hi2 with fact := fun j J hJ hj hn _ => ?_ } hc k4
  cases hrj : reads J with
  | false => exact hi2.fact j J hJ hj hn fun _ => hrj
  | true =>
    by_cases hjD : j ∈ D
    · have := (chkSeg_ok c4 j J hJ).2
      rw [Nat.zero_add] at this
      rcases this hjD with q | q | q
      · rw [hrj] at q; cases q
      · exact absurd (.inr ((hp.mask _ I hI j q).of_ready hi.closedL hrd)) hn
      · exact hfr j q J hJ hn hrj
    · exact hi2.fact j J hJ hj hn fun h => absurd h hjD

/-- How many are left. -/
def left (ops : Array Oper) (listed : Array Bool) : Nat := ((List.range ops.size).filter fun i => !listed.getD i true).length

theorem filter_le {α : Type} {p q : α → Bool} : ∀ {l : List α}, (∀ x ∈ l, q x = true → p x = true) → (l.filter q).length ≤ (l.filter p).length
  | [], _ => Nat.le_refl _
  | x :: l, h => by
    have ih := filter_le (l := l) fun y hy => h y (List.mem_cons_of_mem _ hy)
    cases hq : q x with
    | false =>
      rw [List.filter_cons_of_neg (by simp [hq])]
      cases hp : p x with
      | false => rw [List.filter_cons_of_neg (by simp [hp])]; exact ih
      | true => rw [List.filter_cons_of_pos hp]; exact Nat.le_trans ih (by simp)
    | true =>
      rw [List.filter_cons_of_pos hq, List.filter_cons_of_pos (h x List.mem_cons_self hq)]
      simpa using ih

theorem filter_lt {α : Type} {p q : α → Bool} : ∀ {l : List α} {a : α}, (∀ x ∈ l, q x = true → p x = true) → a ∈ l → p a = true → q a = false → (l.filter q).length < (l.filter p).length
  | [], a, _, ha, _, _ => by cases ha
  | x :: l, a, h, ha, hpa, hqa => by
    have h' : ∀ y ∈ l, q y = true → p y = true := fun y hy => h y (List.mem_cons_of_mem _ hy)
    rcases List.mem_cons.1 ha with rfl | ha
    · rw [List.filter_cons_of_neg (by simp [hqa]), List.filter_cons_of_pos hpa]
      exact Nat.lt_of_le_of_lt (filter_le h') (by simp)
    · have ih := filter_lt h' ha hpa hqa
      cases hq : q x with
      | false =>
        rw [List.filter_cons_of_neg (by simp [hq])]
        cases hp : p x with
        | false => rw [List.filter_cons_of_neg (by simp [hp])]; exact ih
        | true => rw [List.filter_cons_of_pos hp]; exact Nat.lt_trans ih (by simp)
      | true =>
        rw [List.filter_cons_of_pos hq, List.filter_cons_of_pos (h x List.mem_cons_self hq)]
        simpa using ih

theorem listed_set {listed : Array Bool} {i j : Nat} (hi : i < listed.size) : (listed.setIfInBounds i true).getD j false = true ↔ j = i ∨ listed.getD j false = true := by
  by_cases e : i = j
  · subst e; simp [hi]
  · rw [getD_set_ne false e]
    exact ⟨.inr, fun h => h.resolve_left fun e' => e e'.symm⟩

theorem getD_not {listed : Array Bool} {i : Nat} (hi : i < listed.size) : listed.getD i true = false ↔ ¬ listed.getD i false = true := by
  simp [hi]

theorem drawn_all (hp : Plan P dyn E nt ops infos) (hC : CSound P C) (hr0 : HRel μ0 h0 w0) {envF : Env} {hF : Heap} {Q : Exit → Act → World → Prop} (hQ : ∀ a1 w1 μ1, Aft E [] μ0 h0 w0 a0 envF hF a1 w1 μ1 → Q .normal a1 w1) :
    ∀ (fuel : Nat) (listed : Array Bool) (a : Act) (w : World) (μ : Mu) (D : List Nat) (e : Env) (h : Heap) (B : Nat → Option Pos) (segs : List Seg), listed.size = ops.size → left ops listed ≤ fuel →
    Inv C E nt ops infos μ0 h0 w0 a0 (fun i => listed.getD i false = true) a w μ (fun _ _ => True) D e h B → chkSegs infos D segs = true → runDops C (flatSegs infos segs) e h = .ok envF hF → wpAny P .any ops Q fuel listed a w := by
  -- the end
  have fin : ∀ (listed : Array Bool) (a : Act) (w : World) (μ : Mu) (D : List Nat) (e : Env) (h : Heap) (B : Nat → Option Pos) (segs : List Seg), listed.size = ops.size →
      Inv C E nt ops infos μ0 h0 w0 a0 (fun i => listed.getD i false = true) a w μ (fun _ _ => True) D e h B → chkSegs infos D segs = true → runDops C (flatSegs infos segs) e h = .ok envF hF → Region.ready .any ops listed = [] → Q .normal a w := by
    intro listed a w μ D e h B segs hsz hi hc hk hrd
    have all : ∀ n i, i < n → i < ops.size → listed.getD i false = true := by
      intro n
      induction n with
      | zero => intro i hi'; cases hi'
      | succ n ih =>
        intro i hin hio
        refine Classical.byContradiction fun hn => ?_
        have hlt : i < infos.length := by rw [hp.len]; exact hio
        have hI : infos[i]? = some infos[i] := List.getElem?_eq_getElem hlt
        generalize infos[i] = I at hI
        have : i ∈ Region.ready .any ops listed := by
          rw [mem_ready]
          refine ⟨(getD_not (by rw [hsz]; exact hio)).2 hn, I.o, hp.op i I hI, fun ed hed hb => ?_⟩
          have hj : ed.on ∈ I.ons := by
            rw [hp.ons i I hI]
            exact List.mem_map.2 ⟨ed, List.mem_filter.2 ⟨by simpa using hed, hb⟩, rfl⟩
          have := hp.back i I _ hI hj
          exact ih _ (by omega) (by omega)
        rw [hrd] at this; cases this
    have hsegs : segs = [] := by
      cases segs with
      | nil => rfl
      | cons s segs =>
        exfalso
        simp only [chkSegs, nth_eq] at hc
        split at hc
        · cases hc
        rename_i I hI
        split at hc
        · cases hc
        rename_i hchk
        simp only [Bool.and_eq_true, Bool.not_eq_true'] at hchk
        have hlt := (List.getElem?_eq_some_iff.1 hI).1
        rw [hp.len] at hlt
        exact hasN_not.1 hchk.1.1.1 (hi.sub _ (all _ _ (Nat.lt_succ_self _) hlt))
    subst hsegs
    have hk : Res.ok e h = .ok envF hF := hk
    cases hk
    refine hQ a w μ ⟨⟨fun t v hv => hi.slots t v (fun i I hI hiD hn => absurd (all _ i (Nat.lt_succ_self _) (by rw [← hp.len]; exact (List.getElem?_eq_some_iff.1 hI).1)) hn) hv, hi.outs⟩, fun en hen => (by cases hen), hi.heap, hi.bnd, hi.ext, hi.size, hi.defers⟩
  intro fuel
  induction fuel with
  | zero =>
    intro listed a w μ D e h B segs hsz hl hi hc hk
    have hrd : Region.ready .any ops listed = [] := by
      refine List.eq_nil_iff_forall_not_mem.2 fun i hir => ?_
      rw [mem_ready] at hir
      obtain ⟨h1, o, h2, _⟩ := hir
      have hlt := (Array.getElem?_eq_some_iff.1 h2).1
      have : i ∈ (List.range ops.size).filter fun i => !listed.getD i true := List.mem_filter.2 ⟨List.mem_range.2 hlt, by simp only [h1, Bool.not_false]⟩
      have := List.length_pos_of_mem this
      unfold left at hl
      omega
    exact ⟨hrd, fin listed a w μ D e h B segs hsz hi hc hk hrd⟩
  | succ fuel ih =>
    intro listed a w μ D e h B segs hsz hl hi hc hk
    refine ⟨fin listed a w μ D e h B segs hsz hi hc hk, fun i hir => ?_⟩
    have hir' := hir
    rw [mem_ready] at hir
    obtain ⟨h1, o, h2, h3⟩ := hir
    have hlt := (Array.getElem?_eq_some_iff.1 h2).1
    have hnL : ¬ listed.getD i false = true := (getD_not (by rw [hsz]; exact hlt)).1 h1
    have hlt' : i < infos.length := by rw [hp.len]; exact hlt
    have hI : infos[i]? = some infos[i] := List.getElem?_eq_getElem hlt'
    generalize infos[i] = I at hI
    have ho : I.o = o := by have := hp.op i I hI; rw [h2] at this; cases this; rfl
    have hrd : ∀ j, BindsAt ops j i → listed.getD j false = true := fun j hj => by
      have hj := (hp.binds hI).1 hj
      rw [hp.ons i I hI, ho] at hj
      obtain ⟨ed, hed, rfl⟩ := List.mem_map.1 hj
      obtain ⟨k1, k2⟩ := List.mem_filter.1 hed
      exact h3 ed (by simpa using k1) k2
    have hleft : left ops (listed.setIfInBounds i true) ≤ fuel := by
      have : left ops (listed.setIfInBounds i true) < left ops listed := by
        unfold left
        refine filter_lt (a := i) (fun x _ hx => ?_) (List.mem_range.2 hlt) (by simp only [h1, Bool.not_false]) ?_
        · simp only [Bool.not_eq_true'] at hx ⊢
          by_cases e' : i = x
          · subst e'; exact h1
          · rw [getD_set_ne true e'] at hx; exact hx
        · simp [hsz, hlt]
      omega
    have conv : ∀ {a1 : Act} {w1 : World} {μ1 : Mu} {D1 : List Nat} {e1 : Env} {h1 : Heap} {B1 : Nat → Option Pos}, Inv C E nt ops infos μ0 h0 w0 a0 (fun j => j = i ∨ listed.getD j false = true) a1 w1 μ1 (fun _ _ => True) D1 e1 h1 B1 →
        Inv C E nt ops infos μ0 h0 w0 a0 (fun j => (listed.setIfInBounds i true).getD j false = true) a1 w1 μ1 (fun _ _ => True) D1 e1 h1 B1 := fun hi1 => by
      have : (fun j => (listed.setIfInBounds i true).getD j false = true) = (fun j => j = i ∨ listed.getD j false = true) := funext fun j => propext (listed_set (by rw [hsz]; exact hlt))
      rw [this]; exact hi1
    by_cases hiD : i ∈ D
    · exact hi.stepIn hp hC hr0 hI hrd hnL hiD fun a1 w1 μ1 hi1 => ih _ a1 w1 μ1 D e h B segs (by simp [hsz]) hleft (conv hi1) hc hk
    · exact hi.stepNew hp hC hr0 hI hrd hnL hiD (by simp) hc hk fun a1 w1 μ1 D1 e1 h1 B1 segs1 hi1 hc1 hk1 => ih _ a1 w1 μ1 D1 e1 h1 B1 segs1 (by simp [hsz]) hleft (conv hi1) hc1 hk1

end

theorem runDops_only : ∀ (l : List (Bool × AOper)) (env : Env) (h : Heap), (∀ {id : Nat} {env' : Env} {h' : Heap}, runDops C l env h ≠ .exit id env' h') ∧ (∀ {env' : Env} {h' : Heap}, runDops C l env h ≠ .ret env' h')
  | [], env, h => ⟨fun e => (by cases e), fun e => (by cases e)⟩
  | (false, x) :: l, env, h => ⟨fun e => by
      obtain ⟨env1, h1, h2⟩ := stepOper_only (by simp) (show stepOper x C env h (runDops C l) = _ from e)
      exact (runDops_only l env1 h1).1 h2, fun e => by
      obtain ⟨env1, h1, h2⟩ := stepOper_only (by simp) (show stepOper x C env h (runDops C l) = _ from e)
      exact (runDops_only l env1 h1).2 h2⟩
  | (true, x) :: l, env, h => by
    have key : ∀ r, r ≠ .fail → runDops C ((true, x) :: l) env h = r → runDops C l env h = r := fun r hr hk => by
      rw [runDops_true] at hk
      cases x with
      | o dst op =>
        simp only [reOper, reK] at hk
        split at hk
        · split at hk
          · split at hk
            · exact hk
            · exact absurd hk.symm hr
          · exact absurd hk.symm hr
        · exact absurd hk.symm hr
      | g s want dst op =>
        simp only [reOper, reK] at hk
        split at hk
        · split at hk
          · split at hk
            · split at hk
              · split at hk
                · exact hk
                · exact absurd hk.symm hr
              · exact absurd hk.symm hr
            · exact absurd hk.symm hr
          · exact hk
        · exact hk
        · exact absurd hk.symm hr
    exact ⟨fun e => (runDops_only l env h).1 (key _ (by simp) e), fun e => (runDops_only l env h).2 (key _ (by simp) e)⟩

theorem drawn_sound (hm : P.follows .mixedOrders = true) (hC : CSound P C) : DrawnSound P dyn E nt C := by
  intro n id ops l hc env h r μ w a hk hne hnt hE hr hb
  have hk : runDops C l env h = r := hk
  unfold compDrawnAll at hc
  split at hc
  · cases hc
  rename_i xs hxs
  simp only [] at hc
  split at hc
  case h_2 => cases hc
  rename_i hplan
  cases hc
  have hI := infos_ok hxs
  simp only [chkPlan, Bool.and_eq_true] at hplan
  obtain ⟨hp1, hp2⟩ := hplan
  split at hp2
  case h_2 => cases hp2
  rename_i D hruns
  have hp := plan_ok hI hp1
  generalize infosOf ops [] ops.toList xs (masksFrom [] ops.toList) = infos at *
  have henv : ∃ env' h', r = .ok env' h' := by
    cases r with
    | ok env' h' => exact ⟨env', h', rfl⟩
    | exit id env' h' => exact absurd hk (runDops_only _ env h).1
    | ret env' h' => exact absurd hk (runDops_only _ env h).2
    | fail => exact absurd rfl hne
  obtain ⟨envF, hF, rfl⟩ := henv
  refine wp_region_any hm ?_
  have hr1 : HRel μ h { w with drawn := w.drawn + 1 } := ⟨hr.live, hr.inj, hr.bound, hr.scope⟩
  have hfalse : ∀ i, ¬ (Array.replicate ops.size false).getD i false = true := fun i => by
    rw [Array.getD_eq_getD_getElem?, Array.getElem?_replicate]
    split <;> simp
  have hi0 : Inv C E nt ops infos μ h w a (fun i => (Array.replicate ops.size false).getD i false = true) a { w with drawn := w.drawn + 1 } μ (fun _ _ => True) [] env h (fun _ => none) :=
    ⟨fun i hi => absurd hi (hfalse i), fun i hi => absurd hi (hfalse i), fun i hi => (by cases hi), fun i hi => (by cases hi), fun i I _ hi => (by cases hi), fun t v _ hv => hE.get t v hv, hE.out, fun i I d name y g _ hl => absurd hl (hfalse i), hr1, hb, Ext.refl rfl rfl rfl rfl, rfl, hnt, rfl,
      fun i I _ hi => (by cases hi), fun i I _ hi => (by cases hi), fun i j b hb => (by cases hb), fun i b hb => (by cases hb)⟩
  obtain ⟨e1, h1, B1, hi1, hk1⟩ := hi0.emits hp (by simp) hruns hk
  refine drawn_all hp hC hr (fun a1 w1 μ1 haft => ⟨rfl, μ1, haft⟩) ops.size _ a _ μ D e1 h1 B1 _ (by simp) ?_ hi1 hp2 hk1
  exact Nat.le_trans (List.length_filter_le _ _) (by simp)

end Go.Cg

/- Functions; calls. -/
namespace Go.Cg
variable [Syms]

variable {P : Program} {dyn : List TypeId} {μ μ' : Mu} {h h' : Heap} {w w' : World} {v : AVal} {E : Tr Unit} {env : Env} {a : Act} {C : CallF} {nt n : Nat}

/-! ### Results -/
theorem ld_run {t : TypeId} {agg : Bool} {n : Nat} {b : Pos} {o : Nat} {blk : ABlk} {im : Img} (hr : HRel μ h w) (ha : aggOf P t = some agg) (hs : szOf P t = some n)
    (hm : μ b = some im) (hb : h.get b = some blk) (hl : (match agg with | true => (loadN blk o n).map AVal.agg | false => loadOne blk o) = some v) :
    ∃ cv, (loadVar t ⟨im.blk, im.base + o, none⟩).run P w = .ok cv w ∧ VRel μ v cv := by
  have hB := hr.live b blk im hb hm
  cases agg with
  | true =>
    simp only at hl
    cases hl0 : loadN blk o n with
    | none => rw [hl0] at hl; cases hl
    | some l =>
      rw [hl0] at hl; cases hl
      obtain ⟨cs, h1, h2, h3, h4⟩ := loadN_sound hB hl0
      refine ⟨.agg cs.toArray, ?_, .agg _ _ (by simpa using h2) (by simpa using h3)⟩
      have := run_loadCells_list (P := P) w ⟨im.blk, im.base + o, none⟩ cs (fun j v hv => by rw [addr_add]; exact h4 j v hv)
      rw [h1] at this
      simp only [loadVar, Sem.run_bind, Sem.run_pure, Result.andThen_ok, aggOf_run ha, szOf_run hs, if_true, this]
  | false =>
    obtain ⟨cv, h1, h2, _⟩ := loadOne_sound hB hl
    refine ⟨cv, ?_, h2⟩
    simp only [loadVar, Sem.run_bind, Result.andThen_ok, aggOf_run ha, Bool.false_eq_true, if_false, run_load, h1]

theorem resVar_run {r : ResultVar} {ar : AResVar} (hE : ERel μ E env a) (hr : HRel μ h w) (hc : compRes P r = some ar) (hv : resVar ar env h = some v) :
    ∃ cv, (match r with | .tmp t => pure (a.tmps.getD t undef) | .cell q t => do loadVar t (← asAddr (a.tmps.getD q undef)) : Sem Value).run P w = .ok cv w ∧ VRel μ v cv := by
  cases r with
  | tmp t =>
    cases hc
    exact ⟨_, rfl, hE.get t v hv⟩
  | cell q t =>
    simp only [compRes] at hc
    split at hc
    case h_2 => cases hc
    rename_i agg k h1 h2
    cases hc
    simp only [resVar] at hv
    split at hv
    case h_2 => cases hv
    rename_i b o hg
    split at hv
    case h_2 => cases hv
    rename_i blk hb
    have hx := hE.get q _ hg
    have hl : (match agg with | true => (loadN blk o k).map AVal.agg | false => loadOne blk o) = some v := by
      cases agg with
      | true =>
        simp only [] at hv ⊢
        split at hv
        · rename_i l hl; cases hv; rw [hl]; rfl
        · cases hv
      | false => exact hv
    have e : a.tmps.getD q undef = a.eval (.tmp q) := rfl
    simp only []
    rw [e]
    generalize a.eval (.tmp q) = cx at hx
    cases hx with
    | ptr _ _ im hm =>
    obtain ⟨cv, e1, e2⟩ := ld_run (P := P) hr h1 h2 hm hb (by cases agg <;> exact hl)
    exact ⟨cv, by simp only [asAddr, Sem.run_bind, Sem.run_pure, Result.andThen_ok, e1], e2⟩

theorem resVars_run (hE : ERel μ E env a) (hr : HRel μ h w) : ∀ {l : List ResultVar} {al : List AResVar} {vs : List AVal}, allSome (compRes P) l = some al → resVars al env h = some vs →
    ∃ cvs : List Value, (l.mapM fun | .tmp t => pure (a.tmps.getD t undef) | .cell q t => do loadVar t (← asAddr (a.tmps.getD q undef)) : Sem (List Value)).run P w = .ok cvs w ∧ VsRel μ vs cvs
  | [], al, vs, hc, hv => by
    cases hc
    cases hv
    exact ⟨[], rfl, .nil⟩
  | r :: l, al, vs, hc, hv => by
    simp only [allSome] at hc
    split at hc
    case h_2 => cases hc
    rename_i ar har
    split at hc
    case h_2 => cases hc
    rename_i als hals
    cases hc
    simp only [resVars] at hv
    split at hv
    case h_2 => cases hv
    rename_i v1 hv1
    split at hv
    case h_2 => cases hv
    rename_i vs1 hvs1
    cases hv
    obtain ⟨cv, e1, e2⟩ := resVar_run hE hr har hv1
    obtain ⟨cvs, e3, e4⟩ := resVars_run hE hr hals hvs1
    refine ⟨cv :: cvs, ?_, .cons _ _ _ _ e2 e4⟩
    simp only [List.mapM_cons, Sem.run_bind]
    rw [e1]
    simp only [Result.andThen_ok]
    rw [e3]
    rfl

end Go.Cg

/- Functions. -/
namespace Go.Cg
variable [Syms]

variable {P : Program} {dyn : List TypeId} {μ μ' : Mu} {h h' : Heap} {w w' : World} {v : AVal} {E : Tr Unit} {env : Env} {a : Act} {C : CallF} {nt n : Nat}

theorem argsEnv_get : ∀ (l : List AVal) (p : Pos) (env : Env) (t : Pos) (v : AVal), Tr.get t (argsEnv l p env) = some v → (p.nat ≤ t.nat ∧ l[t.nat - p.nat]? = some v) ∨ (Tr.get t env = some v)
  | [], p, env, t, v, hg => .inr hg
  | x :: l, p, env, t, v, hg => by
    have e : argsEnv (x :: l) p env = argsEnv l p.succ (Tr.put (some x) p env) := by
      show Tr.putK (some x) p env (fun env => Pos.succK p fun p => argsEnv l p env) = _
      rw [Tr.putK_eq, Pos.succK_eq]
    rw [e] at hg
    rcases argsEnv_get l p.succ _ t v hg with ⟨h1, h2⟩ | h1
    · rw [Pos.nat_succ] at h1 h2
      refine .inl ⟨by omega, ?_⟩
      rw [show t.nat - p.nat = (t.nat - (p.nat + 1)) + 1 by omega, List.getElem?_cons_succ]
      exact h2
    · by_cases e : p = t
      · subst e
        rw [Tr.get_put_same] at h1
        refine .inl ⟨Nat.le_refl _, ?_⟩
        rw [Nat.sub_self]; exact h1
      · rw [Tr.get_put_other _ _ _ _ e] at h1
        exact .inr h1

theorem isOut_any {E : Tr Unit} {k : Nat} (h : (List.range k).any (isOut E) = false) {t : Nat} (ht : t < k) : isOut E t = false := by
  cases ho : isOut E t with
  | false => rfl
  | true =>
    have : (List.range k).any (isOut E) = true := List.any_eq_true.2 ⟨t, List.mem_range.2 ht, ho⟩
    rw [h] at this; cases this

theorem erel_args {args : List AVal} {cargs : Array Value} {k m : Nat} (hv : VsRel μ args cargs.toList) (hk : args.length = k) (ho : (List.range k).any (isOut E) = false) :
    ERel μ E (argsEnv args .e .lf) { tmps := cargs ++ Array.replicate m undef, defers := [] } where
  get := fun t v hg => by
    rcases argsEnv_get args .e .lf _ v hg with ⟨_, h2⟩ | h1
    · rw [slotPos_nat] at h2
      have h2 : args[t]? = some v := h2
      obtain ⟨cv, h3, h4⟩ := hv.get h2
      rw [Array.getElem?_toList] at h3
      have hlt : t < cargs.size := (Array.getElem?_eq_some_iff.1 h3).1
      have : (cargs ++ Array.replicate m undef)[t]? = some cv := by rw [Array.getElem?_append_left hlt]; exact h3
      rw [eval_of_get this]
      exact h4
    · cases hs : slotPos t <;> rw [hs] at h1 <;> cases h1
  out := fun t ht => by
    cases hg : Tr.get (slotPos t) (argsEnv args .e .lf) with
    | none => rfl
    | some v =>
      rcases argsEnv_get args .e .lf _ v hg with ⟨_, h2⟩ | h1
      · rw [slotPos_nat] at h2
        have h2 : args[t]? = some v := h2
        have hlt : t < k := by
          rw [← hk]
          exact (List.getElem?_eq_some_iff.1 h2).1
        rw [isOut_any ho hlt] at ht; cases ht
      · cases hs : slotPos t <;> rw [hs] at h1 <;> cases h1

end Go.Cg

/- Functions, and calls by depth. -/
namespace Go.Cg
variable [Syms]

variable {P : Program} {dyn : List TypeId} {μ μ' : Mu} {h h' : Heap} {w w' : World} {v : AVal} {E : Tr Unit} {env : Env} {a : Act} {C : CallF} {n : Nat}

theorem finish_run {fn : Func} {rs : List AResVar} {k : Nat} {body : ACode} (hE : ERel μ E env a) (hr : HRel μ h w) (hc : allSome (compRes P) fn.results.toList = some rs) (hk : finish ⟨k, rs, body⟩ env h = .ok v h') :
    h' = h ∧ ∃ cv, (results fn a.tmps).run P w = .ok cv w ∧ VRel μ v cv := by
  unfold finish at hk
  split at hk
  case h_2 => cases hk
  rename_i vs hvs
  cases hk
  obtain ⟨cvs, e1, e2⟩ := resVars_run (P := P) hE hr hc hvs
  refine ⟨rfl, if hh : cvs.toArray.size = 1 then cvs.toArray[0] else .tuple cvs.toArray, ?_, ?_⟩
  · simp only [results, Array.mapM_eq_mapM_toList, Sem.run_bind, Sem.run_map]
    erw [e1]
    rfl
  · cases e2 with
    | nil => exact .tuple _ _ .nil
    | cons x cx l cl h1 h2 =>
      cases h2 with
      | nil => exact h1
      | cons y cy l cl h3 h4 => exact .tuple _ _ (.cons _ _ _ _ h1 (.cons _ _ _ _ h3 h4))

theorem func_sound (hC : CSound P C) {f : FuncId} {fn : Func} {af : AFunc} {args : List AVal} {cargs : Array Value} (hD : DrawnSound P dyn E fn.ntmps C) (hf : P.funcs[f]? = some fn) (hc : compFunc P dyn E fn = some af)
    (hk : runF C n af args h = .ok v h') (hv : VsRel μ args cargs.toList) (hr : HRel μ h w) (hb : Bounded μ h) : Back P f cargs w (Rel μ h w v h') := by
  unfold compFunc at hc
  split at hc
  case h_2 => cases hc
  rename_i b hbody hout
  split at hc
  case h_2 => cases hc
  rename_i c rs hcomp hrs
  cases hc
  unfold runF at hk
  split at hk
  case h_2 => cases hk
  rename_i hlen
  have hlen := Nat.eq_of_beq_eq_true hlen
  have hE := erel_args (m := fn.ntmps - cargs.size) hv hlen hout
  refine calls_of_wp hf hbody ?_
  have hsz : fn.ntmps ≤ ({ tmps := cargs ++ Array.replicate (fn.ntmps - cargs.size) undef, defers := [] } : Act).tmps.size := by
    simp only [Array.size_append, Array.size_replicate]; omega
  have done : ∀ (env1 : Env) (h1 : Heap) (a1 : Act) (w1 : World), (∃ μ1, Aft E [] μ h w { tmps := cargs ++ Array.replicate (fn.ntmps - cargs.size) undef, defers := [] } env1 h1 a1 w1 μ1) → finish ⟨fn.params.size + fn.nfree, rs, c⟩ env1 h1 = .ok v h' →
      a1.defers = [] ∧ ∃ cv, (results fn a1.tmps).run P w1 = .ok cv w1 ∧ ∃ u, Ending.returned cv = .returned u ∧ Rel μ h w v h' u w1 := by
    intro env1 h1 a1 w1 ⟨μ1, haft⟩ hfin
    obtain ⟨rfl, cv, e1, e2⟩ := finish_run haft.slots haft.heap hrs hfin
    exact ⟨haft.defers, cv, e1, cv, rfl, μ1, e2, haft.heap, haft.ext⟩
  simp only [] at hk
  split at hk
  · rename_i env1 h1 hrun
    refine wp_mono (comp_sound hC hD hcomp hrun (by simp) hsz hE hr hb) fun e a1 w1 hq => ?_
    obtain ⟨rfl, q⟩ := hq
    exact done env1 h1 a1 w1 q hk
  · rename_i env1 h1 hrun
    refine wp_mono (comp_sound hC hD hcomp hrun (by simp) hsz hE hr hb) fun e a1 w1 hq => ?_
    obtain ⟨rfl, q⟩ := hq
    exact done env1 h1 a1 w1 q hk
  · cases hk

end Go.Cg

/- Calls, by their depth. -/
namespace Go.Cg
variable [Syms]

variable {P : Program} {dyn : List TypeId}

/-- What a hook says of the model's call. -/
def HookSound (P : Program) (f : Pos) (k : Hook) : Prop :=
  ∀ {C : CallF}, CSound P C → ∀ {args : List AVal} {v : AVal} {h h' : Heap} {μ : Mu} {w : World} {cargs : Array Value}, k C args h = .ok v h' → VsRel μ args cargs.toList → HRel μ h w → Bounded μ h →
    Yields' P (callFunc (f.nat - 1) cargs) w (Rel μ h w v h')

/-- What a compiled function says of the program's. -/
def FuncSound (P : Program) (dyn : List TypeId) (f : Pos) (af : AFunc) : Prop :=
  ∃ fn E, P.funcs[f.nat - 1]? = some fn ∧ (fn.name == "runtime.NumGoroutine") = false ∧ compFunc P dyn E fn = some af

theorem callFunc_enter {f : FuncId} {fn : Func} {args : Array Value} {w : World} (hf : P.funcs[f]? = some fn) (hn : (fn.name == "runtime.NumGoroutine") = false) (hb : fn.body.isNone = false) : (callFunc f args).run P w = .ok (.enter f args) w := by
  simp only [callFunc, Sem.run_bind, run_program, Result.andThen_ok, hf, hn, hb, Bool.false_eq_true, if_false, Sem.run_pure]

theorem callF_sound {A : AProg} {n : Nat} (hm : P.follows .mixedOrders = true) (hh : ∀ f k, Tr.get f A.hooks = some k → HookSound P f k) (hf : ∀ f af, Tr.get f A.fs = some af → FuncSound P dyn f af) : ∀ d, CSound P (callF A n d) := by
  intro d
  induction d with
  | zero => intro f args v h h' μ w cargs hk; cases hk
  | succ d ih =>
    intro f args v h h' μ w cargs hk hv hr hb
    have hk : (match Tr.get f A.hooks with
      | some k => k (callF A n d) args h
      | none => match Tr.get f A.fs with
        | some af => runF (callF A n d) n af args h
        | none => .fail) = .ok v h' := hk
    split at hk
    · rename_i k hg
      exact hh f k hg ih hk hv hr hb
    · split at hk
      case h_2 => cases hk
      rename_i af hg
      obtain ⟨fn, E, h1, h2, h3⟩ := hf f af hg
      have hbody : fn.body.isNone = false := by
        unfold compFunc at h3
        split at h3
        · rename_i b hb' _; rw [hb']; rfl
        · cases h3
      exact .inr (.inr ⟨f.nat - 1, cargs, w, callFunc_enter h1 h2 hbody, func_sound ih (drawn_sound hm ih) h1 h3 hk hv hr hb⟩)

end Go.Cg

/- Hooks: functions of the library that have no body. -/
namespace Go.Cg
variable [Syms]

variable {P : Program} {μ : Mu} {h h' : Heap} {w : World} {v : AVal}

theorem ixByte_find (len n c : Nat) : ∀ fuel i, ixByte len n c fuel i = (List.range' i fuel).find? (fun j => Nat.beq (byteAt len n j) c)
  | 0, i => rfl
  | fuel + 1, i => by
    have e : ixByte len n c (fuel + 1) i = match Nat.beq (byteAt len n i) c with
      | true => some i
      | false => forceN (i + 1) fun i => ixByte len n c fuel i := rfl
    rw [e, List.range'_succ, List.find?_cons]
    cases Nat.beq (byteAt len n i) c with
    | true => rfl
    | false => simp only [forceN_eq]; exact ixByte_find len n c fuel (i + 1)

theorem ixByte_lib (l : List UInt8) (c : UInt8) : (match ixByte l.length (pack l) c.toNat l.length 0 with | some i => (i : Int) | none => -1) = Lib.indexByte l c := by
  have hr := Lib.find_range l c 0
  simp only [Nat.add_zero, List.map_id', Nat.sub_zero] at hr
  rw [← hr, ixByte_find, ← List.range_eq_range']
  have : (List.range l.length).find? (fun j => Nat.beq (byteAt l.length (pack l) j) c.toNat) = (List.range l.length).find? (fun i => l.getD i 0 == c) := by
    refine Lib.find_congr fun j hj => ?_
    have hlt := List.mem_range.1 hj
    have e1 : l[j]? = some l[j] := List.getElem?_eq_getElem hlt
    rw [byteAt_eq e1, List.getD_eq_getElem?_getD, e1, Option.getD_some]
    by_cases e : l[j] = c
    · rw [e]; simp
    · have : l[j].toNat ≠ c.toNat := fun e' => e (UInt8.toNat_inj.1 e')
      have h1 : Nat.beq l[j].toNat c.toNat = false := by
        cases hb : Nat.beq l[j].toNat c.toNat with
        | false => rfl
        | true => exact absurd (Nat.eq_of_beq_eq_true hb) this
      rw [h1]; simp [e]
  rw [this]
  cases (List.range l.length).find? (fun i => l.getD i 0 == c) <;> rfl

theorem u8_toNat (c : Nat) (hc : c < 256) : ((c : Int).toNat.toUInt8).toNat = c := by
  simp [Nat.toUInt8, UInt8.toNat_ofNat']
  omega

/-- What a function without a body does. -/
structure ExtAt (P : Program) (f : Pos) (e : Array Value → Sem Value) : Prop where
  ex : ∃ fn, P.funcs[f.nat - 1]? = some fn ∧ (fn.name == "runtime.NumGoroutine") = false ∧ fn.body.isNone = true ∧ Extern.findNext fn = none ∧ Extern.find fn = some e

theorem ExtAt.run {f : Pos} {e : Array Value → Sem Value} (hx : ExtAt P f e) {args : Array Value} {cv : Value} {w' : World} (he : (e args).run P w = .ok cv w') : (callFunc (f.nat - 1) args).run P w = .ok (.value cv) w' := by
  obtain ⟨fn, h1, h2, h3, h4, h5⟩ := hx.ex
  rw [run_callFunc_extern h1 h2 h3 h4 h5, he]
  rfl

/-- A byte row's bytes are there. -/
theorem slice_cells {b : Pos} {off len cap es : Nat} {ex : Bool} {bl bn : Nat} {cx : Value} (hr : HRel μ h w) (hx : VRel μ (.slice b off len cap es ex) cx) (hb : h.get b = some (.bytes bl bn)) (hle : off + len ≤ bl) :
    ∃ (l : List UInt8) (adr : Addr) (cap' : Nat), cx = .slice (some adr) len cap' ∧ l.length = len ∧ pack l = subStr bl bn off (off + len) ∧ (0 < len → ∃ blk o, adr = ⟨blk, o, none⟩ ∧ ∀ i, i < len → w.cell? ⟨blk, o + i, none⟩ = some (.int .u8 ((l.map fun b => (b.toNat : Int)).getD i 0))) := by
  cases hx with
  | slice _ _ _ _ _ _ im cap' adr hm h1 h2 h3 h4 h5 =>
  obtain ⟨obj, ho, c, e, fr, l, rfl, k1, k2, k3, k4, k5, k6⟩ := hr.live b _ im hb hm
  refine ⟨(l.drop off).take len, adr, cap', rfl, by simp; omega, ?_, fun hpos => ?_⟩
  · rw [← k4, ← k5, subStr_eq l off (off + len) (by omega) (by omega), Nat.add_sub_cancel_left]
  · refine ⟨im.blk, im.base + off, h5 (by omega), fun i hi => ?_⟩
    have hlt : off + i < l.length := by omega
    have hc := k6 (off + i) l[off + i] (List.getElem?_eq_getElem hlt)
    simp only [World.cell?, ho]
    rw [Nat.add_assoc, hc]
    simp [List.getD_eq_getElem?_getD, List.getElem?_take, List.getElem?_drop, hi, List.getElem?_eq_getElem hlt]

theorem lib_bytesOf (l : List UInt8) : Lib.bytesOf (l.map fun b => (b.toNat : Int)) = l := by
  simp only [Lib.bytesOf, List.map_map]
  refine (List.map_congr_left fun b _ => ?_).trans (List.map_id l)
  simp

theorem indexByte_sound {f : Pos} (hx : ExtAt P f Extern.BytealgIndexByte.indexByte) : HookSound P f hkIndexByte := by
  intro C hC args v h h' μ w cargs hk hv hr hb
  unfold hkIndexByte at hk
  split at hk
  case h_2 => cases hk
  rename_i x c
  split at hk
  case h_2 => cases hk
  rename_i len n hc256 hrow
  have hc256 : c < 256 := by simpa using hc256
  have hn : ∃ m : Int, v = .int .i64 m ∧ h' = h ∧ m = (match ixByte len n c len 0 with | some i => (i : Int) | none => -1) := by
    split at hk
    · rename_i i hi; cases hk; exact ⟨_, rfl, rfl, by rw [hi]; rfl⟩
    · rename_i hi; cases hk; exact ⟨_, rfl, rfl, by rw [hi]; rfl⟩
  obtain ⟨m, rfl, rfl, hm⟩ := hn
  -- the arguments
  obtain ⟨cx, hcx, hca⟩ : ∃ cx, VRel μ x cx ∧ cargs = #[cx, .int .u8 c] := by
    obtain ⟨cl⟩ := cargs
    cases hv with
    | cons _ cx _ _ h1 h2 =>
      cases h2 with
      | cons _ cc _ _ h3 h4 =>
        cases h4
        cases h3
        exact ⟨cx, h1, rfl⟩
  subst hca
  have fin : ∀ l : List UInt8, l.length = len → pack l = n → (Extern.BytealgIndexByte.indexByte #[cx, .int .u8 c]).run P w = .ok (.int .i64 (Lib.indexByte l (c : Int).toNat.toUInt8)) w → Yields' P (callFunc (f.nat - 1) #[cx, .int .u8 c]) w (Rel μ h' w (.int .i64 m) h') := by
    intro l hl hp he
    refine yp hr (hx.run he) ?_
    subst hl hp
    have e := ixByte_lib l (c : Int).toNat.toUInt8
    rw [u8_toNat c hc256] at e
    rw [hm, ← e]
    exact .int _ _
  cases hcx with
  | str s len' n' h1 h2 =>
    simp only [rowOf, if_true] at hrow
    cases hrow
    refine fin s.data.toList (by rw [← h1]; rfl) h2 ?_
    exact Lib.run_indexByteString s c w
  | nilslice =>
    simp only [rowOf, if_true] at hrow
    cases hrow
    refine fin [] rfl rfl ?_
    exact Lib.run_indexByteNil w 0 0 c
  | slice b off len' cap es ex im cap' adr hm1 h1 h2 h3 h4 h5 =>
    have hx' : VRel μ (.slice b off len' cap es ex) (.slice (some adr) len' cap') := .slice b off len' cap es ex im cap' adr hm1 h1 h2 h3 h4 h5
    simp only [rowOf] at hrow
    split at hrow
    · simp at hrow
    · rename_i bl bn e1 e2
      split at hrow
      case h_2 => cases hrow
      rename_i hle
      simp only [Bool.true_and] at hle
      have hle := Nat.le_of_ble_eq_true hle
      simp only [forceN_eq] at hrow
      cases hrow
      obtain ⟨l, adr', cap2, hcx, k1, k2, k3⟩ := slice_cells hr hx' e2 hle
      cases hcx
      refine fin l k1 k2 ?_
      by_cases hpos : 0 < len
      · obtain ⟨blk, o, rfl, k4⟩ := k3 hpos
        have := Lib.run_indexByteSlice (P := P) w blk o len cap' (l.map fun b => (b.toNat : Int)) (by simp [k1]) k4 c
        rw [lib_bytesOf] at this
        exact this
      · have h0 : len = 0 := by omega
        subst h0
        have hl : l = [] := List.length_eq_zero_iff.1 k1
        subst hl
        have hs := Lib.run_indexByteString (P := P) .empty c w
        exact hs
    · cases hrow
  | _ => simp [rowOf] at hrow

theorem cntByte_eq (c : UInt8) : ∀ (l : List UInt8) (acc : Nat),
    Nat.rec (motive := fun _ => Nat → Nat → Nat) (fun _ acc => acc)
    (fun _ ih n acc => match Nat.beq (Nat.land n 255) c.toNat with
      | true => forceN (acc + 1) fun acc => forceN (Nat.shiftRight n 8) fun n => ih n acc
      | false => forceN (Nat.shiftRight n 8) fun n => ih n acc) l.length (pack l) acc = acc + Lib.countByte l c := by
  suffices hh : ∀ (n : Nat) (l : List UInt8), l.length = n → ∀ acc, Nat.rec (motive := fun _ => Nat → Nat → Nat) (fun _ acc => acc)
    (fun _ ih n acc => match Nat.beq (Nat.land n 255) c.toNat with
      | true => forceN (acc + 1) fun acc => forceN (Nat.shiftRight n 8) fun n => ih n acc
      | false => forceN (Nat.shiftRight n 8) fun n => ih n acc) n (pack l) acc = acc + Lib.countByte l c from fun l acc => hh _ l rfl acc
  intro n
  induction n with
  | zero => intro l hl acc; have : l = [] := List.length_eq_zero_iff.1 hl; subst this; exact (Nat.add_zero acc).symm
  | succ n ih =>
    intro l hl acc
    obtain ⟨r, b, rfl⟩ : ∃ r b, l = r ++ [b] := by
      have hne : l ≠ [] := by intro e; subst e; simp at hl
      exact ⟨l.dropLast, l.getLast hne, (List.dropLast_concat_getLast hne).symm⟩
    have hr : r.length = n := by simpa using hl
    have e1 : Nat.land (pack (r ++ [b])) 255 = b.toNat := by
      rw [land_255, pack_snoc]
      have := b.toNat_lt
      omega
    have e2 : Nat.shiftRight (pack (r ++ [b])) 8 = pack r := by
      have := shr_8 (pack (r ++ [b])) 1
      rw [Nat.mul_one] at this
      rw [this, pack_snoc]
      have := b.toNat_lt
      omega
    have e3 : Lib.countByte (r ++ [b]) c = Lib.countByte r c + (if b == c then 1 else 0) := by
      unfold Lib.countByte
      rw [List.count_append, List.count_singleton]
    simp only [forceN_eq] at ih ⊢
    rw [e1, e2, e3, ih r hr, ih r hr]
    by_cases e : b = c
    · subst e; simp; omega
    · have : b.toNat ≠ c.toNat := fun e' => e (UInt8.toNat_inj.1 e')
      have h1 : Nat.beq b.toNat c.toNat = false := by
        cases hb : Nat.beq b.toNat c.toNat with
        | false => rfl
        | true => exact absurd (Nat.eq_of_beq_eq_true hb) this
      rw [h1]; simp [e]

theorem count_sound {f : Pos} (hx : ExtAt P f Extern.BytealgCount.count) : HookSound P f hkCount := by
  intro C hC args v h h' μ w cargs hk hv hr hb
  unfold hkCount at hk
  split at hk
  case h_2 => cases hk
  rename_i len n c
  split at hk
  case h_2 => cases hk
  rename_i hc256
  have hc256 : c < 256 := by simpa using hc256
  simp only [forceN_eq] at hk
  cases hk
  obtain ⟨cl⟩ := cargs
  cases hv with
  | cons _ cx _ _ h1 h2 =>
    cases h2 with
    | cons _ cc _ _ h3 h4 =>
      cases h4
      cases h3
      cases h1 with
      | str s _ _ k1 k2 =>
        refine yp hr (hx.run (Lib.run_countString s c w)) ?_
        have e := cntByte_eq (c : Int).toNat.toUInt8 s.data.toList 0
        rw [u8_toNat c hc256, k2, Nat.zero_add, show s.data.toList.length = len from by rw [← k1]; rfl] at e
        have e' : cntByte n c len = Lib.countByte s.data.toList (c : Int).toNat.toUInt8 := e
        rw [e']
        exact .int _ _

end Go.Cg

/- Hooks: a function that defers a call. -/
namespace Go.Cg
variable [Syms]

variable {P : Program} {dyn : List TypeId} {μ : Mu} {h h' : Heap} {w : World} {v : AVal} {E : Tr Unit} {C : CallF} {n : Nat}

/-- A function's body. -/
theorem func_wp (hm : P.follows .mixedOrders = true) (hC : CSound P C) {fn : Func} {af : AFunc} {args : List AVal} {cargs : Array Value} (hc : compFunc P dyn E fn = some af)
    (hk : runF C n af args h = .ok v h') (hv : VsRel μ args cargs.toList) (hr : HRel μ h w) (hb : Bounded μ h) :
    ∃ c, fn.body = some c ∧ c.wp P (bodyPost P fn fun e w' => ∃ u, e = .returned u ∧ Rel μ h w v h' u w') { tmps := cargs ++ Array.replicate (fn.ntmps - cargs.size) undef, defers := [] } w := by
  have hD : DrawnSound P dyn E fn.ntmps C := drawn_sound hm hC
  unfold compFunc at hc
  split at hc
  case h_2 => cases hc
  rename_i b hbody hout
  split at hc
  case h_2 => cases hc
  rename_i c rs hcomp hrs
  cases hc
  unfold runF at hk
  split at hk
  case h_2 => cases hk
  rename_i hlen
  have hlen := Nat.eq_of_beq_eq_true hlen
  have hE := erel_args (m := fn.ntmps - cargs.size) hv hlen hout
  refine ⟨b, hbody, ?_⟩
  have hsz : fn.ntmps ≤ ({ tmps := cargs ++ Array.replicate (fn.ntmps - cargs.size) undef, defers := [] } : Act).tmps.size := by
    simp only [Array.size_append, Array.size_replicate]; omega
  have done : ∀ (env1 : Env) (h1 : Heap) (a1 : Act) (w1 : World), (∃ μ1, Aft E [] μ h w { tmps := cargs ++ Array.replicate (fn.ntmps - cargs.size) undef, defers := [] } env1 h1 a1 w1 μ1) → finish ⟨fn.params.size + fn.nfree, rs, c⟩ env1 h1 = .ok v h' →
      a1.defers = [] ∧ ∃ cv, (results fn a1.tmps).run P w1 = .ok cv w1 ∧ ∃ u, Ending.returned cv = .returned u ∧ Rel μ h w v h' u w1 := by
    intro env1 h1 a1 w1 ⟨μ1, haft⟩ hfin
    obtain ⟨rfl, cv, e1, e2⟩ := finish_run haft.slots haft.heap hrs hfin
    exact ⟨haft.defers, cv, e1, cv, rfl, μ1, e2, haft.heap, haft.ext⟩
  simp only [] at hk
  split at hk
  · rename_i env1 h1 hrun
    refine wp_mono (comp_sound hC hD hcomp hrun (by simp) hsz hE hr hb) fun e a1 w1 hq => ?_
    obtain ⟨rfl, q⟩ := hq
    exact done env1 h1 a1 w1 q hk
  · rename_i env1 h1 hrun
    refine wp_mono (comp_sound hC hD hcomp hrun (by simp) hsz hE hr hb) fun e a1 w1 hq => ?_
    obtain ⟨rfl, q⟩ := hq
    exact done env1 h1 a1 w1 q hk
  · cases hk

theorem beq_intro {a b : Nat} (h : Nat.beq a b = true) : a = b := Nat.eq_of_beq_eq_true h

theorem defer_sound (hm : P.follows .mixedOrders = true) {f : Pos} {fn gn : Func} {E' : Tr Unit} {d : DFunc} {ga : AFunc} (hf : P.funcs[f.nat - 1]? = some fn) (hn : (fn.name == "runtime.NumGoroutine") = false) (hc : compDefer P dyn E fn = some d)
    (hg : P.funcs[d.g]? = some gn) (hgn : (gn.name == "runtime.NumGoroutine") = false) (hga : compFunc P dyn E' gn = some ga) : HookSound P f (hkDefer n d ga) := by
  intro C hC args v h h' μ w cargs hk hv hr hb
  unfold compDefer at hc
  split at hc
  case h_2 => cases hc
  rename_i c0 c1 id ops rest hbody
  split at hc
  case h_2 => cases hc
  rename_i mk df hops
  split at hc
  case h_2 => cases hc
  rename_i dd g first caps call hmg hmd hmo hdg hdd hdo
  split at hc
  case h_2 => cases hc
  rename_i t hfirst hcal hargs
  split at hc
  case h_2 => cases hc
  rename_i b0 b1 bcaps brest rs hchk hc0 hc1 hcaps hcr hrs
  cases hc
  simp only [Bool.and_eq_true, Bool.not_eq_true'] at hchk
  obtain ⟨hout, htd, hdo', hdlt⟩ := hchk
  have htd := Nat.eq_of_beq_eq_true htd
  subst htd
  have hdlt : t < fn.ntmps := by simpa using hdlt
  unfold hkDefer at hk
  simp only [] at hk
  split at hk
  case h_2 => cases hk
  rename_i hlen
  have hlen := Nat.eq_of_beq_eq_true hlen
  split at hk
  case h_2 => cases hk
  rename_i e0 h0 hr0
  split at hk
  case h_2 => cases hk
  rename_i e1 h1 hr1
  have hD : DrawnSound P dyn E fn.ntmps C := drawn_sound hm hC
  have hbn : fn.body.isNone = false := by rw [hbody]; rfl
  refine .inr (.inr ⟨f.nat - 1, cargs, w, callFunc_enter hf hn hbn, ?_⟩)
  refine calls_of_wp_defers hf hbody ?_
  have hE := erel_args (m := fn.ntmps - cargs.size) hv hlen hout
  have hsz : fn.ntmps ≤ ({ tmps := cargs ++ Array.replicate (fn.ntmps - cargs.size) undef, defers := [] } : Act).tmps.size := by
    simp only [Array.size_append, Array.size_replicate]; omega
  generalize ha0 : ({ tmps := cargs ++ Array.replicate (fn.ntmps - cargs.size) undef, defers := [] } : Act) = a0 at hE hsz ⊢
  have hd0 : a0.defers = [] := by rw [← ha0]
  refine wp_seq (wp_mono (comp_sound hC hD hc0 hr0 (by simp) hsz hE hr hb) fun e a1 w1 hq => ?_)
  obtain ⟨rfl, μ1, x1⟩ := hq
  show (Code.seq c1 (.seq (.region id ops false) rest)).wp P _ a1 w1
  have hsz1 : fn.ntmps ≤ a1.tmps.size := by rw [x1.size]; exact hsz
  refine wp_seq (wp_mono (comp_sound hC hD hc1 hr1 (by simp) hsz1 x1.slots x1.heap x1.bound) fun e a2 w2 hq => ?_)
  obtain ⟨rfl, μ2, x2⟩ := hq
  have x2 := x1.trans hr x2
  show (Code.seq (.region id ops false) rest).wp P _ a2 w2
  have hsz2 : fn.ntmps ≤ a2.tmps.size := by rw [x2.size]; exact hsz
  -- what is captured
  have hsees : Sees [] none e1 μ2 a2.eval caps := sees_of (A := []) (g := none) x2.slots (fun e he => by cases he) (show Holds a2 none from trivial) caps
  obtain ⟨vs, hvs, hk⟩ := allSome_map hsees (fun x hx => by simpa using hx) hcaps (by simp) hk
  refine wp_seq (wp_region ?_)
  have hsize : ops.size = 2 := by rw [← Array.length_toList, hops]; rfl
  have h0' : ops[0]? = some mk := by rw [← Array.getElem?_toList, hops]; rfl
  have h1' : ops[1]? = some df := by rw [← Array.getElem?_toList, hops]; rfl
  rw [hsize, show List.range 2 = [0, 1] from rfl]
  have ef : first = #[] := by cases first; simp at hfirst; rw [hfirst]
  have ea : call.args = #[] := by
    generalize call.args = ca at hargs
    cases ca; simp at hargs; rw [hargs]
  refine wpOps_at h0' (wpAt_value (cv := .func (.func g) #[] (caps.map a2.eval)) (by simp [Region.wanted, hmg]) ?_ ?_)
  · obtain ⟨md, mo, mt, mp, ma, mgd⟩ := mk
    simp only at hmo
    subst hmo
    rw [ef]
    simp [execOp, Instr.makeFunc]
  rw [hmd]
  generalize ha3 : a2.put (some t) (.func (.func g) #[] (caps.map a2.eval)) = a3
  have he3 : a3.eval (.tmp t) = .func (.func g) #[] (caps.map a2.eval) := by rw [← ha3]; exact eval_put_same (Nat.lt_of_lt_of_le hdlt hsz2)
  have hE3 : ERel μ2 E e1 a3 := by rw [← ha3]; exact x2.slots.skip (Mu.le_refl _) hdo'
  refine wpOps_at h1' ?_
  unfold wpAt
  rw [if_pos (by simp [Region.wanted, hdg])]
  unfold Oper.wp
  have hex : (execOp a3.eval df).run P w2 = .ok (.defer { target := .fn (.func g) (caps.map a2.eval), args := #[] }) w2 := by
    obtain ⟨md, mo, mt, mp, ma, mgd⟩ := df
    simp only at hdo
    subst hdo
    simp [execOp, resolve, hcal, he3, Deferred.ofValue, ea]
  rw [hex, Oper.upon_defer, hdd]
  show wpOps P ops _ [] { a3 with defers := _ :: a3.defers } w2
  simp only [wpOps]
  generalize ha4 : ({ a3 with defers := { target := .fn (.func g) (caps.map a2.eval), args := #[] } :: a3.defers } : Act) = a4
  have hE4 : ERel μ2 E e1 a4 := by rw [← ha4]; exact ⟨hE3.get, hE3.out⟩
  have hsz4 : fn.ntmps ≤ a4.tmps.size := by rw [← ha4, ← ha3]; simp only [size_put]; exact hsz2
  have hd4 : a4.defers = [{ target := .fn (.func g) (caps.map a2.eval), args := #[] }] := by
    rw [← ha4, ← ha3]; simp only [defers_put, x2.defers, hd0]
  show rest.wp P _ a4 w2
  have done : ∀ e2 h2, endD C n ⟨fn.params.size + fn.nfree, b0, b1, bcaps, g, brest, rs⟩ ga vs e2 h2 = .ok v h' → ∀ a5 w5, (∃ μ5, Aft E [] μ2 h1 w2 a4 e2 h2 a5 w5 μ5) →
      Leaves P fn a5.tmps (fun e w' => ∃ u, e = .returned u ∧ Rel μ h w v h' u w') a5.defers .returning w5 := by
    intro e2 h2 hend a5 w5 ⟨μ5, x5⟩
    unfold endD at hend
    split at hend
    case h_2 => cases hend
    rename_i gv h3 hrunF
    rw [x5.defers, hd4]
    have hvs5 : VsRel μ5 vs (caps.map a2.eval).toList := by
      simp only [Array.toList_map]
      exact hvs.mono x5.ext.mono
    obtain ⟨gb, hgb, hwp⟩ := func_wp hm hC hga hrunF hvs5 x5.heap x5.bound
    refine leaves_cons (f := g) (args := caps.map a2.eval) (by simp) ?_ (CallsD.mono (callsD_of_wp hg hgb hwp) fun e u' w6 hq => ?_)
    · simp only [invoke, Array.empty_append]
      exact callFunc_enter hg hgn (by rw [hgb]; rfl)
    obtain ⟨rfl, u, rfl, μ6, _, hr6, hx6⟩ := hq
    simp only [settle]
    have hE6 : ERel μ6 E e2 a5 := x5.slots.mono hx6.mono
    obtain ⟨rfl, cv, r1, r2⟩ := finish_run (P := P) hE6 hr6 hrs hend
    refine ⟨cv, r1, cv, rfl, μ6, r2, hr6, ?_⟩
    exact Ext.trans hr x2.ext (Ext.trans x2.heap x5.ext hx6)
  split at hk
  · rename_i e2 h2 hrun
    refine wp_mono (comp_sound hC hD hcr hrun (by simp) hsz4 hE4 x2.heap x2.bound) fun e a5 w5 hq => ?_
    obtain ⟨rfl, q⟩ := hq
    exact done e2 h2 hk a5 w5 q
  · rename_i e2 h2 hrun
    refine wp_mono (comp_sound hC hD hcr hrun (by simp) hsz4 hE4 x2.heap x2.bound) fun e a5 w5 hq => ?_
    obtain ⟨rfl, q⟩ := hq
    exact done e2 h2 hk a5 w5 q
  · cases hk

end Go.Cg

/- Whole programs: all functions of a table, and a law's call. -/
namespace Go.Cg
variable [Syms]

variable {P : Program} {dyn : List TypeId}

/-- Something of each entry. -/
def TrAll {α : Type} (Q : Pos → α → Prop) : Tr α → Prop
  | .lf => True
  | .nd l v r => (∀ a, v = some a → Q .e a) ∧ TrAll (fun p => Q (.l p)) l ∧ TrAll (fun p => Q (.r p)) r

theorem tleaf {α : Type} {R : α → Prop} {a : α} (h : R a) : ∀ x, some a = some x → R x := fun x e => by cases e; exact h
theorem tnone {α : Type} {R : α → Prop} : ∀ x, (none : Option α) = some x → R x := fun x e => by cases e

theorem TrAll.get {α : Type} : ∀ {t : Tr α} {Q : Pos → α → Prop} {p : Pos} {a : α}, TrAll Q t → Tr.get p t = some a → Q p a
  | .lf, Q, p, a, _, hg => by rw [Tr.get_lf] at hg; cases hg
  | .nd l v r, Q, .e, a, h, hg => h.1 a hg
  | .nd l v r, Q, .l p, a, h, hg => TrAll.get (Q := fun p => Q (.l p)) h.2.1 hg
  | .nd l v r, Q, .r p, a, h, hg => TrAll.get (Q := fun p => Q (.r p)) h.2.2 hg

theorem prog_sound {fs : Tr AFunc} {hks : Tr Hook} {n : Nat} (hm : P.follows .mixedOrders = true) (hh : TrAll (HookSound P) hks) (hf : TrAll (FuncSound P dyn) fs) (d : Nat) : CSound P (callF ⟨fs, hks⟩ n d) :=
  callF_sound hm (fun _ _ h => hh.get h) (fun _ _ h => hf.get h) d

def isTrue (r : OR) : Bool := match r with
  | .ok (.bool b) _ => b
  | _ => false

/-- The world has at most new blocks. -/
def Kept (w w' : World) : Prop := w'.os = w.os ∧ w'.output = w.output ∧ ∀ i : Nat, i < w.heap.size → w'.heap[i]? = w.heap[i]?

theorem Kept.frame {w w' : World} (h : Kept w w') (may : MemPlace → Prop) : w.keptBut w' may := by
  refine ⟨h.1, h.2.1, fun i hi => ?_⟩
  rw [h.2.2 i hi]
  split
  · rename_i e1 e2; rw [e1] at e2; cases e2; exact ⟨rfl, rfl, rfl, fun _ _ => rfl⟩
  · rename_i e1 e2; rw [e1] at e2; cases e2; exact .inr ⟨rfl, rfl⟩
  · rfl

theorem yields_back {f : FuncId} {fn : Func} {args : Array Value} {w : World} {R : Value → World → Prop} (hf : P.funcs[f]? = some fn) (hn : (fn.name == "runtime.NumGoroutine") = false) (hb : fn.body.isNone = false) (hy : Yields' P (callFunc f args) w R) : Back P f args w R := by
  have he := callFunc_enter (args := args) (w := w) hf hn hb
  rcases hy with ⟨cv, w', e, _⟩ | ⟨w', e, _⟩ | ⟨f', args', w', e, h⟩
  · rw [he] at e; cases e
  · rw [he] at e; cases e
  · rw [he] at e; cases e; exact h

theorem empty_hrel (w : World) : HRel (fun _ => none) (.mk .e .lf) w :=
  ⟨fun b o im hb => (empty_get hb).elim, fun b b' o o' im im' hb => (empty_get hb).elim, fun b im hm => (by cases hm), fun b o hb => (empty_get hb).elim⟩

theorem kept_of_ext {w w' : World} {μ' : Mu} {h' : Heap} (hx : Ext (fun _ => none) (.mk .e .lf) w μ' h' w') : Kept w w' :=
  ⟨hx.os, hx.output, fun i hi => hx.frame i hi fun _ _ _ hb => (empty_get hb).elim⟩

theorem law_call {C : CallF} (hC : CSound P C) {f : Pos} {k : FuncId} {fn : Func} {args : List AVal} {cargs : Array Value} {w : World} (hfk : f.nat - 1 = k) (hf : P.funcs[k]? = some fn) (hn : (fn.name == "runtime.NumGoroutine") = false) (hb : fn.body.isNone = false)
    (hv : VsRel (fun _ => none) args cargs.toList) (hk : isTrue (C f args (.mk .e .lf)) = true) : Calls P k cargs w fun e w' => e = .returned (.bool true) ∧ Kept w w' := by
  subst hfk
  cases hr : C f args (.mk .e .lf) with
  | fail => rw [hr] at hk; cases hk
  | ok v h' =>
    rw [hr] at hk
    have hv' : v = .bool true := by
      cases v <;> simp only [isTrue] at hk <;> first | (rw [hk]) | cases hk
    subst hv'
    have hy := hC hr hv (empty_hrel w) (fun _ _ => rfl)
    refine Calls.mono (yields_back hf hn hb hy) fun e w' hq => ?_
    obtain ⟨cv, rfl, μ', h1, h2, h3⟩ := hq
    cases h1
    exact ⟨rfl, kept_of_ext h3⟩

end Go.Cg

/- Hooks: strings.Join, maps.clone, errors.Is. -/
namespace Go.Cg
variable [Syms]

variable {P : Program} {dyn : List TypeId} {μ : Mu} {h h' : Heap} {w : World} {v : AVal} {E : Tr Unit} {C : CallF} {n : Nat}

/-! ### strings.Join -/
theorem rel_of_below {w' : World} (hr : HRel μ h w) (hb : RowKit.Below w.heap.size w w') : HRel μ h w' ∧ Ext μ h w μ h w' where
  left := ⟨fun b o im hg hm => by
      obtain ⟨obj, h1, h2⟩ := hr.live b o im hg hm
      exact ⟨obj, by rw [hb.block _ (hr.bound b im hm)]; exact h1, h2⟩, hr.inj, fun b im hm => Nat.lt_of_lt_of_le (hr.bound b im hm) hb.size, hr.scope⟩
  right := ⟨Mu.le_refl μ, fun b im h1 h2 => (by rw [h1] at h2; cases h2), Nat.le_refl _, hb.size, fun β hβ _ => hb.block β hβ, fun _ _ h1 _ => h1, fun b o im h1 h2 _ => ⟨b, o, im, h1, h2, rfl⟩, hb.os, hb.output, hb.tape⟩

/-- A row of strings. -/
theorem strs_of {l : List AVal} {cells : List Value} (hv : VsRel μ l cells) (hs : ∀ x ∈ l, ∃ k m, x = .str k m) : ∃ xs : List ByteArray, cells = xs.map .string ∧ l = xs.map fun s => .str s.size (pack s.data.toList) := by
  induction l generalizing cells with
  | nil => cases hv; exact ⟨[], rfl, rfl⟩
  | cons x l ih =>
    cases hv with
    | cons _ cv _ cl h1 h2 =>
    obtain ⟨xs, e1, e2⟩ := ih h2 (fun y hy => hs y (List.mem_cons_of_mem _ hy))
    obtain ⟨k, m, rfl⟩ := hs x List.mem_cons_self
    cases h1 with
    | str s _ _ q1 q2 =>
    exact ⟨s :: xs, by rw [e1]; rfl, by rw [e2, ← q1, ← q2]; rfl⟩

theorem joinL_cons {sl sn : Nat} {x : AVal} {l : List AVal} {al an : Nat} {k : Nat → Nat → OR} : joinL sl sn (x :: l) al an k = (match x with
      | .str l' n' => forceN (al + sl + l') fun al => forceN (catStr (catStr an sn sl) n' l') fun an => joinL sl sn l al an k
      | _ => .fail) := rfl

theorem joinL_strs {sl sn : Nat} {k : Nat → Nat → OR} {v : AVal} {h' : Heap} : ∀ {l : List AVal} {al an : Nat}, joinL sl sn l al an k = .ok v h' → ∀ x ∈ l, ∃ k m, x = .str k m
  | [], _, _, _ => fun x hx => by cases hx
  | x :: l, al, an, hk => by
    rw [joinL_cons] at hk
    split at hk
    · simp only [forceN_eq] at hk
      intro y hy
      rcases List.mem_cons.1 hy with rfl | hy
      · exact ⟨_, _, rfl⟩
      · exact joinL_strs hk y hy
    · cases hk

theorem joinL_eq {sep : List UInt8} {k : Nat → Nat → OR} : ∀ {xs : List ByteArray} {acc : List UInt8},
    joinL sep.length (pack sep) (xs.map fun s => .str s.size (pack s.data.toList)) acc.length (pack acc) k = k (acc ++ Lib.joinTail sep (xs.map (·.data.toList))).length (pack (acc ++ Lib.joinTail sep (xs.map (·.data.toList))))
  | [], acc => by
    have : acc ++ Lib.joinTail sep (([] : List ByteArray).map (·.data.toList)) = acc := by simp [Lib.joinTail]
    rw [this]; rfl
  | x :: xs, acc => by
    rw [List.map_cons, joinL_cons]
    simp only [forceN_eq]
    have hx : x.size = x.data.toList.length := rfl
    have e1 : catStr (catStr (pack acc) (pack sep) sep.length) (pack x.data.toList) x.size = pack (acc ++ (sep ++ x.data.toList)) := by
      rw [hx, catStr_eq, catStr_eq, List.append_assoc]
    have e2 : acc.length + sep.length + x.size = (acc ++ (sep ++ x.data.toList)).length := by
      rw [hx]; simp; omega
    rw [e1, e2, joinL_eq (xs := xs)]
    have e3 : acc ++ (sep ++ x.data.toList) ++ Lib.joinTail sep (xs.map (·.data.toList)) = acc ++ Lib.joinTail sep ((x :: xs).map (·.data.toList)) := by
      simp [Lib.joinTail]
    rw [e3]

theorem join_sound {ρ : Shelf.Ren} (L : Proofs.Lays.n156 P ρ) (X : Proofs.Builder.Extra P ρ) {f : Pos} {fn : Func} (hρ : ρ.f 156 = f.nat - 1) (hf : P.funcs[f.nat - 1]? = some fn) (hn : (fn.name == "runtime.NumGoroutine") = false) (hbd : fn.body.isNone = false) : HookSound P f hkJoin := by
  intro C hC args v h h' μ w cargs hk hv hr hb
  unfold hkJoin at hk
  split at hk
  case h_2 => cases hk
  rename_i x sl sn
  obtain ⟨cx, s, hcx, hs1, hs2, rfl⟩ : ∃ cx s, VRel μ x cx ∧ s.size = sl ∧ pack s.data.toList = sn ∧ cargs = #[cx, .string s] := by
    obtain ⟨cl⟩ := cargs
    cases hv with
    | cons _ cx _ _ h1 h2 =>
      cases h2 with
      | cons _ cc _ _ h3 h4 =>
        cases h4
        cases h3 with
        | str s _ _ q1 q2 => exact ⟨cx, s, h1, q1, q2, rfl⟩
  refine .inr (.inr ⟨f.nat - 1, _, w, callFunc_enter hf hn hbd, ?_⟩)
  rw [← hρ]
  have fin : ∀ (cs : ByteArray) (k m : Nat), Calls P (ρ.f 156) #[cx, .string s] w (fun e w' => e = .returned (.string cs) ∧ RowKit.Below w.heap.size w w') → cs.size = k → pack cs.data.toList = m → Back P (ρ.f 156) #[cx, .string s] w (Rel μ h w (.str k m) h) := by
    intro cs k m hcall e1 e2
    refine Calls.mono hcall fun e w' hq => ?_
    obtain ⟨rfl, hbl⟩ := hq
    obtain ⟨q1, q2⟩ := rel_of_below hr hbl
    exact ⟨_, rfl, μ, .str _ _ _ e1 e2, q1, q2⟩
  -- nothing to join
  have none' : ∀ a c, cx = .slice a 0 c → Back P (ρ.f 156) #[cx, .string s] w (Rel μ h w (.str 0 0) h) := fun a c hc => by
    refine fin ⟨#[]⟩ 0 0 ?_ rfl rfl
    rw [hc]
    exact Calls.mono (Proofs.Any.strings_Join_none L X a c s w) fun e w' hq => ⟨hq.1, hq.2 ▸ RowKit.Below.refl _ _⟩
  split at hk
  · rename_i k hrow
    cases hk
    cases hcx with
    | nilslice => exact none' none 0 rfl
    | slice b off len cap es ex im cap' adr hm h1 h2 h3 h4 h5 =>
      have hlen : len = 0 := by
        simp only [rowOf] at hrow
        split at hrow
        · split at hrow
          · rename_i hle
            rw [takeK_eq, dropN_eq] at hrow
            split at hrow
            · have := (Option.some.inj hrow)
              injection this with e1 e2
              have hl := congrArg List.length e2
              simp at hl
              simp at hle
              omega
            · cases hrow
          · cases hrow
        · simp at hrow
        · cases hrow
      subst hlen
      exact none' _ _ rfl
    | _ => simp [rowOf] at hrow
  · rename_i k l n rest hrow
    split at hk
    case h_2 => cases hk
    rename_i hkm
    have hkm := Nat.le_of_ble_eq_true hkm
    cases hcx with
    | nilslice => simp [rowOf] at hrow
    | slice b off len cap es ex im cap' adr hm h1 h2 h3 h4 h5 =>
      simp only [rowOf] at hrow
      split at hrow
      · rename_i vs e1 e2
        split at hrow
        case h_2 => cases hrow
        rename_i hle
        rw [takeK_eq, dropN_eq] at hrow
        split at hrow
        case isFalse => cases hrow
        rename_i hlt
        have := (Option.some.inj hrow)
        injection this with e3 e4
        subst e3
        simp only [Bool.not_false, Bool.true_and] at hle
        have hle := Nat.le_of_ble_eq_true hle
        rw [Nat.mul_one] at e4 hle hlt
        have hpos : 0 < len := by
          cases len with
          | zero => simp at e4
          | succ k => exact Nat.succ_pos _
        have hadr := h5 (by omega)
        obtain ⟨obj, ho, c, elem, fr, rfl, k2, k3, k4, k5⟩ := hr.live b _ im e2 hm
        -- the model's cells
        have hcell : ∀ j x, (AVal.str l n :: rest)[j]? = some x → ∃ cv, w.cell? ⟨im.blk, im.base + off + j, none⟩ = some cv ∧ VRel μ x cv := fun j x hj => by
          rw [← e4, List.getElem?_take] at hj
          split at hj
          · rw [List.getElem?_drop] at hj
            obtain ⟨cv, q1, q2, _⟩ := k5 (off + j) x hj
            refine ⟨cv, ?_, q2⟩
            simp only [World.cell?, ho]
            rw [Nat.add_assoc, q1]
            simp
          · cases hj
        have hstr : ∀ x ∈ (AVal.str l n :: rest), ∃ k m, x = .str k m := fun x hx => by
          rcases List.mem_cons.1 hx with rfl | hx
          · exact ⟨_, _, rfl⟩
          · exact joinL_strs hk x hx
        have hlen : (AVal.str l n :: rest).length = len := by rw [← e4, List.length_take, Nat.min_eq_left hlt]
        -- as strings
        obtain ⟨cvs, hcv⟩ : ∃ cvs : List Value, VsRel μ (AVal.str l n :: rest) cvs ∧ ∀ j cv, cvs[j]? = some cv → w.cell? ⟨im.blk, im.base + off + j, none⟩ = some cv := by
          suffices hh : ∀ (q : List AVal) (i : Nat), (∀ j x, q[j]? = some x → ∃ cv, w.cell? ⟨im.blk, im.base + off + (i + j), none⟩ = some cv ∧ VRel μ x cv) → ∃ cvs : List Value, VsRel μ q cvs ∧ ∀ j cv, cvs[j]? = some cv → w.cell? ⟨im.blk, im.base + off + (i + j), none⟩ = some cv by
            obtain ⟨cvs, q1, q2⟩ := hh (AVal.str l n :: rest) 0 (fun j x hj => by rw [Nat.zero_add]; exact hcell j x hj)
            exact ⟨cvs, q1, fun j cv hj => by have := q2 j cv hj; rwa [Nat.zero_add] at this⟩
          intro q
          induction q with
          | nil => intro i _; exact ⟨[], .nil, fun j cv hj => by simp at hj⟩
          | cons y q ih =>
            intro i hq
            obtain ⟨cv, q1, q2⟩ := hq 0 y rfl
            obtain ⟨cvs, q3, q4⟩ := ih (i + 1) (fun j x hj => by
              have := hq (j + 1) x (by simpa using hj)
              rw [show i + (j + 1) = i + 1 + j by omega] at this
              exact this)
            refine ⟨cv :: cvs, .cons _ _ _ _ q2 q3, fun j c hj => ?_⟩
            cases j with
            | zero => simp at hj; subst hj; exact q1
            | succ j =>
              have := q4 j c (by simpa using hj)
              rw [show i + (j + 1) = i + 1 + j by omega]; exact this
        obtain ⟨xs, hx1, hx2⟩ := strs_of hcv.1 hstr
        cases xs with
        | nil => simp at hx2
        | cons x xs =>
        simp only [List.map_cons, List.cons.injEq, AVal.str.injEq] at hx2
        obtain ⟨⟨hl, hn'⟩, hrest⟩ := hx2
        subst hrest hl hn' hs1 hs2
        have hss : s.size = s.data.toList.length := rfl
        have hxs : x.size = x.data.toList.length := rfl
        rw [hss, hxs, joinL_eq] at hk
        split at hk
        case h_2 => cases hk
        rename_i hmost
        have hmost := Nat.le_of_ble_eq_true hmost
        cases hk
        have hj : Lib.join ((x :: xs).map (·.data.toList)) s.data.toList = x.data.toList ++ Lib.joinTail s.data.toList (xs.map (·.data.toList)) := by
          rw [List.map_cons, Lib.join_cons]
        have hmo : most ≤ 140737488355328 := by unfold most; omega
        have hlen' : (x :: xs).length = len := by simpa using hlen
        have hc := Proofs.Any.strings_Join L X im.blk (im.base + off) cap' (x :: xs) s w (fun j y hy => hcv.2 j (.string y) (by rw [hx1, List.getElem?_map, hy]; rfl)) (hr.bound b im hm) (by omega) (by omega) (by rw [hj]; omega)
        rw [hlen', hj] at hc
        exact fin ⟨(x.data.toList ++ Lib.joinTail s.data.toList (xs.map (·.data.toList))).toArray⟩ _ _ (by rw [hadr]; exact hc) rfl rfl
      · simp at hrow
      · cases hrow
    | _ => simp [rowOf] at hrow
  · cases hk

/-! ### maps.clone -/
theorem clone_sound {f : Pos} (hx : ExtAt P f Extern.MapsClone.clone) : HookSound P f hkClone := by
  intro C hC args v h h' μ w cargs hk hv hr hb
  unfold hkClone at hk
  split at hk
  case h_2 => cases hk
  rename_i t b
  split at hk
  case h_2 => cases hk
  rename_i es c hg
  rw [Heap.newK_eq] at hk
  cases hk
  obtain ⟨cl⟩ := cargs
  cases hv with
  | cons _ cx _ _ h1 h2 =>
  cases h2
  cases h1 with
  | iface _ _ cm hm' =>
  cases hm' with
  | map _ im hm =>
  obtain ⟨obj, ho, ces, rfl, hmr⟩ := hr.live b _ im hg hm
  obtain ⟨im', i1, i2, a, bb⟩ := newObj_good (o := .map es c) (obj := .map ces c) hr (hb _ (Nat.le_refl _)) (fun μ' im hle _ => ⟨ces, rfl, hmr.mono hle⟩)
  refine .inl ⟨.iface t (.map (some im'.blk)), w.alloc (.map ces c), hx.run ?_, _, .iface _ _ _ (.map _ im' (Mu.add_same _ _ _)), a, bb⟩
  have e : (Extern.MapsClone.clone #[.iface t (.map (some im.blk))]) = (do
    let .map entries clock ← getObj im.blk | stuck "maps.clone: a map expected"
    pure (.iface t (.map (some (← newObj (.map entries clock)))))) := rfl
  rw [e]
  simp only [Sem.run_bind, run_getObj_map ho, Result.andThen_ok]
  simp [i2]

/-! ### errors.Is -/
/-- What is asked of the types. -/
def IsOk (P : Program) (fT : FuncId) (ts : List TypeId) : Prop :=
  ∀ t ∈ ts, ∃ hv, (∀ v w, (callFunc fT #[.iface t v]).run P w = .ok (.value hv) w) ∧ (∀ w, (invoke (.fn (.method "Comparable") #[]) #[hv]).run P w = .ok (.value (.bool true)) w)

theorem toArray_one {α : Type} {xs : Array α} {a : α} (h : xs.toList = [a]) : xs = #[a] := by cases xs; simp at h; rw [h]
theorem toArray_nil {α : Type} {xs : Array α} (h : xs.toList = []) : xs = #[] := by cases xs; simp at h; rw [h]

theorem is_sound (hm : P.follows .mixedOrders = true) {f : Pos} {fn : Func} {fT : FuncId} {ts : List TypeId} {q : IsFunc} (hf : P.funcs[f.nat - 1]? = some fn) (hn : (fn.name == "runtime.NumGoroutine") = false) (hc : compIs P dyn E fT fn = some q) (hok : IsOk P fT ts) : HookSound P f (hkIs n ts q) := by
  intro C hC args v h h' μ w cargs hk hv hr hb
  unfold compIs at hc
  split at hc
  case h_2 => cases hc
  rename_i c0 c1 id ops rest hbody
  split at hc
  case h_2 => cases hc
  rename_i o1 o2 o3 o4 hops
  split at hc
  case h_2 => cases hc
  rename_i hg1 hg2 hg3 hg4
  split at hc
  case h_2 => cases hc
  rename_i d1 d2 d3 d4 hd1 hd2 hd3 hd4
  split at hc
  case h_2 => cases hc
  rename_i x k2 k3 t3 hp1 hp2 hp3 hp4
  split at hc
  case h_2 => cases hc
  rename_i g t1 t2 hk2 ha2 hk3 ha3
  split at hc
  case h_2 => cases hc
  rename_i b0 b1 y brest rs hchk hc0 hc1 hy hcr hrs
  cases hc
  simp only [Bool.and_eq_true, Bool.not_eq_true'] at hchk
  obtain ⟨hsz2, hout, hg, et1, et2, et3, ho1, ho2, ho3, ho4, hl1, hl2, hl3, hl4⟩ := hchk
  have hg := Nat.eq_of_beq_eq_true hg
  have et1 := Nat.eq_of_beq_eq_true et1
  have et2 := Nat.eq_of_beq_eq_true et2
  have et3 := Nat.eq_of_beq_eq_true et3
  have hsz2 := Nat.eq_of_beq_eq_true hsz2
  subst hg et1 et2 et3
  have hl1 : t1 < fn.ntmps := by simpa using hl1
  have hl2 : t2 < fn.ntmps := by simpa using hl2
  have hl3 : t3 < fn.ntmps := by simpa using hl3
  have hl4 : d4 < fn.ntmps := by simpa using hl4
  unfold hkIs at hk
  simp only [] at hk
  split at hk
  case h_2 => cases hk
  rename_i hlen
  have hlen := Nat.eq_of_beq_eq_true hlen
  split at hk
  case h_2 => cases hk
  rename_i e0 h0 hr0
  have hD : DrawnSound P dyn E fn.ntmps C := drawn_sound hm hC
  have hbn : fn.body.isNone = false := by rw [hbody]; rfl
  refine .inr (.inr ⟨f.nat - 1, cargs, w, callFunc_enter hf hn hbn, ?_⟩)
  refine calls_of_wp hf hbody ?_
  have hE := erel_args (m := fn.ntmps - cargs.size) hv (hlen.trans hsz2.symm) hout
  have hsz : fn.ntmps ≤ ({ tmps := cargs ++ Array.replicate (fn.ntmps - cargs.size) undef, defers := [] } : Act).tmps.size := by
    simp only [Array.size_append, Array.size_replicate]; omega
  generalize ha0 : ({ tmps := cargs ++ Array.replicate (fn.ntmps - cargs.size) undef, defers := [] } : Act) = a0 at hE hsz ⊢
  have hd0 : a0.defers = [] := by rw [← ha0]
  have done : ∀ (env1 : Env) (h1 : Heap) (a1 : Act) (w1 : World) (μ1 : Mu), ERel μ1 E env1 a1 → HRel μ1 h1 w1 → Ext μ h w μ1 h1 w1 → a1.defers = [] → finish ⟨2, rs, brest⟩ env1 h1 = .ok v h' →
      a1.defers = [] ∧ ∃ cv, (results fn a1.tmps).run P w1 = .ok cv w1 ∧ ∃ u, Ending.returned cv = .returned u ∧ Rel μ h w v h' u w1 := by
    intro env1 h1 a1 w1 μ1 hE1 hr1 hx1 hdf hfin
    obtain ⟨rfl, cv, e1, e2⟩ := finish_run hE1 hr1 hrs hfin
    exact ⟨hdf, cv, e1, cv, rfl, μ1, e2, hr1, hx1⟩
  refine wp_seq (wp_mono (comp_sound hC hD hc0 hr0 (by simp) hsz hE hr hb) fun e a1 w1 hq => ?_)
  obtain ⟨rfl, μ1, x1⟩ := hq
  show (Code.seq c1 (.seq (.region id ops false) rest)).wp P _ a1 w1
  have hsz1 : fn.ntmps ≤ a1.tmps.size := by rw [x1.size]; exact hsz
  split at hk
  · -- it returns at once
    rename_i e1 h1 hr1
    refine wp_seq (wp_mono (comp_sound hC hD hc1 hr1 (by simp) hsz1 x1.slots x1.heap x1.bound) fun e a2 w2 hq => ?_)
    obtain ⟨rfl, μ2, x2⟩ := hq
    have x2 := x1.trans hr x2
    exact done e1 h1 a2 w2 μ2 x2.slots x2.heap x2.ext (x2.defers.trans hd0) hk
  · rename_i e1 h1 hr1
    refine wp_seq (wp_mono (comp_sound hC hD hc1 hr1 (by simp) hsz1 x1.slots x1.heap x1.bound) fun e a2 w2 hq => ?_)
    obtain ⟨rfl, μ2, x2⟩ := hq
    have x2 := x1.trans hr x2
    show (Code.seq (.region id ops false) rest).wp P _ a2 w2
    have hsz2' : fn.ntmps ≤ a2.tmps.size := by rw [x2.size]; exact hsz
    split at hk
    case h_2 => cases hk
    rename_i tt vv hyv
    split at hk
    case h_2 => cases hk
    rename_i hts
    obtain ⟨t', ht', hbe⟩ := List.any_eq_true.1 hts
    have hbe := Nat.eq_of_beq_eq_true hbe
    subst hbe
    obtain ⟨hv', hT, hM⟩ := hok tt ht'
    have hx := sees_of (A := []) (g := none) x2.slots (fun e he => by cases he) (show Holds a2 none from trivial) #[x] x (by simp) y _ hy hyv
    obtain ⟨cvv, hρ⟩ : ∃ cvv, a2.eval x = .iface tt cvv := by
      generalize a2.eval x = cx at hx
      cases hx with
      | iface _ _ cv hcv => exact ⟨cv, rfl⟩
    refine wp_seq (wp_region ?_)
    have hsize : ops.size = 4 := by rw [← Array.length_toList, hops]; rfl
    have q1 : ops[0]? = some o1 := by rw [← Array.getElem?_toList, hops]; rfl
    have q2 : ops[1]? = some o2 := by rw [← Array.getElem?_toList, hops]; rfl
    have q3 : ops[2]? = some o3 := by rw [← Array.getElem?_toList, hops]; rfl
    have q4 : ops[3]? = some o4 := by rw [← Array.getElem?_toList, hops]; rfl
    rw [hsize, show List.range 4 = [0, 1, 2, 3] from rfl]
    refine wpOps_at q1 (wpAt_value (cv := .iface tt cvv) (by simp [Region.wanted, hg1]) ?_ ?_)
    · obtain ⟨md, mo, mt, mp, ma, mgd⟩ := o1
      simp only at hp1
      subst hp1
      simp [execOp, hρ]
    rw [hd1]
    have E1 : ERel μ2 E e1 (a2.put (some t1) (.iface tt cvv)) := x2.slots.skip (Mu.le_refl _) ho1
    have v1 : (a2.put (some t1) (.iface tt cvv)).eval (.tmp t1) = .iface tt cvv := eval_put_same (Nat.lt_of_lt_of_le hl1 hsz2')
    have z1 : (a2.put (some t1) (.iface tt cvv)).tmps.size = a2.tmps.size := size_put _ _
    have f1 : (a2.put (some t1) (.iface tt cvv)).defers = a2.defers := defers_put _ _
    generalize a2.put (some t1) (.iface tt cvv) = a3 at E1 v1 z1 f1 ⊢
    refine wpOps_at q2 (wpAt_value (cv := hv') (by simp [Region.wanted, hg2]) ?_ ?_)
    · obtain ⟨md, mo, mt, mp, ma, mgd⟩ := o2
      simp only at hp2
      subst hp2
      have := hT cvv w2
      have ea : k2.args.map a3.eval = #[.iface tt cvv] := by rw [toArray_one ha2]; simp [v1]
      simp only [execOp, resolve, hk2, ea, Act.eval, Deferred.ofValue, Sem.run_bind, Sem.run_pure, Result.andThen_ok, invoke, Array.empty_append, Array.append_empty, this]
    rw [hd2]
    have E2 : ERel μ2 E e1 (a3.put (some t2) hv') := E1.skip (Mu.le_refl _) ho2
    have v2 : (a3.put (some t2) hv').eval (.tmp t2) = hv' := eval_put_same (by rw [z1]; exact Nat.lt_of_lt_of_le hl2 hsz2')
    have z2 : (a3.put (some t2) hv').tmps.size = a2.tmps.size := (size_put _ _).trans z1
    have f2 : (a3.put (some t2) hv').defers = a2.defers := (defers_put _ _).trans f1
    generalize a3.put (some t2) hv' = a4 at E2 v2 z2 f2 ⊢
    refine wpOps_at q3 (wpAt_value (cv := .bool true) (by simp [Region.wanted, hg3]) ?_ ?_)
    · obtain ⟨md, mo, mt, mp, ma, mgd⟩ := o3
      simp only at hp3
      subst hp3
      have := hM w2
      have ea : k3.args.map a4.eval = #[] := by rw [toArray_nil ha3]; simp
      simp only [execOp, resolve, hk3, ea, v2, Sem.run_bind, Sem.run_pure, Result.andThen_ok, Array.append_empty, this]
    rw [hd3]
    have E3 : ERel μ2 E e1 (a4.put (some t3) (.bool true)) := E2.skip (Mu.le_refl _) ho3
    have v3 : (a4.put (some t3) (.bool true)).eval (.tmp t3) = .bool true := eval_put_same (by rw [z2]; exact Nat.lt_of_lt_of_le hl3 hsz2')
    have z3 : (a4.put (some t3) (.bool true)).tmps.size = a2.tmps.size := (size_put _ _).trans z2
    have f3 : (a4.put (some t3) (.bool true)).defers = a2.defers := (defers_put _ _).trans f2
    generalize a4.put (some t3) (.bool true) = a5 at E3 v3 z3 f3 ⊢
    refine wpOps_at q4 (wpAt_value (cv := .bool true) (by simp [Region.wanted, hg4]) ?_ ?_)
    · obtain ⟨md, mo, mt, mp, ma, mgd⟩ := o4
      simp only at hp4
      subst hp4
      simp [execOp, v3]
    rw [hd4]
    have E4 : ERel μ2 E (Tr.put (some (.bool true)) (slotPos d4) e1) (a5.put (some d4) (.bool true)) := E3.put (Mu.le_refl _) (by rw [z3]; exact Nat.lt_of_lt_of_le hl4 hsz2') ho4 (.bool true)
    have z4 : (a5.put (some d4) (.bool true)).tmps.size = a2.tmps.size := (size_put _ _).trans z3
    have f4 : (a5.put (some d4) (.bool true)).defers = a2.defers := (defers_put _ _).trans f3
    generalize a5.put (some d4) (.bool true) = a6 at E4 z4 f4 ⊢
    simp only [wpOps]
    show rest.wp P _ a6 w2
    have hsz6 : fn.ntmps ≤ a6.tmps.size := by rw [z4]; exact hsz2'
    have hd6 : a6.defers = [] := f4.trans (x2.defers.trans hd0)
    split at hk
    · rename_i e2 h2 hrun
      refine wp_mono (comp_sound hC hD hcr hrun (by simp) hsz6 E4 x2.heap x2.bound) fun e a7 w7 hq => ?_
      obtain ⟨rfl, μ7, x7⟩ := hq
      exact done e2 h2 a7 w7 μ7 x7.slots x7.heap (Ext.trans hr x2.ext x7.ext) (x7.defers.trans hd6) hk
    · rename_i e2 h2 hrun
      refine wp_mono (comp_sound hC hD hcr hrun (by simp) hsz6 E4 x2.heap x2.bound) fun e a7 w7 hq => ?_
      obtain ⟨rfl, μ7, x7⟩ := hq
      exact done e2 h2 a7 w7 μ7 x7.slots x7.heap (Ext.trans hr x2.ext x7.ext) (x7.defers.trans hd6) hk
    · cases hk
  · cases hk

end Go.Cg

/- Hooks: numbers of which only a rest is told; a test that is passed. -/
namespace Go.Cg
variable [Syms]

variable {P : Program} {dyn : List TypeId} {μ : Mu} {h h' : Heap} {w : World} {v : AVal}

/-- What the table says of the function. -/
def RestOk (P : Program) (f : Pos) (tab : List (Nat × Nat × Nat)) : Prop :=
  ∀ e ∈ tab, ∀ w, Calls P (f.nat - 1) #[.int .i64 (Syms.val e.1), .int .i64 e.2.1] w fun x w' => x = .returned (.int .i64 e.2.2) ∧ w' = w

theorem small_sound {f : Pos} {fn : Func} {tab : List (Nat × Nat × Nat)} (hf : P.funcs[f.nat - 1]? = some fn) (hn : (fn.name == "runtime.NumGoroutine") = false) (hbd : fn.body.isNone = false) (ht : RestOk P f tab) : HookSound P f (hkSmall tab) := by
  intro C hC args v h h' μ w cargs hk hv hr hb
  unfold hkSmall at hk
  split at hk
  case h_2 => cases hk
  rename_i i k
  split at hk
  case h_2 => cases hk
  rename_i i' k' r hfind
  cases hk
  have hmem := List.mem_of_find?_eq_some hfind
  have hp := List.find?_some hfind
  simp only [Bool.and_eq_true] at hp
  have e1 : i' = i := Nat.eq_of_beq_eq_true hp.1
  have e2 : k' = k := Nat.eq_of_beq_eq_true hp.2
  subst e1 e2
  obtain ⟨cl⟩ := cargs
  cases hv with
  | cons _ cx _ _ h1 h2 =>
  cases h2 with
  | cons _ cy _ _ h3 h4 =>
  cases h4
  cases h1
  cases h3
  refine .inr (.inr ⟨f.nat - 1, _, w, callFunc_enter hf hn hbd, ?_⟩)
  refine Calls.mono (ht _ hmem w) fun x w' hq => ?_
  obtain ⟨rfl, rfl⟩ := hq
  exact ⟨_, rfl, μ, .int _ _, hr, Ext.refl rfl rfl rfl rfl⟩

theorem true_sound {C0 : CallF} (hC0 : CSound P C0) {f : Pos} {fn : Func} (hf : P.funcs[f.nat - 1]? = some fn) (hn : (fn.name == "runtime.NumGoroutine") = false) (hbd : fn.body.isNone = false) (hk0 : isTrue (C0 f [] (.mk .e .lf)) = true) : HookSound P f hkTrue := by
  intro C hC args v h h' μ w cargs hk hv hr hb
  unfold hkTrue at hk
  split at hk
  case h_2 => cases hk
  cases hk
  have hcl : cargs = #[] := by
    obtain ⟨cl⟩ := cargs
    cases hv; rfl
  subst hcl
  cases hrun : C0 f [] (.mk .e .lf) with
  | fail => rw [hrun] at hk0; cases hk0
  | ok v0 h0 =>
    rw [hrun] at hk0
    have hv' : v0 = .bool true := by
      cases v0 <;> simp only [isTrue] at hk0 <;> first | (rw [hk0]) | cases hk0
    subst hv'
    have hy := hC0 hrun (cargs := #[]) .nil (empty_hrel w) (fun _ _ => rfl)
    refine .inr (.inr ⟨f.nat - 1, #[], w, callFunc_enter hf hn hbd, ?_⟩)
    refine Calls.mono (yields_back hf hn hbd hy) fun e w' hq => ?_
    obtain ⟨cv, rfl, μ', h1, h2, h3⟩ := hq
    cases h1
    have hfr : ∀ β, β < w.heap.size → w'.heap[β]? = w.heap[β]? := fun β hβ => h3.frame β hβ fun _ _ _ hb => (empty_get hb).elim
    refine ⟨_, rfl, μ, .bool true, ⟨fun b o im hg hm => ?_, hr.inj, fun b im hm => Nat.lt_of_lt_of_le (hr.bound b im hm) h3.hsize, hr.scope⟩, ⟨Mu.le_refl μ, fun b im h1 h2 => (by rw [h1] at h2; cases h2), Nat.le_refl _, h3.hsize, fun β hβ _ => hfr β hβ, fun _ _ h1 _ => h1, fun b o im h1 h2 _ => ⟨b, o, im, h1, h2, rfl⟩, h3.os, h3.output, h3.tape⟩⟩
    obtain ⟨obj, k1, k2⟩ := hr.live b o im hg hm
    exact ⟨obj, by rw [hfr _ (hr.bound b im hm)]; exact k1, k2⟩

/-! ### The rest of a number, as Go's text of 'small' gives it -/
def smallI (n : Int) (k : Nat) : Nat := (Int.tmod n k).natAbs

theorem small_bounds (n : Int) (k : Nat) (hk : 0 < k) : -(k : Int) < n.tmod k ∧ n.tmod k < k := by
  have h1 := Int.tmod_lt_of_pos n (show (0 : Int) < k by omega)
  have h2 := Int.tmod_lt_of_pos (-n) (show (0 : Int) < k by omega)
  rw [Int.neg_tmod] at h2
  omega

theorem small_lt (n : Int) (k : Nat) (hk : 0 < k) : smallI n k < k := by
  have := small_bounds n k hk
  unfold smallI
  omega

end Go.Cg

/- A hook: the checksum of the journal, by the evaluator's own run of its text. -/
set_option linter.unusedSectionVars false
namespace Go.Cg
section
variable {C : CallF} {h h' : Heap} {env : Env}

theorem Tr.get_put {α : Type} (v : Option α) (p q : Pos) (t : Tr α) : Tr.get q (Tr.put v p t) = if p = q then v else Tr.get q t := by
  by_cases e : p = q
  · subst e; rw [if_pos rfl, Tr.get_put_same]
  · rw [if_neg e, Tr.get_put_other _ _ _ _ e]

theorem run_o {p : Pos} {op : AOp} {l : List AOper} {v : AVal} (hs : stepOp op C env h = .ok v h') : runOps C (.o (some p) op :: l) env h = runOps C l (Tr.put (some v) p env) h' := by
  show operO (some p) op C env h (runOps C l) = _
  unfold operO
  rw [hs]
  exact Tr.putK_eq (some v) p env fun env => runOps C l env h'

theorem s_mv {x : AOpd} {v : AVal} (hx : x.ev env = some v) : stepOp (.mv x) C env h = .ok v h := by
  show OR.get (x.ev env) h = _
  rw [hx]; rfl

theorem ev_t {p : Pos} {v : AVal} (hg : Tr.get p env = some v) : (AOpd.t p).ev env = some v := hg
theorem ev_c {v : AVal} : (AOpd.c v).ev env = some v := rfl

theorem s_ari {op : Ari} {k k2 : IntKind} {x y : AOpd} {a b r : Int} (hx : x.ev env = some (.int k a)) (hy : y.ev env = some (.int k2 b)) (hk : (isShift op || kEq k k2) = true)
    (hr : ∀ (κ : Int → OR), ariK op k a b κ .fail = κ r) : stepOp (.ari op k x y) C env h = .ok (.int k r) h := by
  show un2 x y env _ = _
  unfold un2
  rw [hx, hy]
  have hkk : kEq k k = true := kEq_iff.2 rfl
  simp only [hkk, hk, Bool.and_true]
  exact hr _

theorem s_cmp {c : Cmp} {k : IntKind} {x y : AOpd} {a b : Int} (hx : x.ev env = some (.int k a)) (hy : y.ev env = some (.int k b)) : stepOp (.cmp c x y) C env h = .ok (.bool (intCmp c a b)) h := by
  show un2 x y env _ = _
  unfold un2
  rw [hx, hy]
  have hkk : kEq k k = true := kEq_iff.2 rfl
  simp only [hkk]
  cases intCmp c a b <;> rfl

def crcBit (x : Nat) : Nat := match Nat.land x 1 with
  | 0 => x / 2
  | _ => Nat.xor (x / 2) 3988292384

theorem land_one (x : Nat) : Nat.land x 1 = 0 ∨ Nat.land x 1 = 1 := by
  have : Nat.land x 1 = x % 2 := Nat.and_two_pow_sub_one_eq_mod x 1
  omega

theorem crcBit_lt {x : Nat} (hx : x < 2 ^ 32) : crcBit x < 2 ^ 32 := by
  unfold crcBit
  split
  · omega
  · exact Nat.xor_lt_two_pow (by omega) (by decide)

def q0 : Pos := .e
def q2 : Pos := .r .e
def q3 : Pos := .l (.l .e)
def q5 : Pos := .l (.r .e)
def q6 : Pos := .r (.r .e)
def q7 : Pos := .l (.l (.l .e))
def q8 : Pos := .r (.l (.l .e))
def q9 : Pos := .l (.r (.l .e))
def q10 : Pos := .r (.r (.l .e))
def q11 : Pos := .l (.l (.r .e))
def q12 : Pos := .r (.l (.r .e))
def q14 : Pos := .r (.r (.r .e))
def q15 : Pos := .l (.l (.l (.l .e)))
def q16 : Pos := .r (.l (.l (.l .e)))
def q17 : Pos := .l (.r (.l (.l .e)))
def q18 : Pos := .r (.r (.l (.l .e)))
def q19 : Pos := .l (.l (.r (.l .e)))
def q20 : Pos := .r (.l (.r (.l .e)))
def q21 : Pos := .l (.r (.r (.l .e)))
def q22 : Pos := .r (.r (.r (.l .e)))
def q23 : Pos := .l (.l (.l (.r .e)))
def q24 : Pos := .r (.l (.l (.r .e)))
def q25 : Pos := .l (.r (.l (.r .e)))
def q26 : Pos := .r (.r (.l (.r .e)))
def q28 : Pos := .r (.l (.r (.r .e)))

def opsBit : List AOper := [.o (some q18) (.mv (.t q3)), .o (some q19) (.ari .shr .u32 (.t q18) (.c (.int .u64 (.ofNat 1)))), .o (some q20) (.mv (.t q3)), .o (some q21) (.ari .and .u32 (.t q20) (.c (.int .u32 (.ofNat 1)))), .o (some q22) (.neg .u32 (.t q21)), .o (some q23) (.ari .and .u32 (.c (.int .u32 (.ofNat 3988292384))) (.t q22)), .o (some q24) (.ari .xor .u32 (.t q19) (.t q23)), .o (some q3) (.mv (.t q24))]

def low (q : Pos) : Prop := q = q0 ∨ q = q6 ∨ q = q7 ∨ q = q8

theorem ari_and {k : IntKind} {a b : Nat} (ha : a ≤ kmax k) (hb : b ≤ kmax k) (κ : Int → OR) : ariK .and k (.ofNat a) (.ofNat b) κ .fail = κ (.ofNat (Nat.land a b)) := by
  have h1 := Nat.ble_eq_true_of_le ha
  have h2 := Nat.ble_eq_true_of_le hb
  show (match (Nat.ble a (kmax k) && Nat.ble b (kmax k)) with | false => _ | true => _) = _
  rw [h1, h2]
  simp only [Bool.and_self, forceN_eq]
theorem ari_xor {k : IntKind} {a b : Nat} (ha : a ≤ kmax k) (hb : b ≤ kmax k) (κ : Int → OR) : ariK .xor k (.ofNat a) (.ofNat b) κ .fail = κ (.ofNat (Nat.xor a b)) := by
  have h1 := Nat.ble_eq_true_of_le ha
  have h2 := Nat.ble_eq_true_of_le hb
  show (match (Nat.ble a (kmax k) && Nat.ble b (kmax k)) with | false => _ | true => _) = _
  rw [h1, h2]
  simp only [Bool.and_self, forceN_eq]
theorem ari_shr1 {a : Nat} (ha : a ≤ kmax .u32) (κ : Int → OR) : ariK .shr .u32 (.ofNat a) (.ofNat 1) κ .fail = κ (.ofNat (a / 2)) := by
  have h1 := Nat.ble_eq_true_of_le ha
  show (match (Nat.ble a (kmax .u32) && Nat.ble 1 (kmax .u32)) with | false => _ | true => _) = _
  rw [h1]
  show forceN (a / 2 ^ 1) _ = _
  simp only [forceN_eq, Nat.pow_one]
theorem ari_inc {a : Nat} (ha : a + 1 ≤ kmax .i64) (κ : Int → OR) : ariK .add .i64 (.ofNat a) (.ofNat 1) κ .fail = κ (.ofNat (a + 1)) := by
  have h1 := Nat.ble_eq_true_of_le ha
  show (match Nat.ble (a + 1) (kmax .i64) with | true => _ | false => _) = _
  rw [h1]
  simp only [forceN_eq]

theorem s_neg {a : Nat} {x : AOpd} (hx : x.ev env = some (.int .u32 (.ofNat a))) (ha : a = 0 ∨ a = 1) : stepOp (.neg .u32 x) C env h = .ok (.int .u32 (.ofNat (if a = 0 then 0 else 4294967295))) h := by
  show un1 x env h _ = _
  unfold un1
  rw [hx]
  rcases ha with rfl | rfl <;> rfl

/-- A value is told at another place. -/
theorem skip {p q : Pos} {v : AVal} {w : Option AVal} {t : Env} (hg : Tr.get q t = some v) (hn : p.eqb q = false) : Tr.get q (Tr.put w p t) = some v := by
  rw [Tr.get_put_other _ _ _ _ (fun e => by rw [Pos.eqb_iff.2 e] at hn; cases hn)]; exact hg

theorem bit_key {x : Nat} : Nat.xor (x / 2) (Nat.land 3988292384 (if Nat.land x 1 = 0 then 0 else 4294967295)) = crcBit x := by
  unfold crcBit
  rcases land_one x with h0 | h0
  · rw [h0, if_pos rfl]
    show Nat.xor (x / 2) 0 = x / 2
    exact Nat.xor_zero _
  · rw [h0, if_neg (by decide)]
    rfl

theorem bit_run {x : Nat} (hx : x < 2 ^ 32) (h3 : Tr.get q3 env = some (.int .u32 (.ofNat x))) :
    ∃ env', runOps C opsBit env h = .ok env' h ∧ Tr.get q3 env' = some (.int .u32 (.ofNat (crcBit x))) ∧ ∀ q v, low q ∨ q = q16 → Tr.get q env = some v → Tr.get q env' = some v := by
  have hk : kmax .u32 = 4294967295 := rfl
  have hx' : x ≤ kmax .u32 := by rw [hk]; omega
  have hl := land_one x
  have hn4 : (if Nat.land x 1 = 0 then 0 else 4294967295 : Nat) ≤ kmax .u32 := by rw [hk]; split <;> omega
  have hland : Nat.land 3988292384 (if Nat.land x 1 = 0 then 0 else 4294967295 : Nat) ≤ kmax .u32 := Nat.le_trans (Nat.and_le_left) (by rw [hk]; omega)
  have hdiv : x / 2 ≤ kmax .u32 := by rw [hk]; omega
  have hlk : Nat.land x 1 ≤ kmax .u32 := by rw [hk]; omega
  refine ⟨Tr.put (some (.int .u32 (.ofNat (Nat.xor (x / 2) (Nat.land 3988292384 (if Nat.land x 1 = 0 then 0 else 4294967295)))))) q3
    (Tr.put (some (.int .u32 (.ofNat (Nat.xor (x / 2) (Nat.land 3988292384 (if Nat.land x 1 = 0 then 0 else 4294967295)))))) q24
    (Tr.put (some (.int .u32 (.ofNat (Nat.land 3988292384 (if Nat.land x 1 = 0 then 0 else 4294967295))))) q23
    (Tr.put (some (.int .u32 (.ofNat (if Nat.land x 1 = 0 then 0 else 4294967295)))) q22
    (Tr.put (some (.int .u32 (.ofNat (Nat.land x 1)))) q21
    (Tr.put (some (.int .u32 (.ofNat x))) q20
    (Tr.put (some (.int .u32 (.ofNat (x / 2)))) q19
    (Tr.put (some (.int .u32 (.ofNat x))) q18 env))))))), ?_, ?_, ?_⟩
  case refine_1 =>
    unfold opsBit
    rw [run_o (s_mv (ev_t h3))]
    rw [run_o (s_ari (op := .shr) (k := .u32) (k2 := .u64) (a := .ofNat x) (b := .ofNat 1) (ev_t (Tr.get_put_same _ _ _)) ev_c rfl (ari_shr1 hx'))]
    rw [run_o (s_mv (ev_t (skip (skip h3 rfl) rfl)))]
    rw [run_o (s_ari (op := .and) (k := .u32) (k2 := .u32) (a := .ofNat x) (b := .ofNat 1) (ev_t (Tr.get_put_same _ _ _)) ev_c rfl (ari_and hx' (by decide)))]
    rw [run_o (s_neg (ev_t (Tr.get_put_same _ _ _)) hl)]
    rw [run_o (s_ari (op := .and) (k := .u32) (k2 := .u32) (a := .ofNat 3988292384) ev_c (ev_t (Tr.get_put_same _ _ _)) rfl (ari_and (by decide) hn4))]
    rw [run_o (s_ari (op := .xor) (k := .u32) (k2 := .u32) (a := .ofNat (x / 2)) (ev_t (skip (skip (skip (skip (Tr.get_put_same _ _ _) rfl) rfl) rfl) rfl)) (ev_t (Tr.get_put_same _ _ _)) rfl (ari_xor hdiv hland))]
    rw [run_o (s_mv (ev_t (Tr.get_put_same _ _ _)))]
    rfl
  case refine_2 =>
    rw [Tr.get_put_same, bit_key]
  case refine_3 =>
    intro q v hq hg
    rcases hq with (rfl | rfl | rfl | rfl) | rfl <;> exact skip (skip (skip (skip (skip (skip (skip (skip hg rfl) rfl) rfl) rfl) rfl) rfl) rfl) rfl

/-! ### Code -/
variable {N : Nat} {e' : Env} {a b : ACode} {id : Nat}
theorem run_ops {l : List AOper} : run C N (.ops l) env h = runOps C l env h := rfl
theorem seq_ok (ha : run C N a env h = .ok e' h') : run C N (.seq a b) env h = run C N b e' h' := by
  show Res.rec (motive := fun _ => Res) (run C N b) .exit .ret .fail (run C N a env h) = _
  rw [ha]
theorem seq_exit (ha : run C N a env h = .exit id e' h') : run C N (.seq a b) env h = .exit id e' h' := by
  show Res.rec (motive := fun _ => Res) (run C N b) .exit .ret .fail (run C N a env h) = _
  rw [ha]
theorem cond_t {x : AOpd} (hc : x.ev env = some (.bool true)) : run C N (.cond x a b) env h = run C N a env h := by
  show condK (x.ev env) (run C N a) (run C N b) env h = _
  rw [hc]; rfl
theorem cond_f {x : AOpd} (hc : x.ev env = some (.bool false)) : run C N (.cond x a b) env h = run C N b env h := by
  show condK (x.ev env) (run C N a) (run C N b) env h = _
  rw [hc]; rfl
theorem block_exit (hb : run C N b env h = .exit id e' h') : run C N (.block id b) env h = .ok e' h' := by
  show Res.rec (motive := fun _ => Res) .ok (fun id' env h => Bool.rec (motive := fun _ => Res) (.exit id' env h) (.ok env h) (Nat.beq id' id)) .ret .fail (run C N b env h) = _
  rw [hb]
  show Bool.rec (motive := fun _ => Res) (.exit id e' h') (.ok e' h') (Nat.beq id id) = _
  rw [Nat.beq_refl]
theorem block_ok (hb : run C N b env h = .ok e' h') : run C N (.block id b) env h = .ok e' h' := by
  show Res.rec (motive := fun _ => Res) .ok (fun id' env h => Bool.rec (motive := fun _ => Res) (.exit id' env h) (.ok env h) (Nat.beq id' id)) .ret .fail (run C N b env h) = _
  rw [hb]
theorem loop_ok {n : Nat} {body : Env → Heap → Res} (hb : body env h = .ok e' h') : loopF (n + 1) body env h = loopF n body e' h' := by
  show Res.rec (motive := fun _ => Res) (loopF n body) .exit .ret .fail (body env h) = _
  rw [hb]
theorem loop_exit {n : Nat} {body : Env → Heap → Res} (hb : body env h = .exit id e' h') : loopF (n + 1) body env h = .exit id e' h' := by
  show Res.rec (motive := fun _ => Res) (loopF n body) .exit .ret .fail (body env h) = _
  rw [hb]

def innerBody : ACode := .seq (.ops [.o (some q17) (.cmp .lt (.t q16) (.c (.int .i64 (.ofNat 8))))]) (.seq (.cond (.t q17) .skip (.exit 2)) (.seq (.block 3 (.ops opsBit)) (.ops [.o (some q25) (.ari .add .i64 (.t q16) (.c (.int .i64 (.ofNat 1)))), .o (some q16) (.mv (.t q25))])))
def outerBody : ACode := .seq (.ops [.o (some q9) (.cmp .lt (.t q8) (.t q7))]) (.seq (.cond (.t q9) .skip (.exit 0)) (.seq (.block 1 (.seq (.ops [.o (some q10) (.ia 1 (.t q6) (.t q8)), .o (some q11) (.ld false 1 q10 0), .o (some q5) (.mv (.t q11))]) (.seq (.ops [.o (some q12) (.mv (.t q3)), .o (some q14) (.i2i .u32 (.t q5)), .o (some q15) (.ari .xor .u32 (.t q12) (.t q14)), .o (some q3) (.mv (.t q15))]) (.seq (.ops [.o (some q16) (.mv (.c (.int .i64 (.ofNat 0))))]) (.block 2 (.loop innerBody)))))) (.ops [.o (some q26) (.ari .add .i64 (.t q8) (.c (.int .i64 (.ofNat 1)))), .o (some q8) (.mv (.t q26))])))
def sumBody : ACode := .seq (.ops [.o (some q2) (.mv (.c (.int .u32 (.ofNat 0))))]) (.seq (.ops [.o (some q3) (.mv (.c (.int .u32 (.ofNat 4294967295))))]) (.seq (.seq (.ops [.o (some q6) (.mv (.t q0)), .o (some q7) (.len 1 (.t q6)), .o (some q8) (.mv (.c (.int .i64 (.ofNat 0))))]) (.block 0 (.loop outerBody))) (.seq (.ops [.o (some q28) (.compl .u32 (.t q3)), .o (some q2) (.mv (.t q28))]) .ret)))
def sumFunc : AFunc := ⟨1, [.tmp q2], sumBody⟩

def bits : Nat → Nat → Nat
  | 0, x => x
  | k + 1, x => bits k (crcBit x)

theorem bits_lt : ∀ {k x : Nat}, x < 2 ^ 32 → bits k x < 2 ^ 32
  | 0, _, hx => hx
  | k + 1, _, hx => bits_lt (k := k) (crcBit_lt hx)

theorem lt_t {a b : Nat} (hab : a < b) : intCmp .lt (.ofNat a) (.ofNat b) = true := Nat.ble_eq_true_of_le hab
theorem lt_f {a b : Nat} (hab : b ≤ a) : intCmp .lt (.ofNat a) (.ofNat b) = false := by
  show Nat.ble (a + 1) b = false
  cases hb : Nat.ble (a + 1) b with
  | false => rfl
  | true => have := Nat.le_of_ble_eq_true hb; omega

theorem inner_run : ∀ (k i x : Nat) (env : Env) (n : Nat), i + k = 8 → x < 2 ^ 32 → Tr.get q3 env = some (.int .u32 (.ofNat x)) → Tr.get q16 env = some (.int .i64 (.ofNat i)) → k < n →
    ∃ env', loopF n (run C N innerBody) env h = .exit 2 env' h ∧ Tr.get q3 env' = some (.int .u32 (.ofNat (bits k x))) ∧ ∀ q v, low q → Tr.get q env = some v → Tr.get q env' = some v
  | 0, i, x, env, n, hi, hx, h3, h16, hn => by
    obtain ⟨m, rfl⟩ : ∃ m, n = m + 1 := ⟨n - 1, by omega⟩
    refine ⟨Tr.put (some (.bool false)) q17 env, ?_, skip h3 rfl, fun q v hq hg => ?_⟩
    · refine loop_exit ?_
      unfold innerBody
      refine (seq_ok (e' := Tr.put (some (.bool false)) q17 env) (h' := h) ?_).trans (seq_exit ?_)
      · rw [run_ops, run_o (s_cmp (ev_t h16) ev_c), lt_f (by omega)]
        rfl
      · rw [cond_f (ev_t (Tr.get_put_same _ _ _))]
        rfl
    · rcases hq with rfl | rfl | rfl | rfl <;> exact skip hg rfl
  | k + 1, i, x, env, n, hi, hx, h3, h16, hn => by
    obtain ⟨m, rfl⟩ : ∃ m, n = m + 1 := ⟨n - 1, by omega⟩
    obtain ⟨e1, r1, g1, l1⟩ := bit_run (C := C) (h := h) (env := Tr.put (some (.bool true)) q17 env) hx (skip h3 rfl)
    have g16 : Tr.get q16 e1 = some (.int .i64 (.ofNat i)) := l1 q16 _ (.inr rfl) (skip h16 rfl)
    obtain ⟨e2, r2, g2, l2⟩ := inner_run k (i + 1) (crcBit x) (Tr.put (some (.int .i64 (.ofNat (i + 1)))) q16 (Tr.put (some (.int .i64 (.ofNat (i + 1)))) q25 e1)) m (by omega) (crcBit_lt hx) (skip (skip g1 rfl) rfl) (Tr.get_put_same _ _ _) (by omega)
    refine ⟨e2, ?_, g2, fun q v hq hg => l2 q v hq ?_⟩
    · rw [← r2]
      refine loop_ok ?_
      rw [innerBody]
      refine (seq_ok (e' := Tr.put (some (.bool true)) q17 env) (h' := h) ?_).trans ((seq_ok (e' := Tr.put (some (.bool true)) q17 env) (h' := h) ?_).trans ((seq_ok (e' := e1) (h' := h) ?_).trans ?_))
      · rw [run_ops, run_o (s_cmp (ev_t h16) ev_c), lt_t (by omega)]
        rfl
      · rw [cond_t (ev_t (Tr.get_put_same _ _ _))]
        rfl
      · exact block_ok r1
      · rw [run_ops, run_o (s_ari (op := .add) (k := .i64) (k2 := .i64) (a := .ofNat i) (b := .ofNat 1) (ev_t g16) ev_c rfl (ari_inc (by show i + 1 ≤ 9223372036854775807; omega)))]
        rw [run_o (s_mv (ev_t (Tr.get_put_same _ _ _)))]
        rfl
    · have := l1 q v (.inl hq)
      rcases hq with rfl | rfl | rfl | rfl <;> exact skip (skip (this (skip hg rfl)) rfl) rfl

theorem s_ia {x y : AOpd} {b : Pos} {off len cap i : Nat} {ex : Bool} {k : IntKind} (hx : x.ev env = some (.slice b off len cap 1 ex)) (hy : y.ev env = some (.int k (.ofNat i))) (hi : i < len) : stepOp (.ia 1 x y) C env h = .ok (.ptr b (off + i)) h := by
  show un2 x y env _ = _
  unfold un2
  rw [hx, hy]
  show OR.get (match Nat.blt i len && Nat.beq 1 1 with | true => forceN (off + i * 1) fun o => some (.ptr b o) | false => none) h = _
  rw [show Nat.blt i len = true from Nat.ble_eq_true_of_le hi]
  show OR.get (forceN (off + i * 1) fun o => some (.ptr b o)) h = _
  rw [forceN_eq, Nat.mul_one]
  rfl
theorem s_ld {p b : Pos} {o L n : Nat} (hp : Tr.get p env = some (.ptr b o)) (hb : h.get b = some (.bytes L n)) (ho : o < L) : stepOp (.ld false 1 p 0) C env h = .ok (.int .u8 (.ofNat (byteAt L n o))) h := by
  show ldOp false 1 p 0 env h = _
  unfold ldOp
  rw [hp]
  simp only [hb]
  show OR.get (match Nat.blt (o + 0) L with | true => forceN (byteAt L n (o + 0)) fun b => some (.int .u8 (.ofNat b)) | false => none) h = _
  rw [Nat.add_zero, show Nat.blt o L = true from Nat.ble_eq_true_of_le ho]
  simp only [forceN_eq]
  rfl
theorem s_i2i {x : AOpd} {a : Nat} {k : IntKind} (hx : x.ev env = some (.int k (.ofNat a))) (ha : a ≤ kmax .u32) : stepOp (.i2i .u32 x) C env h = .ok (.int .u32 (.ofNat a)) h := by
  show un1 x env h _ = _
  unfold un1
  rw [hx]
  show (match Nat.ble a (kmax .u32) with | true => forceN a _ | false => _) = _
  rw [Nat.ble_eq_true_of_le ha]
  simp only [forceN_eq]
theorem s_compl {x : AOpd} {a : Nat} (hx : x.ev env = some (.int .u32 (.ofNat a))) (ha : a ≤ kmax .u32) : stepOp (.compl .u32 x) C env h = .ok (.int .u32 (.ofNat (4294967295 - a))) h := by
  show un1 x env h _ = _
  unfold un1
  rw [hx]
  show (match kEq .u32 .u32 && Nat.ble a (kmax .u32) with | true => _ | false => _) = _
  rw [Nat.ble_eq_true_of_le ha]
  show forceN (4294967295 - a) _ = _
  simp only [forceN_eq]
theorem s_len {x : AOpd} {b : Pos} {off len cap es : Nat} {ex : Bool} (hx : x.ev env = some (.slice b off len cap es ex)) : stepOp (.len 1 x) C env h = .ok (.int .i64 (.ofNat len)) h := by
  show un1 x env h _ = _
  unfold un1
  rw [hx]
  rfl

def crcFrom (L n : Nat) : Nat → Nat → Nat → Nat
  | 0, _, x => x
  | k + 1, i, x => crcFrom L n k (i + 1) (bits 8 (Nat.xor x (byteAt L n i)))

theorem byteAt_le (L n i : Nat) : byteAt L n i ≤ 255 := Nat.and_le_right
theorem xor_lt {x b : Nat} (hx : x < 2 ^ 32) (hb : b ≤ 255) : Nat.xor x b < 2 ^ 32 := Nat.xor_lt_two_pow hx (by omega)
theorem crcFrom_lt {L n : Nat} : ∀ {k i x : Nat}, x < 2 ^ 32 → crcFrom L n k i x < 2 ^ 32
  | 0, _, _, hx => hx
  | k + 1, _, _, hx => crcFrom_lt (k := k) (bits_lt (xor_lt hx (byteAt_le _ _ _)))

theorem outer_run {b : Pos} {off len cap L num : Nat} {ex : Bool} (hN : 8 < N) (hb : h.get b = some (.bytes L num)) (hL : off + len ≤ L) (hlen : len ≤ 90000) : ∀ (k i x : Nat) (env : Env) (n : Nat), i + k = len → x < 2 ^ 32 →
    Tr.get q3 env = some (.int .u32 (.ofNat x)) → Tr.get q6 env = some (.slice b off len cap 1 ex) → Tr.get q7 env = some (.int .i64 (.ofNat len)) → Tr.get q8 env = some (.int .i64 (.ofNat i)) → k < n →
    ∃ env', loopF n (run C N outerBody) env h = .exit 0 env' h ∧ Tr.get q3 env' = some (.int .u32 (.ofNat (crcFrom L num k (off + i) x)))
  | 0, i, x, env, n, hi, hx, h3, h6, h7, h8, hn => by
    obtain ⟨m, rfl⟩ : ∃ m, n = m + 1 := ⟨n - 1, by omega⟩
    refine ⟨Tr.put (some (.bool false)) q9 env, ?_, skip h3 rfl⟩
    refine loop_exit ?_
    rw [outerBody]
    refine (seq_ok (e' := Tr.put (some (.bool false)) q9 env) (h' := h) ?_).trans (seq_exit ?_)
    · rw [run_ops, run_o (s_cmp (ev_t h8) (ev_t h7)), lt_f (by omega)]
      rfl
    · rw [cond_f (ev_t (Tr.get_put_same _ _ _))]
      rfl
  | k + 1, i, x, env, n, hi, hx, h3, h6, h7, h8, hn => by
    obtain ⟨m, rfl⟩ : ∃ m, n = m + 1 := ⟨n - 1, by omega⟩
    have hbyte := byteAt_le L num (off + i)
    have hx1 : Nat.xor x (byteAt L num (off + i)) < 2 ^ 32 := xor_lt hx hbyte
    have hk : kmax .u32 = 4294967295 := rfl
    -- the environments on the way
    let ea : Env := Tr.put (some (.bool true)) q9 env
    let eb : Env := Tr.put (some (.int .u8 (.ofNat (byteAt L num (off + i))))) q5 (Tr.put (some (.int .u8 (.ofNat (byteAt L num (off + i))))) q11 (Tr.put (some (.ptr b (off + i))) q10 ea))
    let ec : Env := Tr.put (some (.int .u32 (.ofNat (Nat.xor x (byteAt L num (off + i)))))) q3 (Tr.put (some (.int .u32 (.ofNat (Nat.xor x (byteAt L num (off + i)))))) q15 (Tr.put (some (.int .u32 (.ofNat (byteAt L num (off + i))))) q14 (Tr.put (some (.int .u32 (.ofNat x))) q12 eb)))
    let ed : Env := Tr.put (some (.int .i64 (.ofNat 0))) q16 ec
    obtain ⟨e1, r1, g1, l1⟩ := inner_run (C := C) (N := N) (h := h) 8 0 (Nat.xor x (byteAt L num (off + i))) ed N rfl hx1 (skip (Tr.get_put_same _ _ _) rfl) (Tr.get_put_same _ _ _) hN
    have up : ∀ q v, low q → Tr.get q env = some v → Tr.get q e1 = some v := fun q v hq hg => by
      refine l1 q v hq ?_
      rcases hq with rfl | rfl | rfl | rfl <;> exact skip (skip (skip (skip (skip (skip (skip (skip (skip hg rfl) rfl) rfl) rfl) rfl) rfl) rfl) rfl) rfl
    have g6 := up q6 _ (.inr (.inl rfl)) h6
    have g7 := up q7 _ (.inr (.inr (.inl rfl))) h7
    have g8 := up q8 _ (.inr (.inr (.inr rfl))) h8
    obtain ⟨e2, r2, g2⟩ := outer_run hN hb hL hlen k (i + 1) (bits 8 (Nat.xor x (byteAt L num (off + i)))) (Tr.put (some (.int .i64 (.ofNat (i + 1)))) q8 (Tr.put (some (.int .i64 (.ofNat (i + 1)))) q26 e1)) m (by omega) (bits_lt hx1)
      (skip (skip g1 rfl) rfl) (skip (skip g6 rfl) rfl) (skip (skip g7 rfl) rfl) (Tr.get_put_same _ _ _) (by omega)
    refine ⟨e2, ?_, g2⟩
    rw [← r2]
    refine loop_ok ?_
    rw [outerBody]
    refine (seq_ok (e' := ea) (h' := h) ?_).trans ((seq_ok (e' := ea) (h' := h) ?_).trans ((seq_ok (e' := e1) (h' := h) (block_ok ((seq_ok (e' := eb) (h' := h) ?_).trans ((seq_ok (e' := ec) (h' := h) ?_).trans ((seq_ok (e' := ed) (h' := h) ?_).trans (block_exit ?_)))))).trans ?_))
    · rw [run_ops, run_o (s_cmp (ev_t h8) (ev_t h7)), lt_t (by omega)]
      rfl
    · rw [cond_t (ev_t (Tr.get_put_same _ _ _))]
      rfl
    · rw [run_ops, run_o (s_ia (ev_t (skip h6 rfl)) (ev_t (skip h8 rfl)) (by omega))]
      rw [run_o (s_ld (Tr.get_put_same _ _ _) hb (by omega))]
      rw [run_o (s_mv (ev_t (Tr.get_put_same _ _ _)))]
      rfl
    · rw [run_ops, run_o (s_mv (ev_t (v := .int .u32 (.ofNat x)) (skip (skip (skip (skip h3 rfl) rfl) rfl) rfl)))]
      rw [run_o (s_i2i (ev_t (skip (Tr.get_put_same _ _ _) rfl)) (by rw [hk]; omega))]
      rw [run_o (s_ari (op := .xor) (k := .u32) (k2 := .u32) (a := .ofNat x) (ev_t (skip (Tr.get_put_same _ _ _) rfl)) (ev_t (Tr.get_put_same _ _ _)) rfl (ari_xor (by rw [hk]; omega) (by rw [hk]; omega)))]
      rw [run_o (s_mv (ev_t (Tr.get_put_same _ _ _)))]
      rfl
    · rw [run_ops, run_o (s_mv ev_c)]
      rfl
    · exact r1
    · rw [run_ops, run_o (s_ari (op := .add) (k := .i64) (k2 := .i64) (a := .ofNat i) (b := .ofNat 1) (ev_t g8) ev_c rfl (ari_inc (by show i + 1 ≤ 9223372036854775807; omega)))]
      rw [run_o (s_mv (ev_t (Tr.get_put_same _ _ _)))]
      rfl

theorem sum_run {b : Pos} {off len cap L num : Nat} {ex : Bool} (hb : h.get b = some (.bytes L num)) (hL : off + len ≤ L) (hlen : len ≤ 90000) :
    runF C 100000 sumFunc [.slice b off len cap 1 ex] h = .ok (.int .u32 (.ofNat (4294967295 - crcFrom L num len off 4294967295))) h := by
  let e0 : Env := Tr.put (some (.slice b off len cap 1 ex)) q0 .lf
  let e1 : Env := Tr.put (some (.int .u32 (.ofNat 0))) q2 e0
  let e2 : Env := Tr.put (some (.int .u32 (.ofNat 4294967295))) q3 e1
  let e3 : Env := Tr.put (some (.int .i64 (.ofNat 0))) q8 (Tr.put (some (.int .i64 (.ofNat len))) q7 (Tr.put (some (.slice b off len cap 1 ex)) q6 e2))
  obtain ⟨e4, r4, g4⟩ := outer_run (C := C) (N := 100000) (cap := cap) (ex := ex) (by decide) hb hL hlen len 0 4294967295 e3 100000 (by omega) (by decide) (skip (skip (skip (Tr.get_put_same _ _ _) rfl) rfl) rfl) (skip (skip (Tr.get_put_same _ _ _) rfl) rfl) (skip (Tr.get_put_same _ _ _) rfl) (Tr.get_put_same _ _ _) (by omega)
  have hlt : crcFrom L num len (off + 0) 4294967295 < 2 ^ 32 := crcFrom_lt (by decide)
  let e5 : Env := Tr.put (some (.int .u32 (.ofNat (4294967295 - crcFrom L num len (off + 0) 4294967295)))) q2 (Tr.put (some (.int .u32 (.ofNat (4294967295 - crcFrom L num len (off + 0) 4294967295)))) q28 e4)
  have hr : run C 100000 sumBody e0 h = .ret e5 h := by
    rw [sumBody]
    refine (seq_ok (e' := e1) (h' := h) ?_).trans ((seq_ok (e' := e2) (h' := h) ?_).trans ((seq_ok (e' := e4) (h' := h) ((seq_ok (e' := e3) (h' := h) ?_).trans (block_exit (C := C) (N := 100000) (h := h) (b := .loop outerBody) r4))).trans ((seq_ok (e' := e5) (h' := h) ?_).trans rfl)))
    · rw [run_ops, run_o (s_mv ev_c)]; rfl
    · rw [run_ops, run_o (s_mv ev_c)]; rfl
    · rw [run_ops, run_o (s_mv (ev_t (v := .slice b off len cap 1 ex) (skip (skip (Tr.get_put_same _ _ _) rfl) rfl)))]
      rw [run_o (s_len (ev_t (Tr.get_put_same _ _ _)))]
      rw [run_o (s_mv ev_c)]
      rfl
    · rw [run_ops, run_o (s_compl (ev_t g4) (by show _ ≤ 4294967295; omega))]
      rw [run_o (s_mv (ev_t (Tr.get_put_same _ _ _)))]
      rfl
  show (match run C 100000 sumBody e0 h with | .ok env h => finish sumFunc env h | .ret env h => finish sumFunc env h | _ => .fail) = _
  rw [hr]
  show (match (match Tr.get q2 e5 with | some v => some [v] | none => none) with | some vs => OR.ok (resOf vs) h | none => .fail) = _
  rw [show Tr.get q2 e5 = _ from Tr.get_put_same _ _ _]
  rfl

end

/-! ### The hook -/
def bitsKImpl {β : Type} (k x : Nat) (κ : Nat → β) : β := κ (bits k x)
def bitsK {β : Type} (k : Nat) : Nat → (Nat → β) → β :=
  Nat.rec (motive := fun _ => Nat → (Nat → β) → β) (fun x κ => κ x) (fun _ ih x κ => forceN (crcBit x) fun x => ih x κ) k
theorem bitsK_eq {β : Type} : ∀ (k x : Nat) (κ : Nat → β), bitsK k x κ = κ (bits k x)
  | 0, _, _ => rfl
  | k + 1, x, κ => by
    show forceN (crcBit x) (fun x => bitsK k x κ) = _
    rw [forceN_eq, bitsK_eq]
    rfl

def crcKImpl {β : Type} (L n k i x : Nat) (κ : Nat → β) : β := κ (crcFrom L n k i x)
def crcK {β : Type} (L n k : Nat) : Nat → Nat → (Nat → β) → β :=
  Nat.rec (motive := fun _ => Nat → Nat → (Nat → β) → β) (fun _ x κ => κ x) (fun _ ih i x κ => forceN (byteAt L n i) fun b => forceN (Nat.xor x b) fun x => bitsK 8 x fun x => forceN (i + 1) fun i => ih i x κ) k
theorem crcK_eq {β : Type} {L n : Nat} : ∀ (k i x : Nat) (κ : Nat → β), crcK L n k i x κ = κ (crcFrom L n k i x)
  | 0, _, _, _ => rfl
  | k + 1, i, x, κ => by
    show forceN (byteAt L n i) (fun b => forceN (Nat.xor x b) fun x => bitsK 8 x fun x => forceN (i + 1) fun i => crcK L n k i x κ) = _
    simp only [forceN_eq, bitsK_eq, crcK_eq k]
    rfl

/-- The checksum of a row of bytes. -/
def hkSum : Hook := fun _ args h => match args with
  | [.slice b off len _ es _] => (match Nat.beq es 1 with
    | true => (match h.get b with
      | some (.bytes L n) => (match Nat.ble (off + len) L && Nat.ble len 90000 with
        | true => crcK L n len off 4294967295 fun x => forceN (4294967295 - x) fun r => .ok (.int .u32 (.ofNat r)) h
        | false => .fail)
      | _ => .fail)
    | false => .fail)
  | _ => .fail

theorem hkSum_run {C : CallF} {args : List AVal} {h h' : Heap} {v : AVal} (hk : hkSum C args h = .ok v h') : runF C 100000 sumFunc args h = .ok v h' := by
  unfold hkSum at hk
  split at hk
  case h_2 => cases hk
  rename_i b off len cap es ex
  split at hk
  case h_2 => cases hk
  rename_i hes
  split at hk
  case h_2 => cases hk
  rename_i L n hb
  split at hk
  case h_2 => cases hk
  rename_i hble
  rw [Bool.and_eq_true] at hble
  have e1 : es = 1 := Nat.eq_of_beq_eq_true hes
  subst e1
  rw [crcK_eq, forceN_eq] at hk
  rw [sum_run hb (Nat.le_of_ble_eq_true hble.1) (Nat.le_of_ble_eq_true hble.2)]
  exact hk

theorem sum_sound [Syms] {P : Program} {dyn : List TypeId} {f : Pos} {af : AFunc} (hm : P.follows .mixedOrders = true) (hf : FuncSound P dyn f af) (ha : af = sumFunc) : HookSound P f hkSum := by
  subst ha
  intro C hC args v h h' μ w cargs hk hv hr hb
  obtain ⟨fn, E, h1, h2, h3⟩ := hf
  have hbody : fn.body.isNone = false := by
    unfold compFunc at h3
    split at h3
    · rename_i b hb' _; rw [hb']; rfl
    · cases h3
  exact .inr (.inr ⟨f.nat - 1, cargs, w, callFunc_enter h1 h2 hbody, func_sound hC (drawn_sound hm hC) h1 h3 (hkSum_run hk) hv hr hb⟩)

end Go.Cg

/- A hook: functions of flat arguments and results, by a run of their own in an empty heap (so that equal calls are equal terms). -/
set_option linter.unusedSectionVars false
namespace Go.Cg

def flat1 : AVal → Bool
  | .bool _ => true
  | .int _ _ => true
  | .str _ _ => true
  | _ => false

def flat : AVal → Bool
  | .tuple vs => vs.all flat1
  | v => flat1 v

/-- C0: what runs it. -/
def hkPure (C0 : CallF) (f : Pos) : Hook := fun _ args h => match args.all flat1 with
  | true => (match C0 f args (.mk .e .lf) with
    | .ok v _ => (match flat v with
      | true => .ok v h
      | false => .fail)
    | .fail => .fail)
  | false => .fail

variable [Syms]
variable {P : Program} {μ μ' : Mu}

theorem flat1_rel {v : AVal} {cv : Value} (hf : flat1 v = true) (h : VRel μ v cv) : VRel μ' v cv := by
  cases h <;> first | exact .bool _ | exact .int _ _ | exact .str _ _ _ (by assumption) (by assumption) | exact nomatch hf

theorem flat1s_rel : ∀ {vs : List AVal} {cvs : List Value}, vs.all flat1 = true → VsRel μ vs cvs → VsRel μ' vs cvs
  | _, _, _, .nil => .nil
  | _, _, hf, .cons _ _ _ _ h1 h2 => by
    rw [List.all_cons, Bool.and_eq_true] at hf
    exact .cons _ _ _ _ (flat1_rel hf.1 h1) (flat1s_rel hf.2 h2)

theorem flat_rel {v : AVal} {cv : Value} (hf : flat v = true) (h : VRel μ v cv) : VRel μ' v cv := by
  cases h <;> first | exact .bool _ | exact .int _ _ | exact .str _ _ _ (by assumption) (by assumption) | exact .tuple _ _ (flat1s_rel hf (by assumption)) | exact nomatch hf

theorem pure_sound {C0 : CallF} (hC0 : CSound P C0) {f : Pos} {fn : Func} (hf : P.funcs[f.nat - 1]? = some fn) (hn : (fn.name == "runtime.NumGoroutine") = false) (hbd : fn.body.isNone = false) : HookSound P f (hkPure C0 f) := by
  intro C hC args v h h' μ w cargs hk hv hr hb
  unfold hkPure at hk
  split at hk
  case h_2 => cases hk
  rename_i hfl
  split at hk
  case h_2 => cases hk
  rename_i v0 h0 hrun
  split at hk
  case h_2 => cases hk
  rename_i hfv
  cases hk
  have hy := hC0 hrun (flat1s_rel hfl hv) (empty_hrel w) (fun _ _ => rfl)
  refine .inr (.inr ⟨f.nat - 1, cargs, w, callFunc_enter hf hn hbd, ?_⟩)
  refine Calls.mono (yields_back hf hn hbd hy) fun e w' hq => ?_
  obtain ⟨cv, rfl, μ', h1, h2, h3⟩ := hq
  have hfr : ∀ β, β < w.heap.size → w'.heap[β]? = w.heap[β]? := fun β hβ => h3.frame β hβ fun _ _ _ hb => (empty_get hb).elim
  refine ⟨_, rfl, μ, flat_rel hfv h1, ⟨fun b o im hg hm => ?_, hr.inj, fun b im hm => Nat.lt_of_lt_of_le (hr.bound b im hm) h3.hsize, hr.scope⟩, ⟨Mu.le_refl μ, fun b im h1 h2 => (by rw [h1] at h2; cases h2), Nat.le_refl _, h3.hsize, fun β hβ _ => hfr β hβ, fun _ _ h1 _ => h1, fun b o im h1 h2 _ => ⟨b, o, im, h1, h2, rfl⟩, h3.os, h3.output, h3.tape⟩⟩
  obtain ⟨obj, k1, k2⟩ := hr.live b o im hg hm
  exact ⟨obj, by rw [hfr _ (hr.bound b im hm)]; exact k1, k2⟩

end Go.Cg
end
