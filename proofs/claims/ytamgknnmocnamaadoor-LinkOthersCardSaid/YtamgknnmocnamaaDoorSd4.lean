/- The evaluator is sound: what it gives is what the model gives, whatever the tape. Part 4. No condition. -/
import Derived.Test.YtamgknnmocnamaaDoorSd3
import Derived.Scope
set_option linter.unusedVariables false
set_option linter.unusedSimpArgs false
set_option linter.unusedSectionVars false
noncomputable section
/- Regions whose operations run in the order of the text. -/
namespace Go.Cg
variable [Syms]

variable {P : Program} {dyn : List TypeId} {μ μ' : Mu} {h h' : Heap} {w w' : World} {v : AVal} {E : Tr Unit} {A : List Ent} {env : Env} {a : Act}

theorem slotPos_inj {s t : Nat} (h : slotPos s = slotPos t) : s = t := by
  have := congrArg Pos.nat h
  rw [slotPos_nat, slotPos_nat] at this
  omega

/-- What the slots hold. -/
structure ERel (μ : Mu) (E : Tr Unit) (env : Env) (a : Act) : Prop where
  get : ∀ t v, Tr.get (slotPos t) env = some v → VRel μ v (a.eval (.tmp t))
  out : ∀ t, isOut E t = true → Tr.get (slotPos t) env = none

def Holds (a : Act) : Option (Nat × Bool) → Prop
  | none => True
  | some (s, b) => a.tmps[s]? = some (.bool b)

def AlOk (μ : Mu) (env : Env) (a : Act) (d : Nat) : Al → Prop
  | .opd y => (∀ p off, y = .a p off → ∃ b o, Tr.get p env = some (.ptr b o)) ∧ ∀ v, y.ev env = some v → VRel μ v (a.eval (.tmp d))
  | .meth name y => ∃ cr, a.eval (.tmp d) = .func (.method name) #[cr] #[] ∧ ∀ v, y.ev env = some v → VRel μ v cr

/-- What the slots that were left out stand for. -/
def AInv (μ : Mu) (A : List Ent) (env : Env) (a : Act) : Prop := ∀ e ∈ A, Holds a e.g → AlOk μ env a e.d e.al

theorem gEq_holds {g g' : Option (Nat × Bool)} (h : gEq g g' = true) (hh : Holds a g') : Holds a g := by
  cases g with
  | none => trivial
  | some p =>
    obtain ⟨s, b⟩ := p
    cases g' with
    | none => cases h
    | some q =>
      obtain ⟨s', b'⟩ := q
      simp only [gEq, Bool.and_eq_true] at h
      have e1 := Nat.eq_of_beq_eq_true h.1
      have e2 : b = b' := by cases b <;> cases b' <;> first | rfl | simp at h
      subst e1 e2
      exact hh

theorem findEnt_spec : ∀ {A : List Ent} {g : Option (Nat × Bool)} {t : Nat} {al : Al}, findEnt A g t = some al → ∃ e ∈ A, e.d = t ∧ gEq e.g g = true ∧ e.al = al
  | [], _, _, _, h => by cases h
  | e :: A, g, t, al, h => by
    simp only [findEnt] at h
    split at h
    · rename_i hb
      cases h
      simp only [Bool.and_eq_true] at hb
      exact ⟨e, List.mem_cons_self, Nat.eq_of_beq_eq_true hb.1, hb.2, rfl⟩
    · obtain ⟨e', h1, h2⟩ := findEnt_spec h
      exact ⟨e', List.mem_cons_of_mem _ h1, h2⟩

theorem sees_of {g : Option (Nat × Bool)} (hE : ERel μ E env a) (hA : AInv μ A env a) (hg : Holds a g) (xs : Array Operand) : Sees A g env μ a.eval xs := by
  intro x _ y v hy hv
  cases x with
  | tmp t =>
    simp only [resO] at hy
    split at hy
    · rename_i z hf
      cases hy
      obtain ⟨e, h1, h2, h3, h4⟩ := findEnt_spec hf
      have := hA e h1 (gEq_holds h3 hg)
      rw [h4, h2] at this
      exact this.2 v hv
    · cases hy
    · cases hy
      exact hE.get t v hv
  | const c =>
    obtain ⟨z, hz, rfl⟩ := map_ok hy
    cases hv
    exact ofValue_rel μ 8 hz
  | func f =>
    cases hy
    cases hv
    have := VRel.func (μ := μ) (slotPos f) [] [] #[] #[] .nil .nil
    rw [slotPos_nat] at this
    exact this
  | global g => cases hy

/-! ### A slot is written -/
theorem eval_put_same {d : Nat} {cv : Value} (hd : d < a.tmps.size) : (a.put (some d) cv).eval (.tmp d) = cv := by
  simp [Act.eval, Act.put, hd]

theorem eval_put_other {d t : Nat} {cv : Value} (hn : t ≠ d) : (a.put (some d) cv).eval (.tmp t) = a.eval (.tmp t) := by
  simp [Act.eval, Act.put, Array.getElem?_setIfInBounds_ne (Ne.symm hn)]

theorem size_put (dst : Option Tmp) (cv : Value) : (a.put dst cv).tmps.size = a.tmps.size := by
  cases dst <;> simp [Act.put]

theorem defers_put (dst : Option Tmp) (cv : Value) : (a.put dst cv).defers = a.defers := by
  cases dst <;> rfl

theorem ev_put {y : AOpd} {p : Pos} {o : Option AVal} (hu : y.uses p = false) : y.ev (Tr.put o p env) = y.ev env := by
  cases y with
  | t q =>
    have : p ≠ q := fun e => by subst e; simp only [AOpd.uses] at hu; rw [Pos.eqb_iff.2 rfl] at hu; cases hu
    exact Tr.get_put_other _ _ _ _ this
  | c v => rfl
  | a q off =>
    have : p ≠ q := fun e => by subst e; simp only [AOpd.uses] at hu; rw [Pos.eqb_iff.2 rfl] at hu; cases hu
    show AOpd.evA q off _ = AOpd.evA q off _
    unfold AOpd.evA
    rw [Tr.get_put_other _ _ _ _ this]

theorem holds_put {g : Option (Nat × Bool)} {d : Nat} {cv : Value} (hd : (match g with | some (s, _) => !Nat.beq s d | none => true) = true) : Holds (a.put (some d) cv) g ↔ Holds a g := by
  cases g with
  | none => exact Iff.rfl
  | some p =>
    obtain ⟨s, b⟩ := p
    have hne : d ≠ s := fun e => by subst e; simp at hd
    simp [Holds, Act.put, Array.getElem?_setIfInBounds_ne hne]

theorem mem_kill {e : Ent} {d : Nat} (h : e ∈ killEnt d A) : e ∈ A ∧ e.d ≠ d ∧ e.al.uses (slotPos d) = false ∧ (match e.g with | some (s, _) => !Nat.beq s d | none => true) = true := by
  unfold killEnt at h
  obtain ⟨h1, h2⟩ := List.mem_filter.1 h
  simp only [Bool.and_eq_true, Bool.not_eq_true'] at h2
  refine ⟨h1, fun e' => ?_, h2.1.2, h2.2⟩
  rw [e'] at h2
  simp at h2

theorem AlOk.put {d t : Nat} {al : Al} {cv : Value} {o : Option AVal} (hm : Mu.le μ μ') (hn : t ≠ d) (hu : al.uses (slotPos d) = false) (hal : AlOk μ env a t al) : AlOk μ' (Tr.put o (slotPos d) env) (a.put (some d) cv) t al := by
  cases al with
  | opd y =>
    refine ⟨fun p off e => ?_, fun v hv => ?_⟩
    · subst e
      obtain ⟨b, o', hb⟩ := hal.1 p off rfl
      have hp : slotPos d ≠ p := fun e => by subst e; simp only [Al.uses, AOpd.uses] at hu; rw [Pos.eqb_iff.2 rfl] at hu; cases hu
      exact ⟨b, o', by rw [Tr.get_put_other _ _ _ _ hp]; exact hb⟩
    · rw [ev_put hu] at hv
      rw [eval_put_other hn]
      exact (hal.2 v hv).mono hm
  | meth name y =>
    obtain ⟨cr, h1, h2⟩ := hal
    refine ⟨cr, by rw [eval_put_other hn]; exact h1, fun v hv => ?_⟩
    rw [ev_put hu] at hv
    exact (h2 v hv).mono hm

theorem AInv.put {d : Nat} {cv : Value} {o : Option AVal} (hm : Mu.le μ μ') (hA : AInv μ A env a) : AInv μ' (killEnt d A) (Tr.put o (slotPos d) env) (a.put (some d) cv) := by
  intro e he hh
  obtain ⟨h1, h2, h3, h4⟩ := mem_kill he
  exact (hA e h1 ((holds_put h4).1 hh)).put hm h2 h3

theorem ERel.put {d : Nat} {cv : Value} (hm : Mu.le μ μ') (hE : ERel μ E env a) (hd : d < a.tmps.size) (ho : isOut E d = false) (hv : VRel μ' v cv) : ERel μ' E (Tr.put (some v) (slotPos d) env) (a.put (some d) cv) where
  get := fun t x hx => by
    by_cases e : t = d
    · subst e
      rw [Tr.get_put_same] at hx
      cases hx
      rw [eval_put_same hd]; exact hv
    · rw [Tr.get_put_other _ _ _ _ (fun e' => e (slotPos_inj e').symm)] at hx
      rw [eval_put_other e]
      exact (hE.get t x hx).mono hm
  out := fun t ht => by
    have e : d ≠ t := fun e => by subst e; rw [ho] at ht; cases ht
    rw [Tr.get_put_other _ _ _ _ (fun e' => e (slotPos_inj e'))]
    exact hE.out t ht

/-- A slot that is left out gets a value in the model alone. -/
theorem ERel.skip {d : Nat} {cv : Value} (hm : Mu.le μ μ') (hE : ERel μ E env a) (ho : isOut E d = true) : ERel μ' E env (a.put (some d) cv) where
  get := fun t x hx => by
    have e : t ≠ d := fun e => by subst e; rw [hE.out t ho] at hx; cases hx
    rw [eval_put_other e]
    exact (hE.get t x hx).mono hm
  out := hE.out

theorem ERel.mono (hm : Mu.le μ μ') (hE : ERel μ E env a) : ERel μ' E env a where
  get := fun t x hx => (hE.get t x hx).mono hm
  out := hE.out

theorem AlOk.skip {d t : Nat} {al : Al} {cv : Value} (hm : Mu.le μ μ') (hn : t ≠ d) (hal : AlOk μ env a t al) : AlOk μ' env (a.put (some d) cv) t al := by
  cases al with
  | opd y =>
    refine ⟨hal.1, fun v hv => ?_⟩
    rw [eval_put_other hn]
    exact (hal.2 v hv).mono hm
  | meth name y =>
    obtain ⟨cr, h1, h2⟩ := hal
    exact ⟨cr, by rw [eval_put_other hn]; exact h1, fun v hv => (h2 v hv).mono hm⟩

theorem AInv.skip {d : Nat} {cv : Value} (hm : Mu.le μ μ') (hA : AInv μ A env a) : AInv μ' (killEnt d A) env (a.put (some d) cv) := by
  intro e he hh
  obtain ⟨h1, h2, h3, h4⟩ := mem_kill he
  exact (hA e h1 ((holds_put h4).1 hh)).skip hm h2

theorem AlOk.mono {t : Nat} {al : Al} (hm : Mu.le μ μ') (hal : AlOk μ env a t al) : AlOk μ' env a t al := by
  cases al with
  | opd y => exact ⟨hal.1, fun v hv => (hal.2 v hv).mono hm⟩
  | meth name y =>
    obtain ⟨cr, h1, h2⟩ := hal
    exact ⟨cr, h1, fun v hv => (h2 v hv).mono hm⟩

theorem AInv.mono (hm : Mu.le μ μ') (hA : AInv μ A env a) : AInv μ' A env a := fun e he hh => (hA e he hh).mono hm

end Go.Cg

/- One operation of a region, under its guard. -/
namespace Go.Cg
variable [Syms]

variable {P : Program} {dyn : List TypeId} {μ μ' : Mu} {h h' : Heap} {w w' : World} {v : AVal} {E : Tr Unit} {A : List Ent} {env : Env} {a : Act}

def putD (dst : Option Pos) (v : AVal) (env : Env) : Env :=
  match dst with
  | some p => Tr.put (some v) p env
  | none => env

theorem putDst_eq (dst : Option Pos) (v : AVal) (env : Env) (k : Env → Res) : putDst dst v env k = k (putD dst v env) := by
  cases dst with
  | none => rfl
  | some p => exact Tr.putK_eq _ _ _ _

theorem operO_ok {dst : Option Pos} {op : AOp} {C : CallF} {k : Env → Heap → Res} {e' : Env} {r : Res} (hr : r ≠ .fail) (hk : operO dst op C env h k = r) : ∃ v h1, stepOp op C env h = .ok v h1 ∧ k (putD dst v env) h1 = r := by
  unfold operO at hk
  cases hs : stepOp op C env h with
  | fail => rw [hs] at hk; exact absurd hk.symm hr
  | ok v h1 =>
    rw [hs] at hk
    exact ⟨v, h1, rfl, (putDst_eq dst v env fun env => k env h1).symm.trans hk⟩

/-- A guard's slot, and what the model sees there. -/
theorem wanted_iff {ops : Array Oper} {o : Oper} {g : Option (Nat × Bool)} (hg : guardOf ops o = some g) : Region.wanted o (yielded ops a.tmps) = true ↔ Holds a g := by
  unfold guardOf at hg
  unfold Region.wanted
  split at hg
  · rename_i e
    cases hg
    rw [e]
    simp [Holds]
  · rename_i j want e
    split at hg
    · rename_i s hs
      cases hg
      rw [e]
      simp only [Holds, yielded, hs, Option.bind_some, beq_iff_eq]
      cases ht : a.tmps[s]? with
      | none => simp
      | some c => cases c <;> simp
    · cases hg

theorem eval_get {s : Nat} {b : Bool} (h : a.eval (.tmp s) = .bool b) : a.tmps[s]? = some (.bool b) := by
  simp only [Act.eval, Array.getD_eq_getD_getElem?] at h
  cases ht : a.tmps[s]? with
  | none => rw [ht] at h; cases h
  | some c => rw [ht] at h; simpa using h

theorem eval_of_get {s : Nat} {c : Value} (h : a.tmps[s]? = some c) : a.eval (.tmp s) = c := by
  simp [Act.eval, Array.getD_eq_getD_getElem?, h]

theorem wrap_sound {g : Option (Nat × Bool)} {dst : Option Nat} {aop : AOp} {x : AOper} {C : CallF} {k : Env → Heap → Res} {r : Res} (hE : ERel μ E env a) (hA : AInv μ A env a) (hw : wrapG A g dst aop = some x) (hr : r ≠ .fail)
    (hk : stepOper x C env h k = r) :
    (Holds a g ∧ ∃ v h1, stepOp aop C env h = .ok v h1 ∧ k (putD (dst.map slotPos) v env) h1 = r) ∨ (¬ Holds a g ∧ k (putD (dst.map slotPos) (.tuple []) env) h = r) := by
  unfold wrapG at hw
  split at hw
  · cases hw
    exact .inl ⟨trivial, operO_ok (e' := env) hr hk⟩
  · rename_i s want
    have key : ∀ p, (∀ b, Tr.get p env = some (.bool b) → a.tmps[s]? = some (.bool b)) → (Tr.get p env = some (.tuple []) → ∀ b, a.tmps[s]? ≠ some (.bool b)) → operG p want (dst.map slotPos) aop C env h k = r →
        (Holds a (some (s, want)) ∧ ∃ v h1, stepOp aop C env h = .ok v h1 ∧ k (putD (dst.map slotPos) v env) h1 = r) ∨ (¬ Holds a (some (s, want)) ∧ k (putD (dst.map slotPos) (.tuple []) env) h = r) := by
      intro p h1 h2 hk
      unfold operG at hk
      split at hk
      · rename_i b hb
        have hs := h1 b hb
        split at hk
        · rename_i hbb
          have : b = want := by cases want <;> cases b <;> first | rfl | simp at hbb
          subst this
          exact .inl ⟨hs, operO_ok (e' := env) hr hk⟩
        · rename_i hbb
          refine .inr ⟨fun hh => ?_, (putDst_eq (dst.map slotPos) (.tuple []) env fun env => k env h).symm.trans hk⟩
          have : b = want := by
            have hh : a.tmps[s]? = some (.bool want) := hh
            rw [hs] at hh; cases hh; rfl
          subst this
          cases b <;> simp at hbb
      · rename_i hb
        exact .inr ⟨fun hh => h2 hb want hh, (putDst_eq (dst.map slotPos) (.tuple []) env fun env => k env h).symm.trans hk⟩
      · exact absurd hk.symm hr
    have tup : ∀ cv, VRel μ (.tuple []) cv → ∀ b, cv ≠ .bool b := by
      intro cv hv b e
      subst e
      cases hv
    split at hw
    · rename_i p hf
      cases hw
      obtain ⟨e, h1, h2, h3, h4⟩ := findEnt_spec hf
      have hal := hA e h1 (gEq_holds h3 (g' := none) trivial)
      rw [h4, h2] at hal
      refine key p (fun b hb => ?_) (fun hb b hs => ?_) hk
      · have := hal.2 _ hb
        apply eval_get
        generalize a.eval (.tmp s) = c at this
        cases this; rfl
      · have := hal.2 _ hb
        exact tup _ this b (eval_of_get hs)
    · cases hw
    · cases hw
      refine key (slotPos s) (fun b hb => ?_) (fun hb b hs => ?_) hk
      · have := hE.get s _ hb
        apply eval_get
        generalize a.eval (.tmp s) = c at this
        cases this; rfl
      · exact tup _ (hE.get s _ hb) b (eval_of_get hs)

theorem nilAhead_run {t : TypeId} {name : String} {f : FuncId} {v : Value} (hm : methOf P t name = some f) (n : Nat) : (nilAhead (n + 1) t v name).run P w = .ok (some false) w := by
  unfold methOf at hm
  split at hm
  · cases hm
  rename_i i hi
  split at hm
  · cases hm
  rename_i m hf
  have hti : (typeInfo t).run P w = .ok i w := by simp [typeInfo, hi]
  split at hm
  · rename_i h1 h2
    simp only [nilAhead, Sem.run_bind, hti, Result.andThen_ok, hf, h1, followBlind, Sem.run_pure, h2]
  · rename_i h1 h2
    split at hm
    · cases hm
    · rename_i dd hn hu
      simp only [nilAhead, Sem.run_bind, hti, Result.andThen_ok, hf, h1, followBlind, Sem.run_pure, h2, run_underlying hu]
      cases dd <;> first | exact (hn _ rfl).elim | rfl
    · cases hm
  · cases hm

end Go.Cg

/- A region in the order of the text. -/
namespace Go.Cg
variable [Syms]

variable {P : Program} {dyn : List TypeId} {μ μ' : Mu} {h h' : Heap} {w w' : World} {v : AVal} {E : Tr Unit} {A : List Ent} {env : Env} {a : Act}

/-- What holds behind an operation, a region, a code. -/
structure Aft (E : Tr Unit) (A : List Ent) (μ : Mu) (h : Heap) (w : World) (a : Act) (env' : Env) (h' : Heap) (a' : Act) (w' : World) (μ' : Mu) : Prop where
  slots : ERel μ' E env' a'
  outs : AInv μ' A env' a'
  heap : HRel μ' h' w'
  bound : Bounded μ' h'
  ext : Ext μ h w μ' h' w'
  size : a'.tmps.size = a.tmps.size
  defers : a'.defers = a.defers

/-- An operation that the region comes to. -/
def wpAt (P : Program) (ops : Array Oper) (o : Oper) (Q : Exit → Act → World → Prop) (K : Act → World → Prop) (a : Act) (w : World) : Prop :=
  if Region.wanted o (yielded ops a.tmps) then o.wp P a w K Q else K (a.put o.dst undef) w

theorem bad_fail {C : CallF} : stepOp .bad C env h ≠ .ok v h' := fun e => by cases e

theorem compOp_some {A : List Ent} {g : Option (Nat × Bool)} {op : Op} {C : CallF} (hs : stepOp ((compOp P dyn A g op).getD .bad) C env h = .ok v h') : ∃ aop, compOp P dyn A g op = some aop ∧ stepOp aop C env h = .ok v h' := by
  cases hc : compOp P dyn A g op with
  | none => rw [hc] at hs; exact absurd hs bad_fail
  | some aop => rw [hc] at hs; exact ⟨aop, rfl, hs⟩

theorem wpAt_value {ops : Array Oper} {o : Oper} {Q : Exit → Act → World → Prop} {K : Act → World → Prop} {cv : Value} (hw : Region.wanted o (yielded ops a.tmps) = true) (he : (execOp a.eval o).run P w = .ok (.value cv) w) (hK : K (a.put o.dst cv) w) : wpAt P ops o Q K a w := by
  unfold wpAt
  rw [if_pos hw]
  unfold Oper.wp
  rw [he]
  exact hK

theorem plain_sound {C : CallF} (hC : CSound P C) {ops : Array Oper} {o : Oper} {g : Option (Nat × Bool)} {x : AOper} {k : Env → Heap → Res} {r : Res} {Q : Exit → Act → World → Prop} {K : Act → World → Prop} (hg : guardOf ops o = some g)
    (hw : wrapG A g o.dst ((compOp P dyn A g o.op).getD .bad) = some x) (hd : ∀ d, o.dst = some d → d < a.tmps.size ∧ isOut E d = false) (hE : ERel μ E env a) (hA : AInv μ A env a) (hr : HRel μ h w) (hb : Bounded μ h) (hne : r ≠ .fail) (hk : stepOper x C env h k = r)
    (hK : ∀ env1 h1 a1 w1 μ1, Aft E (match o.dst with | some d => killEnt d A | none => A) μ h w a env1 h1 a1 w1 μ1 → k env1 h1 = r → K a1 w1) : wpAt P ops o Q K a w := by
  have aft : ∀ (v : AVal) (cv : Value) (μ1 : Mu) (h1 : Heap) (w1 : World), VRel μ1 v cv → HRel μ1 h1 w1 → Ext μ h w μ1 h1 w1 → k (putD (o.dst.map slotPos) v env) h1 = r → K (a.put o.dst cv) w1 := by
    intro v cv μ1 h1 w1 hv hr1 hx hk1
    refine hK _ _ _ _ μ1 ?_ hk1
    cases hdst : o.dst with
    | none => exact ⟨hE.mono hx.mono, hA.mono hx.mono, hr1, hx.bounded hb, hx, rfl, rfl⟩
    | some d =>
      obtain ⟨d1, d2⟩ := hd d hdst
      exact ⟨hE.put hx.mono d1 d2 hv, hA.put hx.mono, hr1, hx.bounded hb, hx, size_put _ _, defers_put _ _⟩
  unfold wpAt
  rcases wrap_sound hE hA hw hne hk with ⟨hh, v, h1, hs, hk1⟩ | ⟨hh, hk1⟩
  · rw [if_pos ((wanted_iff hg).2 hh)]
    obtain ⟨aop, hc, hs⟩ := compOp_some hs
    refine Yields'.wp (op_sound hC hc (sees_of hE hA hh _) hr hb hs) fun cv w1 hrel => ?_
    obtain ⟨μ1, hv, hr1, hx⟩ := hrel
    exact aft v cv μ1 h1 w1 hv hr1 hx hk1
  · rw [if_neg (fun e => hh ((wanted_iff hg).1 e))]
    exact aft (.tuple []) undef μ h w (.tuple _ _ .nil) hr (Ext.refl rfl rfl rfl rfl) hk1

end Go.Cg

/- Operations that are left out; regions in the order of the text. -/
namespace Go.Cg
variable [Syms]

variable {P : Program} {dyn : List TypeId} {μ μ' : Mu} {h h' : Heap} {w w' : World} {v : AVal} {E : Tr Unit} {A : List Ent} {env : Env} {a : Act}

theorem holds_undef {g : Option (Nat × Bool)} {d : Nat} (hn : ¬ Holds a g) : ¬ Holds (a.put (some d) undef) g := by
  cases g with
  | none => exact fun _ => hn trivial
  | some p =>
    obtain ⟨s, b⟩ := p
    intro hh
    have hh : (a.put (some d) undef).tmps[s]? = some (.bool b) := hh
    by_cases e : d = s
    · subst e
      simp only [Act.put] at hh
      by_cases hs : d < a.tmps.size
      · simp [hs, undef] at hh
      · rw [Array.getElem?_eq_none (by simp; omega)] at hh; cases hh
    · simp only [Act.put, Array.getElem?_setIfInBounds_ne e] at hh
      exact hn hh

theorem out_aft {g : Option (Nat × Bool)} {d : Nat} {al : Al} {A' : List Ent} {cv : Value} (hE : ERel μ E env a) (hA : AInv μ A env a) (hr : HRel μ h w) (hb : Bounded μ h) (ho : isOut E d = true) (ha : addEnt d al g A = some A')
    (hal : Holds (a.put (some d) cv) g → AlOk μ env (a.put (some d) cv) d al) : Aft E A' μ h w a env h (a.put (some d) cv) w μ := by
  unfold addEnt at ha
  split at ha
  · cases ha
  cases ha
  refine ⟨hE.skip (Mu.le_refl μ) ho, fun e he hh => ?_, hr, hb, Ext.refl rfl rfl rfl rfl, size_put _ _, defers_put _ _⟩
  rcases List.mem_cons.1 he with rfl | he
  · exact hal hh
  · exact hA.skip (Mu.le_refl μ) e he hh

/-- What is checked in place of an operation that is left out: it gives nothing. -/
def outK (A : List Ent) (g : Option (Nat × Bool)) (c : Option AOp) (C : CallF) (env : Env) (h : Heap) (k : Env → Heap → Res) (r : Res) : Prop :=
  match c with
  | none => k env h = r
  | some c => ∃ x, wrapG A g none c = some x ∧ stepOper x C env h k = r

theorem out_sound {C : CallF} {ops : Array Oper} {o : Oper} {g : Option (Nat × Bool)} {d : Nat} {c : Option AOp} {al : Al} {A' : List Ent} {k : Env → Heap → Res} {r : Res} {Q : Exit → Act → World → Prop} {K : Act → World → Prop} (hg : guardOf ops o = some g)
    (hd : o.dst = some d) (hlt : d < a.tmps.size) (ho : isOut E d = true) (hc : compOut P dyn A g o = some (c, al)) (ha : addEnt d al g A = some A') (hE : ERel μ E env a) (hA : AInv μ A env a) (hr : HRel μ h w) (hb : Bounded μ h) (hne : r ≠ .fail)
    (hk : outK A g c C env h k r) (hK : ∀ env1 h1 a1 w1 μ1, Aft E A' μ h w a env1 h1 a1 w1 μ1 → k env1 h1 = r → K a1 w1) : wpAt P ops o Q K a w := by
  -- when it is not wanted
  have hno : ¬ Holds a g → k env h = r → wpAt P ops o Q K a w := fun hn hk1 => by
    unfold wpAt
    rw [if_neg (fun e => hn ((wanted_iff hg).1 e)), hd]
    exact hK _ _ _ _ μ (out_aft hE hA hr hb ho ha (fun hh => absurd hh (holds_undef hn))) hk1
  -- when it is
  have hyes : Holds a g → ∀ cv, (execOp a.eval o).run P w = .ok (.value cv) w → (∀ a' : Act, a'.eval (.tmp d) = cv → AlOk μ env a' d al) → k env h = r → wpAt P ops o Q K a w := fun hh cv he hal hk1 => by
    refine wpAt_value ((wanted_iff hg).2 hh) he ?_
    rw [hd]
    exact hK _ _ _ _ μ (out_aft hE hA hr hb ho ha (fun _ => hal _ (eval_put_same hlt))) hk1
  have plain : ∀ cv, c = none → (Holds a g → (execOp a.eval o).run P w = .ok (.value cv) w) → (Holds a g → ∀ a' : Act, a'.eval (.tmp d) = cv → AlOk μ env a' d al) → wpAt P ops o Q K a w := fun cv hcn he hal => by
    subst hcn
    by_cases hh : Holds a g
    · exact hyes hh cv (he hh) (hal hh) hk
    · exact hno hh hk
  have chk : ∀ c0, c = some c0 → (∀ v h1, Holds a g → stepOp c0 C env h = .ok v h1 → h1 = h ∧ ∃ cv, (execOp a.eval o).run P w = .ok (.value cv) w ∧ ∀ a' : Act, a'.eval (.tmp d) = cv → AlOk μ env a' d al) → wpAt P ops o Q K a w := fun c0 hcs hst => by
    subst hcs
    obtain ⟨x, hx, hk⟩ := hk
    rcases wrap_sound hE hA hx hne hk with ⟨hh, v, h1, hs, hk1⟩ | ⟨hh, hk1⟩
    · obtain ⟨rfl, cv, he, hal⟩ := hst v h1 hh hs
      exact hyes hh cv he hal hk1
    · exact hno hh hk1
  obtain ⟨dst, op, ty, pos, af, gd⟩ := o
  unfold compOut at hc
  split at hc
  · -- a move
    rename_i x hop
    simp only at hop
    subst hop
    obtain ⟨y, hy, e⟩ := map_ok hc
    cases e
    refine plain (a.eval x) rfl (fun _ => rfl) (fun hh a' ha' => ⟨fun p off e => ?_, fun v hv => ?_⟩)
    · subst e
      cases x with
      | tmp t =>
        simp only [resO] at hy
        split at hy
        · rename_i z hf
          cases hy
          obtain ⟨e, h1, h2, h3, h4⟩ := findEnt_spec hf
          have := hA e h1 (gEq_holds h3 hh)
          rw [h4] at this
          exact this.1 p off rfl
        · cases hy
        · cases hy
      | const cc => obtain ⟨z, _, e⟩ := map_ok hy; cases e
      | func f => cases hy
      | global f => cases hy
    · rw [ha']
      exact sees_of hE hA hh #[x] x (by simp) y v hy hv
  · -- a check
    rename_i t hop
    simp only at hop
    subst hop
    split at hc
    · rename_i name y hf
      cases hc
      refine chk _ rfl fun v h1 hh hs => ?_
      obtain ⟨b, hbv, hs⟩ := un1_ok (show un1 y env h _ = .ok v h1 from hs)
      split at hs
      case h_2 => cases hs
      rename_i t0 x0
      split at hs
      case h_2 => cases hs
      rename_i hany
      cases hs
      obtain ⟨e, q1, q2, q3, q4⟩ := findEnt_spec hf
      have hal := hA e q1 (gEq_holds q3 hh)
      rw [q4, q2] at hal
      obtain ⟨cr, r1, r2⟩ := hal
      have hcr := r2 _ hbv
      obtain ⟨f, hm⟩ : ∃ f, methOf P t0 name = some f := by
        obtain ⟨u, hu, hbe⟩ := List.any_eq_true.1 hany
        have hbe := Nat.eq_of_beq_eq_true hbe
        subst hbe
        obtain ⟨q, hq, rfl⟩ := List.mem_map.1 hu
        unfold methTab at hq
        obtain ⟨u, _, h3⟩ := List.mem_filterMap.1 hq
        obtain ⟨k0, hk0, h4⟩ := map_ok h3
        cases h4
        exact ⟨k0, hk0⟩
      cases hcr with
      | iface _ _ cx hx =>
      refine ⟨rfl, .func (.method name) #[.iface t0 cx] #[], ?_, fun a' ha' => ⟨.iface t0 cx, ha', fun v hv => r2 v hv⟩⟩
      have hd : ∀ n, (nilAhead (n + Made.depth) t0 cx name).run P w = .ok (some false) w := fun n => nilAhead_run hm (n + 99)
      simp only [execOp, r1]
      have e0 : (#[Value.iface t0 cx] : Array Value)[0]? = some (Value.iface t0 cx) := rfl
      simp only [e0, Sem.run_bind, run_program, Result.andThen_ok, hd]
      rfl
    · obtain ⟨q, hq, e⟩ := map_ok hc
      obtain ⟨p, off⟩ := q
      cases e
      refine chk _ rfl fun v h1 hh hs => ?_
      obtain ⟨b, hbv, hs⟩ := un1_ok (show un1 (.t p) env h _ = .ok v h1 from hs)
      split at hs
      case h_2 => cases hs
      rename_i bb oo
      cases hs
      have hget : Tr.get p env = some (.ptr bb oo) := hbv
      have hx := resA_sees (sees_of hE hA hh #[.tmp t]) (x := .tmp t) (by simp) hq hget
      have hx' := hx
      generalize hρ : a.eval (.tmp t) = cx at hx hx'
      cases hx with
      | ptr _ _ im hm =>
      refine ⟨rfl, _, by simp only [execOp, hρ]; rfl, fun a' ha' => ⟨fun p' off' e => ?_, fun v hv => ?_⟩⟩
      · cases e; exact ⟨bb, oo, hget⟩
      · rw [evA_ok hget] at hv
        cases hv
        rw [ha']
        exact hx'
  · -- a field's address
    rename_i t x f hop
    simp only at hop
    subst hop
    split at hc
    case h_2 => cases hc
    rename_i fs hu
    split at hc
    case h_2 => cases hc
    rename_i fl hfl
    split at hc
    case h_2 => cases hc
    rename_i n hsz
    have run : ∀ (im : Img) (q : Nat), a.eval x = .pointer (some ⟨im.blk, im.base + q, none⟩) → (execOp a.eval ⟨dst, .fieldAddr t x f, ty, pos, af, gd⟩).run P w = .ok (.value (.pointer (some ⟨im.blk, im.base + (q + fl.offset), none⟩))) w := by
      intro im q hρ
      have e : Addr.add ⟨im.blk, im.base + q, none⟩ fl.offset = ⟨im.blk, im.base + (q + fl.offset), none⟩ := by
        rw [addr_add]; congr 1; omega
      simp only [execOp, hρ, Instr.fieldAt, Sem.run_bind, run_underlying hu, Result.andThen_ok, hfl, Instr.sureAddr, Sem.run_pure, fieldPlace, szOf_run hsz, Nat.succ_ne_zero, if_false, e]
    split at hc
    · rename_i p off hy
      cases hc
      -- the address that x stands for is there
      have hptr : Holds a g → ∃ b q, Tr.get p env = some (.ptr b q) := fun hh => by
        cases x with
        | tmp t' =>
          simp only [resO] at hy
          split at hy
          · rename_i z hf
            cases hy
            obtain ⟨e, h1, h2, h3, h4⟩ := findEnt_spec hf
            have := hA e h1 (gEq_holds h3 hh)
            rw [h4] at this
            exact this.1 p off rfl
          · cases hy
          · cases hy
        | const cc => obtain ⟨z, _, e⟩ := map_ok hy; cases e
        | func f => cases hy
        | global f => cases hy
      by_cases hh : Holds a g
      · obtain ⟨bb, q, hget⟩ := hptr hh
        have hx := sees_of hE hA hh #[x] x (by simp) _ _ hy (evA_ok hget)
        generalize hρ : a.eval x = cx at hx
        cases hx with
        | ptr _ _ im hm =>
        refine plain _ rfl (fun _ => run im (q + off) hρ) (fun _ a' ha' => ⟨fun p' off' e => ?_, fun v hv => ?_⟩)
        · cases e; exact ⟨bb, q, hget⟩
        · rw [evA_ok hget] at hv
          cases hv
          rw [ha', Nat.add_assoc]
          exact .ptr _ _ im hm
      · exact hno hh hk
    · rename_i p hy
      cases hc
      refine chk _ rfl fun v h1 hh hs => ?_
      obtain ⟨b, hbv, hs⟩ := un1_ok (show un1 (.t p) env h _ = .ok v h1 from hs)
      split at hs
      case h_2 => cases hs
      rename_i bb q
      cases hs
      have hget : Tr.get p env = some (.ptr bb q) := hbv
      have hx := sees_of hE hA hh #[x] x (by simp) _ _ hy (show (AOpd.t p).ev env = some (.ptr bb q) from hget)
      generalize hρ : a.eval x = cx at hx
      cases hx with
      | ptr _ _ im hm =>
      refine ⟨rfl, _, run im q hρ, fun a' ha' => ⟨fun p' off' e => ?_, fun v hv => ?_⟩⟩
      · cases e; exact ⟨bb, q, hget⟩
      · rw [evA_ok hget] at hv
        cases hv
        rw [ha']
        exact .ptr _ _ im hm
    · cases hc
  · -- a bound method
    rename_i name first captured hop
    simp only at hop
    subst hop
    split at hc
    case h_2 => cases hc
    rename_i x h1 h2
    obtain ⟨y, hy, e⟩ := map_ok hc
    cases e
    have e1 : first = #[x] := by cases first; simp at h1; rw [h1]
    have e2 : captured = #[] := by cases captured; simp at h2; rw [h2]
    subst e1 e2
    refine plain (.func (.method name) #[a.eval x] #[]) rfl (fun _ => ?_) (fun hh a' ha' => ⟨a.eval x, ha', fun v hv => sees_of hE hA hh #[x] x (by simp) y v hy hv⟩)
    simp [execOp, Instr.makeFunc]
  · cases hc

end Go.Cg

/- Two values alike. -/
namespace Go.Cg
variable [Syms]

theorem aeq_eq : ∀ (n : Nat) {x y : AVal}, aeq n x y = true → x = y
  | 0, _, _, h => by cases h
  | n + 1, x, y, h => by
    unfold aeq at h
    split at h
    · rename_i a b; cases a <;> cases b <;> first | rfl | simp at h
    · simp only [Bool.and_eq_true] at h
      have h1 := kEq_iff.1 h.1
      have h2 := h.2
      rw [intEq_eq] at h2
      rw [h1, of_decide_eq_true h2]
    · simp only [Bool.and_eq_true] at h
      rw [Nat.eq_of_beq_eq_true h.1, Nat.eq_of_beq_eq_true h.2]
    · simp only [Bool.and_eq_true] at h
      rw [Pos.eqb_iff.1 h.1, Nat.eq_of_beq_eq_true h.2]
    · rfl
    · rename_i x _ _ _ _ _ x'
      simp only [Bool.and_eq_true] at h
      obtain ⟨⟨⟨⟨⟨h1, h2⟩, h3⟩, h4⟩, h5⟩, h6⟩ := h
      rw [Pos.eqb_iff.1 h1, Nat.eq_of_beq_eq_true h2, Nat.eq_of_beq_eq_true h3, Nat.eq_of_beq_eq_true h4, Nat.eq_of_beq_eq_true h5]
      cases x <;> cases x' <;> first | rfl | simp at h6
    · rfl
    · rw [Pos.eqb_iff.1 h]
    · rfl
    · rfl
    · rfl
    · simp only [Bool.and_eq_true] at h
      rw [Nat.eq_of_beq_eq_true h.1, aeq_eq n h.2]
    · rfl
    · simp only [Bool.and_eq_true] at h
      have := aeq_eq n h.2
      cases this
      rw [aeq_eq n h.1]
    · rfl
    · simp only [Bool.and_eq_true] at h
      have := aeq_eq n h.2
      cases this
      rw [aeq_eq n h.1]
    · cases h

end Go.Cg

/- One operation of a region whose order is open. -/
namespace Go.Cg
variable [Syms]

variable {P : Program} {dyn : List TypeId} {μ μ' : Mu} {h h' : Heap} {w w' : World} {v : AVal} {E : Tr Unit} {env : Env} {a : Act} {C : CallF}

/-- An operation, under its guard, once. -/
def oneStep (C : CallF) (x : AOper) (e : Env) (h : Heap) : OR :=
  match x with
  | .o _ op => stepOp op C e h
  | .g s want _ op => match Tr.get s e with
    | some (.bool b) => (match (match want with | true => b | false => !b) with
      | true => stepOp op C e h
      | false => .ok (.tuple []) h)
    | some (.tuple []) => .ok (.tuple []) h
    | _ => .fail

theorem stepOper_one {x : AOper} {k : Env → Heap → Res} {r : Res} (hr : r ≠ .fail) (hk : stepOper x C env h k = r) : ∃ v h1, oneStep C x env h = .ok v h1 ∧ k (putD x.dst v env) h1 = r := by
  cases x with
  | o dst op => exact operO_ok (e' := env) hr hk
  | g s want dst op =>
    have hk : operG s want dst op C env h k = r := hk
    unfold operG at hk
    simp only [oneStep]
    split at hk
    · rename_i b hb
      simp only [hb]
      cases want <;> cases b <;> first
        | exact operO_ok (e' := env) hr hk
        | exact ⟨_, _, rfl, (putDst_eq dst (.tuple []) env fun env => k env h).symm.trans hk⟩
    · rename_i hb
      simp only [hb]
      exact ⟨_, _, rfl, (putDst_eq dst (.tuple []) env fun env => k env h).symm.trans hk⟩
    · exact absurd hk.symm hr

/-- Is it done, or passed over? -/
theorem oneStep_ok {x : AOper} (hk : oneStep C x env h = .ok v h') : (stepOp x.op C env h = .ok v h' ∧ ∀ h2, oneStep C x env h2 = stepOp x.op C env h2) ∨ (v = .tuple [] ∧ h' = h ∧ ∀ h2, oneStep C x env h2 = .ok (.tuple []) h2) := by
  cases x with
  | o dst op => exact .inl ⟨hk, fun _ => rfl⟩
  | g s want dst op =>
    simp only [oneStep] at hk
    split at hk
    · rename_i b hb
      split at hk
      · rename_i hbb
        refine .inl ⟨hk, fun h2 => ?_⟩
        simp only [oneStep, hb, hbb]
        rfl
      · rename_i hbb
        cases hk
        refine .inr ⟨rfl, rfl, fun h2 => ?_⟩
        simp only [oneStep, hb, hbb]
    · rename_i hb
      cases hk
      refine .inr ⟨rfl, rfl, fun h2 => ?_⟩
      simp only [oneStep, hb]
    · cases hk

theorem one0 {x : AOper} (hk0 : kindOf x.op = 0) (hk : oneStep C x env h = .ok v h') : h' = h ∧ ∀ h2, oneStep C x env h2 = .ok v h2 := by
  rcases oneStep_ok hk with ⟨h1, h2⟩ | ⟨rfl, rfl, h3⟩
  · obtain ⟨e, q⟩ := kind0 hk0 h1
    exact ⟨e, fun h3 => by rw [h2]; exact q h3⟩
  · exact ⟨rfl, h3⟩

theorem one1 {x : AOper} (hk0 : kindOf x.op = 1) (hk : oneStep C x env h = .ok v h') : h' = h ∧ ∀ h2, Heap.sub h h2 → oneStep C x env h2 = .ok v h2 := by
  rcases oneStep_ok hk with ⟨h1, h2⟩ | ⟨rfl, rfl, h3⟩
  · obtain ⟨e, q⟩ := kind1 hk0 h1
    exact ⟨e, fun h3 hs => by rw [h2]; exact q h3 hs⟩
  · exact ⟨rfl, fun h2 _ => h3 h2⟩

theorem one2 {x : AOper} (hk0 : kindOf x.op = 2) (hk : oneStep C x env h = .ok v h') :
    (h' = h ∧ ∀ h2, oneStep C x env h2 = .ok v h2) ∨ ∃ o, h' = h.new o ∧ ∀ h2 : Heap, h2.next = h.next → oneStep C x env h2 = .ok v (h2.new o) := by
  rcases oneStep_ok hk with ⟨h1, h2⟩ | ⟨rfl, rfl, h3⟩
  · obtain ⟨o, e, q⟩ := kind2 hk0 h v h' h1
    exact .inr ⟨o, e, fun h3 hn => by rw [h2]; exact q h3 hn⟩
  · exact .inl ⟨rfl, h3⟩

/-! ### The model's side -/
theorem builtin_kind {b : Builtin} {ats : Array TypeId} {args : List AOpd} {aop : AOp} (hc : compBuiltin P b ats args = some aop) : kindOf aop ≠ 2 := by
  unfold compBuiltin at hc
  split at hc <;> (repeat' split at hc) <;> first | (cases hc; done) | (cases hc; simp [kindOf])

/-- Any operation; of a new block it is asked alone that it is one. -/
theorem op_sound2 (hC : CSound P C) {o : Oper} {A : List Ent} {g : Option (Nat × Bool)} {ρ : Operand → Value} {aop : AOp}
    (hc : compOp P dyn A g o.op = some aop) (hs : Sees A g env μ ρ o.op.operands) (hr : HRel μ h w) (hb : Bounded μ h ∨ (kindOf aop = 2 ∧ Fresh μ h h')) (hk : stepOp aop C env h = .ok v h') : Yields' P (execOp ρ o) w (Rel μ h w v h') := by
  rcases hb with hb | ⟨hk2, hf⟩
  · exact op_sound hC hc hs hr hb hk
  obtain ⟨d, op, ty, pos, af, gd⟩ := o
  cases op with
  | move x => exact op_move x hc hs hr hf hk
  | assign x => exact op_assign x hc hs hr hf hk
  | pick c a b => exact op_pick c a b hc hs hr hf hk
  | alloc e => exact op_alloc e hc hs hr hf hk
  | box e x => exact op_box e x hc hs hr hf hk
  | build t ps => exact op_build t ps hc hs hr hf hk
  | buildSlice t n ps => exact op_buildSlice t n ps hc hs hr hf hk
  | load t x => exact op_load t x hc hs hr hf hk
  | store t x y => exact op_store t x y hc hs hr hf hk
  | nilCheck x => exact op_nilCheck x hc hs hr hf hk
  | binOp op t x y q => exact op_binOp op t x y q hc hs hr hf hk
  | unOp op t x => exact op_unOp op t x hc hs hr hf hk
  | convert a b x => exact op_convert a b x hc hs hr hf hk
  | makeInterface t x => exact op_makeInterface t x hc hs hr hf hk
  | makeFunc fn a b =>
    cases fn with
    | func f => exact op_makeFunc f a b hc hs hr hf hk
    | _ => cases hc
  | makeMap t r =>
    cases r with
    | none => exact op_makeMap t hc hs hr hf hk
    | some _ => cases hc
  | makeSlice t l c => exact op_makeSlice t l c hc hs hr hf hk
  | slice t x lo hi mx => exact op_slice t x lo hi mx hc hs hr hf hk
  | fieldAddr t x f => exact op_fieldAddr t x f hc hs hr hf hk
  | field t x f => exact op_field t x f hc hs hr hf hk
  | indexAddr t x i => exact op_indexAddr t x i hc hs hr hf hk
  | index t x i => exact op_index t x i hc hs hr hf hk
  | lookup t m k ok => exact op_lookup t m k ok hc hs hr hf hk
  | mapUpdate t m k x => exact op_mapUpdate t m k x hc hs hr hf hk
  | insert t m k x => exact op_insert t m k x hc hs hr hf hk
  | range t x => exact op_range t x hc hs hr hf hk
  | next x s => exact op_next x s hc hs hr hf hk
  | entry x => exact op_entry x hc hs hr hf hk
  | typeAssert x xt t ok => exact op_typeAssert x xt t ok hc hs hr hf hk
  | extract x i => exact op_extract x i hc hs hr hf hk
  | call c =>
    exfalso
    simp only [compOp] at hc
    split at hc
    · cases hc
    split at hc
    · cases hc; simp [kindOf] at hk2
    · obtain ⟨y, _, rfl⟩ := map_ok hc; simp [kindOf] at hk2
    · obtain ⟨y, _, rfl⟩ := map_ok hc; simp [kindOf] at hk2
    · exact builtin_kind hc hk2
  | _ => cases hc

theorem boundAt_ok {ops : Array Oper} : ∀ {l : List Oper} {t : Nat} {name : String} {x : Operand} {g : Option (Nat × Bool)}, boundAt ops l t = some (name, x, g) →
    ∃ o ∈ l, o.dst = some t ∧ o.op = .makeFunc (.method name) #[x] #[] ∧ guardOf ops o = some g
  | [], t, name, x, g, h => by cases h
  | o :: l, t, name, x, g, h => by
    simp only [boundAt] at h
    split at h
    · rename_i d hd
      split at h
      · rename_i hb
        have := Nat.eq_of_beq_eq_true hb
        subst this
        split at h
        · rename_i nm first captured g' hop hg
          split at h
          · rename_i y h1 h2
            cases h
            have e1 : first = #[x] := by cases first; simp at h1; rw [h1]
            have e2 : captured = #[] := by cases captured; simp at h2; rw [h2]
            subst e1 e2
            exact ⟨o, List.mem_cons_self, hd, hop, hg⟩
          · cases h
        · cases h
      · obtain ⟨o', h1, h2⟩ := boundAt_ok h
        exact ⟨o', List.mem_cons_of_mem _ h1, h2⟩
    · obtain ⟨o', h1, h2⟩ := boundAt_ok h
      exact ⟨o', List.mem_cons_of_mem _ h1, h2⟩

/-- Guard and value, without what was left out. -/
theorem wrap_one {g : Option (Nat × Bool)} {dst : Option Nat} {aop : AOp} {x : AOper} (hw : wrapG [] g dst aop = some x) (hk : oneStep C x env h = .ok v h')
    (hS : ∀ s b, g = some (s, b) → ∀ u, Tr.get (slotPos s) env = some u → VRel μ u (a.eval (.tmp s))) :
    x.dst = dst.map slotPos ∧ x.op = aop ∧ ((Holds a g ∧ stepOp aop C env h = .ok v h') ∨ (¬ Holds a g ∧ v = .tuple [] ∧ h' = h)) := by
  cases g with
  | none =>
    cases hw
    exact ⟨rfl, rfl, .inl ⟨trivial, hk⟩⟩
  | some p =>
    obtain ⟨s, want⟩ := p
    cases hw
    refine ⟨rfl, rfl, ?_⟩
    simp only [oneStep] at hk
    split at hk
    · rename_i b hb
      have hv := hS s want rfl _ hb
      have hs : a.tmps[s]? = some (.bool b) := by
        apply eval_get
        generalize a.eval (.tmp s) = c at hv
        cases hv; rfl
      split at hk
      · rename_i hbb
        have : b = want := by cases want <;> cases b <;> first | rfl | simp at hbb
        subst this
        exact .inl ⟨hs, hk⟩
      · rename_i hbb
        cases hk
        refine .inr ⟨fun hh => ?_, rfl, rfl⟩
        have : b = want := by
          have hh : a.tmps[s]? = some (.bool want) := hh
          rw [hs] at hh; cases hh; rfl
        subst this
        cases b <;> simp at hbb
    · rename_i hb
      cases hk
      refine .inr ⟨fun hh => ?_, rfl, rfl⟩
      have hv := hS s want rfl _ hb
      have hh : a.tmps[s]? = some (.bool want) := hh
      have := eval_of_get hh
      rw [this] at hv
      cases hv
    · cases hk

theorem wpOp_of_at {ops : Array Oper} {i : Nat} {o : Oper} {Q : Exit → Act → World → Prop} {K : Act → World → Prop} (ho : ops[i]? = some o) (hw : wpAt P ops o Q K a w) : wpOp P ops Q i K a w := by
  unfold wpAt at hw
  unfold wpOp
  simp only [ho]
  split
  · rename_i e; rw [if_pos e] at hw; exact .inl hw
  · rename_i e; rw [if_neg e] at hw; exact hw

theorem looks_operand {ops : Array Oper} {o : Oper} {t : Nat} (h : Operand.tmp t ∈ o.op.operands) : t ∈ looksC ops o := by
  unfold looksC Oper.looksAt
  refine List.mem_append_left _ (List.mem_append_left _ (List.mem_filterMap.2 ⟨.tmp t, by simpa using h, rfl⟩))

theorem looks_guard {ops : Array Oper} {o : Oper} {s : Nat} {b : Bool} (hg : guardOf ops o = some (some (s, b))) : s ∈ looksC ops o := by
  unfold guardOf at hg
  split at hg
  · cases hg
  · rename_i j want e
    split at hg
    · rename_i s' hs
      cases hg
      unfold looksC Oper.looksAt
      refine List.mem_append_left _ (List.mem_append_right _ ?_)
      rw [e]
      simp only [hs, Option.toList_some, List.mem_singleton]
    · cases hg

theorem drawn_op (hC : CSound P C) {nt : Nat} {ops : Array Oper} {i : Nat} {o : Oper} {x : AOper} {Q : Exit → Act → World → Prop} {K : Act → World → Prop} (ho : ops[i]? = some o) (hc : compDrawn P dyn E nt ops o = some x)
    (hS : ∀ t ∈ looksC ops o, ∀ u, Tr.get (slotPos t) env = some u → VRel μ u (a.eval (.tmp t)))
    (hM : ∀ t name y g', o.op = .nilCheck (.tmp t) → boundAt ops ops.toList t = some (name, y, g') → Holds a g' → a.eval (.tmp t) = .func (.method name) #[a.eval y] #[])
    (hr : HRel μ h w) (hb : Bounded μ h ∨ (kindOf x.op = 2 ∧ Fresh μ h h')) (hk : oneStep C x env h = .ok v h')
    (hK : ∀ cv w1 μ1, (∀ d, x.dst = some d → VRel μ1 v cv) → HRel μ1 h' w1 → Ext μ h w μ1 h' w1 → (∀ name y g, o.op = .makeFunc (.method name) #[y] #[] → guardOf ops o = some g → Holds a g → cv = .func (.method name) #[a.eval y] #[]) → K (a.put o.dst cv) w1) :
    (∀ d, x.dst = some d → ∃ t, d = slotPos t ∧ o.dst = some t ∧ isOut E t = false ∧ t < nt) ∧ (∀ t, o.dst = some t → t < nt ∧ (isOut E t = false → x.dst = some (slotPos t))) ∧ wpOp P ops Q i K a w := by
  unfold compDrawn at hc
  split at hc
  · cases hc
  rename_i g hg
  have hSg : ∀ s b, g = some (s, b) → ∀ u, Tr.get (slotPos s) env = some u → VRel μ u (a.eval (.tmp s)) := fun s b e u hu => by
    subst e; exact hS s (looks_guard hg) u hu
  have sees : Sees [] g env μ a.eval o.op.operands := by
    intro y hy z u hz hu
    cases y with
    | tmp t =>
      cases hz
      exact hS t (looks_operand hy) u hu
    | const c =>
      obtain ⟨z', hz', rfl⟩ := map_ok hz
      cases hu
      exact ofValue_rel μ 8 hz'
    | func f =>
      cases hz
      cases hu
      have := VRel.func (μ := μ) (slotPos f) [] [] #[] #[] .nil .nil
      rw [slotPos_nat] at this
      exact this
    | global f => cases hz
  have plain : ∀ dst : Option Nat, wrapG [] g dst ((compOp P dyn [] g o.op).getD .bad) = some x → wpOp P ops Q i K a w := fun dst hw => by
    refine wpOp_of_at ho ?_
    obtain ⟨_, hop, hcs⟩ := wrap_one hw hk hSg
    unfold wpAt
    rcases hcs with ⟨hh, hs⟩ | ⟨hh, rfl, rfl⟩
    · rw [if_pos ((wanted_iff hg).2 hh)]
      obtain ⟨aop, hc, hs⟩ := compOp_some hs
      rw [hop, hc] at hb
      refine Yields'.wp (op_sound2 hC hc sees hr hb hs) fun cv w1 hrel => ?_
      obtain ⟨μ1, hv, hr1, hx⟩ := hrel
      refine hK cv w1 μ1 (fun _ _ => hv) hr1 hx fun name y g' e => ?_
      rw [e] at hc; cases hc
    · rw [if_neg (fun e => hh ((wanted_iff hg).1 e))]
      refine hK undef w μ (fun _ _ => .tuple _ _ .nil) hr (Ext.refl rfl rfl rfl rfl) fun name y g' e hg' hh' => ?_
      rw [hg] at hg'
      cases hg'
      exact absurd hh' hh
  -- an operation that writes no slot of the evaluator's, and gives one value
  have out : ∀ aop, wrapG [] g none aop = some x → (∀ u h1, stepOp aop C env h = .ok u h1 → Holds a g → h1 = h ∧ ∃ cv, (execOp a.eval o).run P w = .ok (.value cv) w ∧ (∀ name y, o.op = .makeFunc (.method name) #[y] #[] → cv = .func (.method name) #[a.eval y] #[])) → x.dst = none ∧ wpOp P ops Q i K a w := fun aop hw hst => by
    obtain ⟨hd, _, hcs⟩ := wrap_one hw hk hSg
    refine ⟨hd, wpOp_of_at ho ?_⟩
    rcases hcs with ⟨hh, hs⟩ | ⟨hh, rfl, rfl⟩
    · obtain ⟨rfl, cv, he, hcv⟩ := hst _ _ hs hh
      refine wpAt_value ((wanted_iff hg).2 hh) he ?_
      exact hK cv w μ (fun d hd' => by rw [hd] at hd'; cases hd') hr (Ext.refl rfl rfl rfl rfl) fun name y g' e _ _ => hcv name y e
    · unfold wpAt
      rw [if_neg (fun e => hh ((wanted_iff hg).1 e))]
      refine hK undef w μ (fun _ _ => .tuple _ _ .nil) hr (Ext.refl rfl rfl rfl rfl) fun name y g' e hg' hh' => ?_
      rw [hg] at hg'
      cases hg'
      exact absurd hh' hh
  split at hc
  · rename_i hd
    have hx := (wrap_one hc hk hSg).1
    exact ⟨fun d e => (by rw [hx] at e; cases e), fun t e => (by rw [hd] at e; cases e), plain none hc⟩
  · rename_i d hd
    split at hc
    · cases hc
    rename_i hlt
    have hlt : d < nt := by simpa using hlt
    split at hc
    · rename_i hout
      have hx := (wrap_one hc hk hSg).1
      refine ⟨fun d' e => ?_, fun t e => ?_, plain (some d) hc⟩
      · rw [hx] at e; cases e; exact ⟨d, rfl, hd, hout, hlt⟩
      · rw [hd] at e; cases e; exact ⟨hlt, fun _ => hx⟩
    · rename_i hout
      suffices hh : x.dst = none ∧ wpOp P ops Q i K a w from
        ⟨fun d' e => (by rw [hh.1] at e; cases e), fun t e => (by rw [hd] at e; cases e; exact ⟨hlt, fun ho' => (by rw [hout] at ho'; cases ho')⟩), hh.2⟩
      split at hc
      · rename_i t hop
        split at hc
        case h_2 => cases hc
        rename_i name y g' hbd
        split at hc
        case h_2 => cases hc
        rename_i z hge hz
        refine out _ hc fun u h1 hs hh => ?_
        obtain ⟨b, hbv, hs⟩ := un1_ok (show un1 z env h _ = .ok u h1 from hs)
        split at hs
        case h_2 => cases hs
        rename_i t0 x0
        split at hs
        case h_2 => cases hs
        rename_i hany
        cases hs
        have hmt := hM t name y g' hop hbd (gEq_holds hge hh)
        have hcr : VRel μ (.iface t0 x0) (a.eval y) := by
          cases y with
          | tmp s =>
            cases hz
            refine hS s ?_ _ hbv
            unfold looksC
            refine List.mem_append_right _ ?_
            rw [hop]
            simp only [hbd, List.mem_singleton]
          | const c =>
            obtain ⟨z', hz', rfl⟩ := map_ok hz
            cases hbv
            exact ofValue_rel μ 8 hz'
          | func f => cases hz; cases hbv
          | global f => cases hz
        obtain ⟨f, hm⟩ : ∃ f, methOf P t0 name = some f := by
          obtain ⟨u, hu, hbe⟩ := List.any_eq_true.1 hany
          have hbe := Nat.eq_of_beq_eq_true hbe
          subst hbe
          obtain ⟨q, hq, rfl⟩ := List.mem_map.1 hu
          unfold methTab at hq
          obtain ⟨u, _, h3⟩ := List.mem_filterMap.1 hq
          obtain ⟨k0, hk0, h4⟩ := map_ok h3
          cases h4
          exact ⟨k0, hk0⟩
        generalize hey : a.eval y = cy at hcr hmt
        cases hcr with
        | iface _ _ cx hx =>
        refine ⟨rfl, .func (.method name) #[.iface t0 cx] #[], ?_, fun nm y' e => by rw [hop] at e; cases e⟩
        have hd' : ∀ n, (nilAhead (n + Made.depth) t0 cx name).run P w = .ok (some false) w := fun n => nilAhead_run hm (n + 99)
        obtain ⟨dst, op, ty, pos, af, gd⟩ := o
        simp only at hop
        subst hop
        simp only [execOp, hmt]
        have e0 : (#[Value.iface t0 cx] : Array Value)[0]? = some (Value.iface t0 cx) := rfl
        simp only [e0, Sem.run_bind, run_program, Result.andThen_ok, hd']
        rfl
      · rename_i name first captured hop
        split at hc
        case h_2 => cases hc
        rename_i z h1 h2
        have e1 : first = #[z] := by cases first; simp at h1; rw [h1]
        have e2 : captured = #[] := by cases captured; simp at h2; rw [h2]
        subst e1 e2
        refine out _ hc fun u h1' hs hh => ?_
        cases hs
        obtain ⟨dst, op, ty, pos, af, gd⟩ := o
        simp only at hop
        subst hop
        refine ⟨rfl, .func (.method name) #[a.eval z] #[], ?_, fun nm y' e => by cases e; rfl⟩
        simp [execOp, Instr.makeFunc]
      · cases hc

end Go.Cg

/- Regions whose order is open: heaps with more, what is known while one runs. -/
namespace Go.Cg
variable [Syms]

variable {P : Program} {dyn : List TypeId} {μ μ' : Mu} {h h' : Heap} {w w' : World} {v : AVal} {E : Tr Unit} {env : Env} {a : Act} {C : CallF}

theorem wrapG_dst {g : Option (Nat × Bool)} {dst : Option Nat} {aop : AOp} {x : AOper} (hw : wrapG [] g dst aop = some x) : x.dst = dst.map slotPos ∧ ∀ s want d op, x = .g s want d op → ∃ t b, g = some (t, b) ∧ s = slotPos t := by
  cases g with
  | none => cases hw; exact ⟨rfl, fun s want d op e => by cases e⟩
  | some p =>
    obtain ⟨t, b⟩ := p
    cases hw
    exact ⟨rfl, fun s want d op e => by cases e; exact ⟨t, b, rfl, rfl⟩⟩

theorem compDrawn_dst {nt : Nat} {ops : Array Oper} {o : Oper} {x : AOper} (hc : compDrawn P dyn E nt ops o = some x) :
    (∀ p, x.dst = some p → ∃ t, p = slotPos t ∧ o.dst = some t ∧ isOut E t = false) ∧ (∀ t, o.dst = some t → t < nt ∧ (isOut E t = false → x.dst = some (slotPos t))) ∧
    (∀ s want d op, x = .g s want d op → ∃ t ∈ looksC ops o, s = slotPos t) := by
  unfold compDrawn at hc
  split at hc
  · cases hc
  rename_i g hg
  have guard : ∀ {dst : Option Nat} {aop : AOp}, wrapG [] g dst aop = some x → ∀ s want d op, x = .g s want d op → ∃ t ∈ looksC ops o, s = slotPos t := fun hw s want d op e => by
    obtain ⟨t, b, rfl, rfl⟩ := (wrapG_dst hw).2 s want d op e
    exact ⟨t, looks_guard hg, rfl⟩
  split at hc
  · rename_i hd
    have hx := (wrapG_dst hc).1
    exact ⟨fun p e => (by rw [hx] at e; cases e), fun t e => (by rw [hd] at e; cases e), guard hc⟩
  · rename_i d hd
    split at hc
    · cases hc
    rename_i hlt
    have hlt : d < nt := by simpa using hlt
    split at hc
    · rename_i hout
      have hx := (wrapG_dst hc).1
      exact ⟨fun p e => (by rw [hx] at e; cases e; exact ⟨d, rfl, hd, hout⟩), fun t e => (by rw [hd] at e; cases e; exact ⟨hlt, fun _ => hx⟩), guard hc⟩
    · rename_i hout
      have fin : ∀ {aop : AOp}, wrapG [] g none aop = some x → (∀ p, x.dst = some p → ∃ t, p = slotPos t ∧ o.dst = some t ∧ isOut E t = false) ∧ (∀ t, o.dst = some t → t < nt ∧ (isOut E t = false → x.dst = some (slotPos t))) ∧
          (∀ s want d op, x = .g s want d op → ∃ t ∈ looksC ops o, s = slotPos t) := fun hw =>
        ⟨fun p e => (by rw [(wrapG_dst hw).1] at e; cases e), fun t e => (by rw [hd] at e; cases e; exact ⟨hlt, fun ho' => (by rw [hout] at ho'; cases ho')⟩), guard hw⟩
      split at hc
      · split at hc
        case h_2 => cases hc
        split at hc
        case h_2 => cases hc
        exact fin hc
      · split at hc
        case h_2 => cases hc
        exact fin hc
      · cases hc

/-! ### Heaps with more -/
structure Grow (h h' : Heap) : Prop where
  next : h.next.nat ≤ h'.next.nat
  sub : Heap.sub h h'
  old : ∀ b o, h'.get b = some o → h.get b = some o ∨ (h.next.nat ≤ b.nat ∧ b.nat < h'.next.nat)

theorem Grow.refl (h : Heap) : Grow h h := ⟨Nat.le_refl _, fun _ _ x => x, fun _ _ x => .inl x⟩

theorem Grow.new {o : ABlk} (hs : ∀ b o, h.get b = some o → b.nat < h.next.nat) : Grow h (h.new o) where
  next := by rw [Heap.next_new, Pos.nat_succ]; exact Nat.le_succ _
  sub := fun b o' hb => by
    by_cases e : h.next = b
    · subst e; exact absurd (hs _ _ hb) (Nat.lt_irrefl _)
    · rw [Heap.get_new_other o h e]; exact hb
  old := fun b o' hb => by
    by_cases e : h.next = b
    · subst e; exact .inr ⟨Nat.le_refl _, by rw [Heap.next_new, Pos.nat_succ]; exact Nat.lt_succ_self _⟩
    · rw [Heap.get_new_other o h e] at hb; exact .inl hb

theorem HRel.grow (hr : HRel μ h w) (hb : Bounded μ h) (g : Grow h h') : HRel μ h' w where
  live := fun b o im hg hm => by
    rcases g.old b o hg with h1 | h1
    · exact hr.live b o im h1 hm
    · rw [hb b h1.1] at hm; cases hm
  inj := fun b b' o o' im im' h1 h2 m1 m2 e => by
    rcases g.old b o h1 with k1 | k1
    · rcases g.old b' o' h2 with k2 | k2
      · exact hr.inj b b' o o' im im' k1 k2 m1 m2 e
      · rw [hb b' k2.1] at m2; cases m2
    · rw [hb b k1.1] at m1; cases m1
  bound := hr.bound
  scope := fun b o hg => by
    rcases g.old b o hg with h1 | h1
    · exact Nat.lt_of_lt_of_le (hr.scope b o h1) g.next
    · exact h1.2

theorem Bounded.grow (hb : Bounded μ h) (g : Grow h h') : Bounded μ h' := fun b hx => hb b (Nat.le_trans g.next hx)

theorem Ext.grow {μ0 : Mu} {h0 : Heap} {w0 : World} (hx : Ext μ0 h0 w0 μ h w) (hb : Bounded μ h) (g : Grow h h') : Ext μ0 h0 w0 μ h' w where
  mono := hx.mono
  newid := fun b im h1 h2 => ⟨(hx.newid b im h1 h2).1, Nat.lt_of_lt_of_le (hx.newid b im h1 h2).2 g.next⟩
  next := Nat.le_trans hx.next g.next
  hsize := hx.hsize
  frame := hx.frame
  aframe := fun b o h1 h2 => g.sub _ _ (hx.aframe b o h1 h2)
  own := fun b o im h1 h2 h3 => by
    rcases g.old b o h1 with k | k
    · exact hx.own b o im k h2 h3
    · rw [hb b k.1] at h2; cases h2
  os := hx.os
  output := hx.output
  tape := hx.tape

/-- A block that the evaluator made ahead of the model. -/
theorem late_block {μ0 : Mu} {h0 : Heap} {w0 w1 : World} {μ1 : Mu} {G : Heap} {b : Pos} {o : ABlk} (hr : HRel μ G w) (hb : Bounded μ G) (hx : Ext μ0 h0 w0 μ G w) (hg : G.get b = some o) (hm : μ b = none) (hlo : h0.next.nat ≤ b.nat)
    (hr1 : HRel μ1 (Heap.new o (.mk b .lf)) w1) (hx1 : Ext μ (.mk b .lf) w μ1 (Heap.new o (.mk b .lf)) w1) :
    HRel μ1 G w1 ∧ Bounded μ1 G ∧ Ext μ0 h0 w0 μ1 G w1 ∧ ∀ c, c ≠ b → μ1 c = μ c := by
  have hlt := hr.scope b o hg
  have hoth : ∀ c, c ≠ b → μ1 c = μ c := fun c hc => by
    cases hmc : μ c with
    | some im => exact hx1.mono c im hmc
    | none =>
      cases h1 : μ1 c with
      | none => rfl
      | some im =>
        have h2 := hx1.newid c im h1 hmc
        have h3 : b.nat ≤ c.nat := h2.1
        have h4 : c.nat < b.succ.nat := h2.2
        rw [Pos.nat_succ] at h4
        exact absurd (Pos.nat_inj (by omega)) hc
  have hfr : ∀ β, β < w.heap.size → w1.heap[β]? = w.heap[β]? := fun β hβ => hx1.frame β hβ fun c x im hc => by
    have : Tr.get c (.lf : Tr ABlk) = some x := hc
    rw [Tr.get_lf] at this; cases this
  have hnew : (Heap.new o (.mk b .lf)).get b = some o := Heap.get_new_same o (.mk b .lf)
  have hfar : ∀ im, μ1 b = some im → w.heap.size ≤ im.blk := fun im h1 => by
    rcases Nat.lt_or_ge im.blk w.heap.size with h2 | h2
    · obtain ⟨c, x, im', hc, _⟩ := hx1.own b o im hnew h1 h2
      have : Tr.get c (.lf : Tr ABlk) = some x := hc
      rw [Tr.get_lf] at this; cases this
    · exact h2
  refine ⟨⟨fun c x im hc h1 => ?_, fun c c' x x' im im' hc hc' h1 h2 e => ?_, fun c im h1 => hr1.bound c im h1, hr.scope⟩, fun c hc => ?_, ⟨Mu.le_trans hx.mono hx1.mono, fun c im h1 h2 => ?_, hx.next, Nat.le_trans hx.hsize hx1.hsize, fun β hβ hn => ?_, hx.aframe, fun c x im hc h1 h2 => ?_, hx1.os.trans hx.os, hx1.output.trans hx.output, hx1.tape.trans hx.tape⟩, hoth⟩
  · by_cases e : c = b
    · subst e; rw [hg] at hc; cases hc; exact hr1.live c o im hnew h1
    · have h2 := hoth c e ▸ h1
      obtain ⟨obj, k1, k2⟩ := hr.live c x im hc h2
      exact ⟨obj, by rw [hfr _ (hr.bound c im h2)]; exact k1, k2.mono hx1.mono⟩
  · by_cases e1 : c = b
    · by_cases e2 : c' = b
      · rw [e1, e2]
      · subst e1
        rw [hoth c' e2] at h2
        have := hfar im h1
        have := hr.bound c' im' h2
        omega
    · by_cases e2 : c' = b
      · subst e2
        rw [hoth c e1] at h1
        have := hfar im' h2
        have := hr.bound c im h1
        omega
      · rw [hoth c e1] at h1
        rw [hoth c' e2] at h2
        exact hr.inj c c' x x' im im' hc hc' h1 h2 e
  · have e : c ≠ b := fun e => by subst e; omega
    rw [hoth c e]; exact hb c hc
  · by_cases e : c = b
    · subst e; exact ⟨hlo, hlt⟩
    · rw [hoth c e] at h1; exact hx.newid c im h1 h2
  · rw [hfr β (Nat.lt_of_lt_of_le hβ hx.hsize)]; exact hx.frame β hβ hn
  · by_cases e : c = b
    · subst e
      have := hfar im h1
      have := hx.hsize
      omega
    · rw [hoth c e] at h1; exact hx.own c x im hc h1 h2

/-! ### What is known of operations that the evaluator has run -/
/-- One that has run, and what it gave. -/
def Weak (C : CallF) (e : Env) (I : DInfo) : Prop :=
  ∃ ei v h1 h2, (∀ t ∈ I.looks, Tr.get (slotPos t) ei = Tr.get (slotPos t) e) ∧ (∀ p, I.x.dst = some p → Tr.get p e = some v) ∧ oneStep C I.x ei h1 = .ok v h2

/-- It would do the same now. -/
def Fact (C : CallF) (e : Env) (G : Heap) (μ : Mu) (B : Nat → Option Pos) (lo : Nat) (i : Nat) (I : DInfo) : Prop :=
  ∃ ei v, (∀ t ∈ I.looks, Tr.get (slotPos t) ei = Tr.get (slotPos t) e) ∧ (∀ p, I.x.dst = some p → Tr.get p e = some v) ∧
    (oneStep C I.x ei G = .ok v G ∨ ∃ b o, B i = some b ∧ kindOf I.x.op = 2 ∧ lo ≤ b.nat ∧ b.nat < G.next.nat ∧ μ b = none ∧ G.get b = some o ∧ oneStep C I.x ei (.mk b .lf) = .ok v (Heap.new o (.mk b .lf)))

theorem next_ne_new {o : ABlk} : h.new o ≠ h := fun e => by
  have := congrArg (fun h => h.next.nat) e
  simp only [Heap.next_new, Pos.nat_succ] at this
  omega

/-- It would still do the same where there is more. -/
theorem Fact.grow {e : Env} {G G' : Heap} {B : Nat → Option Pos} {lo i : Nat} {I : DInfo} (hn : heavy I = false) (hf : Fact C e G μ B lo i I) (g : Grow G G') : Fact C e G' μ B lo i I := by
  obtain ⟨ei, v, h1, h2, h3⟩ := hf
  refine ⟨ei, v, h1, h2, ?_⟩
  rcases h3 with h3 | ⟨b, o, k1, k2, k3, k4, k5, k6, k7⟩
  · left
    have hk : kindOf I.x.op = 0 ∨ kindOf I.x.op = 1 ∨ kindOf I.x.op = 2 := by
      simp only [heavy, Bool.or_eq_false_iff] at hn
      have := hn.2
      have h4 : ¬ 3 ≤ kindOf I.x.op := fun h => by rw [Nat.ble_eq_true_of_le h] at this; cases this
      omega
    rcases hk with hk | hk | hk
    · exact (one0 hk h3).2 _
    · exact (one1 hk h3).2 _ g.sub
    · rcases one2 hk h3 with ⟨_, q⟩ | ⟨o, q, _⟩
      · exact q _
      · exact absurd q.symm next_ne_new
  · exact .inr ⟨b, o, k1, k2, k3, Nat.lt_of_lt_of_le k4 g.next, k5, g.sub _ _ k6, k7⟩

/-- It would still do the same behind another operation, if it reads nothing. -/
theorem Fact.ext {e : Env} {G G' : Heap} {w w1 : World} {μ1 : Mu} {B : Nat → Option Pos} {lo i : Nat} {I : DInfo} (hn : heavy I = false) (hrd : reads I = false) (hf : Fact C e G μ B lo i I) (hx : Ext μ G w μ1 G' w1) : Fact C e G' μ1 B lo i I := by
  obtain ⟨ei, v, h1, h2, h3⟩ := hf
  refine ⟨ei, v, h1, h2, ?_⟩
  rcases h3 with h3 | ⟨b, o, k1, k2, k3, k4, k5, k6, k7⟩
  · left
    have hk : kindOf I.x.op = 0 ∨ kindOf I.x.op = 2 := by
      simp only [heavy, Bool.or_eq_false_iff] at hn
      have := hn.2
      have h4 : ¬ 3 ≤ kindOf I.x.op := fun h => by rw [Nat.ble_eq_true_of_le h] at this; cases this
      have h5 : kindOf I.x.op ≠ 1 := fun e => by simp [reads, e] at hrd
      omega
    rcases hk with hk | hk
    · exact (one0 hk h3).2 _
    · rcases one2 hk h3 with ⟨_, q⟩ | ⟨o, q, _⟩
      · exact q _
      · exact absurd q.symm next_ne_new
  · refine .inr ⟨b, o, k1, k2, k3, Nat.lt_of_lt_of_le k4 hx.next, ?_, hx.aframe b o k6 k5, k7⟩
    cases hm : μ1 b with
    | none => rfl
    | some im => have := (hx.newid b im hm k5).1; omega

theorem Fact.sameEnv {e e' : Env} {G : Heap} {B : Nat → Option Pos} {lo i : Nat} {I : DInfo} (hf : Fact C e G μ B lo i I) (h1 : ∀ t ∈ I.looks, Tr.get (slotPos t) e' = Tr.get (slotPos t) e) (h2 : ∀ p, I.x.dst = some p → Tr.get p e' = Tr.get p e) : Fact C e' G μ B lo i I := by
  obtain ⟨ei, v, k1, k2, k3⟩ := hf
  exact ⟨ei, v, fun t ht => (k1 t ht).trans (h1 t ht).symm, fun p hp => (h2 p hp).trans (k2 p hp), k3⟩

theorem Weak.sameEnv {e e' : Env} {I : DInfo} (hf : Weak C e I) (h1 : ∀ t ∈ I.looks, Tr.get (slotPos t) e' = Tr.get (slotPos t) e) (h2 : ∀ p, I.x.dst = some p → Tr.get p e' = Tr.get p e) : Weak C e' I := by
  obtain ⟨ei, v, h, h', k1, k2, k3⟩ := hf
  exact ⟨ei, v, h, h', fun t ht => (k1 t ht).trans (h1 t ht).symm, fun p hp => (h2 p hp).trans (k2 p hp), k3⟩

theorem Fact.weak {e : Env} {G : Heap} {B : Nat → Option Pos} {lo i : Nat} {I : DInfo} (hf : Fact C e G μ B lo i I) : Weak C e I := by
  obtain ⟨ei, v, k1, k2, k3⟩ := hf
  rcases k3 with k3 | ⟨b, o, _, _, _, _, _, _, k7⟩
  · exact ⟨ei, v, _, _, k1, k2, k3⟩
  · exact ⟨ei, v, _, _, k1, k2, k7⟩

theorem reOper_ok {x : AOper} {k : Env → Heap → Res} {r : Res} (hr : r ≠ .fail) (hk : reOper x C env h k = r) (hk1 : kindOf x.op = 1) {ei : Env} {h1 h2 : Heap} (hw : oneStep C x ei h1 = .ok v h2) (hst : ∀ p, x.dst = some p → Tr.get p env = some v)
    (hgd : ∀ s want d op, x = .g s want d op → Tr.get s ei = Tr.get s env) : k env h = r ∧ oneStep C x env h = .ok v h := by
  have re : ∀ {dst : Option Pos} {op : AOp}, kindOf op = 1 → (∀ p, dst = some p → Tr.get p env = some v) → reK dst op C env h k = r → k env h = r ∧ stepOp op C env h = .ok v h := fun {dst op} hk1 hst hk => by
    unfold reK at hk
    split at hk
    · rename_i p v2 h2 hs
      rw [hst p rfl] at hk
      simp only [] at hk
      split at hk
      · rename_i hq
        have := aeq_eq 64 hq
        subst this
        have e := (kind1 hk1 hs).1
        subst e
        exact ⟨hk, hs⟩
      · exact absurd hk.symm hr
    · exact absurd hk.symm hr
  cases x with
  | o dst op => exact re hk1 hst hk
  | g s want dst op =>
    have e := hgd s want dst op rfl
    simp only [reOper] at hk
    simp only [oneStep] at hw ⊢
    rw [e] at hw
    split at hk
    · rename_i b hb
      rw [hb] at hw ⊢
      cases want <;> cases b <;> first
        | exact re hk1 hst hk
        | (have e2 : v = .tuple [] := by (have hw : OR.ok (.tuple []) h1 = .ok v h2 := hw); cases hw; rfl
           subst e2; exact ⟨hk, rfl⟩)
    · rename_i hb
      rw [hb] at hw ⊢
      have e2 : v = .tuple [] := by
        have hw : OR.ok (.tuple []) h1 = .ok v h2 := hw
        cases hw; rfl
      subst e2
      exact ⟨hk, rfl⟩
    · exact absurd hk.symm hr

end Go.Cg

/- Regions whose order is open: what holds while one runs. -/
namespace Go.Cg
variable [Syms]

variable {P : Program} {dyn : List TypeId} {E : Tr Unit} {C : CallF} {nt : Nat} {ops : Array Oper} {infos : List DInfo}

theorem Anc.lt (hp : Plan P dyn E nt ops infos) {j i : Nat} (h : Anc ops j i) : j < i := by
  have one : ∀ {j i : Nat}, BindsAt ops j i → j < i := fun {j i} hb => by
    obtain ⟨o, h1, h2⟩ := hb
    have hlt : i < infos.length := by rw [hp.len]; exact (Array.getElem?_eq_some_iff.1 h1).1
    have hI : infos[i]? = some infos[i] := List.getElem?_eq_getElem hlt
    exact hp.back i _ j hI ((hp.binds hI).1 ⟨o, h1, h2⟩)
  induction h with
  | one h => exact one h
  | far h hb ih => exact Nat.lt_trans ih (one hb)

/-- What holds while a region whose order is open runs. D: what the evaluator has run; L: what the model has. S: of which it is known that they would do the same. -/
structure Inv (C : CallF) (E : Tr Unit) (nt : Nat) (ops : Array Oper) (infos : List DInfo) (μ0 : Mu) (h0 : Heap) (w0 : World) (a0 : Act) (L : Nat → Prop) (a : Act) (w : World) (μ : Mu)
    (S : Nat → DInfo → Prop) (D : List Nat) (e : Env) (h : Heap) (B : Nat → Option Pos) : Prop where
  closedL : ∀ i, L i → ∀ j, BindsAt ops j i → L j
  sub : ∀ i, L i → i ∈ D
  closedD : ∀ i ∈ D, ∀ j, BindsAt ops j i → j ∈ D
  bound : ∀ i ∈ D, i < infos.length
  heavyL : ∀ i I, infos[i]? = some I → i ∈ D → heavy I = true → L i
  slots : ∀ t v, (∀ i I, infos[i]? = some I → i ∈ D → ¬ L i → I.o.dst ≠ some t) → Tr.get (slotPos t) e = some v → VRel μ v (a.eval (.tmp t))
  outs : ∀ t, isOut E t = true → Tr.get (slotPos t) e = none
  meths : ∀ i I d name y g, infos[i]? = some I → L i → I.o.dst = some d → I.o.op = .makeFunc (.method name) #[y] #[] → guardOf ops I.o = some g → Holds a g → a.eval (.tmp d) = .func (.method name) #[a.eval y] #[]
  heap : HRel μ h w
  bnd : Bounded μ h
  ext : Ext μ0 h0 w0 μ h w
  size : a.tmps.size = a0.tmps.size
  nts : nt ≤ a0.tmps.size
  defers : a.defers = a0.defers
  weak : ∀ i I, infos[i]? = some I → i ∈ D → ¬ L i → Weak C e I
  fact : ∀ i I, infos[i]? = some I → i ∈ D → ¬ L i → S i I → Fact C e h μ B h0.next.nat i I
  binj : ∀ i j b, B i = some b → B j = some b → i = j
  bin : ∀ i b, B i = some b → i ∈ D ∧ b.nat < h.next.nat

section
variable {μ0 : Mu} {h0 : Heap} {w0 : World} {a0 : Act} {L : Nat → Prop} {a : Act} {w : World} {μ : Mu} {S : Nat → DInfo → Prop} {D : List Nat} {e : Env} {h : Heap} {B : Nat → Option Pos}

theorem putD_other {dst : Option Pos} {v : AVal} {p : Pos} (hn : ∀ q, dst = some q → q ≠ p) : Tr.get p (putD dst v e) = Tr.get p e := by
  cases dst with
  | none => rfl
  | some q => exact Tr.get_put_other _ _ _ _ (hn q rfl)

theorem putD_same {dst : Option Pos} {v : AVal} {p : Pos} (hd : dst = some p) : Tr.get p (putD dst v e) = some v := by
  subst hd; exact Tr.get_put_same _ _ _

/-- An operation's slot is not one that another looks at, nor another's own. -/
theorem Inv.keeps (hp : Plan P dyn E nt ops infos) (hi : Inv C E nt ops infos μ0 h0 w0 a0 L a w μ S D e h B) {i j : Nat} {I J : DInfo} (hI : infos[i]? = some I) (hJ : infos[j]? = some J) (hiD : i ∉ D) (hjD : j ∈ D) (hno : heavy I = true → ¬ Anc ops j i) {v : AVal} :
    (∀ t ∈ J.looks, Tr.get (slotPos t) (putD I.x.dst v e) = Tr.get (slotPos t) e) ∧ (∀ p, J.x.dst = some p → Tr.get p (putD I.x.dst v e) = Tr.get p e) := by
  obtain ⟨hx, _, _⟩ := compDrawn_dst (hp.comp i I hI)
  obtain ⟨hy, _, _⟩ := compDrawn_dst (hp.comp j J hJ)
  refine ⟨fun t ht => putD_other fun q hq e' => ?_, fun p hpd => putD_other fun q hq e' => ?_⟩
  · obtain ⟨t', rfl, h2, _⟩ := hx q hq
    have := slotPos_inj e'
    subst this
    rcases hp.seen i j I J _ hI hJ h2 ht with h3 | ⟨h3, h4, _⟩
    · exact hiD (h3.of_mem (L := fun k => k ∈ D) (fun k hk => hi.closedD k hk) hjD)
    · exact hno h3 h4
  · obtain ⟨t', rfl, h2, _⟩ := hx q hq
    obtain ⟨t2, e2, h3, _⟩ := hy p hpd
    rw [e2] at e'
    have := slotPos_inj e'
    subst this
    have := hp.once i j I J _ hI hJ h2 h3
    subst this
    exact hiD hjD

/-- The evaluator runs one that is not heavy. -/
theorem Inv.emit (hp : Plan P dyn E nt ops infos) (hi : Inv C E nt ops infos μ0 h0 w0 a0 L a w μ S D e h B) {i : Nat} {I : DInfo} {v : AVal} {h1 : Heap} (hI : infos[i]? = some I) (hiD : i ∉ D) (hh : heavy I = false) (hon : ∀ j ∈ I.ons, j ∈ D)
    (hk : oneStep C I.x e h = .ok v h1) : ∃ B', Inv C E nt ops infos μ0 h0 w0 a0 L a w μ S (i :: D) (putD I.x.dst v e) h1 B' := by
  have hnL : ¬ L i := fun hl => hiD (hi.sub i hl)
  obtain ⟨hx, hx2, _⟩ := compDrawn_dst (hp.comp i I hI)
  have hk3 : kindOf I.x.op = 0 ∨ kindOf I.x.op = 1 ∨ kindOf I.x.op = 2 := by
    simp only [heavy, Bool.or_eq_false_iff] at hh
    have := hh.2
    have h4 : ¬ 3 ≤ kindOf I.x.op := fun h => by rw [Nat.ble_eq_true_of_le h] at this; cases this
    omega
  -- the heap, and what is known of the operation itself
  have key : ∃ B' : Nat → Option Pos, Grow h h1 ∧ (∀ j, j ≠ i → B' j = B j) ∧ (∀ b, B' i = some b → b = h.next ∧ b.nat < h1.next.nat) ∧ (oneStep C I.x e h1 = .ok v h1 ∨ ∃ b o, B' i = some b ∧ kindOf I.x.op = 2 ∧ h0.next.nat ≤ b.nat ∧ b.nat < h1.next.nat ∧ μ b = none ∧ h1.get b = some o ∧ oneStep C I.x e (.mk b .lf) = .ok v (Heap.new o (.mk b .lf))) := by
    have same : h1 = h → (∀ h2, oneStep C I.x e h2 = .ok v h2) ∨ oneStep C I.x e h1 = .ok v h1 → ∃ B' : Nat → Option Pos, Grow h h1 ∧ (∀ j, j ≠ i → B' j = B j) ∧ (∀ b, B' i = some b → b = h.next ∧ b.nat < h1.next.nat) ∧ (oneStep C I.x e h1 = .ok v h1 ∨ ∃ b o, B' i = some b ∧ kindOf I.x.op = 2 ∧ h0.next.nat ≤ b.nat ∧ b.nat < h1.next.nat ∧ μ b = none ∧ h1.get b = some o ∧ oneStep C I.x e (.mk b .lf) = .ok v (Heap.new o (.mk b .lf))) := fun e1 q => by
      subst e1
      refine ⟨fun j => if j = i then none else B j, Grow.refl _, fun j hj => if_neg hj, fun b hb => ?_, .inl (q.elim (fun q => q _) id)⟩
      simp at hb
    rcases hk3 with h0' | h0' | h0'
    · obtain ⟨e1, q⟩ := one0 h0' hk
      exact same e1 (.inl q)
    · obtain ⟨e1, q⟩ := one1 h0' hk
      exact same e1 (.inr (q _ (by rw [e1]; exact fun _ _ x => x)))
    · rcases one2 h0' hk with ⟨e1, q⟩ | ⟨o, e1, q⟩
      · exact same e1 (.inl q)
      · subst e1
        refine ⟨fun j => if j = i then some h.next else B j, Grow.new hi.heap.scope, fun j hj => if_neg hj, fun b hb => ?_, .inr ⟨h.next, o, if_pos rfl, h0', hi.ext.next, ?_, hi.bnd _ (Nat.le_refl _), Heap.get_new_same _ _, q _ rfl⟩⟩
        · simp at hb
          subst hb
          exact ⟨rfl, by rw [Heap.next_new, Pos.nat_succ]; exact Nat.lt_succ_self _⟩
        · rw [Heap.next_new, Pos.nat_succ]; exact Nat.lt_succ_self _
  obtain ⟨B', hg, hB1, hB2, hfi⟩ := key
  have hself : ∀ t ∈ I.looks, Tr.get (slotPos t) e = Tr.get (slotPos t) (putD I.x.dst v e) := fun t ht => by
    refine (putD_other fun q hq e' => ?_).symm
    obtain ⟨t', rfl, h2, _⟩ := hx q hq
    have := slotPos_inj e'
    subst this
    rcases hp.seen i i I I _ hI hI h2 ht with h3 | ⟨_, h3, _⟩ <;> exact absurd (h3.lt hp) (Nat.lt_irrefl _)
  have hfact : Fact C (putD I.x.dst v e) h1 μ B' h0.next.nat i I := ⟨e, v, hself, fun p hpd => putD_same hpd, hfi⟩
  have hkeep : ∀ j J, infos[j]? = some J → j ∈ D → _ := fun j J hJ hjD => hi.keeps hp hI hJ hiD hjD (fun hhv => by rw [hh] at hhv; cases hhv) (v := v)
  refine ⟨B', hi.closedL, fun j hj => List.mem_cons_of_mem _ (hi.sub j hj), fun j hj k hk => ?_, fun j hj => ?_, fun j J hJ hj hv => ?_, fun t u hun hu => ?_, fun t ht => ?_, hi.meths, hi.heap.grow hi.bnd hg, hi.bnd.grow hg, hi.ext.grow hi.bnd hg, hi.size, hi.nts, hi.defers, fun j J hJ hj hn => ?_, fun j J hJ hj hn hs => ?_, fun j k b hj hk => ?_, fun j b hj => ?_⟩
  · rcases List.mem_cons.1 hj with rfl | hj
    · exact List.mem_cons_of_mem _ (hon k ((hp.binds hI).1 hk))
    · exact List.mem_cons_of_mem _ (hi.closedD j hj k hk)
  · rcases List.mem_cons.1 hj with rfl | hj
    · exact (List.getElem?_eq_some_iff.1 hI).1
    · exact hi.bound j hj
  · rcases List.mem_cons.1 hj with rfl | hj
    · rw [hI] at hJ; cases hJ; rw [hh] at hv; cases hv
    · exact hi.heavyL j J hJ hj hv
  · refine hi.slots t u (fun j J hJ hj hn => hun j J hJ (List.mem_cons_of_mem _ hj) hn) ?_
    rw [← hu]
    refine (putD_other fun q hq e' => ?_).symm
    obtain ⟨t', rfl, h2, _⟩ := hx q hq
    have := slotPos_inj e'
    subst this
    exact hun i I hI List.mem_cons_self hnL h2
  · rw [putD_other fun q hq e' => ?_]
    · exact hi.outs t ht
    · obtain ⟨t', rfl, _, h3⟩ := hx q hq
      have := slotPos_inj e'
      subst this
      rw [ht] at h3; cases h3
  · rcases List.mem_cons.1 hj with rfl | hj
    · rw [hI] at hJ; cases hJ; exact hfact.weak
    · obtain ⟨k1, k2⟩ := hkeep j J hJ hj
      exact (hi.weak j J hJ hj hn).sameEnv k1 k2
  · rcases List.mem_cons.1 hj with rfl | hj
    · rw [hI] at hJ; cases hJ; exact hfact
    · obtain ⟨k1, k2⟩ := hkeep j J hJ hj
      have hJh : heavy J = false := by
        cases hv : heavy J with
        | false => rfl
        | true => exact absurd (hi.heavyL j J hJ hj hv) hn
      have hne : j ≠ i := fun e => hiD (e ▸ hj)
      have hf := ((hi.fact j J hJ hj hn hs).grow hJh hg).sameEnv k1 k2
      obtain ⟨ei, u, q1, q2, q3⟩ := hf
      refine ⟨ei, u, q1, q2, q3.imp id fun ⟨b, o, r1, r2⟩ => ⟨b, o, by rw [hB1 j hne]; exact r1, r2⟩⟩
  · by_cases e1 : j = i
    · by_cases e2 : k = i
      · rw [e1, e2]
      · subst e1
        rw [hB1 k e2] at hk
        have h1' := (hB2 b hj).1
        have h2' := (hi.bin k b hk).2
        rw [h1'] at h2'; exact absurd h2' (Nat.lt_irrefl _)
    · by_cases e2 : k = i
      · subst e2
        rw [hB1 j e1] at hj
        have h1' := (hB2 b hk).1
        have h2' := (hi.bin j b hj).2
        rw [h1'] at h2'; exact absurd h2' (Nat.lt_irrefl _)
      · rw [hB1 j e1] at hj
        rw [hB1 k e2] at hk
        exact hi.binj j k b hj hk
  · by_cases e1 : j = i
    · subst e1; exact ⟨List.mem_cons_self, (hB2 b hj).2⟩
    · rw [hB1 j e1] at hj
      exact ⟨List.mem_cons_of_mem _ (hi.bin j b hj).1, Nat.lt_of_lt_of_le (hi.bin j b hj).2 hg.next⟩

theorem runDops_false {x : AOper} {l : List (Bool × AOper)} : runDops C ((false, x) :: l) e h = stepOper x C e h (runDops C l) := rfl
theorem runDops_true {x : AOper} {l : List (Bool × AOper)} : runDops C ((true, x) :: l) e h = reOper x C e h (runDops C l) := rfl

theorem atX_cons {b : Bool} {i : Nat} {l : List Nat} {I : DInfo} (hI : infos[i]? = some I) : atX infos b (i :: l) = (b, I.x) :: atX infos b l := by
  simp only [atX, List.filterMap_cons, nth_eq, hI, Option.map_some]

/-- A row of them. -/
theorem Inv.emits (hp : Plan P dyn E nt ops infos) {r : Res} (hr : r ≠ .fail) {tail : List (Bool × AOper)} : ∀ {runs : List Nat} {D D' : List Nat} {e : Env} {h : Heap} {B : Nat → Option Pos}, Inv C E nt ops infos μ0 h0 w0 a0 L a w μ S D e h B → chkRuns infos D runs = some D' →
    runDops C (atX infos false runs ++ tail) e h = r → ∃ e' h' B', Inv C E nt ops infos μ0 h0 w0 a0 L a w μ S D' e' h' B' ∧ runDops C tail e' h' = r
  | [], D, D', e, h, B, hi, hc, hk => by
    cases hc
    exact ⟨e, h, B, hi, hk⟩
  | i :: runs, D, D', e, h, B, hi, hc, hk => by
    simp only [chkRuns, nth_eq] at hc
    split at hc
    · cases hc
    rename_i I hI
    split at hc
    case h_2 => cases hc
    rename_i hb
    simp only [Bool.and_eq_true, Bool.not_eq_true'] at hb
    obtain ⟨⟨hb1, hb2⟩, hb3⟩ := hb
    rw [atX_cons hI, List.cons_append, runDops_false] at hk
    obtain ⟨v, h1, k1, k2⟩ := stepOper_one hr hk
    obtain ⟨B', hi'⟩ := hi.emit hp hI (hasN_not.1 hb1) hb2 (fun j hj => hasN_iff.1 (List.all_eq_true.1 hb3 j hj)) k1
    exact Inv.emits hp hr hi' hc k2

/-- Those that are looked at again. -/
theorem Inv.again (hp : Plan P dyn E nt ops infos) {r : Res} (hr : r ≠ .fail) {tail : List (Bool × AOper)} (hi : Inv C E nt ops infos μ0 h0 w0 a0 L a w μ S D e h B) : ∀ {res : List Nat}, (∀ i ∈ res, i ∈ D) →
    runDops C (atX infos true res ++ tail) e h = r → runDops C tail e h = r ∧ ∀ i ∈ res, ∀ I, infos[i]? = some I → ¬ L i → reads I = true → Fact C e h μ B h0.next.nat i I
  | [], _, hk => ⟨hk, fun i hi => by cases hi⟩
  | i :: res, hD, hk => by
    have hlt := hi.bound i (hD i List.mem_cons_self)
    have hI : infos[i]? = some infos[i] := List.getElem?_eq_getElem hlt
    generalize infos[i] = I at hI
    rw [atX_cons hI, List.cons_append, runDops_true] at hk
    -- the rest goes on, whatever this one is
    have hrest : runDops C (atX infos true res ++ tail) e h = r := by
      cases hx : I.x with
      | o dst op =>
        rw [hx] at hk
        simp only [reOper, reK] at hk
        split at hk
        · split at hk
          · split at hk
            · exact hk
            · exact absurd hk.symm hr
          · exact absurd hk.symm hr
        · exact absurd hk.symm hr
      | g s want dst op =>
        rw [hx] at hk
        simp only [reOper, reK] at hk
        split at hk
        · split at hk
          · split at hk
            · split at hk
              · split at hk
                · exact hk
                · exact absurd hk.symm hr
              · exact absurd hk.symm hr
            · exact absurd hk.symm hr
          · exact hk
        · exact hk
        · exact absurd hk.symm hr
    obtain ⟨k1, k2⟩ := Inv.again hp hr hi (fun j hj => hD j (List.mem_cons_of_mem _ hj)) hrest
    refine ⟨k1, fun j hj J hJ hn hrd => ?_⟩
    rcases List.mem_cons.1 hj with rfl | hj
    · rw [hI] at hJ; cases hJ
      obtain ⟨ei, v, h1, h2, q1, q2, q3⟩ := hi.weak j I hI (hD j List.mem_cons_self) hn
      have hk1 : kindOf I.x.op = 1 := (Nat.eq_of_beq_eq_true hrd).symm
      have := (reOper_ok hr hk hk1 q3 q2 fun s want d op hx => by
        obtain ⟨t, ht, rfl⟩ := (compDrawn_dst (hp.comp j I hI)).2.2 s want d op hx
        exact q1 t (by rw [hp.looks j I hI]; exact ht)).2
      exact ⟨e, v, fun _ _ => rfl, q2, .inl this⟩
    · exact k2 j hj J hJ hn hrd

end
end Go.Cg

/- Regions in the order of the text; codes. -/
namespace Go.Cg
variable [Syms]

variable {P : Program} {dyn : List TypeId} {μ μ' : Mu} {h h' : Heap} {w w' : World} {v : AVal} {E : Tr Unit} {A : List Ent} {env : Env} {a : Act}

theorem Aft.trans {A' : List Ent} {env1 env2 : Env} {h1 h2 : Heap} {a1 a2 : Act} {w1 w2 : World} {μ1 μ2 : Mu} (hr : HRel μ h w) (x : Aft E A μ h w a env1 h1 a1 w1 μ1) (y : Aft E A' μ1 h1 w1 a1 env2 h2 a2 w2 μ2) : Aft E A' μ h w a env2 h2 a2 w2 μ2 where
  slots := y.slots
  outs := y.outs
  heap := y.heap
  bound := y.bound
  ext := x.ext.trans hr y.ext
  size := y.size.trans x.size
  defers := y.defers.trans x.defers

theorem Aft.nil {env1 : Env} {h1 : Heap} {a1 : Act} {w1 : World} {μ1 : Mu} (x : Aft E A μ h w a env1 h1 a1 w1 μ1) : Aft E [] μ h w a env1 h1 a1 w1 μ1 :=
  ⟨x.slots, fun e he => (by cases he), x.heap, x.bound, x.ext, x.size, x.defers⟩

theorem compOper_sound {C : CallF} (hC : CSound P C) {nt : Nat} {ops : Array Oper} {o : Oper} {c : List AOper} {A' : List Ent} {k : Env → Heap → Res} {r : Res} {Q : Exit → Act → World → Prop} {K : Act → World → Prop} (hc : compOper P dyn E nt ops o A = some (c, A'))
    (hnt : nt ≤ a.tmps.size) (hE : ERel μ E env a) (hA : AInv μ A env a) (hr : HRel μ h w) (hb : Bounded μ h) (hne : r ≠ .fail) (hk : (c = [] ∧ k env h = r) ∨ (∃ x, c = [x] ∧ stepOper x C env h k = r))
    (hK : ∀ env1 h1 a1 w1 μ1, Aft E A' μ h w a env1 h1 a1 w1 μ1 → k env1 h1 = r → K a1 w1) : wpAt P ops o Q K a w := by
  unfold compOper at hc
  split at hc
  · cases hc
  rename_i g hg
  split at hc
  · rename_i hd
    obtain ⟨x, hx, e⟩ := map_ok hc
    cases e
    rcases hk with ⟨e, _⟩ | ⟨x', e, hk⟩
    · cases e
    cases e
    rw [← hd] at hx
    refine plain_sound hC hg hx (fun d hd' => by rw [hd] at hd'; cases hd') hE hA hr hb hne hk fun env1 h1 a1 w1 μ1 haft hk1 => ?_
    rw [hd] at haft
    exact hK _ _ _ _ μ1 haft hk1
  · rename_i d hd
    split at hc
    · cases hc
    rename_i hlt
    have hlt : d < nt := by simpa using hlt
    split at hc
    · rename_i ho
      obtain ⟨x, hx, e⟩ := map_ok hc
      cases e
      rcases hk with ⟨e, _⟩ | ⟨x', e, hk⟩
      · cases e
      cases e
      rw [← hd] at hx
      refine plain_sound hC hg hx (fun d' hd' => by rw [hd] at hd'; cases hd'; exact ⟨Nat.lt_of_lt_of_le hlt hnt, ho⟩) hE hA hr hb hne hk fun env1 h1 a1 w1 μ1 haft hk1 => ?_
      rw [hd] at haft
      exact hK _ _ _ _ μ1 haft hk1
    · rename_i ho
      split at hc
      · cases hc
      rename_i co al hco
      split at hc
      · cases hc
      rename_i A1 ha
      split at hc
      · cases hc
        rcases hk with ⟨_, hk⟩ | ⟨x', e, hk⟩
        · exact out_sound (C := C) hg hd (Nat.lt_of_lt_of_le hlt hnt) ho hco ha hE hA hr hb hne hk hK
        · cases e
      · rename_i c1
        obtain ⟨x, hx, e⟩ := map_ok hc
        cases e
        rcases hk with ⟨e, _⟩ | ⟨x', e, hk⟩
        · cases e
        cases e
        exact out_sound (C := C) hg hd (Nat.lt_of_lt_of_le hlt hnt) ho hco ha hE hA hr hb hne ⟨x, hx, hk⟩ hK

theorem compOper_len {nt : Nat} {ops : Array Oper} {o : Oper} {c : List AOper} {A' : List Ent} (hc : compOper P dyn E nt ops o A = some (c, A')) : c = [] ∨ ∃ x, c = [x] := by
  unfold compOper at hc
  split at hc
  · cases hc
  split at hc
  · obtain ⟨x, _, e⟩ := map_ok hc; cases e; exact .inr ⟨x, rfl⟩
  · split at hc
    · cases hc
    split at hc
    · obtain ⟨x, _, e⟩ := map_ok hc; cases e; exact .inr ⟨x, rfl⟩
    · split at hc
      · cases hc
      split at hc
      · cases hc
      split at hc
      · cases hc; exact .inl rfl
      · obtain ⟨x, _, e⟩ := map_ok hc; cases e; exact .inr ⟨x, rfl⟩

theorem wpOps_at {ops : Array Oper} {i : Nat} {rest : List Nat} {o : Oper} {Q : Exit → Act → World → Prop} (ho : ops[i]? = some o) (hw : wpAt P ops o Q (wpOps P ops Q rest) a w) : wpOps P ops Q (i :: rest) a w := by
  unfold wpAt at hw
  simp only [wpOps, ho]
  split
  · rename_i e; rw [if_pos e] at hw; exact .inl hw
  · rename_i e; rw [if_neg e] at hw; exact hw

theorem runOps_cons {C : CallF} {x : AOper} {l : List AOper} : runOps C (x :: l) env h = stepOper x C env h (runOps C l) := rfl

theorem compOps_sound {C : CallF} (hC : CSound P C) {nt : Nat} {ops : Array Oper} {Q : Exit → Act → World → Prop} {env' : Env} : ∀ (l : List Oper) (i : Nat) (A : List Ent) (cs : List AOper) (μ : Mu) (h : Heap) (w : World) (env : Env) (a : Act),
    ops.toList.drop i = l → compOps P dyn E nt ops l A = some cs → nt ≤ a.tmps.size → ERel μ E env a → AInv μ A env a → HRel μ h w → Bounded μ h → runOps C cs env h = .ok env' h' →
    (∀ a1 w1 μ1, Aft E [] μ h w a env' h' a1 w1 μ1 → Q .normal a1 w1) → wpOps P ops Q (List.range' i l.length) a w
  | [], i, A, cs, μ, h, w, env, a, hl, hc, hnt, hE, hA, hr, hb, hk, hQ => by
    cases hc
    cases hk
    exact hQ a w μ ⟨hE, fun e he => (by cases he), hr, hb, Ext.refl rfl rfl rfl rfl, rfl, rfl⟩
  | o :: l, i, A, cs, μ, h, w, env, a, hl, hc, hnt, hE, hA, hr, hb, hk, hQ => by
    have ho : ops[i]? = some o := by
      have : (ops.toList.drop i)[0]? = some o := by rw [hl]; rfl
      rw [List.getElem?_drop, Nat.add_zero, Array.getElem?_toList] at this
      exact this
    have hl' : ops.toList.drop (i + 1) = l := by
      rw [← List.drop_drop, hl]; rfl
    simp only [compOps] at hc
    split at hc
    case h_2 => cases hc
    rename_i c A1 hco
    split at hc
    case h_2 => cases hc
    rename_i cs1 hcs
    cases hc
    rw [appL_eq] at hk
    rw [List.length_cons, List.range'_succ]
    refine wpOps_at ho ?_
    refine compOper_sound (k := runOps C cs1) (r := .ok env' h') hC hco hnt hE hA hr hb (by simp) ?_ fun env1 h1 a1 w1 μ1 haft hk1 => ?_
    · rcases compOper_len hco with rfl | ⟨x, rfl⟩
      · exact .inl ⟨rfl, hk⟩
      · exact .inr ⟨x, rfl, hk⟩
    · exact compOps_sound hC l (i + 1) A1 cs1 μ1 h1 w1 env1 a1 hl' hcs (by rw [haft.size]; exact hnt) haft.slots haft.outs haft.heap haft.bound hk1 fun a2 w2 μ2 haft2 => hQ a2 w2 μ2 (haft.trans hr haft2)

end Go.Cg

/- Codes. -/
namespace Go.Cg
variable [Syms]

variable {P : Program} {dyn : List TypeId} {μ μ' : Mu} {h h' : Heap} {w w' : World} {v : AVal} {E : Tr Unit} {env : Env} {a : Act}

/-- How a code ends, by the evaluator's run. -/
def RPost (E : Tr Unit) (μ : Mu) (h : Heap) (w : World) (a : Act) (r : Res) (e : Exit) (a' : Act) (w' : World) : Prop :=
  match r with
  | .ok env' h' => e = .normal ∧ ∃ μ', Aft E [] μ h w a env' h' a' w' μ'
  | .exit id env' h' => e = .exit id ∧ ∃ μ', Aft E [] μ h w a env' h' a' w' μ'
  | .ret env' h' => e = .ret ∧ ∃ μ', Aft E [] μ h w a env' h' a' w' μ'
  | .fail => False

theorem RPost.trans {env1 : Env} {h1 : Heap} {a1 : Act} {w1 : World} {μ1 : Mu} {r : Res} {e : Exit} {a2 : Act} {w2 : World} (hr : HRel μ h w) (x : Aft E [] μ h w a env1 h1 a1 w1 μ1) (y : RPost E μ1 h1 w1 a1 r e a2 w2) : RPost E μ h w a r e a2 w2 := by
  cases r with
  | ok env' h' => obtain ⟨he, μ', q⟩ := y; exact ⟨he, μ', x.trans hr q⟩
  | exit id env' h' => obtain ⟨he, μ', q⟩ := y; exact ⟨he, μ', x.trans hr q⟩
  | ret env' h' => obtain ⟨he, μ', q⟩ := y; exact ⟨he, μ', x.trans hr q⟩
  | fail => exact y

/-- What a code's run says of the model's. -/
def CodeSound (P : Program) (E : Tr Unit) (nt : Nat) (C : CallF) (n : Nat) (c : Code) (ac : ACode) : Prop :=
  ∀ {env : Env} {h : Heap} {r : Res} {μ : Mu} {w : World} {a : Act}, run C n ac env h = r → r ≠ .fail → nt ≤ a.tmps.size → ERel μ E env a → HRel μ h w → Bounded μ h → c.wp P (RPost E μ h w a r) a w

theorem stepOper_only {C : CallF} {x : AOper} {k : Env → Heap → Res} {r : Res} (hne : r ≠ .fail) (hk : stepOper x C env h k = r) : ∃ env1 h1, k env1 h1 = r := by
  cases x with
  | o dst op =>
    obtain ⟨v, h1, _, h2⟩ := operO_ok (e' := env) hne (show operO dst op C env h k = r from hk)
    exact ⟨_, _, h2⟩
  | g s want dst op =>
    have hk : operG s want dst op C env h k = r := hk
    unfold operG at hk
    split at hk
    · split at hk
      · obtain ⟨v, h1, _, h2⟩ := operO_ok (e' := env) hne hk
        exact ⟨_, _, h2⟩
      · rw [putDst_eq] at hk; exact ⟨_, _, hk⟩
    · rw [putDst_eq] at hk; exact ⟨_, _, hk⟩
    · exact absurd hk.symm hne

theorem runOps_only {C : CallF} : ∀ (cs : List AOper) (env : Env) (h : Heap), (∀ {id : Nat} {env' : Env} {h' : Heap}, runOps C cs env h ≠ .exit id env' h') ∧ (∀ {env' : Env} {h' : Heap}, runOps C cs env h ≠ .ret env' h')
  | [], env, h => ⟨fun e => (by cases e), fun e => (by cases e)⟩
  | x :: cs, env, h => ⟨fun e => by
      obtain ⟨env1, h1, h2⟩ := stepOper_only (by simp) (show stepOper x C env h (runOps C cs) = _ from e)
      exact (runOps_only cs env1 h1).1 h2, fun e => by
      obtain ⟨env1, h1, h2⟩ := stepOper_only (by simp) (show stepOper x C env h (runOps C cs) = _ from e)
      exact (runOps_only cs env1 h1).2 h2⟩

theorem region_sound {C : CallF} (hC : CSound P C) {nt n id : Nat} {ops : Array Oper} {cs : List AOper} (hc : compOps P dyn E nt ops ops.toList [] = some cs) : CodeSound P E nt C n (.region id ops false) (.ops cs) := by
  intro env h r μ w a hk hne hnt hE hr hb
  have hk : runOps C cs env h = r := hk
  refine wp_region ?_
  have hrange : List.range ops.size = List.range' 0 ops.toList.length := by rw [List.range_eq_range']; simp
  rw [hrange]
  cases r with
  | ok env' h' => exact compOps_sound hC ops.toList 0 [] cs μ h w env a rfl hc hnt hE (fun e he => by cases he) hr hb hk fun a1 w1 μ1 haft => ⟨rfl, μ1, haft⟩
  | exit id env' h' => exact absurd hk (runOps_only cs env h).1
  | ret env' h' => exact absurd hk (runOps_only cs env h).2
  | fail => exact absurd rfl hne

end Go.Cg

/- Codes: all forms. -/
namespace Go.Cg
variable [Syms]

variable {P : Program} {dyn : List TypeId} {μ μ' : Mu} {h h' : Heap} {w w' : World} {v : AVal} {E : Tr Unit} {env : Env} {a : Act} {C : CallF} {nt n : Nat}

theorem Aft.refl (hE : ERel μ E env a) (hr : HRel μ h w) (hb : Bounded μ h) : Aft E [] μ h w a env h a w μ :=
  ⟨hE, fun e he => (by cases he), hr, hb, Ext.refl rfl rfl rfl rfl, rfl, rfl⟩

theorem skip_sound : CodeSound P E nt C n .skip .skip := by
  intro env h r μ w a hk hne hnt hE hr hb
  cases hk
  exact wp_skip ⟨rfl, μ, Aft.refl hE hr hb⟩

theorem exit_sound {id : Nat} : CodeSound P E nt C n (.exit id) (.exit id) := by
  intro env h r μ w a hk hne hnt hE hr hb
  cases hk
  exact wp_exit ⟨rfl, μ, Aft.refl hE hr hb⟩

theorem ret_sound : CodeSound P E nt C n .ret .ret := by
  intro env h r μ w a hk hne hnt hE hr hb
  cases hk
  exact wp_ret ⟨rfl, μ, Aft.refl hE hr hb⟩

theorem seq_sound {x y : Code} {ax ay : ACode} (hx : CodeSound P E nt C n x ax) (hy : CodeSound P E nt C n y ay) : CodeSound P E nt C n (.seq x y) (.seq ax ay) := by
  intro env h r μ w a hk hne hnt hE hr hb
  have hk : (Res.rec (motive := fun _ => Res) (run C n ay) Res.exit Res.ret .fail (run C n ax env h) : Res) = r := hk
  refine wp_seq ?_
  cases hrx : run C n ax env h with
  | ok env1 h1 =>
    rw [hrx] at hk
    refine wp_mono (hx hrx (by simp) hnt hE hr hb) fun e a1 w1 hq => ?_
    obtain ⟨rfl, μ1, haft⟩ := hq
    refine wp_mono (hy hk hne (by rw [haft.size]; exact hnt) haft.slots haft.heap haft.bound) fun e a2 w2 hq2 => hq2.trans hr haft
  | exit id env1 h1 =>
    rw [hrx] at hk
    cases hk
    refine wp_mono (hx hrx (by simp) hnt hE hr hb) fun e a1 w1 hq => ?_
    obtain ⟨rfl, q⟩ := hq
    exact ⟨rfl, q⟩
  | ret env1 h1 =>
    rw [hrx] at hk
    cases hk
    refine wp_mono (hx hrx (by simp) hnt hE hr hb) fun e a1 w1 hq => ?_
    obtain ⟨rfl, q⟩ := hq
    exact ⟨rfl, q⟩
  | fail => rw [hrx] at hk; exact absurd hk.symm hne

theorem cond_sound {c : Operand} {c' : AOpd} {x y : Code} {ax ay : ACode} (hc : resO [] none c = some c') (hx : CodeSound P E nt C n x ax) (hy : CodeSound P E nt C n y ay) : CodeSound P E nt C n (.cond c x y) (.cond c' ax ay) := by
  intro env h r μ w a hk hne hnt hE hr hb
  have hk : condK (c'.ev env) (run C n ax) (run C n ay) env h = r := hk
  unfold condK at hk
  split at hk
  case h_2 => exact absurd hk.symm hne
  rename_i b hev
  have hv := sees_of (A := []) (g := none) hE (fun e he => by cases he) trivial #[c] c (by simp) c' _ hc hev
  have hb' : a.eval c = .bool b := by
    generalize a.eval c = cv at hv
    cases hv; rfl
  refine wp_cond hb' ?_
  cases b with
  | true => exact hx hk hne hnt hE hr hb
  | false => exact hy hk hne hnt hE hr hb

theorem block_sound {id : Nat} {x : Code} {ax : ACode} (hx : CodeSound P E nt C n x ax) : CodeSound P E nt C n (.block id x) (.block id ax) := by
  intro env h r μ w a hk hne hnt hE hr hb
  have hk : (Res.rec (motive := fun _ => Res) Res.ok (fun id' env h => Bool.rec (motive := fun _ => Res) (.exit id' env h) (.ok env h) (Nat.beq id' id)) Res.ret .fail (run C n ax env h) : Res) = r := hk
  refine wp_block ?_
  cases hrx : run C n ax env h with
  | ok env1 h1 =>
    rw [hrx] at hk
    cases hk
    refine wp_mono (hx hrx (by simp) hnt hE hr hb) fun e a1 w1 hq => ?_
    obtain ⟨rfl, q⟩ := hq
    exact ⟨rfl, q⟩
  | exit id' env1 h1 =>
    rw [hrx] at hk
    refine wp_mono (hx hrx (by simp) hnt hE hr hb) fun e a1 w1 hq => ?_
    obtain ⟨rfl, q⟩ := hq
    show (if id' = id then RPost E μ h w a r .normal a1 w1 else RPost E μ h w a r (.exit id') a1 w1)
    cases hid : Nat.beq id' id with
    | true =>
      simp only [hid] at hk
      cases hk
      rw [if_pos (Nat.eq_of_beq_eq_true hid)]
      exact ⟨rfl, q⟩
    | false =>
      simp only [hid] at hk
      cases hk
      rw [if_neg (fun e => by subst e; rw [Nat.beq_refl] at hid; cases hid)]
      exact ⟨rfl, q⟩
  | ret env1 h1 =>
    rw [hrx] at hk
    cases hk
    refine wp_mono (hx hrx (by simp) hnt hE hr hb) fun e a1 w1 hq => ?_
    obtain ⟨rfl, q⟩ := hq
    exact ⟨rfl, q⟩
  | fail => rw [hrx] at hk; exact absurd hk.symm hne

end Go.Cg

/- Regions whose order is open: every order. -/
namespace Go.Cg
variable [Syms]

variable {P : Program} {dyn : List TypeId} {E : Tr Unit} {C : CallF} {nt : Nat} {ops : Array Oper} {infos : List DInfo}

section
variable {μ0 : Mu} {h0 : Heap} {w0 : World} {a0 : Act} {L : Nat → Prop} {a : Act} {w : World} {μ : Mu} {S : Nat → DInfo → Prop} {D : List Nat} {e : Env} {h : Heap} {B : Nat → Option Pos}

theorem eval_put_not {d : Nat} {cv : Value} {x : Operand} (hn : x ≠ .tmp d) : (a.put (some d) cv).eval x = a.eval x :=
  Act.eval_put fun d' hd hx => by cases hd; exact hn hx

/-- One that is ready: what it looks at is there. -/
theorem Inv.sees (hp : Plan P dyn E nt ops infos) (hi : Inv C E nt ops infos μ0 h0 w0 a0 L a w μ S D e h B) {i : Nat} {I : DInfo} (hI : infos[i]? = some I) (hrd : ∀ j, BindsAt ops j i → L j) {t : Nat} (ht : t ∈ I.looks) {v : AVal} (hv : Tr.get (slotPos t) e = some v) : VRel μ v (a.eval (.tmp t)) := by
  refine hi.slots t v (fun j J hJ hj hn hd => ?_) hv
  rcases hp.seen j i J I t hJ hI hd ht with h1 | ⟨h1, _⟩
  · exact hn (h1.of_ready hi.closedL hrd)
  · exact hn (hi.heavyL j J hJ hj h1)

theorem Inv.meth (hp : Plan P dyn E nt ops infos) (hi : Inv C E nt ops infos μ0 h0 w0 a0 L a w μ S D e h B) {i : Nat} {I : DInfo} (hI : infos[i]? = some I) (hrd : ∀ j, BindsAt ops j i → L j) :
    ∀ t name y g', I.o.op = .nilCheck (.tmp t) → boundAt ops ops.toList t = some (name, y, g') → Holds a g' → a.eval (.tmp t) = .func (.method name) #[a.eval y] #[] := by
  intro t name y g' hop hb hh
  obtain ⟨o, h1, h2, h3, h4⟩ := boundAt_ok hb
  obtain ⟨j, hj, hjo⟩ := List.getElem_of_mem h1
  have hlt : j < infos.length := by rw [hp.len]; simpa using hj
  have hJ : infos[j]? = some infos[j] := List.getElem?_eq_getElem hlt
  generalize infos[j] = J at hJ
  have hJo : J.o = o := by
    have := hp.op j J hJ
    rw [← Array.getElem?_toList, List.getElem?_eq_getElem hj, hjo] at this
    cases this; rfl
  have ht : t ∈ I.looks := by
    rw [hp.looks i I hI]
    exact looks_operand (by rw [hop]; simp [Op.operands])
  have hL : L j := by
    rcases hp.seen j i J I t hJ hI (by rw [hJo]; exact h2) ht with h5 | ⟨_, _, h5, _⟩
    · exact h5.of_ready hi.closedL hrd
    · rw [hJo, h3] at h5; cases h5
  exact hi.meths j J t name y g' hJ hL (by rw [hJo]; exact h2) (by rw [hJo]; exact h3) (by rw [hJo]; exact h4) hh

/-- The model has run one, which the evaluator has run, too. -/
theorem Inv.list (hp : Plan P dyn E nt ops infos) (hi : Inv C E nt ops infos μ0 h0 w0 a0 L a w μ S D e h B) {i : Nat} {I : DInfo} (hI : infos[i]? = some I) (hrd : ∀ j, BindsAt ops j i → L j) (hnL : ¬ L i)
    {D1 : List Nat} {e1 : Env} {h1 : Heap} {w1 : World} {μ1 : Mu} {v : AVal} {cv : Value} {S1 : Nat → DInfo → Prop}
    (hmono : Mu.le μ μ1) (hheap : HRel μ1 h1 w1) (hbnd : Bounded μ1 h1) (hext : Ext μ0 h0 w0 μ1 h1 w1) (hv : ∀ p, I.x.dst = some p → VRel μ1 v cv ∧ Tr.get p e1 = some v) (hiD : i ∈ D1) (hD1 : ∀ j, j ∈ D1 ↔ j = i ∨ j ∈ D)
    (he1 : ∀ t, I.o.dst ≠ some t → Tr.get (slotPos t) e1 = Tr.get (slotPos t) e) (hout : ∀ t, isOut E t = true → Tr.get (slotPos t) e1 = none) (hnx : h.next.nat ≤ h1.next.nat)
    (hmeth : ∀ name y g, I.o.op = .makeFunc (.method name) #[y] #[] → guardOf ops I.o = some g → Holds a g → cv = .func (.method name) #[a.eval y] #[])
    (hweak : ∀ j J, infos[j]? = some J → j ∈ D1 → ¬ L j → j ≠ i → Weak C e1 J) (hfact : ∀ j J, infos[j]? = some J → j ∈ D1 → ¬ L j → j ≠ i → S1 j J → Fact C e1 h1 μ1 B h0.next.nat j J) :
    Inv C E nt ops infos μ0 h0 w0 a0 (fun j => j = i ∨ L j) (a.put I.o.dst cv) w1 μ1 S1 D1 e1 h1 B := by
  have hnt : ∀ d, I.o.dst = some d → d < a.tmps.size := fun d hd => by
    have := ((compDrawn_dst (hp.comp i I hI)).2.1 d hd).1
    rw [hi.size]; exact Nat.lt_of_lt_of_le this hi.nts
  have hself : ∀ d, I.o.dst = some d → d ∉ I.looks := fun d hd hl => by
    rcases hp.seen i i I I d hI hI hd hl with h3 | ⟨_, h3, _⟩ <;> exact absurd (h3.lt hp) (Nat.lt_irrefl _)
  -- guards and operands that are looked at are left as they are
  have hhold : ∀ (J : DInfo) j, infos[j]? = some J → (∀ d, I.o.dst = some d → d ∉ J.looks) → ∀ g, guardOf ops J.o = some g → (Holds (a.put I.o.dst cv) g ↔ Holds a g) := fun J j hJ hno g hg => by
    cases hd : I.o.dst with
    | none => exact Iff.rfl
    | some d =>
      refine holds_put ?_
      cases g with
      | none => rfl
      | some p =>
        obtain ⟨s, b⟩ := p
        have : s ∈ J.looks := by rw [hp.looks j J hJ]; exact looks_guard hg
        have hne : s ≠ d := fun e => hno d hd (e ▸ this)
        simp only [Bool.not_eq_true']
        cases hb : Nat.beq s d with
        | false => rfl
        | true => exact absurd (Nat.eq_of_beq_eq_true hb) hne
  have hev : ∀ (J : DInfo) j, infos[j]? = some J → (∀ d, I.o.dst = some d → d ∉ J.looks) → ∀ name y, J.o.op = .makeFunc (.method name) #[y] #[] → (a.put I.o.dst cv).eval y = a.eval y := fun J j hJ hno name y hop => by
    refine Act.eval_put fun d hd hy => hno d hd ?_
    rw [hp.looks j J hJ]
    refine looks_operand ?_
    rw [hop, ← hy]; simp [Op.operands]
  refine ⟨fun j hj k hk => ?_, fun j hj => ?_, fun j hj k hk => ?_, fun j hj => ?_, fun j J hJ hj hv' => ?_, fun t u hun hu => ?_, hout, fun j J d name y g hJ hj hd hop hg hh => ?_, hheap, hbnd, hext, ?_, hi.nts, ?_, fun j J hJ hj hn => ?_, fun j J hJ hj hn hs => ?_, hi.binj, fun j b hb => ?_⟩
  · rcases hj with rfl | hj
    · exact .inr (hrd k hk)
    · exact .inr (hi.closedL j hj k hk)
  · rcases hj with rfl | hj
    · exact hiD
    · exact (hD1 j).2 (.inr (hi.sub j hj))
  · rcases (hD1 j).1 hj with rfl | hj
    · exact (hD1 k).2 (.inr (hi.sub k (hrd k hk)))
    · exact (hD1 k).2 (.inr (hi.closedD j hj k hk))
  · rcases (hD1 j).1 hj with rfl | hj
    · exact (List.getElem?_eq_some_iff.1 hI).1
    · exact hi.bound j hj
  · rcases (hD1 j).1 hj with rfl | hj
    · exact .inl rfl
    · exact .inr (hi.heavyL j J hJ hj hv')
  · by_cases e' : I.o.dst = some t
    · have ho : isOut E t = false := by
        cases ho : isOut E t with
        | false => rfl
        | true => rw [hout t ho] at hu; cases hu
      obtain ⟨_, h5⟩ := (compDrawn_dst (hp.comp i I hI)).2.1 t e'
      obtain ⟨h6, h7⟩ := hv _ (h5 ho)
      rw [h7] at hu
      cases hu
      rw [e', eval_put_same (hnt t e')]
      exact h6
    · rw [he1 t e'] at hu
      have hkeep : (a.put I.o.dst cv).eval (.tmp t) = a.eval (.tmp t) := Act.eval_put fun d hd hx => by cases hx; exact e' hd
      rw [hkeep]
      refine (hi.slots t u (fun j J hJ hj hn hd => ?_) hu).mono hmono
      by_cases e2 : j = i
      · subst e2; rw [hI] at hJ; cases hJ; exact e' hd
      · exact hun j J hJ ((hD1 j).2 (.inr hj)) (fun hl => hl.elim e2 hn) hd
  · by_cases e2 : j = i
    · subst e2
      rw [hI] at hJ; cases hJ
      have hh := (hhold I j hI hself g hg).1 hh
      rw [hev I j hI hself name y hop]
      rw [hd, eval_put_same (hnt d hd)]
      exact hmeth name y g hop hg hh
    · have hLj : L j := hj.resolve_left e2
      have hno : ∀ d, I.o.dst = some d → d ∉ J.looks := fun d' hd' hl => by
        rcases hp.seen i j I J d' hI hJ hd' hl with h3 | ⟨_, _, _, h3⟩
        · exact hnL (h3.of_mem hi.closedL hLj)
        · rw [hop] at h3; cases h3
      have hh := (hhold J j hJ hno g hg).1 hh
      rw [hev J j hJ hno name y hop]
      have hne : I.o.dst ≠ some d := fun e' => e2 (hp.once j i J I d hJ hI hd e')
      have : (a.put I.o.dst cv).eval (.tmp d) = a.eval (.tmp d) := Act.eval_put fun d' hd' hx => by cases hx; exact hne hd'
      rw [this]
      exact hi.meths j J d name y g hJ hLj hd hop hg hh
  · rw [size_put]; exact hi.size
  · rw [defers_put]; exact hi.defers
  · exact hweak j J hJ hj (fun hl => hn (.inr hl)) (fun e2 => hn (.inl e2))
  · exact hfact j J hJ hj (fun hl => hn (.inr hl)) (fun e2 => hn (.inl e2)) hs
  · exact ⟨(hD1 j).2 (.inr (hi.bin j b hb).1), Nat.lt_of_lt_of_le (hi.bin j b hb).2 hnx⟩

theorem empty_get {b c : Pos} {x : ABlk} (hc : (Heap.mk b .lf).get c = some x) : False := by
  have hc : Tr.get c (.lf : Tr ABlk) = some x := hc
  rw [Tr.get_lf] at hc; cases hc

theorem Inv.stepIn (hp : Plan P dyn E nt ops infos) (hC : CSound P C) (hr0 : HRel μ0 h0 w0) (hi : Inv C E nt ops infos μ0 h0 w0 a0 L a w μ (fun _ _ => True) D e h B) {i : Nat} {I : DInfo} (hI : infos[i]? = some I) (hrd : ∀ j, BindsAt ops j i → L j) (hnL : ¬ L i) (hiD : i ∈ D)
    {Q : Exit → Act → World → Prop} {K : Act → World → Prop} (hK : ∀ a1 w1 μ1, Inv C E nt ops infos μ0 h0 w0 a0 (fun j => j = i ∨ L j) a1 w1 μ1 (fun _ _ => True) D e h B → K a1 w1) : wpOp P ops Q i K a w := by
  have hnh : heavy I = false := by
    cases hv : heavy I with
    | false => rfl
    | true => exact absurd (hi.heavyL i I hI hiD hv) hnL
  obtain ⟨ei, v, q1, q2, q3⟩ := hi.fact i I hI hiD hnL trivial
  have hS : ∀ t ∈ looksC ops I.o, ∀ u, Tr.get (slotPos t) ei = some u → VRel μ u (a.eval (.tmp t)) := fun t ht u hu => by
    have ht' : t ∈ I.looks := by rw [hp.looks i I hI]; exact ht
    rw [q1 t ht'] at hu
    exact hi.sees hp hI hrd ht' hu
  have hM := hi.meth hp hI hrd
  have hvs : ∀ {μ1 : Mu} {cv : Value}, (∀ d, I.x.dst = some d → VRel μ1 v cv) → ∀ p, I.x.dst = some p → VRel μ1 v cv ∧ Tr.get p e = some v := fun h1 p hpd => ⟨h1 p hpd, q2 p hpd⟩
  have hD1 : ∀ j, j ∈ D ↔ j = i ∨ j ∈ D := fun j => ⟨.inr, fun hj => hj.elim (fun e => e ▸ hiD) id⟩
  rcases q3 with q3 | ⟨b, o, r1, r2, r3, r4, r5, r6, r7⟩
  · refine (drawn_op hC (hp.op i I hI) (hp.comp i I hI) hS hM hi.heap (.inl hi.bnd) q3 fun cv w1 μ1 hv hr1 hx hm => ?_).2.2
    have hsame : ∀ c, μ1 c = μ c := fun c => by
      cases hmc : μ c with
      | some im => exact hx.mono c im hmc
      | none =>
        cases h1 : μ1 c with
        | none => rfl
        | some im => have := hx.newid c im h1 hmc; omega
    refine hK _ w1 μ1 (hi.list hp hI hrd hnL hx.mono hr1 (hx.bounded hi.bnd) (Ext.trans hr0 hi.ext hx) (hvs hv) hiD hD1 (fun _ _ => rfl) hi.outs (Nat.le_refl _) hm (fun j J hJ hj hn _ => hi.weak j J hJ hj hn) fun j J hJ hj hn hne _ => ?_)
    obtain ⟨ej, u, s1, s2, s3⟩ := hi.fact j J hJ hj hn trivial
    exact ⟨ej, u, s1, s2, s3.imp id fun ⟨b, o, t1, t2, t3, t4, t5, t6⟩ => ⟨b, o, t1, t2, t3, t4, by rw [hsame]; exact t5, t6⟩⟩
  · have hr' : HRel μ (.mk b .lf) w := ⟨fun c x im hc => (empty_get hc).elim, fun c c' x x' im im' hc => (empty_get hc).elim, hi.heap.bound, fun c x hc => (empty_get hc).elim⟩
    have hf : Fresh μ (.mk b .lf) (Heap.new o (.mk b .lf)) := fun c hc1 hc2 => by
      have h3 : b.nat ≤ c.nat := hc1
      have h4 : c.nat < b.succ.nat := hc2
      rw [Pos.nat_succ] at h4
      have : c = b := Pos.nat_inj (by omega)
      rw [this]; exact r5
    refine (drawn_op hC (hp.op i I hI) (hp.comp i I hI) hS hM hr' (.inr ⟨r2, hf⟩) r7 fun cv w1 μ1 hv hr1 hx hm => ?_).2.2
    obtain ⟨k1, k2, k3, k4⟩ := late_block hi.heap hi.bnd hi.ext r6 r5 r3 hr1 hx
    refine hK _ w1 μ1 (hi.list hp hI hrd hnL hx.mono k1 k2 k3 (hvs hv) hiD hD1 (fun _ _ => rfl) hi.outs (Nat.le_refl _) hm (fun j J hJ hj hn _ => hi.weak j J hJ hj hn) fun j J hJ hj hn hne _ => ?_)
    obtain ⟨ej, u, s1, s2, s3⟩ := hi.fact j J hJ hj hn trivial
    refine ⟨ej, u, s1, s2, s3.imp id fun ⟨b', o', t1, t2, t3, t4, t5, t6⟩ => ⟨b', o', t1, t2, t3, t4, ?_, t6⟩⟩
    rw [k4 b' fun e' => hne (hi.binj j i b (e' ▸ t1) r1)]
    exact t5

end
end Go.Cg

/- Loops and scopes. -/
namespace Go.Cg
variable [Syms]

variable {P : Program} {dyn : List TypeId} {μ μ' : Mu} {h h' : Heap} {w w' : World} {v : AVal} {E : Tr Unit} {env : Env} {a : Act} {C : CallF} {nt n : Nat}

theorem least_of {J : Nat → Prop} (hJ : ∃ m, J m) : ∃ m, J m ∧ ∀ k, J k → m ≤ k := by
  obtain ⟨m, hm⟩ := hJ
  induction m using Nat.strongRecOn with
  | _ m ih =>
    by_cases hk : ∃ k, k < m ∧ J k
    · obtain ⟨k, h1, h2⟩ := hk
      exact ih k h1 h2
    · exact ⟨m, hm, fun k hJk => Nat.le_of_not_lt fun hlt => hk ⟨k, hlt, hJk⟩⟩

open Classical in
/-- The least number of rounds. -/
noncomputable def leastOf (J : Nat → Prop) : Nat := if hJ : ∃ m, J m then Classical.choose (least_of hJ) else 0

theorem leastOf_spec {J : Nat → Prop} (hJ : ∃ m, J m) : J (leastOf J) ∧ ∀ k, J k → leastOf J ≤ k := by
  unfold leastOf
  rw [dif_pos hJ]
  exact Classical.choose_spec (least_of hJ)

theorem loop_sound {x : Code} {ax : ACode} (hx : CodeSound P E nt C n x ax) : CodeSound P E nt C n (.loop x) (.loop ax) := by
  intro env h r μ w a hk hne hnt hE hr hb
  have hk : loopF n (run C n ax) env h = r := hk
  let J : Nat → Act → World → Prop := fun m a1 w1 => ∃ env1 h1 μ1, Aft E [] μ h w a env1 h1 a1 w1 μ1 ∧ loopF m (run C n ax) env1 h1 = r
  refine wp_loop (fun a1 w1 => ∃ m, J m a1 w1) (fun a1 w1 => leastOf fun m => J m a1 w1) ⟨n, env, h, μ, Aft.refl hE hr hb, hk⟩ fun a1 w1 hI => ?_
  obtain ⟨⟨env1, h1, μ1, haft, hrun⟩, _⟩ := leastOf_spec hI
  generalize hm : leastOf (fun m => J m a1 w1) = m at hrun
  cases m with
  | zero => exact absurd hrun.symm hne
  | succ m =>
    have hrun : (Res.rec (motive := fun _ => Res) (loopF m (run C n ax)) .exit .ret .fail (run C n ax env1 h1) : Res) = r := hrun
    have hnt1 : nt ≤ a1.tmps.size := by rw [haft.size]; exact hnt
    cases hrx : run C n ax env1 h1 with
    | ok env2 h2 =>
      rw [hrx] at hrun
      refine wp_mono (hx hrx (by simp) hnt1 haft.slots haft.heap haft.bound) fun e a2 w2 hq => ?_
      obtain ⟨rfl, μ2, haft2⟩ := hq
      have hJ : J m a2 w2 := ⟨env2, h2, μ2, haft.trans hr haft2, hrun⟩
      exact ⟨⟨m, hJ⟩, Nat.lt_succ_of_le ((leastOf_spec (J := fun m => J m a2 w2) ⟨m, hJ⟩).2 m hJ)⟩
    | exit id env2 h2 =>
      rw [hrx] at hrun
      cases hrun
      refine wp_mono (hx hrx (by simp) hnt1 haft.slots haft.heap haft.bound) fun e a2 w2 hq => ?_
      obtain ⟨rfl, μ2, haft2⟩ := hq
      exact ⟨rfl, μ2, haft.trans hr haft2⟩
    | ret env2 h2 =>
      rw [hrx] at hrun
      cases hrun
      refine wp_mono (hx hrx (by simp) hnt1 haft.slots haft.heap haft.bound) fun e a2 w2 hq => ?_
      obtain ⟨rfl, μ2, haft2⟩ := hq
      exact ⟨rfl, μ2, haft.trans hr haft2⟩
    | fail => rw [hrx] at hrun; exact absurd hrun.symm hne

theorem scope_sound {x : Code} {ax : ACode} (hx : CodeSound P E nt C n x ax) : CodeSound P E nt C n (.scope x) (.scope ax) := by
  intro env h r μ w a hk hne hnt hE hr hb
  have hk : run C n ax env h = r := hk
  refine wp_scope_straight (wp_mono (hx hk hne hnt hE hr hb) fun e a1 w1 hq => ?_)
  cases r with
  | ok env' h' => obtain ⟨rfl, q⟩ := hq; exact ⟨rfl, q⟩
  | exit id env' h' => obtain ⟨rfl, q⟩ := hq; exact ⟨rfl, q⟩
  | ret env' h' => obtain ⟨rfl, q⟩ := hq; exact ⟨rfl, q⟩
  | fail => exact absurd rfl hne

/-- What is still to be shown of regions whose order is open. -/
def DrawnSound (P : Program) (dyn : List TypeId) (E : Tr Unit) (nt : Nat) (C : CallF) : Prop :=
  ∀ {n id : Nat} {ops : Array Oper} {l : List (Bool × AOper)}, compDrawnAll P dyn E nt ops = some l → CodeSound P E nt C n (.region id ops true) (.dops l)

theorem comp_sound (hC : CSound P C) (hD : DrawnSound P dyn E nt C) : ∀ {c : Code} {ac : ACode}, comp P dyn E nt c = some ac → CodeSound P E nt C n c ac := by
  intro c
  induction c with
  | skip => intro ac hc; cases hc; exact skip_sound
  | region id ops draw =>
    intro ac hc
    cases draw with
    | false => obtain ⟨cs, hcs, rfl⟩ := map_ok hc; exact region_sound hC hcs
    | true => obtain ⟨cs, hcs, rfl⟩ := map_ok hc; exact hD hcs
  | seq x y ihx ihy =>
    intro ac hc
    simp only [comp] at hc
    split at hc
    case h_2 => cases hc
    rename_i ax ay h1 h2
    cases hc
    exact seq_sound (ihx h1) (ihy h2)
  | cond c x y ihx ihy =>
    intro ac hc
    simp only [comp] at hc
    split at hc
    case h_2 => cases hc
    rename_i c' ax ay h0 h1 h2
    cases hc
    exact cond_sound h0 (ihx h1) (ihy h2)
  | block id x ih => intro ac hc; obtain ⟨ax, h1, rfl⟩ := map_ok hc; exact block_sound (ih h1)
  | loop x ih => intro ac hc; obtain ⟨ax, h1, rfl⟩ := map_ok hc; exact loop_sound (ih h1)
  | exit id => intro ac hc; cases hc; exact exit_sound
  | scope x ih => intro ac hc; obtain ⟨ax, h1, rfl⟩ := map_ok hc; exact scope_sound (ih h1)
  | ret => intro ac hc; cases hc; exact ret_sound
  | _ => intro ac hc; cases hc

end Go.Cg
end
