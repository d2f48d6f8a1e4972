/- The evaluator is sound: what it gives is what the model gives, whatever the tape. Part 3. No condition. -/
import Derived.Test.YtamgknnmocnamaaDoorSd2
set_option linter.unusedVariables false
set_option linter.unusedSimpArgs false
set_option linter.unusedSectionVars false
noncomputable section
/- Comparisons for equality; plain operations; interfaces. -/
namespace Go.Cg
variable [Syms]

variable {P : Program} {μ : Mu} {h h' : Heap} {w : World} {v : AVal}

theorem scmp_run (c : Cmp) (s s' : ByteArray) (t : TypeId) : (binOp (cmpBin c) t (.string s) (.string s')).run P w = .ok (.bool (match c with
      | .lt => strLt s.size (pack s.data.toList) s'.size (pack s'.data.toList)
      | .le => strLt s.size (pack s.data.toList) s'.size (pack s'.data.toList) || strEq s.size (pack s.data.toList) s'.size (pack s'.data.toList)
      | .gt => !(strLt s.size (pack s.data.toList) s'.size (pack s'.data.toList) || strEq s.size (pack s.data.toList) s'.size (pack s'.data.toList))
      | .ge => !strLt s.size (pack s.data.toList) s'.size (pack s'.data.toList))) w := by
  have e1 : s.size = s.data.toList.length := by simp
  have e2 : s'.size = s'.data.toList.length := by simp
  have h1 : Op.bytesLess s.toList s'.toList = strLt s.size (pack s.data.toList) s'.size (pack s'.data.toList) := by
    rw [bytesLess_iff, ByteArray.toList_eq, ByteArray.toList_eq, e1, e2]
  rw [str_pack_eq, ← h1]
  cases c <;> simp [cmpBin, binOp, Op.stringOp]

/-- What is known of an equality's types. -/
def EqT (P : Program) (t : TypeId) (lit : Bool) (k : EK) (both : Bool) (tab : List (TypeId × EK)) : Prop :=
  match k with
  | .int => ∃ j, P.underlying t = some (.int j)
  | .str => P.underlying t = some .string
  | .bool => P.underlying t = some .bool
  | .ptr => ekBasic P t = some .ptr
  | .iface => ∃ ms, P.underlying t = some (.interface ms) ∧ TabOk P tab ∧ (both = true → ms.isEmpty = true ∨ lit = true)
  | .nilS => ∃ e, P.underlying t = some (.slice e)
  | .nilM => ∃ a e, P.underlying t = some (.map a e)
  | .nilF => ∃ p q z, P.underlying t = some (.func p q z)
  | .struct l => l ≠ [] ∧ ∃ fs, P.underlying t = some (.struct fs) ∧ ekStruct P t fs = some (.struct l)

/-- The operator of an equality. -/
def eqBin (neg : Bool) : BinOp := match neg with | true => .neq | false => .eql

theorem equal_at {t : TypeId} {cx cy : Value} {r : Bool} (e : (Op.equalIn 10000 t cx cy).run P w = .ok r w) : (Op.equal t cx cy).run P w = .ok r w := e

/-- No number, no text. -/
def Plain : Value → Prop
  | .int _ _ | .float _ _ | .complex _ _ _ | .string _ => False
  | _ => True

theorem binOp_equal {neg : Bool} {t : TypeId} {cx cy : Value} {r : Bool} (h1 : Plain cx) (h2 : Plain cy) (e : (Op.equal t cx cy).run P w = .ok r w) : (binOp (eqBin neg) t cx cy).run P w = .ok (.bool (if neg then !r else r)) w := by
  cases neg <;> cases cx <;> first | (exact h1.elim; done) | cases cy <;> first | (exact h2.elim; done) | simp [binOp, eqBin, e]

theorem eqGuard_plain {neg : Bool} {t : TypeId} {x y : Operand} {cx cy : Value} (hn : ¬ (cx = .nilIface ∧ cy = .nilIface)) (ha : ¬ ((∃ a, cx = .agg a) ∧ ∃ b, cy = .agg b)) : (eqGuard (eqBin neg) t x y cx cy).run P w = .ok () w := by
  cases neg
  all_goals
    simp only [eqGuard, eqBin, Bool.not_true, Bool.false_eq_true, if_false]
    split
    · exact absurd ⟨rfl, rfl⟩ hn
    · exact absurd ⟨⟨_, rfl⟩, _, rfl⟩ ha
    · rfl

theorem guardIn_nil {t : TypeId} {ms : Array (String × TypeId)} (hu : P.underlying t = some (.interface ms)) (d : Nat) : (Op.eqGuardIn (d + 1) t .nilIface .nilIface).run P w = .ok (!ms.isEmpty) w := by
  simp only [Op.eqGuardIn, Sem.run_bind, run_underlying hu, Result.andThen_ok, Sem.run_pure]

theorem eqOp_good {t : TypeId} {xo yo : Operand} {neg both : Bool} {k : EK} {tab : List (TypeId × EK)} {x y : AVal} {cx cy : Value} {r : Bool} (hr : HRel μ h w) (hT : EqT P t (isConstO xo || isConstO yo) k both tab) (hx : VRel μ x cx) (hy : VRel μ y cy)
    (hb : eqOp k both tab x y h = some r) :
    (do eqGuard (eqBin neg) t xo yo cx cy; binOp (eqBin neg) t cx cy : Sem Value).run P w = .ok (.bool (if neg then !r else r)) w := by
  have fin : ∀ {cx cy : Value}, Plain cx → Plain cy → ¬ (cx = .nilIface ∧ cy = .nilIface) → ¬ ((∃ a, cx = .agg a) ∧ ∃ b, cy = .agg b) → (Op.equalIn 10000 t cx cy).run P w = .ok r w →
      (do eqGuard (eqBin neg) t xo yo cx cy; binOp (eqBin neg) t cx cy : Sem Value).run P w = .ok (.bool (if neg then !r else r)) w := by
    intro cx cy h1 h2 h3 h4 h5
    simp only [Sem.run_bind, eqGuard_plain h3 h4, Result.andThen_ok, binOp_equal h1 h2 (equal_at h5)]
  cases k with
  | bool =>
    simp only [EqT] at hT
    have he := equalIn_basic (P := P) (w := w) (k := .bool) (t := t) (by simp [ekBasic, hT]) hx hy hb 9999
    simp only [eqOp, basicEq, eqBool] at hb
    split at hb
    case h_2 => cases hb
    cases hx; cases hy
    exact fin trivial trivial (by simp) (by simp) he
  | int =>
    obtain ⟨j, hT⟩ := hT
    simp only [eqOp, basicEq, eqInt] at hb
    split at hb
    case h_2 => cases hb
    split at hb
    case h_2 => cases hb
    rename_i hkk
    have hkk := kEq_iff.1 hkk
    subst hkk
    cases hx; cases hy
    rw [intEq_eq] at hb
    cases hb
    rw [Sem.run_bind, eqGuard_plain (by simp) (by simp), Result.andThen_ok]
    cases neg <;> simp [binOp, eqBin, Op.intCmp, bne, Bool.beq_eq_decide_eq]
  | str =>
    simp only [eqOp, basicEq, eqStr] at hb
    split at hb
    case h_2 => cases hb
    cases hx with
    | str s _ _ e1 e2 =>
    cases hy with
    | str s' _ _ e3 e4 =>
    subst e1 e2 e3 e4
    rw [str_pack_eq] at hb
    cases hb
    rw [Sem.run_bind, eqGuard_plain (by simp) (by simp), Result.andThen_ok]
    cases neg <;> simp [binOp, eqBin, Op.stringOp]
  | ptr =>
    have he := eqPtrH_sound (P := P) (w := w) hr hT hx hy hb 9999
    have pl : ∀ {z : AVal} {cz : Value}, VRel μ z cz → (z = .nilptr ∨ ∃ b o, z = .ptr b o) → Plain cz ∧ cz ≠ .nilIface ∧ ∀ a, cz ≠ .agg a := by
      intro z cz hz hc
      rcases hc with rfl | ⟨b, o, rfl⟩ <;> cases hz <;> exact ⟨trivial, by simp, by simp⟩
    have sh : (x = .nilptr ∨ ∃ b o, x = .ptr b o) ∧ (y = .nilptr ∨ ∃ b o, y = .ptr b o) := by
      simp only [eqOp] at hb
      unfold eqPtrH at hb
      split at hb
      · exact ⟨.inr ⟨_, _, rfl⟩, .inr ⟨_, _, rfl⟩⟩
      · unfold eqPtr at hb
        split at hb <;> first | (cases hb; done) | skip
        all_goals (constructor <;> first | exact .inl rfl | exact .inr ⟨_, _, rfl⟩)
    obtain ⟨a1, a2, a3⟩ := pl hx sh.1
    obtain ⟨b1, b2, b3⟩ := pl hy sh.2
    exact fin a1 b1 (fun hc => a2 hc.1) (fun hc => by obtain ⟨⟨a, e⟩, _⟩ := hc; exact a3 a e) he
  | nilS =>
    obtain ⟨e, hT⟩ := hT
    have he := eqNilS_sound (P := P) (w := w) hT hx hy hb 9999
    simp only [eqOp, basicEq] at hb
    unfold eqNilS at hb
    split at hb <;> first | (cases hb; done) | skip
    all_goals
      cases hx; cases hy
      exact fin trivial trivial (by simp) (by simp) he
  | nilM =>
    obtain ⟨a, e, hT⟩ := hT
    have he := eqNilM_sound (P := P) (w := w) hT hx hy hb 9999
    simp only [eqOp, basicEq] at hb
    unfold eqNilM at hb
    split at hb <;> first | (cases hb; done) | skip
    all_goals
      cases hx; cases hy
      exact fin trivial trivial (by simp) (by simp) he
  | nilF =>
    obtain ⟨p, q, z, hT⟩ := hT
    have he := eqNilF_sound (P := P) (w := w) hT hx hy hb 9999
    simp only [eqOp, basicEq] at hb
    unfold eqNilF at hb
    split at hb <;> first | (cases hb; done) | skip
    all_goals
      cases hx; cases hy
      exact fin trivial trivial (by simp) (by simp) he
  | iface =>
    obtain ⟨ms, hu, htab, hboth⟩ := hT
    have he := eqIfaceH_sound (P := P) (w := w) hr hu htab hx hy hb 9998
    simp only [eqOp] at hb
    have sh : (x = .nilIface ∨ ∃ t v, x = .iface t v) ∧ (y = .nilIface ∨ ∃ t v, y = .iface t v) ∧ (x = .nilIface → y = .nilIface → both = true ∧ r = true) := by
      unfold eqIfaceH at hb
      split at hb
      · split at hb
        · cases hb; exact ⟨.inl rfl, .inl rfl, fun _ _ => ⟨rfl, rfl⟩⟩
        · cases hb
      · exact ⟨.inr ⟨_, _, rfl⟩, .inr ⟨_, _, rfl⟩, fun e => by cases e⟩
      · rename_i n1 n2
        unfold eqIface at hb
        split at hb <;> first | (cases hb; done) | skip
        all_goals first
          | exact absurd rfl (n1 rfl)
          | exact ⟨.inr ⟨_, _, rfl⟩, .inl rfl, fun e => by cases e⟩
          | exact ⟨.inl rfl, .inr ⟨_, _, rfl⟩, fun _ e => by cases e⟩
    obtain ⟨s1, s2, s3⟩ := sh
    have pl : ∀ {z : AVal} {cz : Value}, VRel μ z cz → (z = .nilIface ∨ ∃ t v, z = .iface t v) → Plain cz ∧ (cz = .nilIface → z = .nilIface) ∧ ∀ a, cz ≠ .agg a := by
      intro z cz hz hc
      rcases hc with rfl | ⟨b, o, rfl⟩ <;> cases hz <;> exact ⟨trivial, by simp, by simp⟩
    obtain ⟨a1, a2, a3⟩ := pl hx s1
    obtain ⟨b1, b2, b3⟩ := pl hy s2
    by_cases hnn : cx = .nilIface ∧ cy = .nilIface
    · obtain ⟨rfl, rfl⟩ := hnn
      obtain ⟨hbt, hrt⟩ := s3 (a2 rfl) (b2 rfl)
      have hguard : (eqGuard (eqBin neg) t xo yo .nilIface .nilIface).run P w = .ok () w := by
        rcases hboth hbt with hms | hlit
        · have : (Op.eqGuardIn Op.maxDepth t .nilIface .nilIface).run P w = .ok false w := by
            have := guardIn_nil (P := P) (w := w) hu 9999
            rw [hms] at this
            exact this
          cases neg <;> simp only [eqGuard, eqBin, Bool.not_true, Bool.false_eq_true, if_false] <;> split <;> first | rfl | simp [this]
        · cases neg <;> cases xo <;> cases yo <;> first
            | (simp [isConstO] at hlit; done)
            | simp [eqGuard, eqBin]
      simp only [Sem.run_bind, hguard, Result.andThen_ok, binOp_equal (neg := neg) a1 b1 (equal_at he)]
    · exact fin a1 b1 hnn (fun hc => by obtain ⟨⟨a, e⟩, _⟩ := hc; exact a3 a e) he
  | struct l =>
    obtain ⟨hne, fs, hu, hk⟩ := hT
    obtain ⟨he, hg, ⟨a, b, rfl, rfl⟩⟩ := eqStruct_sound (P := P) (w := w) hu hk hx hy hb hne 9997
    have hguard : (eqGuard (eqBin neg) t xo yo (.agg a) (.agg b)).run P w = .ok () w := by
      cases neg <;> simp [eqGuard, eqBin, hg]
    simp only [Sem.run_bind, hguard, Result.andThen_ok, binOp_equal (neg := neg) (t := t) (cx := .agg a) (cy := .agg b) trivial trivial (equal_at he)]

/-! ### Plain operations -/
theorem neg_run {k : IntKind} {n : Int} : (Op.unary .neg (.int k n)).run P w = .ok (.int k (k.wrap (0 - n))) w := by
  simp [Op.unary, Op.intArith]

theorem ones_ofInt (k : IntKind) : BitVec.ofInt k.bits (if k.signed then -1 else k.max) = BitVec.allOnes k.bits := by
  cases k <;> rfl

theorem compl_run {k : IntKind} {n : Nat} (hn : n ≤ kmax k) : (Op.unary .xor (.int k n)).run P w = .ok (.int k (match ksigned k with | true => .negSucc n | false => ((kmax k - n : Nat) : Int))) w := by
  have h1 : (BitVec.ofInt k.bits (n : Int)).toNat = n := bv_nat hn
  have h2 : ((BitVec.ofInt k.bits (if k.signed then -1 else k.max)) ^^^ BitVec.ofInt k.bits (n : Int)).toNat = 2 ^ k.bits - 1 - n := by
    rw [ones_ofInt, BitVec.allOnes_xor, BitVec.toNat_not, h1]
  have h3 : k.wrap ((2 ^ k.bits - 1 - n : Nat) : Int) = (match ksigned k with | true => .negSucc n | false => ((kmax k - n : Nat) : Int)) := by
    have hm := kmod_eq k
    have hmn : kmod k = 2 ^ k.bits := by
      have := hm
      exact_mod_cast this
    have hlt := kmax_lt k
    rw [← hmn]
    have hmod : (((kmod k - 1 - n : Nat) : Int)) % (kmod k : Int) = ((kmod k - 1 - n : Nat) : Int) := Int.emod_eq_of_lt (by omega) (by omega)
    cases hs : ksigned k with
    | true =>
      have hk2 : kmod k = 2 * (kmax k + 1) := by cases k <;> first | (cases hs; done) | rfl
      rw [wrap_signed_hi hs (by rw [hmod]; omega), hmod]
      simp only []
      omega
    | false =>
      have hk2 : kmod k = kmax k + 1 := by cases k <;> first | (cases hs; done) | rfl
      rw [wrap_unsigned hs, hmod]
      simp only []
      omega
  have h4 : (Op.unary .xor (.int k n)).run P w = .ok (.int k (k.wrap (((BitVec.ofInt k.bits (if k.signed then -1 else k.max)) ^^^ BitVec.ofInt k.bits (n : Int)).toNat : Int))) w := by
    simp only [Op.unary, Op.intBits, Sem.run_pure]
  rw [h4, h2, h3]

theorem i2i_run {src dst : TypeId} {j k k' : IntKind} {n : Int} (hs : P.underlying src = some (.int j)) (hd : P.underlying dst = some (.int k)) : (convert src dst (.int k' n)).run P w = .ok (.int k (k.wrap n)) w := by
  simp [convert, Sem.run_bind, run_underlying hs, run_underlying hd, Conv.intToInt]

theorem s2s_run {src dst : TypeId} {s : ByteArray} (hs : P.underlying src = some .string) (hd : P.underlying dst = some .string) : (convert src dst (.string s)).run P w = .ok (.string s) w := by
  simp [convert, Sem.run_bind, run_underlying hs, run_underlying hd]

theorem mkif_run {t : TypeId} {d : TypeDesc} {cx : Value} (hu : P.underlying t = some d) (hd : ∀ ms, d ≠ .interface ms) : (Instr.makeInterface t cx).run P w = .ok (.iface t cx) w := by
  simp only [Instr.makeInterface, Sem.run_bind, run_underlying hu, Result.andThen_ok]
  rfl

theorem extract_run {c : Array Value} {i : Nat} {cv : Value} (hc : c[i]? = some cv) : (Instr.extract (.tuple c) i).run P w = .ok cv w := by
  simp [Instr.extract, hc]

theorem mkmap_good {t : TypeId} (hr : HRel μ h w) (hf : μ h.next = none) : Good P μ h w (Instr.makeMap t none) (.map h.next) (h.new (.map [] 0)) := by
  obtain ⟨im, i1, i2, a, b⟩ := newObj_good (o := .map [] 0) (obj := .map #[] 0) hr hf (fun μ' im _ _ => ⟨#[], rfl, .nil⟩)
  refine ⟨_, .map (some im.blk), _, ?_, .map _ im (Mu.add_same _ _ _), a, b⟩
  simp [Instr.makeMap, i2]

theorem tassert_good {xt t : TypeId} {d : TypeDesc} {zero x : AVal} {cx : Value} {commaOk : Bool} (hr : HRel μ h w) (hx : VRel μ x cx) (hu : P.underlying t = some d) (hd : ∀ ms, d ≠ .interface ms) (hz : zeroOf P t = some zero)
    (hk : (match x with
      | .nilIface => assertOp false x zero commaOk h
      | .iface u w => (match Nat.beq t u with
        | true => assertOp true w zero commaOk h
        | false => assertOp false x zero commaOk h)
      | _ => OR.fail) = .ok v h') : Good P μ h w (Instr.typeAssert cx xt t commaOk) v h' := by
  obtain ⟨cz, z1, z2⟩ := zeroOf_run hz w
  split at hk
  · cases hx
    simp only [assertOp] at hk
    split at hk
    case h_2 => cases hk
    cases hk
    refine Good.of_pure hr (cv := .tuple #[cz, .bool false]) ?_ (.tuple _ _ (vsrel2 (z2 μ) (.bool _)))
    simp only [Instr.typeAssert, Sem.run_bind, run_underlying hu, Result.andThen_ok]
    cases d <;> first | exact absurd rfl (hd _) | simp [z1]
  · rename_i u a
    cases hx with
    | iface _ _ ca hv =>
    split at hk
    · rename_i he
      have he := Nat.eq_of_beq_eq_true he
      subst he
      simp only [assertOp] at hk
      cases hk
      refine Good.of_pure hr (cv := if commaOk then .tuple #[ca, .bool true] else ca) ?_ ?_
      · simp only [Instr.typeAssert, Sem.run_bind, run_underlying hu, Result.andThen_ok]
        cases d <;> first | exact absurd rfl (hd _) | simp
      · cases commaOk
        · exact hv
        · exact .tuple _ _ (vsrel2 hv (.bool _))
    · rename_i he
      have he : t ≠ u := fun e => by subst e; rw [Nat.beq_refl] at he; cases he
      simp only [assertOp] at hk
      split at hk
      case h_2 => cases hk
      cases hk
      refine Good.of_pure hr (cv := .tuple #[cz, .bool false]) ?_ (.tuple _ _ (vsrel2 (z2 μ) (.bool _)))
      simp only [Instr.typeAssert, Sem.run_bind, run_underlying hu, Result.andThen_ok]
      cases d <;> first | exact absurd rfl (hd _) | simp [z1, Ne.symm he]
  · cases hk

end Go.Cg

/- Assertions for interfaces; checks; choices. -/
namespace Go.Cg
variable [Syms]

variable {P : Program} {μ : Mu} {h h' : Heap} {w : World} {v : AVal}

theorem implTab_ok {dyn : List TypeId} {want : Array (String × TypeId)} {u t' : TypeId} {ok : Bool} (hf : (implTab P dyn want).find? (fun e : TypeId × Bool => Nat.beq e.1 u) = some (t', ok)) :
    ∃ i, P.info? u = some i ∧ ok = (Instr.missingMethod want i.methods).isNone := by
  have h1 := List.mem_of_find?_eq_some hf
  have h2 := List.find?_some hf
  have h2 : t' = u := Nat.eq_of_beq_eq_true h2
  subst h2
  unfold implTab at h1
  obtain ⟨a, _, h3⟩ := List.mem_filterMap.1 h1
  cases hi : P.info? a with
  | none => rw [hi] at h3; cases h3
  | some i =>
    rw [hi] at h3; cases h3
    refine ⟨i, hi, ?_⟩
    cases hl : lacking want i.methods with
    | nil => rw [missingMethod_none hl]; rfl
    | cons x l =>
      obtain ⟨m, hm⟩ := missingMethod_some (want := want) (got := i.methods) (by rw [hl]; simp)
      rw [hm]; rfl

theorem tasserti_good {xt t : TypeId} {want : Array (String × TypeId)} {dyn : List TypeId} {x : AVal} {cx : Value} {commaOk : Bool} (hr : HRel μ h w) (hx : VRel μ x cx) (hu : P.underlying t = some (.interface want)) (hz : zeroOf P t = some .nilIface)
    (hk : (match x with
      | .nilIface => assertOp false x .nilIface commaOk h
      | .iface u _ => (match (implTab P dyn want).find? (fun e : TypeId × Bool => Nat.beq e.1 u) with
        | some (_, ok) => assertOp ok x .nilIface commaOk h
        | none => .fail)
      | _ => OR.fail) = .ok v h') : Good P μ h w (Instr.typeAssert cx xt t commaOk) v h' := by
  obtain ⟨cz, z1, z2⟩ := zeroOf_run hz w
  split at hk
  · cases hx
    simp only [assertOp] at hk
    split at hk
    case h_2 => cases hk
    cases hk
    refine Good.of_pure hr (cv := .tuple #[cz, .bool false]) ?_ (.tuple _ _ (vsrel2 (z2 μ) (.bool _)))
    simp only [Instr.typeAssert, Sem.run_bind, run_underlying hu, Result.andThen_ok]
    simp [z1]
  · rename_i u a
    have hx' := hx
    cases hx with
    | iface _ _ ca hv =>
    split at hk
    case h_2 => cases hk
    rename_i t' ok hf
    obtain ⟨i, hi, rfl⟩ := implTab_ok (P := P) hf
    have hti : (typeInfo u).run P w = .ok i w := by simp [typeInfo, hi]
    cases hm : Instr.missingMethod want i.methods with
    | none =>
      simp only [hm, Option.isNone_none, assertOp] at hk
      cases hk
      refine Good.of_pure hr (cv := if commaOk then .tuple #[.iface u ca, .bool true] else .iface u ca) ?_ ?_
      · simp only [Instr.typeAssert, Sem.run_bind, run_underlying hu, Result.andThen_ok, hti, hm, Sem.run_pure]
      · cases commaOk
        · exact hx'
        · exact .tuple _ _ (vsrel2 hx' (.bool _))
    | some m =>
      simp only [hm, Option.isNone_some, assertOp] at hk
      split at hk
      case h_2 => cases hk
      cases hk
      refine Good.of_pure hr (cv := .tuple #[cz, .bool false]) ?_ (.tuple _ _ (vsrel2 (z2 μ) (.bool _)))
      simp only [Instr.typeAssert, Sem.run_bind, run_underlying hu, Result.andThen_ok, hti, hm]
      simp [z1]
  · cases hk

end Go.Cg

/- An operation of the evaluator, and the model's. -/
namespace Go.Cg
variable [Syms]

variable {P : Program} {μ : Mu} {h h' : Heap} {w : World} {v : AVal}

/-- What holds of a value and a world behind an operation. -/
def Rel (μ : Mu) (h : Heap) (w : World) (v : AVal) (h' : Heap) (cv : Value) (w' : World) : Prop :=
  ∃ μ', VRel μ' v cv ∧ HRel μ' h' w' ∧ Ext μ h w μ' h' w'

/-- A call that comes back. -/
def Back (P : Program) (f : FuncId) (args : Array Value) (w : World) (R : Value → World → Prop) : Prop :=
  Calls P f args w fun e w' => ∃ v, e = .returned v ∧ R v w'

/-- An operation that gives a value, by itself or by a call. -/
def Yields' (P : Program) (s : Sem Next) (w : World) (R : Value → World → Prop) : Prop :=
  (∃ cv w', s.run P w = .ok (.value cv) w' ∧ R cv w') ∨ (∃ w', s.run P w = .ok .skip w' ∧ R undef w') ∨
  (∃ f args w', s.run P w = .ok (.enter f args) w' ∧ Back P f args w' R)

theorem Yields'.wp {o : Oper} {a : Act} {next : Act → World → Prop} {Q : Exit → Act → World → Prop} {R : Value → World → Prop} (hy : Yields' P (execOp a.eval o) w R) (hn : ∀ cv w', R cv w' → next (a.put o.dst cv) w') :
    o.wp P a w next Q := by
  unfold Oper.wp
  rcases hy with ⟨cv, w', e, r⟩ | ⟨w', e, r⟩ | ⟨f, args, w', e, r⟩
  · rw [e]; exact hn _ _ r
  · rw [e]; exact hn _ _ r
  · rw [e]
    refine Calls.mono r fun x w'' hx => ?_
    obtain ⟨v, rfl, hv⟩ := hx
    exact hn _ _ hv

theorem yv {s : Sem Value} (hg : Good P μ h w s v h') : Yields' P (do pure (.value (← s))) w (Rel μ h w v h') := by
  obtain ⟨μ', cv, w', e, a, b, c⟩ := hg
  exact .inl ⟨cv, w', by simp [e], μ', a, b, c⟩

theorem yu {s : Sem Unit} (hg : GoodU P μ h w s h') : Yields' P (do s; pure .skip) w (Rel μ h w (.tuple []) h') := by
  obtain ⟨w', e, a, b⟩ := hg
  exact .inr (.inl ⟨w', by simp [e], μ, .tuple _ _ .nil, a, b⟩)

theorem yp {s : Sem Next} {cv : Value} (hr : HRel μ h w) (e : s.run P w = .ok (.value cv) w) (hv : VRel μ v cv) : Yields' P s w (Rel μ h w v h) :=
  .inl ⟨cv, w, e, μ, hv, hr, Ext.refl rfl rfl rfl rfl⟩

/-! ### Operands -/
/-- The operands' values, as the model has them. -/
def Sees (A : List Ent) (g : Option (Nat × Bool)) (env : Env) (μ : Mu) (ρ : Operand → Value) (xs : Array Operand) : Prop :=
  ∀ x ∈ xs, ∀ y v, resO A g x = some y → y.ev env = some v → VRel μ v (ρ x)

theorem un1_ok {x : AOpd} {env : Env} {k : AVal → OR} (hk : un1 x env h k = .ok v h') : ∃ a, x.ev env = some a ∧ k a = .ok v h' := by
  unfold un1 at hk
  cases hx : x.ev env with
  | none => rw [hx] at hk; cases hk
  | some a => rw [hx] at hk; exact ⟨a, rfl, hk⟩

theorem un2_ok {x y : AOpd} {env : Env} {k : AVal → AVal → OR} (hk : un2 x y env k = .ok v h') : ∃ a b, x.ev env = some a ∧ y.ev env = some b ∧ k a b = .ok v h' := by
  unfold un2 at hk
  cases hx : x.ev env with
  | none => rw [hx] at hk; cases hk
  | some a =>
    rw [hx] at hk
    simp only [] at hk
    cases hy : y.ev env with
    | none => rw [hy] at hk; cases hk
    | some b => rw [hy] at hk; exact ⟨a, b, rfl, rfl, hk⟩

theorem orget_ok {x : Option AVal} {h0 : Heap} (hk : OR.get x h0 = .ok v h') : x = some v ∧ h' = h0 := by
  cases x with
  | none => cases hk
  | some a => cases hk; exact ⟨rfl, rfl⟩

theorem map_ok {α β : Type} {x : Option α} {f : α → β} {b : β} (hm : x.map f = some b) : ∃ a, x = some a ∧ f a = b := by
  cases x with
  | none => cases hm
  | some a => cases hm; exact ⟨a, rfl, rfl⟩

theorem evA_ok {p : Pos} {off : Nat} {env : Env} {b : Pos} {o : Nat} (hg : Tr.get p env = some (.ptr b o)) : (AOpd.a p off).ev env = some (.ptr b (o + off)) := by
  show AOpd.evA p off env = _
  unfold AOpd.evA
  rw [hg]
  simp only [forceN_eq]

/-- An address that an operand stands for. -/
theorem resA_sees {A : List Ent} {g : Option (Nat × Bool)} {env : Env} {ρ : Operand → Value} {xs : Array Operand} {x : Operand} {p : Pos} {off : Nat} {b : Pos} {o : Nat} (hs : Sees A g env μ ρ xs) (hx : x ∈ xs) (hr : resA A g x = some (p, off))
    (hg : Tr.get p env = some (.ptr b o)) : VRel μ (.ptr b (o + off)) (ρ x) := by
  unfold resA at hr
  split at hr
  · rename_i q hq
    cases hr
    exact hs x hx (.t p) _ hq (by show Tr.get p env = _; rw [hg]; rfl)
  · rename_i q off' hq
    cases hr
    exact hs x hx (.a p off) _ hq (evA_ok hg)
  · cases hr

theorem Sees.opt {A : List Ent} {g : Option (Nat × Bool)} {env : Env} {ρ : Operand → Value} {xs : Array Operand} {x : Option Operand} {y : Option AOpd} {r : Option Nat} (hs : Sees A g env μ ρ xs) (hx : ∀ z, x = some z → z ∈ xs) (hr : resOpt A g x = some y) (he : optEv env y = some r) :
    OptN r (x.map ρ) := by
  cases x with
  | none => cases hr; cases he; exact .none
  | some z =>
    obtain ⟨q, hq, rfl⟩ := map_ok hr
    unfold optEv at he
    simp only [] at he
    split at he
    case h_2 => cases he
    rename_i a ha
    split at he
    case h_2 => cases he
    rename_i n hn
    cases he
    have := hs z (hx z rfl) q a hq ha
    unfold asNat at hn
    split at hn
    case h_2 => cases hn
    cases hn
    show OptN _ (some (ρ z))
    generalize ρ z = c at this ⊢
    cases this
    exact .some _ _

theorem allSome_map {A : List Ent} {g : Option (Nat × Bool)} {env : Env} {ρ : Operand → Value} {xs : Array Operand} (hs : Sees A g env μ ρ xs) : ∀ {l : List Operand} {ys : List AOpd} {β : Type} {k : List AVal → β} {f r : β}, (∀ x ∈ l, x ∈ xs) → allSome (resO A g) l = some ys → f ≠ r → evsK env ys k f = r →
    ∃ vs, VsRel μ vs (l.map ρ) ∧ k vs = r := by
  intro l
  induction l with
  | nil => intro ys β k f r hl ha hne hk; cases ha; exact ⟨[], .nil, hk⟩
  | cons x l ih =>
    intro ys β k f r hl ha hne hk
    simp only [allSome] at ha
    split at ha
    case h_2 => cases ha
    rename_i y hy
    split at ha
    case h_2 => cases ha
    rename_i ys' hys
    cases ha
    have hk' : (Option.rec (motive := fun _ => β) f (fun v => evsK env ys' (fun l => k (v :: l)) f) (y.ev env)) = r := hk
    cases hv : y.ev env with
    | none => rw [hv] at hk'; exact absurd hk' hne
    | some a =>
      rw [hv] at hk'
      obtain ⟨vs, h1, h2⟩ := ih (fun x hx => hl x (List.mem_cons_of_mem _ hx)) hys hne hk'
      exact ⟨a :: vs, .cons _ _ _ _ (hs x (hl x List.mem_cons_self) y a hy hv) h1, h2⟩

end Go.Cg

/- Each operation that calls nothing. -/
namespace Go.Cg
variable [Syms]

section
variable {P : Program} {dyn : List TypeId} {A : List Ent} {g : Option (Nat × Bool)} {env : Env} {C : CallF} {ρ : Operand → Value} {μ : Mu} {h h' : Heap} {w : World} {v : AVal} {aop : AOp} {o : Oper}

/-- What each operation's lemma says. -/
def OpGood (P : Program) (dyn : List TypeId) (o : Oper) : Prop :=
  ∀ {A : List Ent} {g : Option (Nat × Bool)} {env : Env} {C : CallF} {ρ : Operand → Value} {μ : Mu} {h h' : Heap} {w : World} {v : AVal} {aop : AOp},
    compOp P dyn A g o.op = some aop → Sees A g env μ ρ o.op.operands → HRel μ h w → Fresh μ h h' → stepOp aop C env h = .ok v h' → Yields' P (execOp ρ o) w (Rel μ h w v h')

theorem fresh_new {ob : ABlk} (hf : Fresh μ h (h.new ob)) : μ h.next = none :=
  hf h.next (Nat.le_refl _) (by rw [Heap.next_new, Pos.nat_succ]; exact Nat.lt_succ_self _)

theorem op_move {d : Option Tmp} {t : TypeId} {pos : String} {af : Array Edge} {gd : Option (Nat × Bool)} (x : Operand) : OpGood P dyn ⟨d, .move x, t, pos, af, gd⟩ := by
  intro A g env C ρ μ h h' w v aop hc hs hr hf hk
  obtain ⟨y, hy, rfl⟩ := map_ok hc
  obtain ⟨he, rfl⟩ := orget_ok (show OR.get (y.ev env) h = .ok v h' from hk)
  exact yp hr rfl (hs x (by simp [Op.operands]) y v hy he)

theorem op_assign {d : Option Tmp} {t : TypeId} {pos : String} {af : Array Edge} {gd : Option (Nat × Bool)} (x : Operand) : OpGood P dyn ⟨d, .assign x, t, pos, af, gd⟩ := by
  intro A g env C ρ μ h h' w v aop hc hs hr hf hk
  obtain ⟨y, hy, rfl⟩ := map_ok hc
  obtain ⟨he, rfl⟩ := orget_ok (show OR.get (y.ev env) h = .ok v h' from hk)
  exact yp hr rfl (hs x (by simp [Op.operands]) y v hy he)

theorem op_pick {d : Option Tmp} {t : TypeId} {pos : String} {af : Array Edge} {gd : Option (Nat × Bool)} (c a b : Operand) : OpGood P dyn ⟨d, .pick c a b, t, pos, af, gd⟩ := by
  intro A g env C ρ μ h h' w v aop hc hs hr hf hk
  simp only [compOp] at hc
  split at hc
  case h_2 => cases hc
  rename_i c' a' b' h1 h2 h3
  cases hc
  have hk : pickOp c' a' b' env h = .ok v h' := hk
  unfold pickOp at hk
  split at hk
  · rename_i he
    obtain ⟨hv, rfl⟩ := orget_ok hk
    have hcb := hs c (by simp [Op.operands]) c' _ h1 he
    have := hs a (by simp [Op.operands]) a' v h2 hv
    generalize hρ : ρ c = cc at hcb
    cases hcb
    refine yp hr ?_ this
    simp [execOp, hρ, asBool]
  · rename_i he
    obtain ⟨hv, rfl⟩ := orget_ok hk
    have hcb := hs c (by simp [Op.operands]) c' _ h1 he
    have := hs b (by simp [Op.operands]) b' v h3 hv
    generalize hρ : ρ c = cc at hcb
    cases hcb
    refine yp hr ?_ this
    simp [execOp, hρ, asBool]
  · cases hk

theorem op_alloc {d : Option Tmp} {t : TypeId} {pos : String} {af : Array Edge} {gd : Option (Nat × Bool)} (e : TypeId) : OpGood P dyn ⟨d, .alloc e, t, pos, af, gd⟩ := by
  intro A g env C ρ μ h h' w v aop hc hs hr hf hk
  obtain ⟨z, hz, rfl⟩ := map_ok hc
  have hk : (Heap.newK (.cells z) h fun b h => OR.ok (.ptr b 0) h) = .ok v h' := hk
  rw [Heap.newK_eq] at hk
  cases hk
  exact yv (alloc_good hr (fresh_new hf) hz)

theorem op_box {d : Option Tmp} {t : TypeId} {pos : String} {af : Array Edge} {gd : Option (Nat × Bool)} (e : TypeId) (x : Operand) : OpGood P dyn ⟨d, .box e x, t, pos, af, gd⟩ := by
  intro A g env C ρ μ h h' w v aop hc hs hr hf hk
  simp only [compOp] at hc
  split at hc
  case h_2 => cases hc
  rename_i n y h1 h2
  cases hc
  obtain ⟨a, ha, hk⟩ := un1_ok (show un1 y env h _ = .ok v h' from hk)
  split at hk
  case h_2 => cases hk
  rename_i cs hcs
  split at hk
  case h_2 => cases hk
  rw [Heap.newK_eq] at hk
  cases hk
  exact yv (box_good hr (fresh_new hf) (hs x (by simp [Op.operands]) y a h2 ha) hcs)

theorem op_load {d : Option Tmp} {t : TypeId} {pos : String} {af : Array Edge} {gd : Option (Nat × Bool)} (e : TypeId) (x : Operand) : OpGood P dyn ⟨d, .load e x, t, pos, af, gd⟩ := by
  intro A g env C ρ μ h h' w v aop hc hs hr hf hk
  simp only [compOp] at hc
  split at hc
  case h_2 => cases hc
  rename_i agg n p off h1 h2 h3
  cases hc
  have hk : ldOp agg n p off env h = .ok v h' := hk
  unfold ldOp at hk
  split at hk
  case h_2 => cases hk
  rename_i b o hg
  split at hk
  case h_2 => cases hk
  rename_i blk hb
  have hx := resA_sees hs (x := x) (by simp [Op.operands]) h3 hg
  have hl : (match agg with | true => (loadN blk (o + off) n).map AVal.agg | false => loadOne blk (o + off)) = some v ∧ h' = h := by
    cases agg with
    | true =>
      simp only [] at hk ⊢
      split at hk
      · rename_i l hl; cases hk; rw [hl]; exact ⟨rfl, rfl⟩
      · cases hk
    | false => exact orget_ok hk
  obtain ⟨hl, rfl⟩ := hl
  exact yv (ld_good hr h1 h2 hx hb (by cases agg <;> exact hl))

theorem op_store {d : Option Tmp} {t : TypeId} {pos : String} {af : Array Edge} {gd : Option (Nat × Bool)} (e : TypeId) (x y : Operand) : OpGood P dyn ⟨d, .store e x y, t, pos, af, gd⟩ := by
  intro A g env C ρ μ h h' w v aop hc hs hr hf hk
  simp only [compOp] at hc
  split at hc
  case h_2 => cases hc
  rename_i agg n p off z h1 h2 h3 h4
  cases hc
  obtain ⟨a, ha, hk⟩ := un1_ok (show un1 z env h _ = .ok v h' from hk)
  have hk : stOp n p off a env h = .ok v h' := hk
  unfold stOp at hk
  split at hk
  case h_2 => cases hk
  rename_i b o hg
  have hx := resA_sees hs (x := x) (by simp [Op.operands]) h3 hg
  have hy := hs y (by simp [Op.operands]) z a h4 ha
  split at hk
  case h_2 => cases hk
  rename_i blk hb
  split at hk
  · rename_i cs _
    split at hk
    case h_2 => cases hk
    rename_i hl
    split at hk
    case h_2 => cases hk
    rename_i blk' hst
    rw [Heap.putK_eq] at hk
    cases hk
    exact yu (st_good hr h2 hx hy hb (.inl ⟨cs, rfl, Nat.eq_of_beq_eq_true hl, hst⟩))
  · cases hk
  · rename_i hn1 hn2
    split at hk
    case h_2 => cases hk
    rename_i hl
    split at hk
    case h_2 => cases hk
    rename_i blk' hst
    rw [Heap.putK_eq] at hk
    cases hk
    refine yu (st_good hr h2 hx hy hb (.inr ⟨Nat.eq_of_beq_eq_true hl, ?_, hn1, hst⟩))
    cases a <;> first | exact ⟨_, rfl⟩ | exact absurd rfl (hn2 _)

end
end Go.Cg

/- Each operation that calls nothing: literals, numbers, conversions. -/
namespace Go.Cg
variable [Syms]

section
variable {P : Program} {dyn : List TypeId} {d : Option Tmp} {ty : TypeId} {pos : String} {af : Array Edge} {gd : Option (Nat × Bool)}

theorem parts_rel {A : List Ent} {g : Option (Nat × Bool)} {env : Env} {ρ : Operand → Value} {μ : Mu} {xs : Array Operand} (hs : Sees A g env μ ρ xs) {place : Nat → Option (Nat × Nat)} :
    ∀ {l : List (Nat × Operand)} {ps : List (Nat × Nat × AOpd)}, (∀ q ∈ l, q.2 ∈ xs) → compParts A g place l = some ps → PRel μ env place ps (l.map fun q => (q.1, ρ q.2))
  | [], ps, _, hc => by cases hc; exact .nil
  | q :: l, ps, hm, hc => by
    simp only [compParts, allSome] at hc
    split at hc
    case h_2 => cases hc
    rename_i b hb
    split at hc
    case h_2 => cases hc
    rename_i ps' hps
    cases hc
    split at hb
    case h_2 => cases hb
    rename_i off size x h1 h2
    cases hb
    exact .cons _ _ _ _ _ _ _ h1 (fun v hv => hs q.2 (hm q List.mem_cons_self) x v h2 hv) (parts_rel hs (fun q hq => hm q (List.mem_cons_of_mem _ hq)) hps)

theorem op_build (t : TypeId) (parts : Array (Nat × Operand)) : OpGood P dyn ⟨d, .build t parts, ty, pos, af, gd⟩ := by
  intro A g env C ρ μ h h' w v aop hc hs hr hf hk
  have hm : ∀ q ∈ parts.toList, q.2 ∈ (Op.build t parts).operands := fun q hq => by
    simp only [Op.operands, List.mem_toArray, List.mem_map]; exact ⟨q, hq, rfl⟩
  have e : (parts.map fun (i, x) => (i, ρ x)).toList = parts.toList.map fun q => (q.1, ρ q.2) := by simp
  simp only [compOp] at hc
  split at hc
  · rename_i z fs h1 h2
    split at hc
    case h_2 => cases hc
    rename_i pl h3
    obtain ⟨ps, hps, rfl⟩ := map_ok hc
    have hp := parts_rel hs hm hps
    rw [← e] at hp
    exact yv (build_struct_good hr h2 h1 h3 hp hk)
  · rename_i z n e' h1 h2
    split at hc
    case h_2 => cases hc
    rename_i m h3
    obtain ⟨ps, hps, rfl⟩ := map_ok hc
    have hp := parts_rel hs hm hps
    rw [← e] at hp
    exact yv (build_array_good hr h2 h1 h3 hp hk)
  · cases hc

theorem isByteT_iff {t : TypeId} (hb : isByteT P t = true) : P.underlying t = some (.int .u8) := by
  unfold isByteT at hb
  split at hb
  · assumption
  · cases hb

theorem byte_one {e : TypeId} {n : Nat} (hc : (!isByteT P e || Nat.beq n 1) = true) : isByteT P e = true → n = 1 := fun hb => by
  rw [hb] at hc
  exact Nat.eq_of_beq_eq_true (by simpa using hc)

theorem op_buildSlice (t : TypeId) (len : Nat) (parts : Array (Nat × Operand)) : OpGood P dyn ⟨d, .buildSlice t len parts, ty, pos, af, gd⟩ := by
  intro A g env C ρ μ h h' w v aop hc hs hr hf hk
  have hm : ∀ q ∈ parts.toList, q.2 ∈ (Op.buildSlice t len parts).operands := fun q hq => by
    simp only [Op.operands, List.mem_toArray, List.mem_map]; exact ⟨q, hq, rfl⟩
  have e : (parts.map fun (i, x) => (i, ρ x)).toList = parts.toList.map fun q => (q.1, ρ q.2) := by simp
  simp only [compOp] at hc
  split at hc
  case h_2 => cases hc
  rename_i el hu
  split at hc
  case h_2 => cases hc
  rename_i n z h1 h2
  split at hc
  case h_2 => cases hc
  rename_i hbb
  simp only [Bool.and_eq_true] at hbb
  obtain ⟨⟨⟨b1, b2⟩, b3⟩, b4⟩ := hbb
  obtain ⟨ps, hps, rfl⟩ := map_ok hc
  have hp := parts_rel hs hm hps
  rw [← e] at hp
  have hk : fillK env OR.fail ps (repl len z) (fun cs => bsliceOp (isByteT P el) n len cs h) = OR.ok v h' := hk
  have hfr : μ h.next = none := by
    obtain ⟨cz, q1, q2, q3⟩ := zeroCells_run h2 w
    obtain ⟨hz1, hz2⟩ := zeros_rel (len := len) (q2 μ) (Nat.eq_of_beq_eq_true b3) q3
    obtain ⟨l', c', _, _, _, hk', _⟩ := fill_sound hp hz1 hz2 hk
    unfold bsliceOp at hk'
    split at hk'
    · split at hk'
      case h_2 => cases hk'
      rw [Heap.newK_eq] at hk'; cases hk'; exact fresh_new hf
    · rw [Heap.newK_eq] at hk'; cases hk'; exact fresh_new hf
  exact yv (bslice_good hr hfr hu h1 h2 (Nat.eq_of_beq_eq_true b3) (Nat.le_of_ble_eq_true b1) (byte_one b4) hp hk)

theorem op_unOp (op : UnOp) (t : TypeId) (x : Operand) : OpGood P dyn ⟨d, .unOp op t x, ty, pos, af, gd⟩ := by
  intro A g env C ρ μ h h' w v aop hc hs hr hf hk
  simp only [compOp] at hc
  split at hc
  · rename_i y h1 h2
    split at hc
    case h_2 => cases hc
    cases hc
    obtain ⟨a, ha, hk⟩ := un1_ok (show un1 y env h _ = .ok v h' from hk)
    have hx := hs x (by simp [Op.operands]) y a h1 ha
    split at hk
    case h_2 => cases hk
    cases hk
    generalize hρ : ρ x = cx at hx
    cases hx
    exact yp hr (by simp [execOp, hρ, Op.unary]) (.bool _)
  · rename_i y k h1 h2
    split at hc
    · cases hc
      obtain ⟨a, ha, hk⟩ := un1_ok (show un1 y env h _ = .ok v h' from hk)
      have hx := hs x (by simp [Op.operands]) y a h1 ha
      split at hk
      case h_2 => cases hk
      split at hk
      case h_2 => cases hk
      rename_i hkk
      have hkk := kEq_iff.1 hkk
      subst hkk
      rw [wrapK_eq] at hk
      cases hk
      generalize hρ : ρ x = cx at hx
      cases hx
      refine yp hr ?_ (.int _ _)
      simp only [execOp, Sem.run_bind]
      rw [hρ, neg_run]
      rfl
    · cases hc
      obtain ⟨a, ha, hk⟩ := un1_ok (show un1 y env h _ = .ok v h' from hk)
      have hx := hs x (by simp [Op.operands]) y a h1 ha
      split at hk
      case h_2 => cases hk
      rename_i k' n
      split at hk
      case h_2 => cases hk
      rename_i hbb
      simp only [Bool.and_eq_true] at hbb
      have hkk := kEq_iff.1 hbb.1
      subst hkk
      have hn := Nat.le_of_ble_eq_true hbb.2
      generalize hρ : ρ x = cx at hx
      cases hx
      have hrun := compl_run (P := P) (w := w) hn
      split at hk
      · rename_i hsg
        rw [forceN_eq] at hk
        cases hk
        rw [hsg] at hrun
        refine yp hr ?_ (.int _ _)
        simp only [execOp, Sem.run_bind]
        rw [hρ]
        erw [hrun]
        rfl
      · rename_i hsg
        rw [forceN_eq] at hk
        cases hk
        rw [hsg] at hrun
        refine yp hr ?_ (.int _ _)
        simp only [execOp, Sem.run_bind]
        rw [hρ]
        erw [hrun]
        rfl
    · cases hc
  · cases hc

theorem op_convert (src dst : TypeId) (x : Operand) : OpGood P dyn ⟨d, .convert src dst x, ty, pos, af, gd⟩ := by
  intro A g env C ρ μ h h' w v aop hc hs hr hf hk
  simp only [compOp] at hc
  split at hc
  case h_2 => cases hc
  rename_i y h1
  have key : ∀ a, y.ev env = some a → VRel μ a (ρ x) := fun a ha => hs x (by simp [Op.operands]) y a h1 ha
  unfold compConv at hc
  split at hc
  · rename_i k0 k h2 h3
    cases hc
    obtain ⟨a, ha, hk⟩ := un1_ok (show un1 y env h _ = .ok v h' from hk)
    have hx := key a ha
    split at hk
    case h_2 => cases hk
    rw [wrapK_eq] at hk
    cases hk
    generalize hρ : ρ x = cx at hx
    cases hx
    refine yp hr ?_ (.int _ _)
    simp only [execOp, Sem.run_bind]
    rw [hρ, i2i_run h2 h3]
    rfl
  · rename_i h2 h3
    cases hc
    obtain ⟨a, ha, hk⟩ := un1_ok (show un1 y env h _ = .ok v h' from hk)
    have hx := key a ha
    split at hk
    case h_2 => cases hk
    cases hk
    have hx' := hx
    generalize hρ : ρ x = cx at hx hx'
    cases hx
    refine yp hr ?_ hx'
    simp only [execOp, Sem.run_bind]
    rw [hρ, s2s_run h2 h3]
    rfl
  · rename_i e h2 h3
    split at hc
    case isFalse => cases hc
    rename_i hb
    cases hc
    obtain ⟨a, ha, hk⟩ := un1_ok (show un1 y env h _ = .ok v h' from hk)
    have hx := key a ha
    split at hk
    case h_2 => cases hk
    rw [Heap.newK_eq] at hk
    cases hk
    exact yv (s2b_good hr (fresh_new hf) hx h2 h3 (isByteT_iff hb))
  · rename_i e h2 h3
    split at hc
    case isFalse => cases hc
    rename_i hb
    cases hc
    obtain ⟨a, ha, hk⟩ := un1_ok (show un1 y env h _ = .ok v h' from hk)
    exact yv (b2s_good hr (key a ha) h2 (isByteT_iff hb) h3 hk)
  · rename_i e0 e h2 h3
    split at hc
    case h_2 => cases hc
    rename_i he hb
    have he := Nat.eq_of_beq_eq_true he
    subst he
    cases hc
    obtain ⟨a, ha, hk⟩ := un1_ok (show un1 y env h _ = .ok v h' from hk)
    exact yv (bb_good hr (key a ha) h3 (isByteT_iff hb) hk)
  · cases hc

theorem op_makeInterface (t : TypeId) (x : Operand) : OpGood P dyn ⟨d, .makeInterface t x, ty, pos, af, gd⟩ := by
  intro A g env C ρ μ h h' w v aop hc hs hr hf hk
  simp only [compOp] at hc
  split at hc
  · cases hc
  · rename_i dd y hn h1 h2
    cases hc
    obtain ⟨a, ha, hk⟩ := un1_ok (show un1 y env h _ = .ok v h' from hk)
    cases hk
    refine yp hr ?_ (.iface _ _ _ (hs x (by simp [Op.operands]) y a h2 ha))
    simp only [execOp, Sem.run_bind]
    rw [mkif_run h1 (fun ms e => by subst e; exact hn ms rfl)]
    rfl
  · cases hc

end
end Go.Cg

/- Each operation that calls nothing: functions, slices, parts, maps. -/
namespace Go.Cg
variable [Syms]

section
variable {P : Program} {dyn : List TypeId} {d : Option Tmp} {ty : TypeId} {pos : String} {af : Array Edge} {gd : Option (Nat × Bool)}

theorem op_makeMap (t : TypeId) : OpGood P dyn ⟨d, .makeMap t none, ty, pos, af, gd⟩ := by
  intro A g env C ρ μ h h' w v aop hc hs hr hf hk
  cases hc
  have hk : (Heap.newK (.map [] 0) h fun b h => OR.ok (.map b) h) = .ok v h' := hk
  rw [Heap.newK_eq] at hk
  cases hk
  exact yv (mkmap_good hr (fresh_new hf))

theorem op_makeSlice (t : TypeId) (l c : Operand) : OpGood P dyn ⟨d, .makeSlice t l c, ty, pos, af, gd⟩ := by
  intro A g env C ρ μ h h' w v aop hc hs hr hf hk
  simp only [compOp] at hc
  split at hc
  case h_2 => cases hc
  rename_i e hu
  split at hc
  case h_2 => cases hc
  rename_i n bytes z yl yc h1 h2 h3 h4 h5
  split at hc
  case h_2 => cases hc
  rename_i hbb
  cases hc
  simp only [Bool.and_eq_true] at hbb
  obtain ⟨a, b, ha, hb, hk⟩ := un2_ok (show un2 yl yc env _ = .ok v h' from hk)
  refine yv (mkslice_good hr hf (hs l (by simp [Op.operands]) yl a h4 ha) (hs c (by simp [Op.operands]) yc b h5 hb) hu h1 h2 h3 (Nat.eq_of_beq_eq_true hbb.1) (fun hby => ?_) hk)
  have h6 := hbb.2
  rw [hby] at h6
  simp only [Bool.not_true, Bool.false_or, Bool.and_eq_true] at h6
  refine ⟨Nat.eq_of_beq_eq_true h6.1, ?_⟩
  have h7 := h6.2
  split at h7
  · rfl
  · cases h7

theorem op_fieldAddr (t : TypeId) (x : Operand) (f : Nat) : OpGood P dyn ⟨d, .fieldAddr t x f, ty, pos, af, gd⟩ := by
  intro A g env C ρ μ h h' w v aop hc hs hr hf hk
  simp only [compOp] at hc
  split at hc
  case h_2 => cases hc
  rename_i fs hu
  split at hc
  case h_2 => cases hc
  rename_i fl hfl
  split at hc
  case h_2 => cases hc
  rename_i n p off h1 h2
  cases hc
  have hk : OR.get ((AOpd.a p (off + fl.offset)).ev env) h = .ok v h' := hk
  obtain ⟨he, rfl⟩ := orget_ok hk
  have he : AOpd.evA p (off + fl.offset) env = some v := he
  unfold AOpd.evA at he
  split at he
  case h_2 => cases he
  rename_i b o hg
  rw [forceN_eq] at he
  cases he
  have hx := resA_sees hs (x := x) (by simp [Op.operands]) h2 hg
  generalize hρ : ρ x = cx at hx
  cases hx with
  | ptr _ _ im hm =>
  refine yp hr (cv := .pointer (some ⟨im.blk, im.base + (o + (off + fl.offset)), none⟩)) ?_ (.ptr _ _ im hm)
  have e : Addr.add ⟨im.blk, im.base + (o + off), none⟩ fl.offset = ⟨im.blk, im.base + (o + (off + fl.offset)), none⟩ := by
    rw [addr_add]; congr 1; omega
  have hrun : (Instr.fieldAt t (.pointer (some ⟨im.blk, im.base + (o + off), none⟩)) f).run P w = .ok (.pointer (some ⟨im.blk, im.base + (o + (off + fl.offset)), none⟩)) w := by
    simp only [Instr.fieldAt, Sem.run_bind, run_underlying hu, Result.andThen_ok, hfl, Instr.sureAddr, Sem.run_pure, fieldPlace, szOf_run h1, Nat.succ_ne_zero, if_false, e]
  simp only [execOp, Sem.run_bind]
  rw [hρ, hrun]
  rfl

theorem op_field (t : TypeId) (x : Operand) (f : Nat) : OpGood P dyn ⟨d, .field t x f, ty, pos, af, gd⟩ := by
  intro A g env C ρ μ h h' w v aop hc hs hr hf hk
  simp only [compOp] at hc
  split at hc
  case h_2 => cases hc
  rename_i fs hu
  split at hc
  case h_2 => cases hc
  rename_i fl hfl
  split at hc
  case h_2 => cases hc
  rename_i n agg y h1 h2 h3
  cases hc
  obtain ⟨a, ha, hk⟩ := un1_ok (show un1 y env h _ = .ok v h' from hk)
  obtain ⟨hk2, rfl⟩ := orget_ok hk
  exact yv (field_good hr (hs x (by simp [Op.operands]) y a h3 ha) hu hfl h2 h1 hk2)

theorem op_indexAddr (t : TypeId) (x i : Operand) : OpGood P dyn ⟨d, .indexAddr t x i, ty, pos, af, gd⟩ := by
  intro A g env C ρ μ h h' w v aop hc hs hr hf hk
  simp only [compOp] at hc
  split at hc
  · rename_i y z e h1 h2 hu
    obtain ⟨n, hn, rfl⟩ := map_ok hc
    obtain ⟨a, b, ha, hb, hk⟩ := un2_ok (show un2 y z env _ = .ok v h' from hk)
    obtain ⟨hk2, rfl⟩ := orget_ok hk
    exact yv (ia_good hr (hs x (by simp [Op.operands]) y a h1 ha) (hs i (by simp [Op.operands]) z b h2 hb) hu hn hk2)
  · rename_i y z m e h1 h2 hu
    obtain ⟨n, hn, rfl⟩ := map_ok hc
    obtain ⟨a, b, ha, hb, hk⟩ := un2_ok (show un2 y z env _ = .ok v h' from hk)
    obtain ⟨hk2, rfl⟩ := orget_ok hk
    exact yv (iaa_good hr (hs x (by simp [Op.operands]) y a h1 ha) (hs i (by simp [Op.operands]) z b h2 hb) hu hn hk2)
  · cases hc

theorem op_index (t : TypeId) (x i : Operand) : OpGood P dyn ⟨d, .index t x i, ty, pos, af, gd⟩ := by
  intro A g env C ρ μ h h' w v aop hc hs hr hf hk
  simp only [compOp] at hc
  split at hc
  · rename_i y z h1 h2 hu
    cases hc
    obtain ⟨a, b, ha, hb, hk⟩ := un2_ok (show un2 y z env _ = .ok v h' from hk)
    obtain ⟨hk2, rfl⟩ := orget_ok hk
    exact yv (ixs_good hr (hs x (by simp [Op.operands]) y a h1 ha) (hs i (by simp [Op.operands]) z b h2 hb) hu hk2)
  · rename_i y z m e h1 h2 hu
    split at hc
    case h_2 => cases hc
    rename_i n agg h3 h4
    cases hc
    obtain ⟨a, b, ha, hb, hk⟩ := un2_ok (show un2 y z env _ = .ok v h' from hk)
    have hx := hs x (by simp [Op.operands]) y a h1 ha
    have hi := hs i (by simp [Op.operands]) z b h2 hb
    split at hk
    case h_2 => cases hk
    rename_i k j
    split at hk
    case h_2 => cases hk
    rename_i hlt
    obtain ⟨hk2, rfl⟩ := orget_ok hk
    have hy := yv (ixa_good (k := k) hr hx hu h4 h3 (by simpa using hlt) hk2)
    generalize hρ : ρ i = ci at hi
    cases hi
    simp only [execOp, hρ]
    exact hy
  · cases hc

theorem op_lookup (t : TypeId) (m k : Operand) (ok : Bool) : OpGood P dyn ⟨d, .lookup t m k ok, ty, pos, af, gd⟩ := by
  intro A g env C ρ μ h h' w v aop hc hs hr hf hk
  simp only [compOp] at hc
  split at hc
  case h_2 => cases hc
  rename_i kt e y z hu h1 h2
  split at hc
  · rename_i j q hkt hz
    cases hc
    obtain ⟨a, b, ha, hb, hk⟩ := un2_ok (show un2 y z env _ = .ok v h' from hk)
    obtain ⟨hk2, rfl⟩ := orget_ok hk
    exact yv (lookup_good (ik := true) hr (hs m (by simp [Op.operands]) y a h1 ha) (hs k (by simp [Op.operands]) z b h2 hb) hu ⟨j, hkt⟩ hz hk2)
  · rename_i q hkt hz
    cases hc
    obtain ⟨a, b, ha, hb, hk⟩ := un2_ok (show un2 y z env _ = .ok v h' from hk)
    obtain ⟨hk2, rfl⟩ := orget_ok hk
    exact yv (lookup_good (ik := false) hr (hs m (by simp [Op.operands]) y a h1 ha) (hs k (by simp [Op.operands]) z b h2 hb) hu hkt hz hk2)
  · cases hc

theorem mapup_any {t : TypeId} {m k x : Operand} {op : Op} (hop : op.operands = #[m, k, x]) (hex : ∀ ρ, execOp ρ ⟨d, op, ty, pos, af, gd⟩ = (do Instr.mapUpdate t (ρ m) (ρ k) (ρ x); pure .skip))
    (hcp : ∀ A g, compOp P dyn A g op = compOp P dyn A g (.mapUpdate t m k x)) : OpGood P dyn ⟨d, op, ty, pos, af, gd⟩ := by
  intro A g env C ρ μ h h' w v aop hc hs hr hf hk
  rw [hcp] at hc
  rw [hex]
  simp only [hop] at hs
  simp only [compOp] at hc
  split at hc
  case h_2 => cases hc
  rename_i kt e y z q hu h1 h2 h3
  split at hc
  · rename_i j hkt
    cases hc
    obtain ⟨a, b, ha, hb, hk⟩ := un2_ok (show un2 y z env _ = .ok v h' from hk)
    obtain ⟨c, hcv, hk⟩ := un1_ok hk
    obtain ⟨rfl, hg⟩ := mapup_good (ik := true) hr (hs m (by simp) y a h1 ha) (hs k (by simp) z b h2 hb) (hs x (by simp) q c h3 hcv) hu ⟨j, hkt⟩ hk
    exact yu hg
  · rename_i hkt
    cases hc
    obtain ⟨a, b, ha, hb, hk⟩ := un2_ok (show un2 y z env _ = .ok v h' from hk)
    obtain ⟨c, hcv, hk⟩ := un1_ok hk
    obtain ⟨rfl, hg⟩ := mapup_good (ik := false) hr (hs m (by simp) y a h1 ha) (hs k (by simp) z b h2 hb) (hs x (by simp) q c h3 hcv) hu hkt hk
    exact yu hg
  · cases hc

theorem op_mapUpdate (t : TypeId) (m k x : Operand) : OpGood P dyn ⟨d, .mapUpdate t m k x, ty, pos, af, gd⟩ := @mapup_any _ P dyn d ty pos af gd t m k x _ rfl (fun _ => rfl) (fun _ _ => rfl)
theorem op_insert (t : TypeId) (m k x : Operand) : OpGood P dyn ⟨d, .insert t m k x, ty, pos, af, gd⟩ := @mapup_any _ P dyn d ty pos af gd t m k x _ rfl (fun _ => rfl) (fun _ _ => rfl)

theorem op_range (t : TypeId) (x : Operand) : OpGood P dyn ⟨d, .range t x, ty, pos, af, gd⟩ := by
  intro A g env C ρ μ h h' w v aop hc hs hr hf hk
  simp only [compOp] at hc
  split at hc
  · rename_i y hu h1
    cases hc
    obtain ⟨a, ha, hk⟩ := un1_ok (show un1 y env h _ = .ok v h' from hk)
    have hx := hs x (by simp [Op.operands]) y a h1 ha
    split at hk
    case h_2 => cases hk
    rw [Heap.newK_eq] at hk
    cases hk
    exact yv (rangeS_good hr (fresh_new hf) hx hu)
  · rename_i kt e y hu h1
    cases hc
    obtain ⟨a, ha, hk⟩ := un1_ok (show un1 y env h _ = .ok v h' from hk)
    have hx := hs x (by simp [Op.operands]) y a h1 ha
    split at hk
    · rw [Heap.newK_eq] at hk
      cases hk
      exact yv (rangeM_good_nil hr (fresh_new hf) hx hu)
    · split at hk
      case h_2 => cases hk
      rename_i hg
      rw [Heap.newK_eq] at hk
      cases hk
      exact yv (rangeM_good hr (fresh_new hf) hx hu hg)
    · cases hk
  · cases hc

theorem op_next (x : Operand) (s : Bool) : OpGood P dyn ⟨d, .next x s, ty, pos, af, gd⟩ := by
  intro A g env C ρ μ h h' w v aop hc hs hr hf hk
  obtain ⟨y, hy, rfl⟩ := map_ok hc
  obtain ⟨a, ha, hk⟩ := un1_ok (show un1 y env h _ = .ok v h' from hk)
  exact yv (next_good hr (hs x (by simp [Op.operands]) y a hy ha) hk)

theorem op_entry (x : Operand) : OpGood P dyn ⟨d, .entry x, ty, pos, af, gd⟩ := by
  intro A g env C ρ μ h h' w v aop hc hs hr hf hk
  obtain ⟨y, hy, rfl⟩ := map_ok hc
  obtain ⟨a, ha, hk⟩ := un1_ok (show un1 y env h _ = .ok v h' from hk)
  exact yv (entry_good hr (hs x (by simp [Op.operands]) y a hy ha) hk)

theorem op_typeAssert (x : Operand) (xt t : TypeId) (ok : Bool) : OpGood P dyn ⟨d, .typeAssert x xt t ok, ty, pos, af, gd⟩ := by
  intro A g env C ρ μ h h' w v aop hc hs hr hf hk
  simp only [compOp] at hc
  split at hc
  · rename_i want y hu h1
    split at hc
    case h_2 => cases hc
    rename_i hz
    cases hc
    obtain ⟨a, ha, hk⟩ := un1_ok (show un1 y env h _ = .ok v h' from hk)
    exact yv (tasserti_good (dyn := dyn) hr (hs x (by simp [Op.operands]) y a h1 ha) hu hz hk)
  · rename_i dd y hn hu h1
    obtain ⟨z, hz, rfl⟩ := map_ok hc
    obtain ⟨a, ha, hk⟩ := un1_ok (show un1 y env h _ = .ok v h' from hk)
    exact yv (tassert_good hr (hs x (by simp [Op.operands]) y a h1 ha) hu (fun ms e => by subst e; exact hn ms rfl) hz hk)
  · cases hc

theorem op_extract (x : Operand) (i : Nat) : OpGood P dyn ⟨d, .extract x i, ty, pos, af, gd⟩ := by
  intro A g env C ρ μ h h' w v aop hc hs hr hf hk
  obtain ⟨y, hy, rfl⟩ := map_ok hc
  obtain ⟨a, ha, hk⟩ := un1_ok (show un1 y env h _ = .ok v h' from hk)
  have hx := hs x (by simp [Op.operands]) y a hy ha
  split at hk
  case h_2 => cases hk
  obtain ⟨hk2, rfl⟩ := orget_ok hk
  generalize hρ : ρ x = cx at hx
  cases hx with
  | tuple l c hl =>
  obtain ⟨ca, h1, h2⟩ := nth_rel hl hk2
  refine yp hr ?_ h2
  simp only [execOp, Sem.run_bind]
  rw [hρ, extract_run h1]
  rfl

end
end Go.Cg

/- Each operation that calls nothing: functions, slicing, binary operators, checks, builtins. -/
namespace Go.Cg
variable [Syms]

section
variable {P : Program} {dyn : List TypeId} {d : Option Tmp} {ty : TypeId} {pos : String} {af : Array Edge} {gd : Option (Nat × Bool)}

theorem slotPos_nat : ∀ n, (slotPos n).nat = n + 1
  | 0 => rfl
  | n + 1 => by
    show (Pos.ofNatAux n).succ.nat = _
    rw [Pos.nat_succ]
    exact congrArg (· + 1) (slotPos_nat n)

theorem op_makeFunc (f : FuncId) (first captured : Array Operand) : OpGood P dyn ⟨d, .makeFunc (.func f) first captured, ty, pos, af, gd⟩ := by
  intro A g env C ρ μ h h' w v aop hc hs hr hf hk
  simp only [compOp] at hc
  split at hc
  case h_2 => cases hc
  rename_i a b h1 h2
  cases hc
  have hk : evsK env a (fun x => evsK env b (fun y => OR.ok (.func (slotPos f) x y) h) .fail) .fail = .ok v h' := hk
  obtain ⟨xs, hx, hk⟩ := allSome_map hs (l := first.toList) (fun x hx => by simp only [Op.operands, Array.mem_append]; exact .inl (by simpa using hx)) h1 (by simp) hk
  obtain ⟨ys, hy, hk⟩ := allSome_map hs (l := captured.toList) (fun x hx => by simp only [Op.operands, Array.mem_append]; exact .inr (by simpa using hx)) h2 (by simp) hk
  cases hk
  have e : (slotPos f).nat - 1 = f := by rw [slotPos_nat]; omega
  refine yp hr (cv := .func (.func f) (first.map ρ) (captured.map ρ)) rfl ?_
  have := VRel.func (μ := μ) (slotPos f) xs ys (first.map ρ) (captured.map ρ) (by simpa using hx) (by simpa using hy)
  rwa [e] at this

theorem op_slice (t : TypeId) (x : Operand) (lo hi mx : Option Operand) : OpGood P dyn ⟨d, .slice t x lo hi mx, ty, pos, af, gd⟩ := by
  intro A g env C ρ μ h h' w v aop hc hs hr hf hk
  simp only [compOp] at hc
  split at hc
  case h_2 => cases hc
  rename_i y ylo yhi ymx h1 h2 h3 h4
  have hxm : x ∈ (Op.slice t x lo hi mx).operands := by simp [Op.operands]
  have m1 : ∀ z, lo = some z → z ∈ (Op.slice t x lo hi mx).operands := fun z e => by subst e; simp [Op.operands]
  have m2 : ∀ z, hi = some z → z ∈ (Op.slice t x lo hi mx).operands := fun z e => by subst e; simp [Op.operands]
  have m3 : ∀ z, mx = some z → z ∈ (Op.slice t x lo hi mx).operands := fun z e => by subst e; simp [Op.operands]
  split at hc
  · rename_i hu
    split at hc
    case h_2 => cases hc
    cases hc
    obtain ⟨a, ha, hk⟩ := un1_ok (show un1 y env h _ = .ok v h' from hk)
    split at hk
    case h_2 => cases hk
    rename_i l1 l2 e1 e2
    obtain ⟨hk2, rfl⟩ := orget_ok hk
    have hmx : mx = none := by
      cases mx with
      | none => rfl
      | some z => obtain ⟨q, _, hq⟩ := map_ok h4; cases hq
    subst hmx
    have := sls_good (P := P) (w := w) hr (hs x hxm y a h1 ha) (hs.opt m1 h2 e1) (hs.opt m2 h3 e2) hu hk2
    refine yv ?_
    show Good P μ h' w (Instr.sliceAt t (ρ x) (lo.map ρ) (hi.map ρ) none) v h'
    obtain ⟨μ', cv, w', r, q⟩ := this
    exact ⟨μ', cv, w', by simp only [Instr.sliceAt, Sem.run_bind, run_underlying hu, Result.andThen_ok]; exact r, q⟩
  · rename_i e hu
    obtain ⟨es, hes, rfl⟩ := map_ok hc
    obtain ⟨a, ha, hk⟩ := un1_ok (show un1 y env h _ = .ok v h' from hk)
    split at hk
    case h_2 => cases hk
    rename_i l1 l2 l3 e1 e2 e3
    obtain ⟨hk2, rfl⟩ := orget_ok hk
    have := slice_good (P := P) (w := w) hr (hs x hxm y a h1 ha) (hs.opt m1 h2 e1) (hs.opt m2 h3 e2) (hs.opt m3 h4 e3) hu hes hk2
    refine yv ?_
    show Good P μ h' w (Instr.sliceAt t (ρ x) (lo.map ρ) (hi.map ρ) (mx.map ρ)) v h'
    obtain ⟨μ', cv, w', r, q⟩ := this
    exact ⟨μ', cv, w', by simp only [Instr.sliceAt, Sem.run_bind, run_underlying hu, Result.andThen_ok]; exact r, q⟩
  · rename_i n e hu
    split at hc
    case h_2 => cases hc
    rename_i es hes
    cases hc
    obtain ⟨a, ha, hk⟩ := un1_ok (show un1 y env h _ = .ok v h' from hk)
    split at hk
    case h_2 => cases hk
    rename_i l1 l2 l3 e1 e2 e3
    obtain ⟨hk2, rfl⟩ := orget_ok hk
    exact yv (slicea_good_arr (P := P) (w := w) hr (hs x hxm y a h1 ha) (hs.opt m1 h2 e1) (hs.opt m2 h3 e2) (hs.opt m3 h4 e3) hu hes hk2)
  · rename_i arr hu0
    split at hc
    case h_2 => cases hc
    rename_i n e hu
    split at hc
    case h_2 => cases hc
    rename_i es hes
    cases hc
    obtain ⟨a, ha, hk⟩ := un1_ok (show un1 y env h _ = .ok v h' from hk)
    split at hk
    case h_2 => cases hk
    rename_i l1 l2 l3 e1 e2 e3
    obtain ⟨hk2, rfl⟩ := orget_ok hk
    have := slicea_good_ptr (P := P) (w := w) hr (hs x hxm y a h1 ha) (hs.opt m1 h2 e1) (hs.opt m2 h3 e2) (hs.opt m3 h4 e3) hu0 hu hes hk2
    refine yv ?_
    show Good P μ h' w (Instr.sliceAt t (ρ x) (lo.map ρ) (hi.map ρ) (mx.map ρ)) v h'
    obtain ⟨μ', cv, w', r, q⟩ := this
    exact ⟨μ', cv, w', by simp only [Instr.sliceAt, Sem.run_bind, run_underlying hu0, Result.andThen_ok]; exact r, q⟩
  · cases hc

/-! ### Binary operators -/
theorem guard_none {op : BinOp} {t : TypeId} {x y : Operand} {ca cb : Value} {w : World} (h : (match op with | .eql | .neq => true | _ => false) = false) : (eqGuard op t x y ca cb).run P w = .ok () w := by
  cases op <;> first | (cases h; done) | simp [eqGuard]

theorem ekStruct_is {t : TypeId} {fs : Array Field} {k : EK} (hk : ekStruct P t fs = some k) : ∃ l, k = .struct l ∧ l ≠ [] := by
  unfold ekStruct at hk
  split at hk
  case h_2 => cases hk
  split at hk
  case h_2 => cases hk
  split at hk
  · cases hk
  · rename_i hne
    cases hk
    exact ⟨_, rfl, fun e => hne e⟩

/-- The binary operators, by what they become. -/
def BinGood (P : Program) (op : BinOp) (t : TypeId) (x y : Operand) (aop : AOp) (a b : AOpd) : Prop :=
  ∀ {A : List Ent} {g : Option (Nat × Bool)} {env : Env} {C : CallF} {ρ : Operand → Value} {μ : Mu} {h h' : Heap} {w : World} {v : AVal},
    Sees A g env μ ρ #[x, y] → resO A g x = some a → resO A g y = some b → HRel μ h w → stepOp aop C env h = .ok v h' →
    h' = h ∧ ∃ cv, (do eqGuard op t x y (ρ x) (ρ y); binOp op t (ρ x) (ρ y) : Sem Value).run P w = .ok cv w ∧ VRel μ v cv

theorem bin_ari {op : Ari} {t : TypeId} {x y : Operand} {k : IntKind} {a b : AOpd} : BinGood P (binOf op) t x y (.ari op k a b) a b := by
  intro A g env C ρ μ h h' w v hs h1 h2 hr hk
  obtain ⟨va, vb, ha, hb, hk⟩ := un2_ok (show un2 a b env _ = .ok v h' from hk)
  have hx := hs x (by simp) a va h1 ha
  have hy := hs y (by simp) b vb h2 hb
  split at hk
  case h_2 => cases hk
  rename_i k1 m k2 n
  split at hk
  case h_2 => cases hk
  rename_i hbb
  simp only [Bool.and_eq_true, Bool.or_eq_true] at hbb
  have hkk := kEq_iff.1 hbb.1
  subst hkk
  have hy2 : op = .shl ∨ op = .shr ∨ k2 = k := by
    rcases hbb.2 with hsh | hkk
    · cases op <;> first | exact .inl rfl | exact .inr (.inl rfl) | (cases hsh; done)
    · exact .inr (.inr (kEq_iff.1 hkk).symm)
  obtain ⟨r, rfl, rfl, hrun⟩ := ari_sound (P := P) (w := w) (t := t) hy2 hk
  refine ⟨rfl, .int k r, ?_, .int _ _⟩
  generalize hρ1 : ρ x = cx at hx
  generalize hρ2 : ρ y = cy at hy
  cases hx; cases hy
  rw [Sem.run_bind, guard_none (by cases op <;> rfl), Result.andThen_ok, hrun]

theorem bin_cmp {c : Cmp} {t : TypeId} {x y : Operand} {a b : AOpd} : BinGood P (cmpBin c) t x y (.cmp c a b) a b := by
  intro A g env C ρ μ h h' w v hs h1 h2 hr hk
  obtain ⟨va, vb, ha, hb, hk⟩ := un2_ok (show un2 a b env _ = .ok v h' from hk)
  have hx := hs x (by simp) a va h1 ha
  have hy := hs y (by simp) b vb h2 hb
  split at hk
  case h_2 => cases hk
  rename_i k1 m k2 n
  split at hk
  case h_2 => cases hk
  rename_i hkk
  have hkk := kEq_iff.1 hkk
  subst hkk
  have hv : v = .bool (intCmp c m n) ∧ h' = h := by
    split at hk <;> (rename_i e; cases hk; exact ⟨by rw [e], rfl⟩)
  obtain ⟨rfl, rfl⟩ := hv
  refine ⟨rfl, .bool (intCmp c m n), ?_, .bool _⟩
  generalize hρ1 : ρ x = cx at hx
  generalize hρ2 : ρ y = cy at hy
  cases hx; cases hy
  rw [Sem.run_bind, guard_none (by cases c <;> rfl), Result.andThen_ok, cmp_run]

theorem bin_scmp {c : Cmp} {t : TypeId} {x y : Operand} {a b : AOpd} : BinGood P (cmpBin c) t x y (.scmp c a b) a b := by
  intro A g env C ρ μ h h' w v hs h1 h2 hr hk
  obtain ⟨va, vb, ha, hb, hk⟩ := un2_ok (show un2 a b env _ = .ok v h' from hk)
  have hx := hs x (by simp) a va h1 ha
  have hy := hs y (by simp) b vb h2 hb
  split at hk
  case h_2 => cases hk
  cases hk
  refine ⟨rfl, .bool _, ?_, .bool _⟩
  generalize hρ1 : ρ x = cx at hx
  generalize hρ2 : ρ y = cy at hy
  cases hx with
  | str s _ _ e1 e2 =>
  cases hy with
  | str s' _ _ e3 e4 =>
  subst e1 e2 e3 e4
  rw [Sem.run_bind, guard_none (by cases c <;> rfl), Result.andThen_ok, scmp_run]
  cases c <;> rfl

theorem bin_cat {t : TypeId} {x y : Operand} {a b : AOpd} : BinGood P .add t x y (.cat a b) a b := by
  intro A g env C ρ μ h h' w v hs h1 h2 hr hk
  obtain ⟨va, vb, ha, hb, hk⟩ := un2_ok (show un2 a b env _ = .ok v h' from hk)
  have hx := hs x (by simp) a va h1 ha
  have hy := hs y (by simp) b vb h2 hb
  split at hk
  case h_2 => cases hk
  split at hk
  case h_2 => cases hk
  rename_i hle
  rw [forceN_eq, forceN_eq] at hk
  cases hk
  generalize hρ1 : ρ x = cx at hx
  generalize hρ2 : ρ y = cy at hy
  cases hx with
  | str s _ _ e1 e2 =>
  cases hy with
  | str s' _ _ e3 e4 =>
  subst e1 e2 e3 e4
  obtain ⟨r1, r2, r3⟩ := cat_run (P := P) (w := w) (t := t) (Nat.le_of_ble_eq_true hle)
  exact ⟨rfl, .string (s ++ s'), by rw [Sem.run_bind, guard_none rfl, Result.andThen_ok, r1], .str _ _ _ r2 r3⟩

theorem bin_eq {neg both : Bool} {k : EK} {tab : List (TypeId × EK)} {t : TypeId} {x y : Operand} {a b : AOpd} (hT : EqT P t (isConstO x || isConstO y) k both tab) : BinGood P (eqBin neg) t x y (.eq neg k both tab a b) a b := by
  intro A g env C ρ μ h h' w v hs h1 h2 hr hk
  obtain ⟨va, vb, ha, hb, hk⟩ := un2_ok (show un2 a b env _ = .ok v h' from hk)
  have hx := hs x (by simp) a va h1 ha
  have hy := hs y (by simp) b vb h2 hb
  split at hk
  case h_2 => cases hk
  rename_i r hop
  have hrun := eqOp_good (P := P) (w := w) (neg := neg) hr hT hx hy hop
  have hv : v = .bool (if neg then !r else r) ∧ h' = h := by
    cases r <;> cases neg <;> (cases hk; exact ⟨rfl, rfl⟩)
  obtain ⟨rfl, rfl⟩ := hv
  exact ⟨rfl, _, hrun, .bool _⟩

theorem bin_some {op : BinOp} {t : TypeId} {x y : Operand} {A : List Ent} {g : Option (Nat × Bool)} {aop : AOp} (hc : compBin P dyn A g op t x y = some aop) : ∃ a b, resO A g x = some a ∧ resO A g y = some b ∧ BinGood P op t x y aop a b := by
  unfold compBin at hc
  split at hc
  case h_2 => cases hc
  rename_i a b h1 h2
  refine ⟨a, b, h1, h2, ?_⟩
  split at hc
  · -- numbers
    rename_i k hu
    have hT : EqT P t (isConstO x || isConstO y) .int false [] := ⟨k, hu⟩
    cases op <;> simp only [] at hc <;> first
      | (cases hc; done)
      | (cases hc; exact @bin_ari _ P .add t x y k a b) | (cases hc; exact @bin_ari _ P .sub t x y k a b) | (cases hc; exact @bin_ari _ P .mul t x y k a b)
      | (cases hc; exact @bin_ari _ P .quo t x y k a b) | (cases hc; exact @bin_ari _ P .rem t x y k a b) | (cases hc; exact @bin_ari _ P .and t x y k a b)
      | (cases hc; exact @bin_ari _ P .or t x y k a b) | (cases hc; exact @bin_ari _ P .xor t x y k a b) | (cases hc; exact @bin_ari _ P .shl t x y k a b) | (cases hc; exact @bin_ari _ P .shr t x y k a b)
      | (cases hc; exact @bin_cmp _ P .lt t x y a b) | (cases hc; exact @bin_cmp _ P .le t x y a b) | (cases hc; exact @bin_cmp _ P .gt t x y a b) | (cases hc; exact @bin_cmp _ P .ge t x y a b)
      | (cases hc; exact @bin_eq _ P false _ _ _ t x y a b hT) | (cases hc; exact @bin_eq _ P true _ _ _ t x y a b hT)
  · rename_i hu
    have hT : EqT P t (isConstO x || isConstO y) .str false [] := hu
    cases op <;> simp only [] at hc <;> first
      | (cases hc; done)
      | (cases hc; exact @bin_cat _ P t x y a b)
      | (cases hc; exact @bin_scmp _ P .lt t x y a b) | (cases hc; exact @bin_scmp _ P .le t x y a b) | (cases hc; exact @bin_scmp _ P .gt t x y a b) | (cases hc; exact @bin_scmp _ P .ge t x y a b)
      | (cases hc; exact @bin_eq _ P false _ _ _ t x y a b hT) | (cases hc; exact @bin_eq _ P true _ _ _ t x y a b hT)
  · rename_i hu
    have hT : EqT P t (isConstO x || isConstO y) .bool false [] := hu
    cases op <;> simp only [] at hc <;> first
      | (cases hc; done)
      | (cases hc; exact @bin_eq _ P false _ _ _ t x y a b hT) | (cases hc; exact @bin_eq _ P true _ _ _ t x y a b hT)
  · rename_i e hu
    split at hc
    case h_2 => cases hc
    rename_i n hn
    have hT : EqT P t (isConstO x || isConstO y) .ptr false [] := by
      show ekBasic P t = some .ptr
      unfold ekBasic
      rw [hu]
      simp only [hn]
    cases op <;> simp only [] at hc <;> first
      | (cases hc; done)
      | (cases hc; exact @bin_eq _ P false _ _ _ t x y a b hT) | (cases hc; exact @bin_eq _ P true _ _ _ t x y a b hT)
  · rename_i ms hu
    have hT : EqT P t (isConstO x || isConstO y) .iface (ms.isEmpty || isConstO x || isConstO y) (ekTab P dyn) := ⟨ms, hu, ekTab_ok dyn, fun hb => by
      simp only [Bool.or_eq_true] at hb ⊢
      rcases hb with (hb | hb) | hb
      · exact .inl hb
      · exact .inr (.inl hb)
      · exact .inr (.inr hb)⟩
    cases op <;> simp only [] at hc <;> first
      | (cases hc; done)
      | (cases hc; exact @bin_eq _ P false _ _ _ t x y a b hT) | (cases hc; exact @bin_eq _ P true _ _ _ t x y a b hT)
  · rename_i e hu
    have hT : EqT P t (isConstO x || isConstO y) .nilS false [] := ⟨e, hu⟩
    cases op <;> simp only [] at hc <;> first
      | (cases hc; done)
      | (cases hc; exact @bin_eq _ P false _ _ _ t x y a b hT) | (cases hc; exact @bin_eq _ P true _ _ _ t x y a b hT)
  · rename_i k e hu
    have hT : EqT P t (isConstO x || isConstO y) .nilM false [] := ⟨k, e, hu⟩
    cases op <;> simp only [] at hc <;> first
      | (cases hc; done)
      | (cases hc; exact @bin_eq _ P false _ _ _ t x y a b hT) | (cases hc; exact @bin_eq _ P true _ _ _ t x y a b hT)
  · rename_i p q z hu
    have hT : EqT P t (isConstO x || isConstO y) .nilF false [] := ⟨p, q, z, hu⟩
    cases op <;> simp only [] at hc <;> first
      | (cases hc; done)
      | (cases hc; exact @bin_eq _ P false _ _ _ t x y a b hT) | (cases hc; exact @bin_eq _ P true _ _ _ t x y a b hT)
  · rename_i fs hu
    split at hc
    case h_2 => cases hc
    rename_i k hk
    obtain ⟨l, rfl, hl⟩ := ekStruct_is hk
    have hT : EqT P t (isConstO x || isConstO y) (.struct l) false [] := ⟨hl, fs, hu, hk⟩
    cases op <;> simp only [] at hc <;> first
      | (cases hc; done)
      | (cases hc; exact @bin_eq _ P false _ _ _ t x y a b hT) | (cases hc; exact @bin_eq _ P true _ _ _ t x y a b hT)
  · cases hc

theorem op_binOp (op : BinOp) (t : TypeId) (x y : Operand) (q : TypeId) : OpGood P dyn ⟨d, .binOp op t x y q, ty, pos, af, gd⟩ := by
  intro A g env C ρ μ h h' w v aop hc hs hr hf hk
  obtain ⟨a, b, h1, h2, hg⟩ := bin_some (P := P) (dyn := dyn) hc
  obtain ⟨rfl, cv, hrun, hv⟩ := hg hs h1 h2 hr hk
  exact yv (s := (do eqGuard op t x y (ρ x) (ρ y); binOp op t (ρ x) (ρ y) : Sem Value)) (Good.of_pure hr hrun hv)

end
end Go.Cg

/- Checks; the builtins; calls. -/
namespace Go.Cg
variable [Syms]

section
variable {P : Program} {dyn : List TypeId} {d : Option Tmp} {ty : TypeId} {pos : String} {af : Array Edge} {gd : Option (Nat × Bool)}

theorem op_nilCheck (x : Operand) : OpGood P dyn ⟨d, .nilCheck x, ty, pos, af, gd⟩ := by
  intro A g env C ρ μ h h' w v aop hc hs hr hf hk
  obtain ⟨y, hy, rfl⟩ := map_ok hc
  obtain ⟨a, ha, hk⟩ := un1_ok (show un1 y env h _ = .ok v h' from hk)
  have hx := hs x (by simp [Op.operands]) y a hy ha
  have hk : chkOp a h = .ok v h' := hk
  unfold chkOp at hk
  generalize hρ : ρ x = cx at hx
  have hx' := hx
  split at hk
  · cases hk
    cases hx
    exact yp hr (by simp [execOp, hρ]) hx'
  · cases hk
    cases hx
    exact yp hr (by simp [execOp, hρ]) hx'
  · cases hk
    cases hx
    exact yp hr (by simp [execOp, hρ]) hx'
  · cases hk

/-! ### Builtins -/
theorem resolve_builtin {ρ : Operand → Value} {c : Call} {b : Builtin} {w : World} (hb : c.callee = .builtin b) :
    (do let d ← resolve ρ c ty; invoke d.target d.args : Sem Next).run P w = (builtin b c.argTypes ty (c.args.map fun | .const _ => true | _ => false) (c.args.map ρ)).run P w := by
  simp only [resolve, hb, Sem.run_bind, Sem.run_pure, Result.andThen_ok, invoke]
  rfl

theorem Yields'.of_run {s s' : Sem Next} {w : World} {R : Value → World → Prop} (e : s'.run P w = s.run P w) (hy : Yields' P s w R) : Yields' P s' w R := by
  unfold Yields' at *
  rw [e]; exact hy

theorem map1 (ρ : Operand → Value) (x : Operand) : (#[x] : Array Operand).map ρ = #[ρ x] := by simp
theorem map2 (ρ : Operand → Value) (x y : Operand) : (#[x, y] : Array Operand).map ρ = #[ρ x, ρ y] := by simp

theorem args1 {α : Type} {f : Operand → Option α} {l : Array Operand} {a : α} (h : allSome f l.toList = some [a]) : ∃ x, l = #[x] ∧ f x = some a := by
  obtain ⟨h1, h2⟩ := allSome_spec h
  obtain ⟨l⟩ := l
  match l, h1 with
  | [x], _ =>
    obtain ⟨x', e, h3⟩ := h2 0 a rfl
    cases e
    exact ⟨x, rfl, h3⟩

theorem args2 {α : Type} {f : Operand → Option α} {l : Array Operand} {a b : α} (h : allSome f l.toList = some [a, b]) : ∃ x y, l = #[x, y] ∧ f x = some a ∧ f y = some b := by
  obtain ⟨h1, h2⟩ := allSome_spec h
  obtain ⟨l⟩ := l
  match l, h1 with
  | [x, y], _ =>
    obtain ⟨x', e, h3⟩ := h2 0 a rfl
    cases e
    obtain ⟨x', e, h4⟩ := h2 1 b rfl
    cases e
    exact ⟨x, y, rfl, h3, h4⟩

theorem builtin_good {b : Builtin} {c : Call} {args : List AOpd} {A : List Ent} {g : Option (Nat × Bool)} {env : Env} {C : CallF} {ρ : Operand → Value} {μ : Mu} {h h' : Heap} {w : World} {v : AVal} {aop : AOp} {consts : Array Bool}
    (hc : compBuiltin P b c.argTypes args = some aop) (ha : allSome (resO A g) c.args.toList = some args) (hs : Sees A g env μ ρ c.args) (hr : HRel μ h w) (hf : Fresh μ h h') (hk : stepOp aop C env h = .ok v h') :
    Yields' P (builtin b c.argTypes ty consts (c.args.map ρ)) w (Rel μ h w v h') := by
  unfold compBuiltin at hc
  split at hc
  · -- len
    rename_i x
    obtain ⟨x', e1, h1⟩ := args1 ha
    split at hc
    case h_2 => cases hc
    rename_i t h0
    rw [e1] at hs ⊢
    rw [map1]
    split at hc
    · rename_i hu
      cases hc
      obtain ⟨a, hav, hk⟩ := un1_ok (show un1 x env h _ = .ok v h' from hk)
      obtain ⟨hk2, rfl⟩ := orget_ok hk
      exact yv (len_good hr (hs x' (by simp) x a h1 hav) h0 hu (.inl ⟨rfl, rfl⟩) hk2)
    · rename_i e hu
      cases hc
      obtain ⟨a, hav, hk⟩ := un1_ok (show un1 x env h _ = .ok v h' from hk)
      obtain ⟨hk2, rfl⟩ := orget_ok hk
      exact yv (len_good hr (hs x' (by simp) x a h1 hav) h0 hu (.inr (.inl ⟨rfl, e, rfl⟩)) hk2)
    · rename_i k e hu
      cases hc
      obtain ⟨a, hav, hk⟩ := un1_ok (show un1 x env h _ = .ok v h' from hk)
      obtain ⟨hk2, rfl⟩ := orget_ok hk
      exact yv (len_good hr (hs x' (by simp) x a h1 hav) h0 hu (.inr (.inr ⟨rfl, k, e, rfl⟩)) hk2)
    · rename_i n e hu
      cases hc
      cases hk
      exact yv (lenA_good ⟨ρ x', rfl⟩ hr h0 hu)
    · cases hc
  · -- cap
    rename_i x
    obtain ⟨x', e1, h1⟩ := args1 ha
    split at hc
    case h_2 => cases hc
    rename_i t h0
    rw [e1] at hs ⊢
    rw [map1]
    split at hc
    case h_2 => cases hc
    rename_i e hu
    cases hc
    obtain ⟨a, hav, hk⟩ := un1_ok (show un1 x env h _ = .ok v h' from hk)
    have hx := hs x' (by simp) x a h1 hav
    generalize hρ : ρ x' = cx at hx
    split at hk
    · cases hk
      cases hx
      exact yv (cap_good hr h0 hu)
    · cases hk
      cases hx with
      | slice _ _ _ _ _ _ im cap' adr g1 g2 g3 g4 g5 g6 =>
        rw [← g4 rfl]
        exact yv (cap_good hr h0 hu)
    · cases hk
  · -- append
    rename_i s x
    obtain ⟨s', x', e1, h1, h2⟩ := args2 ha
    split at hc
    case h_2 => cases hc
    rename_i t u h0 h00
    split at hc
    case h_2 => cases hc
    rename_i e dd hu hd
    split at hc
    case h_2 => cases hc
    rename_i es bytes hes hby
    rw [e1] at hs ⊢
    rw [map2]
    have fin : ((∃ q, dd = .slice q) ∨ dd = .string) → (∀ z, (zeroOf P e).bind cellsO = some z → (Nat.blt 0 bytes && Nat.beq z.length es && (!isByteT P e || Nat.beq es 1)) = true → aop = .append es bytes (isByteT P e) s x →
        Yields' P (builtin .append c.argTypes ty consts #[ρ s', ρ x']) w (Rel μ h w v h')) := by
      intro hd' z hz hbb haop
      subst haop
      simp only [Bool.and_eq_true] at hbb
      obtain ⟨a, b, hav, hbv, hk⟩ := un2_ok (show un2 s x env _ = .ok v h' from hk)
      exact yv (append_good hr hf h0 h00 hu hd hd' hes hby (by simpa using hbb.1.1) hz (Nat.eq_of_beq_eq_true hbb.1.2) (byte_one hbb.2) (hs s' (by simp) s a h1 hav) (hs x' (by simp) x b h2 hbv) hk)
    split at hc
    · split at hc
      case h_2 => cases hc
      rename_i z hz
      split at hc
      case h_2 => cases hc
      rename_i hbb
      cases hc
      exact fin (.inl ⟨_, rfl⟩) z hz hbb rfl
    · split at hc
      case h_2 => cases hc
      rename_i z hz
      split at hc
      case h_2 => cases hc
      rename_i hbb
      cases hc
      exact fin (.inr rfl) z hz hbb rfl
    · cases hc
  · -- copy
    rename_i s x
    obtain ⟨s', x', e1, h1, h2⟩ := args2 ha
    split at hc
    case h_2 => cases hc
    rename_i t h0
    split at hc
    case h_2 => cases hc
    rename_i e hu
    split at hc
    case h_2 => cases hc
    rename_i es hes
    split at hc
    case h_2 => cases hc
    rename_i hbb
    cases hc
    rw [e1] at hs ⊢
    rw [map2]
    obtain ⟨a, b, hav, hbv, hk⟩ := un2_ok (show un2 s x env _ = .ok v h' from hk)
    exact yv (copy_good hr h0 hu hes (byte_one hbb) (hs s' (by simp) s a h1 hav) (hs x' (by simp) x b h2 hbv) hk)
  · -- clear
    rename_i x
    obtain ⟨x', e1, h1⟩ := args1 ha
    split at hc
    case h_2 => cases hc
    rename_i t h0
    split at hc
    case h_2 => cases hc
    rename_i e hu
    split at hc
    case h_2 => cases hc
    rename_i es z hes hz
    split at hc
    case h_2 => cases hc
    rename_i hbb
    cases hc
    rw [e1] at hs ⊢
    rw [map1]
    obtain ⟨a, hav, hk⟩ := un1_ok (show un1 x env h _ = .ok v h' from hk)
    exact yv (clear_good hr h0 hu hes hz (Nat.eq_of_beq_eq_true hbb) (hs x' (by simp) x a h1 hav) hk)
  · -- delete
    rename_i m k
    obtain ⟨m', k', e1, h1, h2⟩ := args2 ha
    split at hc
    case h_2 => cases hc
    rename_i t h0
    split at hc
    case h_2 => cases hc
    rename_i kt e hu
    rw [e1] at hs ⊢
    rw [map2]
    split at hc
    · rename_i j hkt
      cases hc
      obtain ⟨a, b, hav, hbv, hk⟩ := un2_ok (show un2 m k env _ = .ok v h' from hk)
      exact yv (delete_good (ik := true) hr (hs m' (by simp) m a h1 hav) (hs k' (by simp) k b h2 hbv) h0 hu ⟨j, hkt⟩ hk)
    · rename_i hkt
      cases hc
      obtain ⟨a, b, hav, hbv, hk⟩ := un2_ok (show un2 m k env _ = .ok v h' from hk)
      exact yv (delete_good (ik := false) hr (hs m' (by simp) m a h1 hav) (hs k' (by simp) k b h2 hbv) h0 hu hkt hk)
    · cases hc
  · -- min
    rename_i x y
    obtain ⟨x', y', e1, h1, h2⟩ := args2 ha
    split at hc
    case h_2 => cases hc
    rename_i t h0
    split at hc
    case h_2 => cases hc
    rename_i k hu
    cases hc
    rw [e1] at hs ⊢
    rw [map2]
    obtain ⟨a, b, hav, hbv, hk⟩ := un2_ok (show un2 x y env _ = .ok v h' from hk)
    have hx := hs x' (by simp) x a h1 hav
    have hy := hs y' (by simp) y b h2 hbv
    generalize hρ : ρ x' = cx at hx
    generalize hρ : ρ y' = cy at hy
    split at hk
    case h_2 => cases hk
    rename_i k1 m k2 n
    split at hk
    case h_2 => cases hk
    rename_i hkk
    have hkk := kEq_iff.1 hkk
    subst hkk
    cases hx; cases hy
    have := min_good (P := P) (μ := μ) (w := w) (ats := c.argTypes) (ty := ty) (k := k) (j := k2) (a := m) (b := n) hr
    rw [intCmp_eq] at hk
    simp only [] at hk
    split at hk
    · rename_i hlt
      cases hk
      rw [if_pos (of_decide_eq_true hlt)] at this
      exact yv this
    · rename_i hlt
      cases hk
      rw [if_neg (of_decide_eq_false hlt)] at this
      exact yv this
  · -- max
    rename_i x y
    obtain ⟨x', y', e1, h1, h2⟩ := args2 ha
    split at hc
    case h_2 => cases hc
    rename_i t h0
    split at hc
    case h_2 => cases hc
    rename_i k hu
    cases hc
    rw [e1] at hs ⊢
    rw [map2]
    obtain ⟨a, b, hav, hbv, hk⟩ := un2_ok (show un2 x y env _ = .ok v h' from hk)
    have hx := hs x' (by simp) x a h1 hav
    have hy := hs y' (by simp) y b h2 hbv
    generalize hρ : ρ x' = cx at hx
    generalize hρ : ρ y' = cy at hy
    split at hk
    case h_2 => cases hk
    rename_i k1 m k2 n
    split at hk
    case h_2 => cases hk
    rename_i hkk
    have hkk := kEq_iff.1 hkk
    subst hkk
    cases hx; cases hy
    have := max_good (P := P) (μ := μ) (w := w) (ats := c.argTypes) (ty := ty) (k := k) (j := k2) (a := m) (b := n) hr
    rw [intCmp_eq] at hk
    simp only [] at hk
    split at hk
    · rename_i hlt
      cases hk
      rw [if_pos (of_decide_eq_true hlt)] at this
      exact yv this
    · rename_i hlt
      cases hk
      rw [if_neg (of_decide_eq_false hlt)] at this
      exact yv this
  · cases hc

end
end Go.Cg

/- Calls. -/
namespace Go.Cg
variable [Syms]

/-- No block from the next one on has an image. -/
def Bounded (μ : Mu) (h : Heap) : Prop := ∀ b : Pos, h.next.nat ≤ b.nat → μ b = none

theorem Bounded.fresh {μ : Mu} {h h' : Heap} (hb : Bounded μ h) : Fresh μ h h' := fun b x _ => hb b x

theorem Ext.bounded {μ μ' : Mu} {h h' : Heap} {w w' : World} (e : Ext μ h w μ' h' w') (hb : Bounded μ h) : Bounded μ' h' := fun b hx => by
  cases hm : μ' b with
  | none => rfl
  | some im =>
    have := e.newid b im hm (hb b (Nat.le_trans e.next hx))
    omega

/-- What a call of the evaluator says of the model's. -/
def CSound (P : Program) (C : CallF) : Prop :=
  ∀ {f : Pos} {args : List AVal} {v : AVal} {h h' : Heap} {μ : Mu} {w : World} {cargs : Array Value}, C f args h = .ok v h' → VsRel μ args cargs.toList → HRel μ h w → Bounded μ h →
    Yields' P (callFunc (f.nat - 1) cargs) w (Rel μ h w v h')

section
variable {P : Program} {dyn : List TypeId} {d : Option Tmp} {ty : TypeId} {pos : String} {af : Array Edge} {gd : Option (Nat × Bool)}

theorem methOf_run {t : TypeId} {name : String} {f : FuncId} {v : Value} {w : World} (hm : methOf P t name = some f) (n : Nat) : (method (n + 1) t v name).run P w = .ok (f, v) w := by
  unfold methOf at hm
  split at hm
  · cases hm
  rename_i i hi
  split at hm
  · cases hm
  rename_i m hf
  have hti : (typeInfo t).run P w = .ok i w := by simp [typeInfo, hi]
  split at hm
  · rename_i h1 h2
    split at hm
    · rename_i e hu
      cases hm
      simp only [method, Sem.run_bind, hti, Result.andThen_ok, hf, h1, follow, Sem.run_pure, h2, receiverAt, run_underlying hu, Place.get]
    · cases hm
  · rename_i h1 h2
    split at hm
    · cases hm
    · rename_i dd hn hu
      cases hm
      have e : (receiverAt t (.val v) false (if m.path.isEmpty = true then some ((name.splitOn ".").getLastD name) else none)).run P w = .ok v w := by
        simp only [receiverAt, Sem.run_bind, run_underlying hu, Result.andThen_ok]
        cases dd <;> first | exact absurd hu (hn _) | rfl
      simp only [method, Sem.run_bind, hti, Result.andThen_ok, hf, h1, follow, Sem.run_pure, h2, e]
    · cases hm
  · cases hm

theorem methTab_ok {name : String} {t t' : TypeId} {f : Pos} (hf : (methTab P dyn name).find? (fun e : TypeId × Pos => Nat.beq e.1 t) = some (t', f)) : ∃ k, methOf P t name = some k ∧ f = slotPos k := by
  have h1 := List.mem_of_find?_eq_some hf
  have h2 := List.find?_some hf
  have h2 : t' = t := Nat.eq_of_beq_eq_true h2
  subst h2
  unfold methTab at h1
  obtain ⟨a, _, h3⟩ := List.mem_filterMap.1 h1
  obtain ⟨k, hk, h4⟩ := map_ok h3
  cases h4
  exact ⟨k, hk, rfl⟩

theorem op_call {C : CallF} (hC : CSound P C) {c : Call} {A : List Ent} {g : Option (Nat × Bool)} {env : Env} {ρ : Operand → Value} {μ : Mu} {h h' : Heap} {w : World} {v : AVal} {aop : AOp}
    (hc : compOp P dyn A g (.call c) = some aop) (hs : Sees A g env μ ρ c.operands) (hr : HRel μ h w) (hf : Bounded μ h) (hk : stepOp aop C env h = .ok v h') :
    Yields' P (execOp ρ ⟨d, .call c, ty, pos, af, gd⟩) w (Rel μ h w v h') := by
  simp only [compOp] at hc
  split at hc
  · cases hc
  rename_i args hargs
  have hsa : Sees A g env μ ρ c.args := fun x hx => hs x (by simp only [Call.operands, Array.mem_append]; exact .inr hx)
  have hma : ∀ x ∈ c.args.toList, x ∈ c.args := fun x hx => by simpa using hx
  split at hc
  · -- a function by its name
    rename_i f hcal
    cases hc
    have hk : evsK env args (fun l => C (slotPos f) l h) .fail = .ok v h' := hk
    obtain ⟨vs, hvs, hk⟩ := allSome_map hsa hma hargs (by simp) hk
    have hfv := hs (.func f) (by simp [Call.operands, hcal]) _ _ rfl rfl
    have hρ : ρ (.func f) = .func (.func f) #[] #[] := by
      generalize ρ (.func f) = cf at hfv
      cases hfv with
      | func _ _ _ ca cb h1 h2 =>
        have e1 : ca = #[] := by cases ca; cases h1; rfl
        have e2 : cb = #[] := by cases cb; cases h2; rfl
        rw [e1, e2, slotPos_nat]; rfl
    have := hC hk (cargs := c.args.map ρ) (by simpa using hvs) hr hf
    rw [slotPos_nat] at this
    refine Yields'.of_run ?_ this
    simp [execOp, resolve, hcal, hρ, Deferred.ofValue, invoke]
  · -- a function value
    rename_i x hn hcal
    obtain ⟨y, hy, rfl⟩ := map_ok hc
    obtain ⟨a, ha, hk⟩ := un1_ok (show un1 y env h _ = .ok v h' from hk)
    have hx := hs x (by simp [Call.operands, hcal]) y a hy ha
    split at hk
    case h_2 => cases hk
    rename_i f first captured
    obtain ⟨vs, hvs, hk⟩ := allSome_map hsa hma hargs (by simp) hk
    rw [appL_eq, appL_eq] at hk
    generalize hρ : ρ x = cx at hx
    cases hx with
    | func _ _ _ ca cb h1 h2 =>
    have := hC hk (cargs := ca ++ (c.args.map ρ) ++ cb) (by
      simp only [Array.toList_append, Array.toList_map, List.append_assoc]
      exact h1.append (hvs.append h2)) hr hf
    refine Yields'.of_run ?_ this
    simp [execOp, resolve, hcal, hρ, Deferred.ofValue, invoke]
  · -- a method of an interface
    rename_i r name hcal
    obtain ⟨y, hy, rfl⟩ := map_ok hc
    obtain ⟨a, ha, hk⟩ := un1_ok (show un1 y env h _ = .ok v h' from hk)
    have hx := hs r (by simp [Call.operands, hcal]) y a hy ha
    split at hk
    case h_2 => cases hk
    rename_i t x
    split at hk
    case h_2 => cases hk
    rename_i t' f hfind
    obtain ⟨k, hk1, rfl⟩ := methTab_ok hfind
    obtain ⟨vs, hvs, hk⟩ := allSome_map hsa hma hargs (by simp) hk
    generalize hρ : ρ r = cr at hx
    cases hx with
    | iface _ _ cv hv =>
    have := hC hk (cargs := #[cv] ++ (c.args.map ρ)) (by
      simp only [Array.toList_append, Array.toList_map]
      exact VsRel.append (.cons _ _ _ _ hv .nil) hvs) hr hf
    rw [slotPos_nat] at this
    refine Yields'.of_run ?_ this
    have e1 : (#[Value.iface t cv] ++ c.args.map ρ)[0]? = some (.iface t cv) := by
      rw [Array.getElem?_append_left (by simp)]; rfl
    have e2 : (#[Value.iface t cv] ++ c.args.map ρ).extract 1 (#[Value.iface t cv] ++ c.args.map ρ).size = c.args.map ρ := by
      apply Array.ext'
      simp [Array.toList_extract]
      rw [List.take_of_length_le]
      simp
    simp only [execOp, resolve, hcal, hρ, Sem.run_bind, Sem.run_pure, Result.andThen_ok, invoke, e1, e2, callMethod, run_program]
    have hd : ∀ n, (method (n + Made.depth) t cv name).run P w = .ok (k, cv) w := fun n => methOf_run hk1 (n + 99)
    rw [hd, Result.andThen_ok]
    rfl
  · rename_i b hcal
    exact Yields'.of_run (resolve_builtin hcal) (builtin_good hc hargs hsa hr hf.fresh hk)

end
end Go.Cg

/- Any operation. -/
namespace Go.Cg
variable [Syms]

variable {P : Program} {dyn : List TypeId}

theorem op_sound {C : CallF} (hC : CSound P C) {o : Oper} {A : List Ent} {g : Option (Nat × Bool)} {env : Env} {ρ : Operand → Value} {μ : Mu} {h h' : Heap} {w : World} {v : AVal} {aop : AOp}
    (hc : compOp P dyn A g o.op = some aop) (hs : Sees A g env μ ρ o.op.operands) (hr : HRel μ h w) (hb : Bounded μ h) (hk : stepOp aop C env h = .ok v h') : Yields' P (execOp ρ o) w (Rel μ h w v h') := by
  have hf : Fresh μ h h' := hb.fresh
  obtain ⟨d, op, ty, pos, af, gd⟩ := o
  cases op with
  | move x => exact op_move x hc hs hr hf hk
  | assign x => exact op_assign x hc hs hr hf hk
  | pick c a b => exact op_pick c a b hc hs hr hf hk
  | alloc e => exact op_alloc e hc hs hr hf hk
  | box e x => exact op_box e x hc hs hr hf hk
  | build t ps => exact op_build t ps hc hs hr hf hk
  | buildSlice t n ps => exact op_buildSlice t n ps hc hs hr hf hk
  | load t x => exact op_load t x hc hs hr hf hk
  | store t x y => exact op_store t x y hc hs hr hf hk
  | nilCheck x => exact op_nilCheck x hc hs hr hf hk
  | binOp op t x y q => exact op_binOp op t x y q hc hs hr hf hk
  | unOp op t x => exact op_unOp op t x hc hs hr hf hk
  | convert a b x => exact op_convert a b x hc hs hr hf hk
  | makeInterface t x => exact op_makeInterface t x hc hs hr hf hk
  | makeFunc fn a b =>
    cases fn with
    | func f => exact op_makeFunc f a b hc hs hr hf hk
    | _ => cases hc
  | makeMap t r =>
    cases r with
    | none => exact op_makeMap t hc hs hr hf hk
    | some _ => cases hc
  | makeSlice t l c => exact op_makeSlice t l c hc hs hr hf hk
  | slice t x lo hi mx => exact op_slice t x lo hi mx hc hs hr hf hk
  | fieldAddr t x f => exact op_fieldAddr t x f hc hs hr hf hk
  | field t x f => exact op_field t x f hc hs hr hf hk
  | indexAddr t x i => exact op_indexAddr t x i hc hs hr hf hk
  | index t x i => exact op_index t x i hc hs hr hf hk
  | lookup t m k ok => exact op_lookup t m k ok hc hs hr hf hk
  | mapUpdate t m k x => exact op_mapUpdate t m k x hc hs hr hf hk
  | insert t m k x => exact op_insert t m k x hc hs hr hf hk
  | range t x => exact op_range t x hc hs hr hf hk
  | next x s => exact op_next x s hc hs hr hf hk
  | entry x => exact op_entry x hc hs hr hf hk
  | typeAssert x xt t ok => exact op_typeAssert x xt t ok hc hs hr hf hk
  | extract x i => exact op_extract x i hc hs hr hf hk
  | call c => exact op_call hC hc hs hr hb hk
  | _ => cases hc

end Go.Cg

/- Operations by their kind: which look at the heap, which write it. -/
namespace Go.Cg
variable [Syms]

/-- It looks at no heap, and writes none. -/
def Uni (F : Heap → OR) : Prop := ∃ r : Option AVal, ∀ h, F h = OR.get r h

theorem Uni.fail : Uni fun _ => .fail := ⟨none, fun _ => rfl⟩
theorem Uni.ok (v : AVal) : Uni fun h => .ok v h := ⟨some v, fun _ => rfl⟩
theorem Uni.get (r : Option AVal) : Uni fun h => OR.get r h := ⟨r, fun _ => rfl⟩

theorem Uni.un1 {x : AOpd} {env : Env} {k : AVal → Heap → OR} (hk : ∀ v, Uni (k v)) : Uni fun h => un1 x env h fun v => k v h := by
  cases hx : x.ev env with
  | none => exact ⟨none, fun h => by unfold Cg.un1; rw [hx]; rfl⟩
  | some v =>
    obtain ⟨r, hr⟩ := hk v
    exact ⟨r, fun h => by unfold Cg.un1; rw [hx]; exact hr h⟩

theorem Uni.un2 {x y : AOpd} {env : Env} {k : AVal → AVal → Heap → OR} (hk : ∀ v w, Uni (k v w)) : Uni fun h => un2 x y env fun v w => k v w h := by
  cases hx : x.ev env with
  | none => exact ⟨none, fun h => by unfold Cg.un2; rw [hx]; rfl⟩
  | some v =>
    cases hy : y.ev env with
    | none => exact ⟨none, fun h => by unfold Cg.un2; rw [hx, hy]; rfl⟩
    | some w =>
      obtain ⟨r, hr⟩ := hk v w
      exact ⟨r, fun h => by unfold Cg.un2; rw [hx, hy]; exact hr h⟩

theorem Uni.evsK {env : Env} : ∀ {xs : List AOpd} {k : List AVal → Heap → OR} (_ : ∀ l, Uni (k l)), Uni fun h => evsK env xs (fun l => k l h) .fail
  | [], k, hk => hk []
  | x :: xs, k, hk => by
    have e : ∀ h, Cg.evsK env (x :: xs) (fun l => k l h) .fail = Option.rec (motive := fun _ => OR) .fail (fun v => Cg.evsK env xs (fun l => k (v :: l) h) .fail) (x.ev env) := fun h => rfl
    cases hx : x.ev env with
    | none => exact ⟨none, fun h => (e h).trans (by rw [hx]; rfl)⟩
    | some v =>
      obtain ⟨r, hr⟩ := Uni.evsK (env := env) (xs := xs) (k := fun l => k (v :: l)) (fun l => hk (v :: l))
      exact ⟨r, fun h => (e h).trans (by rw [hx]; exact hr h)⟩

theorem Uni.fillK {env : Env} : ∀ {ps : List (Nat × Nat × AOpd)} {cells : List AVal} {k : List AVal → Heap → OR} (_ : ∀ l, Uni (k l)), Uni fun h => fillK env .fail ps cells fun l => k l h
  | [], cells, k, hk => hk cells
  | (off, size, x) :: ps, cells, k, hk => by
    simp only [Cg.fillK]
    split
    · split
      · split
        · simp only [takeK_eq]
          split
          · exact Uni.fillK hk
          · exact Uni.fail
        · exact Uni.fail
      · exact Uni.fail
    · exact Uni.fail

theorem kind0_uni {op : AOp} {C : CallF} {e : Env} (hk : kindOf op = 0) : Uni (stepOp op C e) := by
  cases op <;> simp only [kindOf] at hk <;> try (exact absurd hk (by decide))
  case mv x => exact Uni.get _
  case pick c a b =>
    show Uni fun h => pickOp c a b e h
    unfold pickOp; split <;> first | exact Uni.get _ | exact Uni.fail
  case chk x =>
    refine Uni.un1 fun v => ?_
    show Uni fun h => chkOp v h
    unfold chkOp; split <;> first | exact Uni.ok _ | exact Uni.fail
  case chkp x => refine Uni.un1 fun v => ?_; split <;> first | exact Uni.ok _ | exact Uni.fail
  case nop => exact Uni.ok _
  case chkm ts x =>
    refine Uni.un1 fun v => ?_
    split
    · split <;> first | exact Uni.ok _ | exact Uni.fail
    · exact Uni.fail
  case build z ps => exact Uni.fillK fun l => Uni.ok _
  case ari op k x y =>
    refine Uni.un2 fun v w => ?_
    split
    · split
      · unfold ariK
        split <;> (try simp only [wrapK_eq]) <;> (try exact Uni.ok _)
        split
        · split
          · exact Uni.fail
          · split <;> (try split) <;> (try simp only [forceN_eq]) <;> first | exact Uni.ok _ | exact Uni.fail
        · exact Uni.fail
      · exact Uni.fail
    · exact Uni.fail
  case cmp c x y =>
    refine Uni.un2 fun v w => ?_
    split
    · split
      · split <;> exact Uni.ok _
      · exact Uni.fail
    · exact Uni.fail
  case scmp c x y => refine Uni.un2 fun v w => ?_; split <;> first | exact Uni.ok _ | exact Uni.fail
  case cat x y =>
    refine Uni.un2 fun v w => ?_
    split
    · split
      · simp only [forceN_eq]; exact Uni.ok _
      · exact Uni.fail
    · exact Uni.fail
  case not x => refine Uni.un1 fun v => ?_; split <;> first | exact Uni.ok _ | exact Uni.fail
  case neg k x =>
    refine Uni.un1 fun v => ?_
    split
    · split
      · simp only [wrapK_eq]; exact Uni.ok _
      · exact Uni.fail
    · exact Uni.fail
  case compl k x =>
    refine Uni.un1 fun v => ?_
    split
    · split
      · split <;> simp only [forceN_eq] <;> exact Uni.ok _
      · exact Uni.fail
    · exact Uni.fail
  case i2i k x =>
    refine Uni.un1 fun v => ?_
    split
    · simp only [wrapK_eq]; exact Uni.ok _
    · exact Uni.fail
  case s2s x => refine Uni.un1 fun v => ?_; split <;> first | exact Uni.ok _ | exact Uni.fail
  case mkif t x => exact Uni.un1 fun v => Uni.ok _
  case mkfn f a b => exact Uni.evsK fun l => Uni.evsK fun m => Uni.ok _
  case sls x lo hi => refine Uni.un1 fun v => ?_; split <;> first | exact Uni.get _ | exact Uni.fail
  case slice es x lo hi mx => refine Uni.un1 fun v => ?_; split <;> first | exact Uni.get _ | exact Uni.fail
  case ia es x i => exact Uni.un2 fun v w => Uni.get _
  case iaa n es x i => exact Uni.un2 fun v w => Uni.get _
  case ixs x i => exact Uni.un2 fun v w => Uni.get _
  case ixa n es agg x i =>
    refine Uni.un2 fun v w => ?_
    split
    · split <;> first | exact Uni.get _ | exact Uni.fail
    · exact Uni.fail
  case field off size agg x => exact Uni.un1 fun v => Uni.get _
  case tassert t zero ok x =>
    refine Uni.un1 fun v => ?_
    have ha : ∀ b u, Uni fun h => assertOp b u zero ok h := fun b u => by
      unfold assertOp; split
      · exact Uni.ok _
      · split <;> first | exact Uni.ok _ | exact Uni.fail
    split
    · exact ha _ _
    · split <;> exact ha _ _
    · exact Uni.fail
  case tasserti tab ok x =>
    refine Uni.un1 fun v => ?_
    have ha : ∀ b u, Uni fun h => assertOp b u .nilIface ok h := fun b u => by
      unfold assertOp; split
      · exact Uni.ok _
      · split <;> first | exact Uni.ok _ | exact Uni.fail
    split
    · exact ha _ _
    · split
      · exact ha _ _
      · exact Uni.fail
    · exact Uni.fail
  case extract i x => refine Uni.un1 fun v => ?_; split <;> first | exact Uni.get _ | exact Uni.fail
  case lenA n => exact Uni.ok _
  case cap x => refine Uni.un1 fun v => ?_; split <;> first | exact Uni.ok _ | exact Uni.fail
  case min k x y =>
    refine Uni.un2 fun v w => ?_
    split
    · split
      · split <;> exact Uni.ok _
      · exact Uni.fail
    · exact Uni.fail
  case max k x y =>
    refine Uni.un2 fun v w => ?_
    split
    · split
      · split <;> exact Uni.ok _
      · exact Uni.fail
    · exact Uni.fail

theorem kind0 {op : AOp} {C : CallF} {e : Env} {h h' : Heap} {v : AVal} (hk : kindOf op = 0) (hs : stepOp op C e h = .ok v h') : h' = h ∧ ∀ h2, stepOp op C e h2 = .ok v h2 := by
  obtain ⟨r, hr⟩ := kind0_uni (C := C) (e := e) hk
  rw [hr] at hs
  cases r with
  | none => cases hs
  | some x => cases hs; exact ⟨rfl, fun h2 => hr h2⟩

/-- What was there is there. -/
def Heap.sub (h h2 : Heap) : Prop := ∀ b o, h.get b = some o → h2.get b = some o

/-- It writes no heap, and gives the same where there is more. -/
def Mono (F : Heap → OR) : Prop := ∀ h v h', F h = .ok v h' → h' = h ∧ ∀ h2, Heap.sub h h2 → F h2 = .ok v h2

theorem Uni.mono {F : Heap → OR} (hu : Uni F) : Mono F := fun h v h' hs => by
  obtain ⟨r, hr⟩ := hu
  rw [hr] at hs
  cases r with
  | none => cases hs
  | some x => cases hs; exact ⟨rfl, fun h2 _ => hr h2⟩

theorem Mono.un1 {x : AOpd} {env : Env} {k : AVal → Heap → OR} (hk : ∀ v, Mono (k v)) : Mono fun h => un1 x env h fun v => k v h := by
  cases hx : x.ev env with
  | none => intro h v h' hs; unfold Cg.un1 at hs; rw [hx] at hs; cases hs
  | some v =>
    intro h v' h' hs
    unfold Cg.un1 at hs ⊢
    rw [hx] at hs ⊢
    exact hk v h v' h' hs

theorem Mono.un2 {x y : AOpd} {env : Env} {k : AVal → AVal → Heap → OR} (hk : ∀ v w, Mono (k v w)) : Mono fun h => un2 x y env fun v w => k v w h := by
  cases hx : x.ev env with
  | none => intro h v h' hs; unfold Cg.un2 at hs; rw [hx] at hs; cases hs
  | some v =>
    cases hy : y.ev env with
    | none => intro h v h' hs; unfold Cg.un2 at hs; rw [hx, hy] at hs; cases hs
    | some w =>
      intro h v' h' hs
      unfold Cg.un2 at hs ⊢
      rw [hx, hy] at hs ⊢
      exact hk v w h v' h' hs

/-- A block that is looked at. -/
theorem Mono.block {α : Type} {b : Pos} {k : ABlk → Option α} {f : α → AVal} {h : Heap} {v : AVal} {h' : Heap} (hs : (match h.get b with | some o => OR.get ((k o).map f) h | none => .fail) = .ok v h') :
    h' = h ∧ ∃ o a, h.get b = some o ∧ k o = some a ∧ f a = v := by
  cases hg : h.get b with
  | none => rw [hg] at hs; cases hs
  | some o =>
    rw [hg] at hs
    cases hk : k o with
    | none => simp only [hk] at hs; cases hs
    | some a => simp only [hk] at hs; cases hs; exact ⟨rfl, o, a, rfl, hk, rfl⟩

/-- A value told by the heap. -/
theorem Mono.get {k : Heap → Option AVal} (hk : ∀ h h2 v, Heap.sub h h2 → k h = some v → k h2 = some v) : Mono fun h => OR.get (k h) h := fun h v h' hs => by
  cases hv : k h with
  | none => simp only [hv] at hs; cases hs
  | some x =>
    simp only [hv] at hs
    have e : x = v ∧ h = h' := by cases hs; exact ⟨rfl, rfl⟩
    obtain ⟨rfl, rfl⟩ := e
    exact ⟨rfl, fun h2 hsub => by show OR.get (k h2) h2 = _; rw [hk h h2 x hsub hv]; rfl⟩

theorem rowOf_sub {es : Nat} {bt : Bool} {x : AVal} {h h2 : Heap} {r : Row} (hs : Heap.sub h h2) (hr : rowOf es bt x h = some r) : rowOf es bt x h2 = some r := by
  unfold rowOf at hr ⊢
  split at hr
  · exact hr
  · exact hr
  · rename_i b off len _ es' _
    try simp only []
    split at hr
    · rename_i e1 e2; rw [e1, hs _ _ e2]; exact hr
    · rename_i e1 e2; rw [e1, hs _ _ e2]; exact hr
    · cases hr
  · cases hr

theorem eqPtrH_sub {x y : AVal} {h h2 : Heap} {r : Bool} (hs : Heap.sub h h2) (hr : eqPtrH x y h = some r) : eqPtrH x y h2 = some r := by
  unfold eqPtrH at hr ⊢
  split at hr
  · rename_i b o c p
    try simp only []
    split at hr
    · exact hr
    · try simp only []
      split at hr
      · rename_i v1 v2 e1 e2; rw [hs _ _ e1, hs _ _ e2]; exact hr
      · cases hr
  · exact hr

theorem eqOp_sub {k : EK} {both : Bool} {tab : List (TypeId × EK)} {x y : AVal} {h h2 : Heap} {r : Bool} (hs : Heap.sub h h2) (hr : eqOp k both tab x y h = some r) : eqOp k both tab x y h2 = some r := by
  cases k <;> simp only [eqOp] at hr ⊢ <;> try exact hr
  · exact eqPtrH_sub hs hr
  · unfold eqIfaceH at hr ⊢
    split at hr
    · exact hr
    · rename_i t v u w
      try simp only []
      split at hr
      · exact hr
      · try simp only []
        split at hr
        · rename_i k' ek
          try simp only []
          unfold eqDyn at hr ⊢
          split at hr
          · exact eqPtrH_sub hs hr
          · exact hr
        · cases hr
    · exact hr

theorem kind1_mono {op : AOp} {C : CallF} {e : Env} (hk : kindOf op = 1) : Mono (stepOp op C e) := by
  cases op <;> simp only [kindOf] at hk <;> try (exact absurd hk (by decide))
  case ld agg n p off =>
    show Mono fun h => ldOp agg n p off e h
    unfold ldOp
    split
    · rename_i b o hp
      intro h v h' hs
      simp only [] at hs ⊢
      split at hs
      · rename_i blk hb
        cases agg with
        | true =>
          simp only [] at hs
          split at hs
          · rename_i l hl
            cases hs
            exact ⟨rfl, fun h2 hsub => by rw [hsub _ _ hb]; simp only [hl]⟩
          · cases hs
        | false =>
          simp only [] at hs
          cases hl : loadOne blk (o + off) with
          | none => rw [hl] at hs; cases hs
          | some x =>
            rw [hl] at hs
            cases hs
            exact ⟨rfl, fun h2 hsub => by rw [hsub _ _ hb]; simp only [hl]; rfl⟩
      · cases hs
    · exact Uni.fail.mono
  case lookup ik zero ok m k =>
    refine Mono.un2 fun v w => Mono.get fun h h2 r hsub hr => ?_
    cases v <;> simp only [lookupOp] at hr ⊢ <;> first | exact hr | cases hr | skip
    split at hr
    · rename_i e; rw [hsub _ _ e]; exact hr
    · cases hr
  case len k x =>
    refine Mono.un1 fun v => Mono.get fun h h2 r hsub hr => ?_
    unfold lenOp at hr ⊢
    split at hr
    · exact hr
    · exact hr
    · exact hr
    · exact hr
    · try simp only []
      split at hr
      · rename_i e; rw [hsub _ _ e]; exact hr
      · cases hr
    · cases hr
  case b2s x =>
    refine Mono.un1 fun v => ?_
    intro h u h' hs
    simp only [b2sOp] at hs ⊢
    split at hs
    · rename_i n m hr
      cases hs
      exact ⟨rfl, fun h2 hsub => by rw [rowOf_sub hsub hr]⟩
    · cases hs
  case eq neg k both tab x y =>
    refine Mono.un2 fun v w => ?_
    intro h u h' hs
    simp only [] at hs ⊢
    split at hs
    · rename_i b hb
      refine ⟨by split at hs <;> cases hs <;> rfl, fun h2 hsub => ?_⟩
      rw [eqOp_sub hsub hb]
      try simp only []
      split at hs <;> cases hs <;> rfl
    · cases hs
  case slicea n es x lo hi mx =>
    refine Mono.un1 fun v => ?_
    split
    · refine Mono.get fun h h2 r hsub hr => ?_
      unfold sliceArr at hr ⊢
      split at hr
      · try simp only []
        split at hr
        · rename_i e; rw [hsub _ _ e]; exact hr
        · cases hr
      · cases hr
    · exact Uni.fail.mono

theorem kind1 {op : AOp} {C : CallF} {e : Env} {h h' : Heap} {v : AVal} (hk : kindOf op = 1) (hs : stepOp op C e h = .ok v h') : h' = h ∧ ∀ h2, Heap.sub h h2 → stepOp op C e h2 = .ok v h2 :=
  kind1_mono hk h v h' hs

/-- It makes one block. -/
def Makes (F : Heap → OR) : Prop := ∀ h v h', F h = .ok v h' → ∃ o, h' = h.new o ∧ ∀ h2 : Heap, h2.next = h.next → F h2 = .ok v (h2.new o)

theorem Makes.fail : Makes fun _ => .fail := fun _ _ _ hs => (by cases hs)
theorem Makes.new (o : ABlk) (mk : Pos → AVal) : Makes fun h => Heap.newK o h fun b h => .ok (mk b) h := fun h v h' hs => by
  simp only [Heap.newK_eq] at hs ⊢
  cases hs
  exact ⟨o, rfl, fun h2 hn => by rw [hn]⟩

theorem Makes.un1 {x : AOpd} {env : Env} {k : AVal → Heap → OR} (hk : ∀ v, Makes (k v)) : Makes fun h => un1 x env h fun v => k v h := by
  cases hx : x.ev env with
  | none => intro h v h' hs; unfold Cg.un1 at hs; rw [hx] at hs; cases hs
  | some v =>
    intro h v' h' hs
    unfold Cg.un1 at hs ⊢
    rw [hx] at hs ⊢
    exact hk v h v' h' hs

theorem Makes.un2 {x y : AOpd} {env : Env} {k : AVal → AVal → Heap → OR} (hk : ∀ v w, Makes (k v w)) : Makes fun h => un2 x y env fun v w => k v w h := by
  cases hx : x.ev env with
  | none => intro h v h' hs; unfold Cg.un2 at hs; rw [hx] at hs; cases hs
  | some v =>
    cases hy : y.ev env with
    | none => intro h v h' hs; unfold Cg.un2 at hs; rw [hx, hy] at hs; cases hs
    | some w =>
      intro h v' h' hs
      unfold Cg.un2 at hs ⊢
      rw [hx, hy] at hs ⊢
      exact hk v w h v' h' hs

theorem Makes.fillK {env : Env} : ∀ {ps : List (Nat × Nat × AOpd)} {cells : List AVal} {k : List AVal → Heap → OR} (_ : ∀ l, Makes (k l)), Makes fun h => fillK env .fail ps cells fun l => k l h
  | [], cells, k, hk => hk cells
  | (off, size, x) :: ps, cells, k, hk => by
    simp only [Cg.fillK]
    split
    · split
      · split
        · simp only [takeK_eq]
          split
          · exact Makes.fillK hk
          · exact Makes.fail
        · exact Makes.fail
      · exact Makes.fail
    · exact Makes.fail

theorem kind2 {op : AOp} {C : CallF} {e : Env} (hk : kindOf op = 2) : Makes (stepOp op C e) := by
  cases op <;> simp only [kindOf] at hk <;> try (exact absurd hk (by decide))
  case alloc z => exact Makes.new _ fun b => .ptr b 0
  case box n x =>
    refine Makes.un1 fun v => ?_
    split
    · split
      · exact Makes.new _ fun b => .ptr b 0
      · exact Makes.fail
    · exact Makes.fail
  case bslice bt es len z ps =>
    refine Makes.fillK fun l => ?_
    show Makes fun h => bsliceOp bt es len l h
    unfold bsliceOp
    split
    · split
      · exact Makes.new _ fun b => .slice b 0 len len 1 true
      · exact Makes.fail
    · exact Makes.new _ fun b => .slice b 0 len len es true
  case s2b x =>
    refine Makes.un1 fun v => ?_
    split
    · rename_i len n; exact Makes.new _ fun b => .slice b 0 len len 1 false
    · exact Makes.fail
  case mkmap => exact Makes.new _ fun b => .map b
  case mkslice bt es bytes z l c =>
    refine Makes.un2 fun v w => ?_
    show Makes fun h => mkSliceOp bt es bytes z v w h
    unfold mkSliceOp
    split
    · rename_i l c _ _
      split
      · exact Makes.new _ fun b => .slice b 0 l c es true
      · exact Makes.fail
    · exact Makes.fail

end Go.Cg

/- Regions whose order is open: what the plan keeps. -/
namespace Go.Cg
variable [Syms]

/-- j must be behind ahead of i. -/
def BindsAt (ops : Array Oper) (j i : Nat) : Prop := ∃ o, ops[i]? = some o ∧ j ∈ onsOf o

inductive Anc (ops : Array Oper) : Nat → Nat → Prop where
  | one {j i : Nat} (h : BindsAt ops j i) : Anc ops j i
  | far {j k i : Nat} (h : Anc ops j k) (hb : BindsAt ops k i) : Anc ops j i

theorem Anc.of_ready {ops : Array Oper} {L : Nat → Prop} (hL : ∀ i, L i → ∀ j, BindsAt ops j i → L j) {j i : Nat} (ha : Anc ops j i) : (∀ k, BindsAt ops k i → L k) → L j := by
  induction ha with
  | one h => intro hr; exact hr _ h
  | far h hb ih => intro hr; exact ih fun k hk => hL _ (hr _ hb) k hk

theorem Anc.of_mem {ops : Array Oper} {L : Nat → Prop} (hL : ∀ i, L i → ∀ j, BindsAt ops j i → L j) {j i : Nat} (ha : Anc ops j i) (hi : L i) : L j := ha.of_ready hL (hL i hi)

theorem hasN_iff {l : List Nat} {n : Nat} : hasN l n = true ↔ n ∈ l := by
  unfold hasN
  rw [List.any_eq_true]
  constructor
  · rintro ⟨x, h1, h2⟩; rw [Nat.eq_of_beq_eq_true h2]; exact h1
  · intro h; exact ⟨n, h, Nat.beq_refl n⟩

theorem hasN_not {l : List Nat} {n : Nat} : hasN l n = false ↔ n ∉ l := by
  rw [← hasN_iff]; simp

theorem maskFold {acc : List Nat} {k : Nat} : ∀ {l : List Nat} {s : Nat}, (l.foldl (fun s j => s ||| 2 ^ j ||| acc.getD j 0) s).testBit k = true → s.testBit k = true ∨ ∃ j ∈ l, k = j ∨ (acc.getD j 0).testBit k = true
  | [], s, h => .inl h
  | j :: l, s, h => by
    rcases maskFold (l := l) h with h | ⟨j', h1, h2⟩
    · rw [Nat.testBit_or, Nat.testBit_or, Bool.or_eq_true, Bool.or_eq_true] at h
      rcases h with (h | h) | h
      · exact .inl h
      · rw [Nat.testBit_two_pow] at h
        exact .inr ⟨j, List.mem_cons_self, .inl (of_decide_eq_true h).symm⟩
      · exact .inr ⟨j, List.mem_cons_self, .inr h⟩
    · exact .inr ⟨j', List.mem_cons_of_mem _ h1, h2⟩

theorem masksFrom_ok {ops : Array Oper} : ∀ {l : List Oper} {acc : List Nat}, ops.toList.drop acc.length = l → (∀ i m, acc[i]? = some m → ∀ j, m.testBit j = true → Anc ops j i) →
    ∀ i m, (masksFrom acc l)[i]? = some m → ∀ j, m.testBit j = true → Anc ops j i
  | [], acc, _, ha => ha
  | o :: l, acc, hl, ha => by
    have ho : ops[acc.length]? = some o := by
      have : (ops.toList.drop acc.length)[0]? = some o := by rw [hl]; rfl
      rw [List.getElem?_drop, Nat.add_zero, Array.getElem?_toList] at this
      exact this
    refine masksFrom_ok (l := l) (acc := acc ++ [maskOf acc o]) ?_ fun i m hm j hj => ?_
    · rw [List.length_append, ← List.drop_drop, hl]; rfl
    · by_cases hi : i < acc.length
      · rw [List.getElem?_append_left hi] at hm
        exact ha i m hm j hj
      · rw [List.getElem?_append_right (by omega)] at hm
        have he : i = acc.length := by
          by_cases e : i = acc.length
          · exact e
          · rw [List.getElem?_eq_none (by simp; omega)] at hm; cases hm
        subst he
        rw [Nat.sub_self] at hm
        cases hm
        rcases maskFold (l := onsOf o) hj with h | ⟨k, h1, h2⟩
        · simp at h
        · rcases h2 with rfl | h2
          · exact .one ⟨o, ho, h1⟩
          · rw [List.getD_eq_getElem?_getD] at h2
            cases hk : acc[k]? with
            | none => rw [hk] at h2; simp at h2
            | some m => rw [hk] at h2; exact .far (ha k m hk j h2) ⟨o, ho, h1⟩

theorem infosOf_ok {ops : Array Oper} : ∀ {l : List Oper} {xs : List AOper} {ms seen : List Nat} {i : Nat} {I : DInfo}, (infosOf ops seen l xs ms)[i]? = some I →
    l[i]? = some I.o ∧ xs[i]? = some I.x ∧ ms[i]? = some I.mask ∧ I.looks = looksC ops I.o ∧ I.ons = onsOf I.o
  | [], _, _, _, i, I, h => by simp [infosOf] at h
  | _ :: _, [], _, _, i, I, h => by simp [infosOf] at h
  | _ :: _, _ :: _, [], _, i, I, h => by simp [infosOf] at h
  | o :: l, x :: xs, m :: ms, seen, 0, I, h => by
    simp only [infosOf, List.getElem?_cons_zero, Option.some.injEq] at h
    subst h
    exact ⟨rfl, rfl, rfl, rfl, rfl⟩
  | o :: l, x :: xs, m :: ms, seen, i + 1, I, h => by
    have h : (infosOf ops (appL (looksC ops o) seen) l xs ms)[i]? = some I := h
    exact infosOf_ok (l := l) h

theorem masksFrom_length : ∀ {l : List Oper} {acc : List Nat}, (masksFrom acc l).length = acc.length + l.length
  | [], acc => by simp [masksFrom]
  | o :: l, acc => by simp only [masksFrom]; rw [masksFrom_length]; simp; omega

theorem infosOf_length {ops : Array Oper} : ∀ {l : List Oper} {xs : List AOper} {ms seen : List Nat}, xs.length = l.length → ms.length = l.length → (infosOf ops seen l xs ms).length = l.length
  | [], _, _, _, _, _ => by simp [infosOf]
  | o :: l, x :: xs, m :: ms, seen, h1, h2 => by
    simp only [infosOf, List.length_cons]
    rw [infosOf_length (by simpa using h1) (by simpa using h2)]
  | _ :: _, [], _, _, h1, _ => by simp at h1
  | _ :: _, _ :: _, [], _, _, h2 => by simp at h2

theorem allSome_get {α β : Type} {f : α → Option β} : ∀ {l : List α} {xs : List β}, allSome f l = some xs → xs.length = l.length ∧ ∀ (i : Nat) (a : α) (b : β), l[i]? = some a → xs[i]? = some b → f a = some b
  | [], xs, h => by cases h; exact ⟨rfl, fun i a b h => by simp at h⟩
  | a :: l, xs, h => by
    simp only [allSome] at h
    split at h
    case h_2 => cases h
    rename_i b hb
    split at h
    case h_2 => cases h
    rename_i bs hbs
    cases h
    obtain ⟨h1, h2⟩ := allSome_get hbs
    refine ⟨by simp [h1], fun i a' b' ha hb' => ?_⟩
    cases i with
    | zero => simp at ha hb'; subst ha hb'; exact hb
    | succ i => exact h2 i a' b' (by simpa using ha) (by simpa using hb')

/-- What a plan's list says of the region's operations. -/
structure Infos (P : Program) (dyn : List TypeId) (E : Tr Unit) (nt : Nat) (ops : Array Oper) (infos : List DInfo) : Prop where
  len : infos.length = ops.size
  op : ∀ (i : Nat) (I : DInfo), infos[i]? = some I → ops[i]? = some I.o
  comp : ∀ (i : Nat) (I : DInfo), infos[i]? = some I → compDrawn P dyn E nt ops I.o = some I.x
  looks : ∀ (i : Nat) (I : DInfo), infos[i]? = some I → I.looks = looksC ops I.o
  ons : ∀ (i : Nat) (I : DInfo), infos[i]? = some I → I.ons = onsOf I.o
  mask : ∀ (i : Nat) (I : DInfo), infos[i]? = some I → ∀ j, I.mask.testBit j = true → Anc ops j i

theorem infos_ok {P : Program} {dyn : List TypeId} {E : Tr Unit} {nt : Nat} {ops : Array Oper} {xs : List AOper} (hx : allSome (compDrawn P dyn E nt ops) ops.toList = some xs) :
    Infos P dyn E nt ops (infosOf ops [] ops.toList xs (masksFrom [] ops.toList)) := by
  obtain ⟨h1, h2⟩ := allSome_get hx
  have hm := masksFrom_ok (ops := ops) (l := ops.toList) (acc := []) rfl (fun i m h => by simp at h)
  refine ⟨?_, fun i I h => ?_, fun i I h => ?_, fun i I h => (infosOf_ok h).2.2.2.1, fun i I h => (infosOf_ok h).2.2.2.2, fun i I h => hm i I.mask (infosOf_ok h).2.2.1⟩
  · rw [infosOf_length h1 (by rw [masksFrom_length]; simp)]; simp
  · have := (infosOf_ok h).1; rw [Array.getElem?_toList] at this; exact this
  · exact h2 i I.o I.x (infosOf_ok h).1 (infosOf_ok h).2.1

section
variable {P : Program} {dyn : List TypeId} {E : Tr Unit} {nt : Nat} {ops : Array Oper} {infos : List DInfo}

theorem Infos.binds (hI : Infos P dyn E nt ops infos) {i j : Nat} {I : DInfo} (h : infos[i]? = some I) : BindsAt ops j i ↔ j ∈ I.ons := by
  rw [hI.ons i I h]
  constructor
  · rintro ⟨o, h1, h2⟩; rw [hI.op i I h] at h1; cases h1; exact h2
  · intro h2; exact ⟨I.o, hI.op i I h, h2⟩

theorem chkSlots2_ok {i d : Nat} {I : DInfo} : ∀ {l : List DInfo} {k : Nat}, chkSlots2 i d I k l = true → ∀ (j : Nat) (J : DInfo), l[j]? = some J →
    (k + j ≠ i → J.o.dst ≠ some d) ∧ (d ∈ J.looks → J.mask.testBit i = true ∨ (heavy I = true ∧ I.mask.testBit (k + j) = true ∧ isMeth I.o.op = false ∧ isMeth J.o.op = false))
  | [], k, _, j, J, hj => by simp at hj
  | J0 :: l, k, h, j, J, hj => by
    simp only [chkSlots2, Bool.and_eq_true] at h
    obtain ⟨⟨h1, h2⟩, h3⟩ := h
    cases j with
    | zero =>
      simp only [List.getElem?_cons_zero, Option.some.injEq] at hj
      subst hj
      refine ⟨fun hne e => ?_, fun hd => ?_⟩
      · rw [e] at h1
        simp only [Nat.beq_refl, Bool.not_true, Bool.or_false] at h1
        exact hne (Nat.eq_of_beq_eq_true h1)
      · rw [hasN_iff.2 hd] at h2
        simp only [Bool.not_true, Bool.false_or, Bool.or_eq_true, Bool.and_eq_true, Bool.not_eq_true'] at h2
        rcases h2 with h2 | ⟨⟨⟨h2, h4⟩, h5⟩, h6⟩
        · exact .inl h2
        · exact .inr ⟨h2, h4, h5, h6⟩
    | succ j =>
      have := chkSlots2_ok h3 j J (by simpa using hj)
      rw [show k + (j + 1) = k + 1 + j by omega]
      exact this

theorem chkSlots_ok : ∀ {l : List DInfo} {k : Nat}, chkSlots infos k l = true → ∀ (i : Nat) (I : DInfo), l[i]? = some I →
    (∀ d, I.o.dst = some d → chkSlots2 (k + i) d I 0 infos = true) ∧ ∀ j ∈ I.ons, j < k + i
  | [], k, _, i, I, hi => by simp at hi
  | I0 :: l, k, h, i, I, hi => by
    simp only [chkSlots, Bool.and_eq_true] at h
    obtain ⟨⟨h1, h2⟩, h3⟩ := h
    cases i with
    | zero =>
      simp only [List.getElem?_cons_zero, Option.some.injEq] at hi
      subst hi
      refine ⟨fun d hd => ?_, fun j hj => ?_⟩
      · rw [hd] at h1; exact h1
      · have := List.all_eq_true.1 h2 j hj
        simpa using this
    | succ i =>
      have := chkSlots_ok h3 i I (by simpa using hi)
      rw [show k + (i + 1) = k + 1 + i by omega]
      exact this

/-- The plan's static facts. -/
structure Plan (P : Program) (dyn : List TypeId) (E : Tr Unit) (nt : Nat) (ops : Array Oper) (infos : List DInfo) : Prop extends Infos P dyn E nt ops infos where
  once : ∀ (i j : Nat) (I J : DInfo) (d : Nat), infos[i]? = some I → infos[j]? = some J → I.o.dst = some d → J.o.dst = some d → i = j
  seen : ∀ (i j : Nat) (I J : DInfo) (d : Nat), infos[i]? = some I → infos[j]? = some J → I.o.dst = some d → d ∈ J.looks → Anc ops i j ∨ (heavy I = true ∧ Anc ops j i ∧ isMeth I.o.op = false ∧ isMeth J.o.op = false)
  back : ∀ (i : Nat) (I : DInfo) (j : Nat), infos[i]? = some I → j ∈ I.ons → j < i

theorem plan_ok (hI : Infos P dyn E nt ops infos) (hs : chkSlots infos 0 infos = true) : Plan P dyn E nt ops infos where
  toInfos := hI
  once := fun i j I J d h1 h2 h3 h4 => by
    have := (chkSlots_ok hs i I h1).1 d h3
    rw [Nat.zero_add] at this
    have := (chkSlots2_ok this j J h2).1
    rw [Nat.zero_add] at this
    by_cases e : j = i
    · exact e.symm
    · exact absurd h4 (this e)
  seen := fun i j I J d h1 h2 h3 h4 => by
    have := (chkSlots_ok hs i I h1).1 d h3
    rw [Nat.zero_add] at this
    rcases (chkSlots2_ok this j J h2).2 h4 with h | ⟨h, h', h5, h6⟩
    · exact .inl (hI.mask j J h2 i h)
    · rw [Nat.zero_add] at h'; exact .inr ⟨h, hI.mask i I h1 j h', h5, h6⟩
  back := fun i I j h1 h2 => by
    have := (chkSlots_ok hs i I h1).2 j h2
    rwa [Nat.zero_add] at this

theorem chkSeg_ok {D : List Nat} {h mask : Nat} {res : List Nat} : ∀ {l : List DInfo} {k : Nat}, chkSeg D h mask res k l = true → ∀ (i : Nat) (I : DInfo), l[i]? = some I →
    (k + i ∉ D → k + i = h ∨ I.mask.testBit h = true) ∧ (k + i ∈ D → reads I = false ∨ mask.testBit (k + i) = true ∨ k + i ∈ res)
  | [], k, _, i, I, hi => by simp at hi
  | I0 :: l, k, h, i, I, hi => by
    simp only [chkSeg, Bool.and_eq_true] at h
    obtain ⟨h1, h2⟩ := h
    cases i with
    | zero =>
      simp only [List.getElem?_cons_zero, Option.some.injEq] at hi
      subst hi
      rw [Nat.add_zero]
      refine ⟨fun hD => ?_, fun hD => ?_⟩
      · rw [hasN_not.2 hD] at h1
        simp only [Bool.or_eq_true] at h1
        exact h1.imp Nat.eq_of_beq_eq_true id
      · rw [hasN_iff.2 hD] at h1
        simp only [Bool.or_eq_true, Bool.not_eq_true'] at h1
        rcases h1 with (h1 | h1) | h1
        · exact .inl h1
        · exact .inr (.inl h1)
        · exact .inr (.inr (hasN_iff.1 h1))
    | succ i =>
      have := chkSeg_ok h2 i I (by simpa using hi)
      rw [show k + (i + 1) = k + 1 + i by omega]
      exact this
end

end Go.Cg
end
