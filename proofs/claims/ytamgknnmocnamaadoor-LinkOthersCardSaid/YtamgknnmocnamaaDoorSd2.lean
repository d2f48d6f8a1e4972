/- The evaluator is sound: what it gives is what the model gives, whatever the tape. Part 2. No condition. -/
import Derived.Test.YtamgknnmocnamaaDoorSd1
import Derived.Laws.Strings
import Derived.Laws.StructEq
import Derived.Laws.BytesString
set_option linter.unusedVariables false
set_option linter.unusedSimpArgs false
set_option linter.unusedSectionVars false
noncomputable section
/- Integers: the evaluator's and the model's. -/
namespace Go.Cg
variable [Syms]

set_option linter.unusedSimpArgs false
theorem wrap_i8 (n : Int) : IntKind.i8.wrap n = if n % 256 ≥ 128 then n % 256 - 256 else n % 256 := by
  simp [IntKind.wrap, IntKind.bits, IntKind.signed]
theorem wrap_i16 (n : Int) : IntKind.i16.wrap n = if n % 65536 ≥ 32768 then n % 65536 - 65536 else n % 65536 := by
  simp [IntKind.wrap, IntKind.bits, IntKind.signed]
theorem wrap_i32 (n : Int) : IntKind.i32.wrap n = if n % 4294967296 ≥ 2147483648 then n % 4294967296 - 4294967296 else n % 4294967296 := by
  simp [IntKind.wrap, IntKind.bits, IntKind.signed]
theorem wrap_i64 (n : Int) : IntKind.i64.wrap n = if n % 18446744073709551616 ≥ 9223372036854775808 then n % 18446744073709551616 - 18446744073709551616 else n % 18446744073709551616 := by
  simp [IntKind.wrap, IntKind.bits, IntKind.signed]
theorem wrap_u8 (n : Int) : IntKind.u8.wrap n = n % 256 := by
  simp [IntKind.wrap, IntKind.bits, IntKind.signed]
theorem wrap_u16 (n : Int) : IntKind.u16.wrap n = n % 65536 := by
  simp [IntKind.wrap, IntKind.bits, IntKind.signed]
theorem wrap_u32 (n : Int) : IntKind.u32.wrap n = n % 4294967296 := by
  simp [IntKind.wrap, IntKind.bits, IntKind.signed]
theorem wrap_u64 (n : Int) : IntKind.u64.wrap n = n % 18446744073709551616 := by
  simp [IntKind.wrap, IntKind.bits, IntKind.signed]
theorem max_i8 : IntKind.i8.max = 127 := rfl
theorem max_i16 : IntKind.i16.max = 32767 := rfl
theorem max_i32 : IntKind.i32.max = 2147483647 := rfl
theorem max_i64' : IntKind.i64.max = 9223372036854775807 := rfl
theorem max_u8 : IntKind.u8.max = 255 := rfl
theorem max_u16 : IntKind.u16.max = 65535 := rfl
theorem max_u32 : IntKind.u32.max = 4294967295 := rfl
theorem max_u64 : IntKind.u64.max = 18446744073709551615 := rfl
theorem min_i8 : IntKind.i8.min = -128 := rfl
theorem min_i16 : IntKind.i16.min = -32768 := rfl
theorem min_i32 : IntKind.i32.min = -2147483648 := rfl
theorem min_i64 : IntKind.i64.min = -9223372036854775808 := rfl
theorem min_u8 : IntKind.u8.min = 0 := rfl
theorem min_u16 : IntKind.u16.min = 0 := rfl
theorem min_u32 : IntKind.u32.min = 0 := rfl
theorem min_u64 : IntKind.u64.min = 0 := rfl

theorem wrap_id {k : IntKind} {n : Int} (h1 : k.min ≤ n) (h2 : n ≤ k.max) : k.wrap n = n := by
  cases k <;> simp only [wrap_i8, wrap_i16, wrap_i32, wrap_i64, wrap_u8, wrap_u16, wrap_u32, wrap_u64, max_i8, max_i16, max_i32, max_i64', max_u8, max_u16, max_u32, max_u64, min_i8, min_i16, min_i32, min_i64, min_u8, min_u16, min_u32, min_u64] at * <;> first | omega | (split <;> omega)

theorem kmax_eq (k : IntKind) : (kmax k : Int) = k.max := by cases k <;> rfl
theorem kmod_eq (k : IntKind) : (kmod k : Int) = 2 ^ k.bits := by cases k <;> rfl
theorem ksigned_eq (k : IntKind) : ksigned k = k.signed := by cases k <;> rfl

theorem ble_false {a b : Nat} (h : Nat.ble a b = false) : ¬ a ≤ b := fun hc => by rw [Nat.ble_eq_true_of_le hc] at h; cases h

theorem wrap_signed_lo {k : IntKind} {n : Int} (hs : ksigned k = true) (h : n % kmod k ≤ kmax k) : k.wrap n = n % kmod k := by
  cases k <;> simp only [ksigned, Bool.false_eq_true] at hs <;> simp only [wrap_i8, wrap_i16, wrap_i32, wrap_i64, wrap_u8, wrap_u16, wrap_u32, wrap_u64, kmod, kmax] at * <;> split <;> omega
theorem wrap_signed_hi {k : IntKind} {n : Int} (hs : ksigned k = true) (h : ¬ n % kmod k ≤ kmax k) : k.wrap n = n % kmod k - kmod k := by
  cases k <;> simp only [ksigned, Bool.false_eq_true] at hs <;> simp only [wrap_i8, wrap_i16, wrap_i32, wrap_i64, wrap_u8, wrap_u16, wrap_u32, wrap_u64, kmod, kmax] at * <;> split <;> omega
theorem wrap_unsigned {k : IntKind} {n : Int} (hs : ksigned k = false) : k.wrap n = n % kmod k := by
  cases k <;> simp only [ksigned] at hs <;> first | (cases hs; done) | simp only [wrap_i8, wrap_i16, wrap_i32, wrap_i64, wrap_u8, wrap_u16, wrap_u32, wrap_u64, kmod] <;> rfl
theorem kmax_lt (k : IntKind) : kmax k < kmod k := by cases k <;> decide
theorem kmin_signed {k : IntKind} (hs : ksigned k = true) : k.min = -(kmax k : Int) - 1 := by cases k <;> first | (cases hs; done) | rfl
theorem kmin_le (k : IntKind) : k.min ≤ 0 := by cases k <;> decide

theorem wrapK_eq {β : Type} (k : IntKind) (n : Int) (κ : Int → β) : wrapK k n κ = κ (k.wrap n) := by
  have hlt := kmax_lt k
  have hmin := kmin_le k
  have hmx := kmax_eq k
  cases n with
  | ofNat a =>
    simp only [wrapK]
    split
    · rename_i hb
      have hb := Nat.le_of_ble_eq_true hb
      rw [forceN_eq, wrap_id]
      · simp only [Int.ofNat_eq_natCast]; omega
      · simp only [Int.ofNat_eq_natCast]; omega
    · split
      · rename_i hs
        rw [forceI_eq]
        congr 1
        cases hb2 : Nat.ble (a % kmod k) (kmax k) with
        | true =>
          have h2 := Nat.le_of_ble_eq_true hb2
          rw [if_pos rfl, wrap_signed_lo hs]
          · rfl
          · simp only [Int.ofNat_eq_natCast]; omega
        | false =>
          have h2 := ble_false hb2
          rw [if_neg (by simp), wrap_signed_hi hs]
          · simp only [Int.negSucc_eq, Int.ofNat_eq_natCast]
            have := Nat.mod_lt a (show 0 < kmod k by omega)
            omega
          · simp only [Int.ofNat_eq_natCast]; omega
      · rename_i hs
        rw [forceN_eq, wrap_unsigned hs]
        rfl
  | negSucc a =>
    have hmod : Int.negSucc a % kmod k = (kmod k - 1 - a % kmod k : Nat) := by
      have h1 := Nat.mod_lt a (show 0 < kmod k by omega)
      have h2 := Nat.div_add_mod a (kmod k)
      rw [Int.emod_def]
      have h3 : Int.negSucc a / (kmod k : Int) = -(a / kmod k : Nat) - 1 := by
        rw [Int.negSucc_ediv _ (by omega)]
        show -((a : Int) / (kmod k : Int) + 1) = _
        rw [← Int.natCast_ediv]; omega
      rw [h3, Int.negSucc_eq]
      have h4 : (kmod k : Int) * (-(a / kmod k : Nat) - 1) = -((kmod k * (a / kmod k) : Nat) : Int) - kmod k := by
        rw [Int.mul_sub, Int.mul_neg]; simp
      rw [h4]
      omega
    have h1 := Nat.mod_lt a (show 0 < kmod k by omega)
    simp only [wrapK]
    split
    · rename_i hs
      have hms := kmin_signed hs
      have hmm : kmod k = 2 * (kmax k + 1) := by cases k <;> first | (cases hs; done) | rfl
      split
      · rename_i hb
        have hb := Nat.le_of_ble_eq_true hb
        rw [forceN_eq, wrap_id]
        · rw [Int.negSucc_eq]; omega
        · rw [Int.negSucc_eq]; omega
      · rw [forceI_eq]
        congr 1
        cases hb2 : Nat.ble (a % kmod k) (kmax k) with
        | true =>
          have h2 := Nat.le_of_ble_eq_true hb2
          rw [if_pos rfl, wrap_signed_hi hs]
          · rw [hmod, Int.negSucc_eq]; omega
          · rw [hmod]; omega
        | false =>
          have h2 := ble_false hb2
          rw [if_neg (by simp), wrap_signed_lo hs]
          · rw [hmod]; rfl
          · rw [hmod]; omega
    · rename_i hs
      rw [forceN_eq, wrap_unsigned hs, hmod]
      rfl

theorem natCmp_eq (c : Cmp) (a b : Nat) : natCmp c a b = (match c with | .lt => decide (a < b) | .le => decide (a ≤ b) | .gt => decide (b < a) | .ge => decide (b ≤ a)) := by
  have h1 : ∀ a b : Nat, Nat.ble a b = decide (a ≤ b) := fun a b => by
    cases hb : Nat.ble a b with
    | true => simp [Nat.le_of_ble_eq_true hb]
    | false => simp [ble_false hb]
  have h2 : ∀ a b : Nat, Nat.blt a b = decide (a < b) := fun a b => by rw [show Nat.blt a b = Nat.ble (a + 1) b from rfl, h1]; rfl
  cases c <;> simp [natCmp, h1, h2]

theorem intCmp_eq (c : Cmp) (x y : Int) : intCmp c x y = (match c with | .lt => decide (x < y) | .le => decide (x ≤ y) | .gt => decide (y < x) | .ge => decide (y ≤ x)) := by
  cases x <;> cases y <;> simp only [intCmp, natCmp_eq] <;> cases c <;> simp <;> omega

theorem intEq_eq (x y : Int) : intEq x y = decide (x = y) := by
  have h1 : ∀ a b : Nat, Nat.beq a b = decide (a = b) := fun a b => by
    cases hb : Nat.beq a b with
    | true => simp [Nat.eq_of_beq_eq_true hb]
    | false => simp; intro e; subst e; rw [Nat.beq_refl] at hb; cases hb
  cases x <;> cases y <;> simp only [intEq, h1] <;> simp <;> omega

end Go.Cg

/- Arithmetic, comparisons, texts: the model's runs. -/
namespace Go.Cg
variable [Syms]

variable {P : Program} {μ : Mu} {h h' : Heap} {w : World} {v : AVal}

def binOf : Ari → BinOp
  | .add => .add | .sub => .sub | .mul => .mul | .quo => .quo | .rem => .rem | .and => .and | .or => .or | .xor => .xor | .shl => .shl | .shr => .shr

theorem kmax_pow (k : IntKind) : ∃ e, kmax k + 1 = 2 ^ e ∧ e ≤ k.bits := by
  cases k
  · exact ⟨7, rfl, by decide⟩
  · exact ⟨15, rfl, by decide⟩
  · exact ⟨31, rfl, by decide⟩
  · exact ⟨63, rfl, by decide⟩
  · exact ⟨8, rfl, by decide⟩
  · exact ⟨16, rfl, by decide⟩
  · exact ⟨32, rfl, by decide⟩
  · exact ⟨64, rfl, by decide⟩

theorem kbits_eq (k : IntKind) : kbits k = k.bits := by cases k <;> rfl

theorem bv_nat {k : IntKind} {a : Nat} (ha : a ≤ kmax k) : (BitVec.ofInt k.bits (Int.ofNat a)).toNat = a := by
  obtain ⟨e, h1, h2⟩ := kmax_pow k
  have : (2 : Nat) ^ e ≤ 2 ^ k.bits := Nat.pow_le_pow_right (by omega) h2
  simp only [Int.ofNat_eq_natCast, BitVec.ofInt_natCast, BitVec.toNat_ofNat]
  exact Nat.mod_eq_of_lt (by omega)

theorem wrap_nat {k : IntKind} {a : Nat} (ha : a ≤ kmax k) : k.wrap (a : Int) = a := by
  have h1 := kmin_le k
  have h2 := kmax_eq k
  exact wrap_id (by omega) (by omega)

theorem ari_sound {op : Ari} {k yk : IntKind} {a b : Int} {t : TypeId} (hy : op = .shl ∨ op = .shr ∨ yk = k) (hk : ariK op k a b (fun n => OR.ok (.int k n) h) OR.fail = OR.ok v h') :
    ∃ r, v = .int k r ∧ h' = h ∧ (binOp (binOf op) t (.int k a) (.int yk b)).run P w = .ok (.int k r) w := by
  by_cases hsh : op = .add ∨ op = .sub ∨ op = .mul
  · have hyk : yk = k := by rcases hsh with e | e | e <;> subst e <;> rcases hy with e | e | e <;> first | (cases e; done) | exact e
    subst hyk
    rcases hsh with e | e | e <;> subst e <;> simp only [ariK, wrapK_eq] at hk <;> cases hk <;> exact ⟨_, rfl, rfl, by simp [binOf, binOp, Op.intArith]⟩
  · unfold ariK at hk
    split at hk
    · exact absurd (.inl rfl) hsh
    · exact absurd (.inr (.inl rfl)) hsh
    · exact absurd (.inr (.inr rfl)) hsh
    split at hk
    case h_2 => cases hk
    rename_i a b
    split at hk
    case h_1 => cases hk
    rename_i hbb
    simp only [Bool.and_eq_true] at hbb
    have ha := Nat.le_of_ble_eq_true hbb.1
    have hb := Nat.le_of_ble_eq_true hbb.2
    obtain ⟨e, he1, he2⟩ := kmax_pow k
    cases op with
    | add => exact absurd (.inl rfl) hsh
    | sub => exact absurd (.inr (.inl rfl)) hsh
    | mul => exact absurd (.inr (.inr rfl)) hsh
    | quo =>
      obtain rfl : yk = k := by rcases hy with e | e | e <;> first | (cases e; done) | exact e
      cases b with
      | zero => simp at hk
      | succ b =>
        simp only [forceN_eq] at hk
        cases hk
        refine ⟨_, rfl, rfl, ?_⟩
        have hd : a / (b + 1) ≤ kmax yk := Nat.le_trans (Nat.div_le_self _ _) ha
        have : (Int.ofNat a).tdiv (Int.ofNat (b + 1)) = ((a / (b + 1) : Nat) : Int) := rfl
        have h0 : ¬ Int.ofNat (b + 1) = 0 := by simp only [Int.ofNat_eq_natCast]; omega
        simp only [binOf, binOp, Op.intDiv, ne_eq, not_true, if_false, h0, this, wrap_nat hd, Sem.run_pure]
        rfl
    | rem =>
      obtain rfl : yk = k := by rcases hy with e | e | e <;> first | (cases e; done) | exact e
      cases b with
      | zero => simp at hk
      | succ b =>
        simp only [forceN_eq] at hk
        cases hk
        refine ⟨_, rfl, rfl, ?_⟩
        have : (Int.ofNat a).tmod (Int.ofNat (b + 1)) = ((a % (b + 1) : Nat) : Int) := rfl
        have h0 : ¬ Int.ofNat (b + 1) = 0 := by simp only [Int.ofNat_eq_natCast]; omega
        simp only [binOf, binOp, Op.intDiv, ne_eq, not_true, if_false, h0, this, Sem.run_pure]
        rfl
    | and =>
      obtain rfl : yk = k := by rcases hy with e | e | e <;> first | (cases e; done) | exact e
      simp only [forceN_eq] at hk
      cases hk
      refine ⟨_, rfl, rfl, ?_⟩
      have hl : a &&& b ≤ kmax yk := Nat.le_trans Nat.and_le_left ha
      have : (BitVec.ofInt yk.bits (Int.ofNat a) &&& BitVec.ofInt yk.bits (Int.ofNat b)).toNat = a &&& b := by rw [BitVec.toNat_and, bv_nat ha, bv_nat hb]
      simp only [binOf, binOp, Op.intBits, ne_eq, not_true, if_false, this, wrap_nat hl, Sem.run_pure]
      rfl
    | or =>
      obtain rfl : yk = k := by rcases hy with e | e | e <;> first | (cases e; done) | exact e
      simp only [forceN_eq] at hk
      cases hk
      refine ⟨_, rfl, rfl, ?_⟩
      have hl : a ||| b ≤ kmax yk := by
        have := Nat.or_lt_two_pow (n := e) (x := a) (y := b) (by omega) (by omega)
        omega
      have : (BitVec.ofInt yk.bits (Int.ofNat a) ||| BitVec.ofInt yk.bits (Int.ofNat b)).toNat = a ||| b := by rw [BitVec.toNat_or, bv_nat ha, bv_nat hb]
      simp only [binOf, binOp, Op.intBits, ne_eq, not_true, if_false, this, wrap_nat hl, Sem.run_pure]
      rfl
    | xor =>
      obtain rfl : yk = k := by rcases hy with e | e | e <;> first | (cases e; done) | exact e
      simp only [forceN_eq] at hk
      cases hk
      refine ⟨_, rfl, rfl, ?_⟩
      have hl : a ^^^ b ≤ kmax yk := by
        have := Nat.xor_lt_two_pow (n := e) (x := a) (y := b) (by omega) (by omega)
        omega
      have : (BitVec.ofInt yk.bits (Int.ofNat a) ^^^ BitVec.ofInt yk.bits (Int.ofNat b)).toNat = a ^^^ b := by rw [BitVec.toNat_xor, bv_nat ha, bv_nat hb]
      simp only [binOf, binOp, Op.intBits, ne_eq, not_true, if_false, this, wrap_nat hl, Sem.run_pure]
      rfl
    | shl =>
      simp only [] at hk
      split at hk
      case h_2 => cases hk
      rename_i hle
      have hle := Nat.le_of_ble_eq_true hle
      rw [wrapK_eq] at hk
      cases hk
      refine ⟨_, rfl, rfl, ?_⟩
      rw [kbits_eq] at hle
      have h0 : ¬ (Int.ofNat b < 0) := by simp only [Int.ofNat_eq_natCast]; omega
      have hm : min (Int.ofNat b).toNat k.bits = b := by simp only [Int.ofNat_eq_natCast, Int.toNat_natCast]; omega
      simp only [binOf, binOp, Op.shift, h0, if_false, hm, Sem.run_pure]
      simp
    | shr =>
      simp only [] at hk
      split at hk
      case h_2 => cases hk
      rename_i hle
      have hle := Nat.le_of_ble_eq_true hle
      rw [forceN_eq] at hk
      cases hk
      refine ⟨_, rfl, rfl, ?_⟩
      rw [kbits_eq] at hle
      have h0 : ¬ (Int.ofNat b < 0) := by simp only [Int.ofNat_eq_natCast]; omega
      have hm : min (Int.ofNat b).toNat k.bits = b := by simp only [Int.ofNat_eq_natCast, Int.toNat_natCast]; omega
      have : (Int.ofNat a).fdiv (2 ^ b) = ((a / 2 ^ b : Nat) : Int) := by
        rw [Int.fdiv_eq_ediv_of_nonneg _ (Int.pow_nonneg (by omega))]
        simp
      simp only [binOf, binOp, Op.shift, h0, if_false, hm, this, Sem.run_pure]
      rfl

end Go.Cg

/- Comparisons, texts, conversions, slicing, indexing: the model's runs. -/
namespace Go.Cg
variable [Syms]

variable {P : Program} {μ : Mu} {h h' : Heap} {w : World} {v : AVal}

def cmpBin : Cmp → BinOp
  | .lt => .lss | .le => .leq | .gt => .gtr | .ge => .geq

theorem cmp_run (c : Cmp) (k : IntKind) (a b : Int) (t : TypeId) : (binOp (cmpBin c) t (.int k a) (.int k b)).run P w = .ok (.bool (intCmp c a b)) w := by
  rw [intCmp_eq]
  cases c <;> simp [cmpBin, binOp, Op.intCmp]

/-! ### Bytes in order -/
theorem lex_step {a b N X Y : Nat} (hX : X < N) (hY : Y < N) : (a * N + X < b * N + Y ↔ a < b ∨ (a = b ∧ X < Y)) ∧ (a * N + X = b * N + Y ↔ a = b ∧ X = Y) := by
  rcases Nat.lt_trichotomy a b with h | h | h
  · have := Nat.mul_le_mul_right N h
    rw [Nat.succ_mul] at this
    omega
  · subst h; omega
  · have := Nat.mul_le_mul_right N h
    rw [Nat.succ_mul] at this
    omega

theorem strLt_iff (l n m k : Nat) : strLt l n m k = true ↔ (l ≤ m ∧ (n * 256 ^ (m - l) < k ∨ (n * 256 ^ (m - l) = k ∧ l < m))) ∨ (m < l ∧ n < k * 256 ^ (l - m)) := by
  unfold strLt
  have e : ∀ x d : Nat, Nat.shiftLeft x (8 * d) = x * 256 ^ d := fun x d => by
    show x <<< (8 * d) = _
    rw [Nat.shiftLeft_eq, Nat.pow_mul]
  rw [e, e]
  cases hb : Nat.ble l m with
  | true =>
    have hb := Nat.le_of_ble_eq_true hb
    simp only [Bool.and_eq_true, Bool.or_eq_true, Nat.ble_eq, Nat.blt_eq]
    omega
  | false =>
    have hb : ¬ l ≤ m := fun hc => by rw [Nat.ble_eq_true_of_le hc] at hb; cases hb
    simp only [Nat.blt_eq]
    omega

theorem bytesLess_iff : ∀ (l r : List UInt8), Op.bytesLess l r = strLt l.length (pack l) r.length (pack r)
  | l, [] => by
    rw [Bool.eq_iff_iff, strLt_iff]
    have : Op.bytesLess l [] = false := by cases l <;> rfl
    rw [this]
    cases l with
    | nil => simp [pack]
    | cons a l => simp [pack]
  | [], b :: r => by
    rw [Bool.eq_iff_iff, strLt_iff]
    simp [Op.bytesLess, pack_nil]
    omega
  | a :: x, b :: y => by
    have ih := bytesLess_iff x y
    rw [Bool.eq_iff_iff, strLt_iff] at ih ⊢
    have hx := pack_lt x
    have hy := pack_lt y
    have hab : (a < b ↔ a.toNat < b.toNat) ∧ (a = b ↔ a.toNat = b.toNat) := ⟨UInt8.lt_iff_toNat_lt, UInt8.toNat_inj.symm⟩
    simp only [Op.bytesLess, Bool.or_eq_true, Bool.and_eq_true, decide_eq_true_eq, beq_iff_eq]
    rw [ih, hab.1, hab.2, pack_cons, pack_cons, List.length_cons, List.length_cons]
    simp only [Nat.add_le_add_iff_right, Nat.add_lt_add_iff_right, Nat.add_sub_add_right, Nat.add_mul]
    by_cases hle : x.length ≤ y.length
    · have e : a.toNat * 256 ^ x.length * 256 ^ (y.length - x.length) = a.toNat * 256 ^ y.length := by
        rw [Nat.mul_assoc, ← Nat.pow_add]; congr 2; omega
      have hx' : pack x * 256 ^ (y.length - x.length) < 256 ^ y.length := by
        have := Nat.mul_lt_mul_of_pos_right hx (Nat.pow_pos (n := y.length - x.length) (show 0 < 256 by omega))
        rw [← Nat.pow_add] at this
        rwa [show x.length + (y.length - x.length) = y.length by omega] at this
      rw [e]
      obtain ⟨l1, l2⟩ := lex_step (a := a.toNat) (b := b.toNat) hx' hy
      rw [l1, l2]
      omega
    · have e : b.toNat * 256 ^ y.length * 256 ^ (x.length - y.length) = b.toNat * 256 ^ x.length := by
        rw [Nat.mul_assoc, ← Nat.pow_add]; congr 2; omega
      have hy' : pack y * 256 ^ (x.length - y.length) < 256 ^ x.length := by
        have := Nat.mul_lt_mul_of_pos_right hy (Nat.pow_pos (n := x.length - y.length) (show 0 < 256 by omega))
        rw [← Nat.pow_add] at this
        rwa [show y.length + (x.length - y.length) = x.length by omega] at this
      rw [e]
      obtain ⟨l1, l2⟩ := lex_step (a := a.toNat) (b := b.toNat) hx hy'
      rw [l1]
      omega

theorem str_pack_eq {s s' : ByteArray} : strEq s.size (pack s.data.toList) s'.size (pack s'.data.toList) = (s.toList == s'.toList) := by
  have e1 : s.size = s.data.toList.length := by simp
  have e2 : s'.size = s'.data.toList.length := by simp
  rw [e1, e2, strEq_eq]
  rw [ByteArray.toList_eq, ByteArray.toList_eq]
  by_cases hh : s.data.toList = s'.data.toList
  · rw [decide_eq_true hh, hh]; simp
  · rw [decide_eq_false hh]; symm; simpa using hh

theorem cat_run {s s' : ByteArray} {t : TypeId} (hm : s.size + s'.size ≤ most) :
    (binOp .add t (.string s) (.string s')).run P w = .ok (.string (s ++ s')) w ∧ (s ++ s').size = s.size + s'.size ∧ pack (s ++ s').data.toList = catStr (pack s.data.toList) (pack s'.data.toList) s'.size := by
  have hmm : most = 1099511627776 := rfl
  have h1 : ¬ (9223372036854775807 < ((s.size : Int) + (s'.size : Int))) := by omega
  refine ⟨by simp [binOp, Op.stringOp, h1], by simp, ?_⟩
  have e2 : s'.size = s'.data.toList.length := by simp
  rw [e2, catStr_eq]
  simp

theorem sub_run (s : ByteArray) (lo hi : Nat) (h1 : lo ≤ hi) (h2 : hi ≤ s.size) : (s.extract lo hi).size = hi - lo ∧ pack (s.extract lo hi).data.toList = subStr s.size (pack s.data.toList) lo hi := by
  have e1 : s.size = s.data.toList.length := by simp
  refine ⟨by simp; omega, ?_⟩
  rw [e1, subStr_eq _ lo hi h1 (by simpa using h2)]
  congr 1
  simp

end Go.Cg

/- Equality: the model's runs. -/
namespace Go.Cg
variable [Syms]

variable {P : Program} {μ : Mu} {h h' : Heap} {w : World} {v : AVal}

theorem szOf_cells {e : TypeId} {n : Nat} (hs : szOf P e = some n) : P.cellsOf e = n := by
  unfold szOf at hs; unfold Program.cellsOf; rw [hs]; rfl

theorem ekBasic_bool {t : TypeId} (hk : ekBasic P t = some .bool) : P.underlying t = some .bool := by
  unfold ekBasic at hk
  split at hk <;> first | assumption | (cases hk; done) | skip
  split at hk <;> cases hk
theorem ekBasic_int {t : TypeId} (hk : ekBasic P t = some .int) : ∃ k, P.underlying t = some (.int k) := by
  unfold ekBasic at hk
  split at hk <;> first | exact ⟨_, ‹_›⟩ | (cases hk; done) | skip
  split at hk <;> cases hk
theorem ekBasic_str {t : TypeId} (hk : ekBasic P t = some .str) : P.underlying t = some .string := by
  unfold ekBasic at hk
  split at hk <;> first | assumption | (cases hk; done) | skip
  split at hk <;> cases hk
theorem ekBasic_ptr {t : TypeId} (hk : ekBasic P t = some .ptr) : ∃ e n, P.underlying t = some (.pointer e) ∧ szOf P e = some (n + 1) := by
  unfold ekBasic at hk
  split at hk <;> first | (cases hk; done) | skip
  rename_i e hu
  split at hk
  · exact ⟨_, _, hu, ‹_›⟩
  · cases hk
theorem ekBasic_cases {t : TypeId} {k : EK} (hk : ekBasic P t = some k) : k = .bool ∨ k = .int ∨ k = .str ∨ k = .ptr := by
  unfold ekBasic at hk
  split at hk
  · cases hk; simp
  · cases hk; simp
  · cases hk; simp
  · split at hk
    · cases hk; simp
    · cases hk
  · cases hk

theorem Pos.eqb_true {p q : Pos} (h : p.eqb q = true) : p = q := Pos.eqb_iff.1 h

/-- Two values of a plain kind, compared. -/
theorem equalIn_basic {t : TypeId} {k : EK} {x y : AVal} {cx cy : Value} {r : Bool} (hk : ekBasic P t = some k) (hx : VRel μ x cx) (hy : VRel μ y cy) (hb : basicEq k x y = some r) (d : Nat) :
    (Op.equalIn (d + 1) t cx cy).run P w = .ok r w := by
  rcases ekBasic_cases hk with rfl | rfl | rfl | rfl
  · have hu := ekBasic_bool hk
    simp only [basicEq, eqBool] at hb
    split at hb
    case h_2 => cases hb
    rename_i a b
    cases hx; cases hy; cases hb
    simp only [Op.equalIn, Sem.run_bind, run_underlying hu, Result.andThen_ok, Sem.run_pure]
    cases a <;> cases b <;> rfl
  · obtain ⟨k, hu⟩ := ekBasic_int hk
    simp only [basicEq, eqInt] at hb
    split at hb
    case h_2 => cases hb
    split at hb
    case h_2 => cases hb
    rename_i hkk
    have hkk := kEq_iff.1 hkk
    subst hkk
    cases hx; cases hy; cases hb
    simp only [Op.equalIn, Sem.run_bind, run_underlying hu, Result.andThen_ok, Sem.run_pure, if_true, intEq_eq]
    rfl
  · have hu := ekBasic_str hk
    simp only [basicEq, eqStr] at hb
    split at hb
    case h_2 => cases hb
    cases hb
    cases hx with
    | str s l n h1 h2 =>
    cases hy with
    | str s' l' n' h3 h4 =>
    subst h1 h2 h3 h4
    simp only [Op.equalIn, Sem.run_bind, run_underlying hu, Result.andThen_ok, Sem.run_pure, str_pack_eq, ByteArray.toList_eq]
    congr 1
    have hbe : (s == s') = (s.data == s'.data) := rfl
    rw [hbe]
    by_cases e : s.data = s'.data
    · rw [e]; simp
    · have : ¬ s.data.toList = s'.data.toList := fun hc => e (Array.toList_inj.1 hc)
      rw [beq_eq_false_iff_ne.2 e, beq_eq_false_iff_ne.2 this]
  · obtain ⟨e, n, hu, hs⟩ := ekBasic_ptr hk
    simp only [basicEq, eqPtr] at hb
    split at hb
    · cases hb; cases hx; cases hy
      simp only [Op.equalIn, Sem.run_bind, run_underlying hu, Result.andThen_ok, Sem.run_pure]; rfl
    · cases hb; cases hx; cases hy
      simp only [Op.equalIn, Sem.run_bind, run_underlying hu, Result.andThen_ok, Sem.run_pure]; rfl
    · cases hb; cases hx; cases hy
      simp only [Op.equalIn, Sem.run_bind, run_underlying hu, Result.andThen_ok, Sem.run_pure]
    · split at hb
      case h_2 => cases hb
      rename_i b o c p _ hbc
      have hbc := Pos.eqb_true hbc
      subst hbc
      cases hb
      cases hx with
      | ptr _ _ im hm =>
      cases hy with
      | ptr _ _ im' hm' =>
      rw [hm] at hm'
      cases hm'
      simp only [Op.equalIn, Sem.run_bind, run_underlying hu, Result.andThen_ok, szOf_run hs, sameAddr]
      have hne : ¬ (n + 1 = 0) := by omega
      simp only [ne_eq, hne, not_false_eq_true, if_true, beq_self_eq_true, Sem.run_pure]
      congr 1
      by_cases e : o = p
      · subst e; rw [Nat.beq_refl]; simp
      · have h1 : Nat.beq o p = false := by
          cases hbb : Nat.beq o p with
          | false => rfl
          | true => exact absurd (Nat.eq_of_beq_eq_true hbb) e
        rw [h1, beq_eq_false_iff_ne]
        intro hc
        have := congrArg Addr.off hc
        simp at this
        exact e this
    · cases hb

end Go.Cg

/- Equality of addresses, interface values, structs. -/
namespace Go.Cg
variable [Syms]

variable {P : Program} {μ : Mu} {h h' : Heap} {w : World} {v : AVal}

theorem sameAddr_cells {a b : Addr} {c c' : Array Value} {e e' : TypeId} {fr fr' : Nat × Nat} (ha : w.heap[a.block]? = some (.cells c e fr)) (hb : w.heap[b.block]? = some (.cells c' e' fr'))
    (hf : fr.1 = fr.2) (hf' : fr'.1 = fr'.2) (hn : a.block ≠ b.block) : (sameAddr a b).run P w = .ok false w := by
  have fz : ∀ (x : Addr) (c : Array Value) (e : TypeId) (fr : Nat × Nat), w.heap[x.block]? = some (.cells c e fr) → fr.1 = fr.2 → w.frozen? x = false := by
    intro x c e fr hx hfr
    obtain ⟨lo, hi⟩ := fr
    simp only [World.frozen?, hx]
    simp only at hfr
    subst hfr
    by_cases h1 : lo ≤ x.off
    · have : ¬ x.off < lo := by omega
      simp [this]
    · simp [h1]
  have s1 : w.shape? a.block = some (e, c.size) := by simp [World.shape?, ha]
  have s2 : w.shape? b.block = some (e', c'.size) := by simp [World.shape?, hb]
  have f1 := fz a c e fr ha hf
  have f2 := fz b c' e' fr' hb hf'
  have g1 : w.frozen? { block := a.block, off := c.size } = false := fz _ c e fr ha hf
  have g2 : w.frozen? { block := b.block, off := c'.size } = false := fz _ c' e' fr' hb hf'
  have hne : (a.block == b.block) = false := by simpa using hn
  simp [sameAddr, hne, f1, f2, noView, viewAt, s1, s2, mayBeOne, stringish, g1, g2]

theorem eqPtrH_sound {t : TypeId} {x y : AVal} {cx cy : Value} {r : Bool} (hr : HRel μ h w) (hk : ekBasic P t = some .ptr) (hx : VRel μ x cx) (hy : VRel μ y cy) (hb : eqPtrH x y h = some r) (d : Nat) :
    (Op.equalIn (d + 1) t cx cy).run P w = .ok r w := by
  unfold eqPtrH at hb
  split at hb
  · rename_i b o c p
    split at hb
    · rename_i hbc
      refine equalIn_basic hk hx hy (r := r) ?_ d
      simp only [basicEq, eqPtr, hbc]
      exact hb
    · rename_i hbc
      have hbc : b ≠ c := fun e => by rw [Pos.eqb_iff.2 e] at hbc; cases hbc
      split at hb
      · rename_i vs vs' h1 h2
        cases hb
        obtain ⟨e, n, hu, hs⟩ := ekBasic_ptr hk
        cases hx with
        | ptr _ _ im hm =>
        cases hy with
        | ptr _ _ im' hm' =>
        obtain ⟨obj, q1, c1, e1, fr1, rfl, _, _, f1, _⟩ := hr.live b _ im h1 hm
        obtain ⟨obj', q2, c2, e2, fr2, rfl, _, _, f2, _⟩ := hr.live c _ im' h2 hm'
        have hne : im.blk ≠ im'.blk := fun e => hbc (hr.inj b c _ _ im im' h1 h2 hm hm' e)
        have hnz : ¬ (n + 1 = 0) := by omega
        simp only [Op.equalIn, Sem.run_bind, run_underlying hu, Result.andThen_ok, szOf_run hs, ne_eq, hnz, not_false_eq_true, if_true]
        exact sameAddr_cells (a := ⟨im.blk, im.base + o, none⟩) (b := ⟨im'.blk, im'.base + p, none⟩) q1 q2 f1 f2 hne
      · cases hb
  · exact equalIn_basic hk hx hy (r := r) hb d

theorem eqDyn_sound {t : TypeId} {k : EK} {x y : AVal} {cx cy : Value} {r : Bool} (hr : HRel μ h w) (hk : ekBasic P t = some k) (hx : VRel μ x cx) (hy : VRel μ y cy) (hb : eqDyn k x y h = some r) (d : Nat) :
    (Op.equalIn (d + 1) t cx cy).run P w = .ok r w := by
  unfold eqDyn at hb
  split at hb
  · exact eqPtrH_sound hr hk hx hy hb d
  · exact equalIn_basic hk hx hy hb d

/-- The table of the types that a dynamic value is compared by. -/
def TabOk (P : Program) (tab : List (TypeId × EK)) : Prop := ∀ t k, (t, k) ∈ tab → ekBasic P t = some k ∧ ∃ i, P.info? t = some i ∧ i.comparable = true

theorem ekTab_ok (dyn : List TypeId) : TabOk P (ekTab P dyn) := by
  intro t k hm
  unfold ekTab at hm
  obtain ⟨t', _, h2⟩ := List.mem_filterMap.1 hm
  split at h2
  case h_2 => cases h2
  rename_i i hi
  split at h2
  case h_2 => cases h2
  rename_i hc
  cases he : ekBasic P t' with
  | none => rw [he] at h2; cases h2
  | some k' => rw [he] at h2; cases h2; exact ⟨he, i, hi, hc⟩

theorem eqIfaceH_sound {t : TypeId} {ms : Array (String × TypeId)} {both : Bool} {tab : List (TypeId × EK)} {x y : AVal} {cx cy : Value} {r : Bool} (hr : HRel μ h w) (hu : P.underlying t = some (.interface ms)) (htab : TabOk P tab)
    (hx : VRel μ x cx) (hy : VRel μ y cy) (hb : eqIfaceH both tab x y h = some r) (d : Nat) : (Op.equalIn (d + 1 + 1) t cx cy).run P w = .ok r w := by
  unfold eqIfaceH at hb
  split at hb
  · split at hb
    · cases hb; cases hx; cases hy
      simp only [Op.equalIn, Sem.run_bind, run_underlying hu, Result.andThen_ok, Sem.run_pure]
    · cases hb
  · rename_i t1 v1 t2 v2
    cases hx with
    | iface _ _ cv1 r1 =>
    cases hy with
    | iface _ _ cv2 r2 =>
    split at hb
    · rename_i hne
      cases hb
      have hne : t1 ≠ t2 := fun e => by subst e; rw [Nat.beq_refl] at hne; cases hne
      simp only [Op.equalIn, Sem.run_bind, run_underlying hu, Result.andThen_ok, ne_eq, hne, not_false_eq_true, if_true, Sem.run_pure]
    · rename_i heq
      have heq := Nat.eq_of_beq_eq_true heq
      subst heq
      split at hb
      case h_2 => cases hb
      rename_i t' k hf
      have hmem := List.mem_of_find?_eq_some hf
      have htt := List.find?_some hf
      have htt : t' = t1 := Nat.eq_of_beq_eq_true htt
      subst htt
      obtain ⟨hk, i, hi, hc⟩ := htab _ _ hmem
      have := eqDyn_sound (P := P) hr hk r1 r2 hb d
      unfold Op.equalIn
      simp only [Sem.run_bind, run_underlying hu, Result.andThen_ok, ne_eq, not_true, if_false, typeInfo, run_program, hi, Sem.run_pure, hc, Bool.not_true, Bool.false_eq_true]
      exact this
  · unfold eqIface at hb
    split at hb
    · cases hb; cases hx; cases hy
      simp only [Op.equalIn, Sem.run_bind, run_underlying hu, Result.andThen_ok, Sem.run_pure]
    · cases hb; cases hx; cases hy
      simp only [Op.equalIn, Sem.run_bind, run_underlying hu, Result.andThen_ok, Sem.run_pure]
    · cases hb

theorem eqNilS_sound {t e : TypeId} {x y : AVal} {cx cy : Value} {r : Bool} (hu : P.underlying t = some (.slice e)) (hx : VRel μ x cx) (hy : VRel μ y cy) (hb : eqNilS x y = some r) (d : Nat) :
    (Op.equalIn (d + 1) t cx cy).run P w = .ok r w := by
  unfold Op.equalIn
  unfold eqNilS at hb
  split at hb <;> first | (cases hb; done) | skip
  all_goals
    cases hb; cases hx; cases hy
    simp only [Sem.run_bind, run_underlying hu, Result.andThen_ok, Sem.run_pure, Option.isNone_none, Option.isNone_some]

theorem eqNilM_sound {t k e : TypeId} {x y : AVal} {cx cy : Value} {r : Bool} (hu : P.underlying t = some (.map k e)) (hx : VRel μ x cx) (hy : VRel μ y cy) (hb : eqNilM x y = some r) (d : Nat) :
    (Op.equalIn (d + 1) t cx cy).run P w = .ok r w := by
  unfold Op.equalIn
  unfold eqNilM at hb
  split at hb <;> first | (cases hb; done) | skip
  all_goals
    cases hb; cases hx; cases hy
    simp only [Sem.run_bind, run_underlying hu, Result.andThen_ok, Sem.run_pure, Option.isNone_none, Option.isNone_some]

theorem eqNilF_sound {t : TypeId} {p q : Array TypeId} {z : Bool} {x y : AVal} {cx cy : Value} {r : Bool} (hu : P.underlying t = some (.func p q z)) (hx : VRel μ x cx) (hy : VRel μ y cy) (hb : eqNilF x y = some r) (d : Nat) :
    (Op.equalIn (d + 1) t cx cy).run P w = .ok r w := by
  unfold Op.equalIn
  unfold eqNilF at hb
  split at hb <;> first | (cases hb; done) | skip
  all_goals
    cases hb; cases hx; cases hy
    simp only [Sem.run_bind, run_underlying hu, Result.andThen_ok, Sem.run_pure]

end Go.Cg

/- Equality of structs. -/
namespace Go.Cg
variable [Syms]

variable {P : Program} {μ : Mu} {h h' : Heap} {w : World} {v : AVal}

def eqElems (d e n : Nat) (xs ys : Array Value) : List Nat → Sem Bool
  | [] => pure true
  | i :: l => do
    let a ← part e xs (i * n)
    let b ← part e ys (i * n)
    let r ← Op.equalIn d e a b
    if (!r) = true then pure false else eqElems d e n xs ys l

theorem run_equalIn_array (d : Nat) (t e : TypeId) (len n : Nat) (xs ys : Array Value) (ht : P.underlying t = some (.array len e)) (hn : szOf P e = some n) :
    (Op.equalIn (d + 1) t (.agg xs) (.agg ys)).run P w = (eqElems d e n xs ys (List.range len)).run P w := by
  unfold Op.equalIn
  simp only [Sem.run_bind, run_underlying ht, Result.andThen_ok, szOf_run hn]
  rw [Std.Legacy.Range.forIn_eq_forIn_range']
  simp only [Std.Legacy.Range.size, Nat.sub_zero, Nat.add_sub_cancel, Nat.div_one]
  rw [← List.range_eq_range']
  generalize List.range len = l
  induction l generalizing w with
  | nil => simp [eqElems]
  | cons i l ih =>
    simp only [List.forIn_cons, eqElems, Sem.run_bind, Sem.run_ite]
    generalize (part e xs (i * n)).run P w = r1
    cases r1 with
    | ok a w1 =>
      simp only [Result.andThen_ok]
      generalize (part e ys (i * n)).run P w1 = r2
      cases r2 with
      | ok b w2 =>
        simp only [Result.andThen_ok]
        generalize (Op.equalIn d e a b).run P w2 = r3
        cases r3 with
        | ok r w3 =>
          cases r
          · simp only [Result.andThen_ok, Bool.not_false, if_true, Sem.run_pure]
          · simp only [Result.andThen_ok, Bool.not_true, Bool.false_eq_true, if_false, Sem.run_pure]
            exact ih (w := w3)
        | halt x w3 => simp [Result.andThen]
      | halt x w2 => simp [Result.andThen]
    | halt x w1 => simp [Result.andThen]

theorem eqParts_append (xs ys : AVal) : ∀ (l1 l2 : List (Nat × Nat × Bool × EK)), eqParts xs ys (l1 ++ l2) = (match eqParts xs ys l1 with | some true => eqParts xs ys l2 | r => r)
  | [], l2 => by simp [eqParts]
  | (off, size, agg, k) :: l1, l2 => by
    simp only [List.cons_append, eqParts]
    cases partOf off size agg xs with
    | none => rfl
    | some a =>
      cases partOf off size agg ys with
      | none => rfl
      | some b =>
        simp only []
        cases basicEq k a b with
        | none => rfl
        | some r =>
          cases r with
          | false => rfl
          | true => exact eqParts_append xs ys l1 l2

theorem nth_rel {l : List AVal} {c : Array Value} {i : Nat} {a : AVal} (hv : VsRel μ l c.toList) (hn : nth l i = some a) : ∃ ca, c[i]? = some ca ∧ VRel μ a ca := by
  rw [nth_eq] at hn
  obtain ⟨ca, h1, h2⟩ := hv.get hn
  exact ⟨ca, by rw [← Array.getElem?_toList]; exact h1, h2⟩

theorem eqElems_sound {xsA ysA : List AVal} {xs ys : Array Value} {e off n : Nat} {k : EK} (hx : VsRel μ xsA xs.toList) (hy : VsRel μ ysA ys.toList) (hk : ekBasic P e = some k) (ha : aggOf P e = some false) (d : Nat) :
    ∀ (l : List Nat) (r : Bool), (∀ i ∈ l, i < n) → eqParts (.agg xsA) (.agg ysA) (l.map fun i => (off + i, 1, false, k)) = some r →
      (eqElems (d + 1) e 1 (xs.extract off (off + n)) (ys.extract off (off + n)) l).run P w = .ok r w
  | [], r, _, hr => by cases hr; rfl
  | i :: l, r, hl, hr => by
    simp only [List.map_cons, eqParts, partOf] at hr
    have hi := hl i (List.mem_cons_self ..)
    split at hr
    case h_2 => cases hr
    rename_i a b h1 h2
    obtain ⟨ca, c1, c2⟩ := nth_rel hx h1
    obtain ⟨cb, d1, d2⟩ := nth_rel hy h2
    have p1 : (part e (xs.extract off (off + n)) (i * 1)).run P w = .ok ca w := by
      have : (xs.extract off (off + n))[i]? = some ca := by
        rw [Array.getElem?_extract, if_pos]
        · exact c1
        · have : off + i < xs.size := (Array.getElem?_eq_some_iff.1 c1).1
          omega
      simp only [part, Sem.run_bind, aggOf_run ha, Result.andThen_ok, Bool.false_eq_true, if_false, Nat.mul_one, this, Sem.run_pure]
    have p2 : (part e (ys.extract off (off + n)) (i * 1)).run P w = .ok cb w := by
      have : (ys.extract off (off + n))[i]? = some cb := by
        rw [Array.getElem?_extract, if_pos]
        · exact d1
        · have : off + i < ys.size := (Array.getElem?_eq_some_iff.1 d1).1
          omega
      simp only [part, Sem.run_bind, aggOf_run ha, Result.andThen_ok, Bool.false_eq_true, if_false, Nat.mul_one, this, Sem.run_pure]
    split at hr
    · rename_i hb
      have he := equalIn_basic (P := P) (w := w) hk c2 d2 hb d
      simp only [eqElems, Sem.run_bind, p1, p2, Result.andThen_ok, he, Bool.not_true, Bool.false_eq_true, if_false]
      exact eqElems_sound hx hy hk ha d l r (fun j hj => hl j (List.mem_cons_of_mem _ hj)) hr
    · rename_i hb
      cases hr
      have he := equalIn_basic (P := P) (w := w) hk c2 d2 hb d
      simp only [eqElems, Sem.run_bind, p1, p2, Result.andThen_ok, he, Bool.not_false, if_true, Sem.run_pure]
    · cases hr

theorem eqField_sound {xsA ysA : List AVal} {xs ys : Array Value} {off t : Nat} {l : List (Nat × Nat × Bool × EK)} {r : Bool} (hx : VsRel μ xsA xs.toList) (hy : VsRel μ ysA ys.toList) (hl : ekField P off t = some l) (d : Nat)
    (hr : eqParts (.agg xsA) (.agg ysA) l = some r) :
    ((do let a ← part t xs off; let b ← part t ys off; Op.equalIn (d + 2) t a b : Sem Bool)).run P w = .ok r w := by
  unfold ekField at hl
  split at hl
  · rename_i n e hu
    split at hl
    case h_2 => cases hl
    rename_i k m hk hs ha hm
    split at hl
    case h_2 => cases hl
    rename_i hmn
    have hmn := Nat.eq_of_beq_eq_true hmn
    subst hmn
    cases hl
    have hag : aggOf P t = some true := by unfold aggOf; rw [hu]
    simp only [part, Sem.run_bind, aggOf_run hag, Result.andThen_ok, if_true, szOf_run hm, Sem.run_pure]
    rw [run_equalIn_array (d + 1) t e m 1 _ _ hu hs]
    exact eqElems_sound hx hy hk ha d _ r (fun i hi => List.mem_range.1 hi) hr
  · split at hl
    case h_2 => cases hl
    rename_i k n hk hs ha
    cases hl
    simp only [eqParts, partOf] at hr
    split at hr
    case h_2 => cases hr
    rename_i a b h1 h2
    obtain ⟨ca, c1, c2⟩ := nth_rel hx h1
    obtain ⟨cb, d1, d2⟩ := nth_rel hy h2
    simp only [part, Sem.run_bind, aggOf_run ha, Result.andThen_ok, Bool.false_eq_true, if_false, c1, d1, Sem.run_pure]
    split at hr
    · rename_i hb; cases hr; exact equalIn_basic hk c2 d2 hb _
    · rename_i hb; cases hr; exact equalIn_basic hk c2 d2 hb _
    · cases hr

theorem eqFields_sound {xsA ysA : List AVal} {xs ys : Array Value} (hx : VsRel μ xsA xs.toList) (hy : VsRel μ ysA ys.toList) (d : Nat) : ∀ (fs : List Field) (ll : List (List (Nat × Nat × Bool × EK))) (r : Bool),
    allSome (fun f : Field => match f.name == "_" with | false => ekField P f.offset f.type | true => none) fs = some ll → eqParts (.agg xsA) (.agg ysA) ll.flatten = some r →
    (Op.eqFields (d + 2) xs ys fs).run P w = .ok r w
  | [], ll, r, h1, h2 => by cases h1; cases h2; rfl
  | f :: fs, ll, r, h1, h2 => by
    simp only [allSome] at h1
    split at h1
    case h_2 => cases h1
    rename_i l hl
    split at h1
    case h_2 => cases h1
    rename_i ls hls
    cases h1
    split at hl
    case h_2 => cases hl
    rename_i hname
    have hname : f.name ≠ "_" := by simpa using hname
    rw [List.flatten_cons, eqParts_append] at h2
    cases h3 : eqParts (.agg xsA) (.agg ysA) l with
    | none => rw [h3] at h2; cases h2
    | some b =>
      have hf := eqField_sound (P := P) (w := w) hx hy hl d h3
      simp only [Sem.run_bind] at hf
      simp only [Op.eqFields, ne_eq, hname, not_false_eq_true, if_true, Sem.run_bind]
      generalize (part f.type xs f.offset).run P w = r1 at hf
      cases r1 with
      | halt x w1 => simp [Result.andThen] at hf
      | ok a w1 =>
        simp only [Result.andThen_ok] at hf ⊢
        generalize (part f.type ys f.offset).run P w1 = r2 at hf
        cases r2 with
        | halt x w2 => simp [Result.andThen] at hf
        | ok c w2 =>
          simp only [Result.andThen_ok] at hf ⊢
          rw [hf, Result.andThen_ok]
          cases b with
          | false =>
            rw [h3] at h2
            cases h2
            simp
          | true =>
            rw [h3] at h2
            simp only [Bool.not_true, Bool.false_eq_true, if_false]
            exact eqFields_sound hx hy d fs ls r hls h2

theorem eqStruct_sound {t : TypeId} {fs : Array Field} {l : List (Nat × Nat × Bool × EK)} {x y : AVal} {cx cy : Value} {r : Bool} (hu : P.underlying t = some (.struct fs)) (hk : ekStruct P t fs = some (.struct l))
    (hx : VRel μ x cx) (hy : VRel μ y cy) (hb : eqParts x y l = some r) (hne : l ≠ []) (d : Nat) : (Op.equalIn (d + 3) t cx cy).run P w = .ok r w ∧ P.eqGuardType P.depth t = false ∧ (∃ a b, cx = .agg a ∧ cy = .agg b) := by
  unfold ekStruct at hk
  split at hk
  case h_2 => cases hk
  rename_i hs hg
  split at hk
  case h_2 => cases hk
  rename_i ll hll
  have hk : l = ll.flatten := by
    cases hf : ll.flatten with
    | nil => rw [hf] at hk; cases hk
    | cons p q => rw [hf] at hk; cases hk; rfl
  subst hk
  -- both are aggregates
  obtain ⟨xa, rfl⟩ : ∃ xa, x = .agg xa := by
    cases hll' : ll.flatten with
    | nil => exact absurd hll' hne
    | cons p l =>
      rw [hll'] at hb
      obtain ⟨off, size, agg, k⟩ := p
      simp only [eqParts] at hb
      cases x <;> first | exact ⟨_, rfl⟩ | (simp [partOf] at hb)
  obtain ⟨ya, rfl⟩ : ∃ ya, y = .agg ya := by
    cases hll' : ll.flatten with
    | nil => exact absurd hll' hne
    | cons p l =>
      rw [hll'] at hb
      obtain ⟨off, size, agg, k⟩ := p
      simp only [eqParts] at hb
      cases y <;> first | exact ⟨_, rfl⟩ | (cases partOf off size agg (.agg xa) <;> simp [partOf] at hb)
  cases hx with
  | agg _ xs hxs _ =>
  cases hy with
  | agg _ ys hys _ =>
  have hfo : P.fieldsOf t = fs := by unfold Program.fieldsOf; rw [hu]
  refine ⟨?_, hg, xs, ys, rfl, rfl⟩
  rw [run_equalIn_struct w (d + 2) t xs ys (by rw [hfo]; exact hu) hs, hfo]
  exact eqFields_sound hxs hys d _ ll r hll hb

end Go.Cg

/- Slicing, indexing, parts. -/
namespace Go.Cg
variable [Syms]

variable {P : Program} {μ : Mu} {h h' : Heap} {w : World} {v : AVal}

/-- A bound as the model has it. -/
inductive OptN : Option Nat → Option Value → Prop where
  | none : OptN none none
  | some (k : IntKind) (n : Nat) : OptN (some n) (some (.int k (n : Int)))

theorem bounds_run {isSlice : Bool} {len cap : Nat} {lo hi mx : Option Nat} {clo chi cmx : Option Value} (h1 : OptN lo clo) (h2 : OptN hi chi) (h3 : OptN mx cmx)
    (m1 : mx.getD cap ≤ cap) (m2 : hi.isSome = true → hi.getD len ≤ mx.getD cap) (m3 : mx.isSome = true → hi.isSome = true) (m4 : lo.getD 0 ≤ hi.getD len) :
    (Instr.sliceBounds isSlice len cap clo chi cmx).run P w = .ok (lo.getD 0, hi.getD len, mx.getD cap) w := by
  have sb : ∀ (k : IntKind) (n y : Nat) (c : BoundsCode), n ≤ y → (Instr.sliceBound (.int k (n : Int)) y c).run P w = .ok n w := by
    intro k n y c hn
    have : (0 : Int) ≤ (n : Int) ∧ (n : Int) ≤ (y : Int) := by omega
    simp only [Instr.sliceBound, asIntOf, Sem.run_bind, Sem.run_pure, Result.andThen_ok, this, and_self, if_true]
    rfl
  cases h3 with
  | none =>
    cases h2 with
    | none =>
      cases h1 with
      | none => simp [Instr.sliceBounds]
      | some k n => simp only [Option.getD_some, Option.getD_none] at m4; simp [Instr.sliceBounds, sb k n len _ m4]
    | some k2 n2 =>
      simp only [Option.getD_some, Option.getD_none, Option.isSome_some, forall_const] at m2 m4
      cases h1 with
      | none => simp [Instr.sliceBounds, sb k2 n2 cap _ m2]
      | some k n => simp only [Option.getD_some] at m4; simp [Instr.sliceBounds, sb k2 n2 cap _ m2, sb k n n2 _ m4]
  | some k3 n3 =>
    simp only [Option.getD_some] at m1 m2
    cases h2 with
    | none => simp at m3
    | some k2 n2 =>
      simp only [Option.getD_some, Option.isSome_some, forall_const] at m2 m4
      cases h1 with
      | none => simp [Instr.sliceBounds, sb k3 n3 cap _ m1, sb k2 n2 n3 _ m2]
      | some k n => simp only [Option.getD_some] at m4; simp [Instr.sliceBounds, sb k3 n3 cap _ m1, sb k2 n2 n3 _ m2, sb k n n2 _ m4]

theorem sls_good {t : TypeId} {x : AVal} {cx : Value} {lo hi : Option Nat} {clo chi : Option Value} (hr : HRel μ h w) (hx : VRel μ x cx) (h1 : OptN lo clo) (h2 : OptN hi chi)
    (hm : P.underlying t = some .string) (hk : sliceStr x lo hi = some v) : Good P μ h w (Instr.slice t cx clo chi none) v h := by
  unfold sliceStr at hk
  split at hk
  case h_2 => cases hk
  cases hx with
  | str s len n e1 e2 =>
  subst e1 e2
  simp only [] at hk
  split at hk
  case h_2 => cases hk
  rename_i hbb
  simp only [Bool.and_eq_true] at hbb
  have b1 := Nat.le_of_ble_eq_true hbb.1
  have b2 := Nat.le_of_ble_eq_true hbb.2
  rw [forceN_eq, forceN_eq] at hk
  cases hk
  obtain ⟨s1, s2⟩ := sub_run s (lo.getD 0) (hi.getD s.size) b2 b1
  have hb := bounds_run (P := P) (w := w) (isSlice := false) (len := s.size) (cap := s.size) h1 h2 .none (by simp) (fun _ => by simpa using b1) (fun hc => by cases hc) b2
  refine Good.of_pure hr (cv := .string (s.extract (lo.getD 0) (hi.getD s.size))) ?_ (.str _ _ _ s1 s2)
  simp only [Instr.slice, Sem.run_bind, run_underlying hm, Result.andThen_ok, Option.isSome_none, Bool.false_eq_true, if_false, Sem.run_pure, hb]

theorem slice_good {t e : TypeId} {es : Nat} {x : AVal} {cx : Value} {lo hi mx : Option Nat} {clo chi cmx : Option Value} (hr : HRel μ h w) (hx : VRel μ x cx) (h1 : OptN lo clo) (h2 : OptN hi chi) (h3 : OptN mx cmx)
    (hu : P.underlying t = some (.slice e)) (hs : szOf P e = some es) (hk : sliceOp es x lo hi mx = some v) : Good P μ h w (Instr.slice t cx clo chi cmx) v h := by
  unfold sliceOp at hk
  split at hk
  · -- a slice
    rename_i b off len cap es' ex
    have hes : es = es' := by
      split at hk
      · simp only [] at hk
        split at hk
        · rename_i hbb; simp only [Bool.and_eq_true] at hbb; exact Nat.eq_of_beq_eq_true hbb.2
        · cases hk
      · simp only [] at hk
        split at hk
        · rename_i hbb; simp only [Bool.and_eq_true] at hbb; exact Nat.eq_of_beq_eq_true hbb.2
        · cases hk
    subst hes
    cases hx with
    | slice b off len cap es ex im cap' adr g1 g2 g3 g4 g5 g6 =>
    have fin : ∀ (l hh m : Nat), l ≤ hh → hh ≤ m → m ≤ cap' → ∀ (c : Nat) (ex' : Bool), hh - l ≤ c → c ≤ m - l → (ex' = true → m - l = c) →
        (Instr.sliceBounds true len cap' clo chi cmx).run P w = .ok (l, hh, m) w → Good P μ h w (Instr.slice t (.slice (some adr) len cap') clo chi cmx) (.slice b (off + l * es) (hh - l) c es ex') h := by
      intro l hh m q1 q2 q3 c ex' q4 q5 q6 q7
      refine Good.of_pure hr (cv := .slice (some (if m = l then adr else adr.add (l * es))) (hh - l) (m - l)) ?_ ?_
      · simp only [Instr.slice, Sem.run_bind, run_underlying hu, Result.andThen_ok, q7, szOf_run hs, Sem.run_pure]
        split <;> rfl
      · have hmul : (l + (m - l)) * es ≤ cap' * es := Nat.mul_le_mul_right _ (by omega)
        rw [Nat.add_mul] at hmul
        refine .slice _ _ _ _ _ _ im _ _ g1 q4 q5 q6 (by omega) (fun hc => ?_)
        rw [if_neg (by omega), g6 (by omega), addr_add, Nat.add_assoc]
    split at hk
    · cases h3
      simp only [] at hk
      split at hk
      case h_2 => cases hk
      rename_i hbb
      simp only [Bool.and_eq_true] at hbb
      have b1 := Nat.le_of_ble_eq_true hbb.1.1
      have b2 := Nat.le_of_ble_eq_true hbb.1.2
      simp only [forceN_eq] at hk
      cases hk
      have hb := bounds_run (P := P) (w := w) (isSlice := true) (len := len) (cap := cap') h1 h2 .none (by simp) (fun _ => by simp; omega) (fun hc => by cases hc) b2
      exact fin _ _ _ b2 (by simp only [Option.getD_none]; omega) (by simp) _ _ (by omega) (by simp only [Option.getD_none]; omega) (fun hc => by simp only [Option.getD_none, g4 hc]) hb
    · rename_i m
      simp only [] at hk
      split at hk
      case h_2 => cases hk
      rename_i hbb
      simp only [Bool.and_eq_true] at hbb
      obtain ⟨⟨⟨⟨b0, b1⟩, b2⟩, b3⟩, _⟩ := hbb
      have b0 := Nat.le_of_ble_eq_true b0
      have b1 := Nat.le_of_ble_eq_true b1
      have b2 := Nat.le_of_ble_eq_true b2
      simp only [forceN_eq] at hk
      cases hk
      have hb := bounds_run (P := P) (w := w) (isSlice := true) (len := len) (cap := cap') h1 h2 h3 (by simp; omega) (fun _ => by simpa using b1) (fun _ => b3) b2
      simp only [Option.getD_some] at hb
      exact fin _ _ _ b2 b1 (by omega) _ _ (by omega) (Nat.le_refl _) (fun _ => rfl) hb
  · -- nil
    cases hx
    split at hk
    case h_2 => cases hk
    rename_i hbb
    simp only [Bool.and_eq_true] at hbb
    obtain ⟨⟨⟨b0, b1⟩, b2⟩, b3⟩ := hbb
    have b0 := Nat.eq_of_beq_eq_true b0
    have b1 := Nat.eq_of_beq_eq_true b1
    have b2 := Nat.eq_of_beq_eq_true b2
    cases hk
    have hb := bounds_run (P := P) (w := w) (isSlice := true) (len := 0) (cap := 0) h1 h2 h3 (by omega) (fun _ => by omega) (fun hc => by cases mx <;> simp_all) (by omega)
    rw [b0, b1, b2] at hb
    refine Good.of_pure hr (cv := .slice none 0 0) ?_ .nilslice
    simp only [Instr.slice, Sem.run_bind, run_underlying hu, Result.andThen_ok, hb, szOf_run hs, Sem.run_pure, if_true]
  · cases hk

end Go.Cg

/- Arrays, indexes, parts, lengths. -/
namespace Go.Cg
variable [Syms]

variable {P : Program} {μ : Mu} {h h' : Heap} {w : World} {v : AVal}

theorem slicea_good_arr {t e : TypeId} {n es : Nat} {x : AVal} {cx : Value} {lo hi mx : Option Nat} {clo chi cmx : Option Value} (hr : HRel μ h w) (hx : VRel μ x cx) (h1 : OptN lo clo) (h2 : OptN hi chi) (h3 : OptN mx cmx)
    (hu : P.underlying t = some (.array n e)) (hs : szOf P e = some es)
    (hk : sliceArr n es x lo hi mx h = some v) : Good P μ h w (Instr.sliceAt t cx clo chi cmx) v h := by
  unfold sliceArr at hk
  split at hk
  case h_2 => cases hk
  rename_i b off
  cases hx with
  | ptr _ _ im g1 =>
  split at hk
  case h_2 => cases hk
  rename_i vs hvs
  simp only [] at hk
  split at hk
  case h_2 => cases hk
  rename_i hbb
  simp only [Bool.and_eq_true] at hbb
  obtain ⟨⟨⟨⟨b0, b1⟩, b2⟩, b3⟩, b4⟩ := hbb
  have b4 := Nat.le_of_ble_eq_true b4
  have hsz : im.base + off + n * es ≤ im.size := by
    obtain ⟨obj, _, c, e, fr, _, q1, q2, _⟩ := hr.live b _ im hvs g1
    omega
  have b0 := Nat.le_of_ble_eq_true b0
  have b1 := Nat.le_of_ble_eq_true b1
  have b2 := Nat.le_of_ble_eq_true b2
  simp only [forceN_eq] at hk
  cases hk
  have hb := bounds_run (P := P) (w := w) (isSlice := false) (len := n) (cap := n) h1 h2 h3 b0 (fun _ => b1) (fun hc => by cases mx <;> simp_all) b2
  refine Good.of_pure hr (cv := .slice (some (if mx.getD n = lo.getD 0 then ⟨im.blk, im.base + off, none⟩ else Addr.add ⟨im.blk, im.base + off, none⟩ (lo.getD 0 * es))) (hi.getD n - lo.getD 0) (mx.getD n - lo.getD 0)) ?_ ?_
  · simp only [Instr.sliceAt, Instr.sureAddr, Sem.run_bind, run_underlying hu, Result.andThen_ok, hb, szOf_run hs, Sem.run_pure]
  · have hmul : (lo.getD 0 + (mx.getD n - lo.getD 0)) * es ≤ n * es := Nat.mul_le_mul_right _ (by omega)
    rw [Nat.add_mul] at hmul
    refine .slice _ _ _ _ _ _ im _ _ g1 (by omega) (Nat.le_refl _) (fun _ => rfl) (by omega) (fun hc => ?_)
    rw [if_neg (by omega), addr_add, Nat.add_assoc]

theorem slicea_good_ptr {t arr e : TypeId} {n es : Nat} {x : AVal} {cx : Value} {lo hi mx : Option Nat} {clo chi cmx : Option Value} (hr : HRel μ h w) (hx : VRel μ x cx) (h1 : OptN lo clo) (h2 : OptN hi chi) (h3 : OptN mx cmx)
    (ht : P.underlying t = some (.pointer arr)) (hu : P.underlying arr = some (.array n e)) (hs : szOf P e = some es)
    (hk : sliceArr n es x lo hi mx h = some v) : Good P μ h w (Instr.slice t cx clo chi cmx) v h := by
  obtain ⟨μ', cv, w', a, b, c, d⟩ := slicea_good_arr hr hx h1 h2 h3 hu hs hk
  refine ⟨μ', cv, w', ?_, b, c, d⟩
  rw [← a]
  have hp : ∃ b off, x = .ptr b off := by
    unfold sliceArr at hk
    split at hk
    · exact ⟨_, _, rfl⟩
    · cases hk
  obtain ⟨b, off, rfl⟩ := hp
  cases hx with
  | ptr _ _ im g1 =>
  simp only [Instr.slice, Instr.sliceAt, Instr.sureAddr, asAddr, Sem.run_bind, run_underlying ht, run_underlying hu, Result.andThen_ok, Sem.run_pure]

theorem ia_good {t e : TypeId} {es : Nat} {x i : AVal} {cx ci : Value} (hr : HRel μ h w) (hx : VRel μ x cx) (hi : VRel μ i ci) (hu : P.underlying t = some (.slice e)) (hs : szOf P e = some es)
    (hk : indexAddr es x i = some v) : Good P μ h w (Instr.indexAt t cx ci) v h := by
  unfold indexAddr at hk
  split at hk
  case h_2 => cases hk
  rename_i b off len cap es' ex k i
  cases hi
  split at hk
  case h_2 => cases hk
  rename_i hbb
  simp only [Bool.and_eq_true] at hbb
  have b1 : i < len := by simpa using hbb.1
  have b2 := Nat.eq_of_beq_eq_true hbb.2
  subst b2
  rw [forceN_eq] at hk
  cases hk
  cases hx with
  | slice _ _ _ _ _ _ im cap' adr g1 g2 g3 g4 g5 g6 =>
  have h0 : (0 : Int) ≤ (Int.ofNat i) ∧ (Int.ofNat i) < (len : Int) := by simp only [Int.ofNat_eq_natCast]; omega
  refine Good.of_pure hr (cv := .pointer (some ⟨im.blk, im.base + (off + i * es), none⟩)) ?_ (.ptr _ _ im g1)
  simp only [Instr.indexAt, asIntOf, Sem.run_bind, Sem.run_pure, Result.andThen_ok, run_underlying hu, h0, and_self, if_true, szOf_run hs]
  rw [g6 (by omega)]
  simp [Nat.add_assoc]

theorem iaa_good {t e : TypeId} {n es : Nat} {x i : AVal} {cx ci : Value} (hr : HRel μ h w) (hx : VRel μ x cx) (hi : VRel μ i ci) (hu : P.underlying t = some (.array n e)) (hs : szOf P e = some es)
    (hk : indexArrAddr n es x i = some v) : Good P μ h w (Instr.indexAt t cx ci) v h := by
  unfold indexArrAddr at hk
  split at hk
  case h_2 => cases hk
  rename_i b off k i
  cases hi
  split at hk
  case h_2 => cases hk
  rename_i hbb
  have b1 : i < n := by simpa using hbb
  rw [forceN_eq] at hk
  cases hk
  cases hx with
  | ptr _ _ im g1 =>
  have h0 : (0 : Int) ≤ (Int.ofNat i) ∧ (Int.ofNat i) < (n : Int) := by simp only [Int.ofNat_eq_natCast]; omega
  refine Good.of_pure hr (cv := .pointer (some ⟨im.blk, im.base + (off + i * es), none⟩)) ?_ (.ptr _ _ im g1)
  simp only [Instr.indexAt, asIntOf, Sem.run_bind, Sem.run_pure, Result.andThen_ok, run_underlying hu, Instr.sureAddr, h0, and_self, if_true, szOf_run hs]
  simp [Nat.add_assoc]

theorem ixs_good {t : TypeId} {x i : AVal} {cx ci : Value} (hr : HRel μ h w) (hx : VRel μ x cx) (hi : VRel μ i ci) (hu : P.underlying t = some .string) (hk : indexStr x i = some v) : Good P μ h w (Instr.index t cx ci) v h := by
  unfold indexStr at hk
  split at hk
  case h_2 => cases hk
  rename_i len n k i
  cases hi
  split at hk
  case h_2 => cases hk
  rename_i hbb
  have b1 : i < len := by simpa using hbb
  rw [forceN_eq] at hk
  cases hk
  cases hx with
  | str s _ _ e1 e2 =>
  subst e1 e2
  have e1 : s.size = s.data.toList.length := by simp
  have hx : s.data.toList[i]? = some s[i] := by
    rw [Array.getElem?_toList, Array.getElem?_eq_getElem (by simpa using b1)]; rfl
  have h0 : (0 : Int) ≤ (Int.ofNat i) := by simp only [Int.ofNat_eq_natCast]; omega
  have hs : s[(Int.ofNat i).toNat]? = some s[i] := by
    show s[i]? = some s[i]
    exact getElem?_pos s i b1
  refine Good.of_pure hr (cv := .int .u8 s[i].toNat) ?_ ?_
  · simp only [Instr.index, asIntOf, Sem.run_bind, Sem.run_pure, Result.andThen_ok, run_underlying hu, h0, if_true, hs]
  · have := byteAt_eq hx
    rw [← e1] at this
    rw [this]
    exact .int _ _

theorem part_good {t : TypeId} {off n : Nat} {agg : Bool} {x : AVal} {cx : Value} (hx : VRel μ x cx) (ha : aggOf P t = some agg) (hs : szOf P t = some n) (hk : partOf off n agg x = some v) :
    ∃ cs cv, cx = .agg cs ∧ (part t cs off).run P w = .ok cv w ∧ VRel μ v cv := by
  unfold partOf at hk
  split at hk
  case h_2 => cases hk
  rename_i l
  cases hx with
  | agg _ c hv h1 =>
  have hl : l.length = c.size := by simpa using hv.length
  cases agg with
  | true =>
    simp only [] at hk
    rw [takeK_eq, dropN_eq] at hk
    split at hk
    case isFalse => cases hk
    rename_i hle
    rw [List.length_drop] at hle
    cases hk
    refine ⟨c, .agg (c.extract off (off + n)), rfl, by simp only [part, Sem.run_bind, aggOf_run ha, Result.andThen_ok, if_true, szOf_run hs, Sem.run_pure], .agg _ _ ?_ ?_⟩
    · have : (c.extract off (off + n)).toList = (c.toList.drop off).take n := by simp
      rw [this]
      exact (hv.drop off).take n
    · intro x hx
      have : (c.extract off (off + n)).toList = (c.toList.drop off).take n := by simp
      rw [this] at hx
      exact h1 x (List.mem_of_mem_drop (List.mem_of_mem_take hx))
  | false =>
    simp only [] at hk
    rw [nth_eq] at hk
    obtain ⟨cv, a, b⟩ := hv.get hk
    rw [Array.getElem?_toList] at a
    exact ⟨c, cv, rfl, by simp only [part, Sem.run_bind, aggOf_run ha, Result.andThen_ok, Bool.false_eq_true, if_false, a, Sem.run_pure], b⟩

theorem field_good {t : TypeId} {fs : Array Field} {f : Nat} {fl : Field} {n : Nat} {agg : Bool} {x : AVal} {cx : Value} (hr : HRel μ h w) (hx : VRel μ x cx) (hu : P.underlying t = some (.struct fs)) (hf : fs[f]? = some fl)
    (ha : aggOf P fl.type = some agg) (hs : szOf P fl.type = some n) (hk : partOf fl.offset n agg x = some v) : Good P μ h w (Instr.field t cx f) v h := by
  obtain ⟨cs, cv, rfl, h1, h2⟩ := part_good (w := w) hx ha hs hk
  refine Good.of_pure hr (cv := cv) ?_ h2
  simp only [Instr.field, Sem.run_bind, run_underlying hu, Result.andThen_ok, hf, asAgg, Sem.run_pure, h1]

theorem ixa_good {t e : TypeId} {m n : Nat} {agg : Bool} {x : AVal} {cx : Value} {k : IntKind} {i : Nat} (hr : HRel μ h w) (hx : VRel μ x cx) (hu : P.underlying t = some (.array m e)) (ha : aggOf P e = some agg) (hs : szOf P e = some n)
    (hi : i < m) (hk : partOf (i * n) n agg x = some v) : Good P μ h w (Instr.index t cx (.int k (.ofNat i))) v h := by
  obtain ⟨cs, cv, rfl, h1, h2⟩ := part_good (w := w) hx ha hs hk
  refine Good.of_pure hr (cv := cv) ?_ h2
  have h0 : (0 : Int) ≤ (Int.ofNat i) ∧ (Int.ofNat i) < (m : Int) := by simp only [Int.ofNat_eq_natCast]; omega
  have : (Int.ofNat i).toNat = i := rfl
  simp only [Instr.index, asIntOf, Sem.run_bind, Sem.run_pure, run_underlying hu, Result.andThen_ok, h0, and_self, if_true, szOf_run hs, this, h1]

end Go.Cg

/- Maps. -/
namespace Go.Cg
variable [Syms]

variable {P : Program} {μ : Mu} {h h' : Heap} {w : World} {v : AVal}

theorem run_getObj_map {r : Nat} {ces : Array MapEntry} {clock : Nat} (hh : w.heap[r]? = some (.map ces clock)) : (getObj r).run P w = .ok (.map ces clock) w := by
  simp [getObj, Sem.run, hh]

theorem run_setObj_map {r : Nat} {ces : Array MapEntry} {clock : Nat} {o : Obj} (hh : w.heap[r]? = some (.map ces clock)) : (setObj r o).run P w = .ok () { w with heap := w.heap.setIfInBounds r o } := by
  simp [setObj, Sem.run, hh]

/-- A key's type, by the kind that the evaluator was told. -/
def KeyT (P : Program) (ik : Bool) (kt : TypeId) : Prop :=
  match ik with
  | true => ∃ k, P.underlying kt = some (.int k)
  | false => P.underlying kt = some .string

theorem checkKey_run {ik : Bool} {kt : TypeId} (hk : KeyT P ik kt) (empty : Bool) (n : Nat) (v : Value) : (Instr.checkKey empty (n + 1) kt v).run P w = .ok () w := by
  cases ik with
  | true => obtain ⟨k, hu⟩ := hk; simp only [Instr.checkKey, Sem.run_bind, run_underlying hu, Result.andThen_ok, Sem.run_pure]
  | false => simp only [Instr.checkKey, Sem.run_bind, run_underlying hk, Result.andThen_ok, Sem.run_pure]

theorem keyEq_now {ik : Bool} {kt : TypeId} {d : TypeDesc} {x y : AVal} {cx cy : Value} {r : Bool} (hk : KeyT P ik kt) (hd : P.underlying kt = some d) (hx : VRel μ x cx) (hy : VRel μ y cy) (hb : keyEq ik x y = some r) :
    Instr.sameNow d cx cy = some r := by
  cases ik with
  | true =>
    obtain ⟨k, hu⟩ := hk
    rw [hd] at hu; cases hu
    simp only [keyEq, eqInt] at hb
    split at hb
    case h_2 => cases hb
    split at hb
    case h_2 => cases hb
    rename_i hkk
    have hkk := kEq_iff.1 hkk
    subst hkk
    cases hx; cases hy; cases hb
    simp only [Instr.sameNow, if_true, intEq_eq]
    rfl
  | false =>
    have hu := hk
    simp only [KeyT] at hu
    rw [hd] at hu; cases hu
    simp only [keyEq, eqStr] at hb
    split at hb
    case h_2 => cases hb
    cases hb
    cases hx with
    | str s l n h1 h2 =>
    cases hy with
    | str s' l' n' h3 h4 =>
    subst h1 h2 h3 h4
    simp only [Instr.sameNow, str_pack_eq, beq_toListBytes]

theorem find_sound {ik : Bool} {kt : TypeId} {d : TypeDesc} {x : AVal} {cx : Value} (hk : KeyT P ik kt) (hd : P.underlying kt = some d) (hx : VRel μ x cx) : ∀ {es : List (AVal × AVal × Nat)} {ces : List MapEntry} (_ : MRel μ es ces) (i : Nat) (r : Option (Nat × AVal)),
    findKey ik x es i = some r → ∃ r', Instr.findNow d cx ces i = some r' ∧ (match r, r' with | none, none => True | some (j, v), some (j', cv) => j = j' ∧ i ≤ j ∧ j - i < es.length ∧ VRel μ v cv | _, _ => False)
  | _, _, .nil, i, r, hf => by cases hf; exact ⟨none, rfl, trivial⟩
  | _, _, .cons k v born ck cv l cl hkk hv hs, i, r, hf => by
    simp only [findKey] at hf
    split at hf
    · rename_i he
      cases hf
      have := keyEq_now hk hd hx hkk he
      exact ⟨some (i, cv), by simp only [Instr.findNow, this], rfl, Nat.le_refl _, by simp, hv⟩
    · rename_i he
      have := keyEq_now hk hd hx hkk he
      obtain ⟨r', h1, h2⟩ := find_sound hk hd hx hs (i + 1) r hf
      refine ⟨r', by simp only [Instr.findNow, this]; exact h1, ?_⟩
      cases r <;> cases r' <;> simp only [] at h2 ⊢
      obtain ⟨a, b, c, e⟩ := h2
      exact ⟨a, by omega, by simp only [List.length_cons]; omega, e⟩
    · cases hf

theorem findKey_run {ik : Bool} {kt : TypeId} {x : AVal} {cx : Value} {es : List (AVal × AVal × Nat)} {ces : Array MapEntry} {r : Option (Nat × AVal)} (hk : KeyT P ik kt) (hx : VRel μ x cx) (hm : MRel μ es ces.toList)
    (hf : findKey ik x es 0 = some r) : ∃ r', (Instr.findKey kt cx ces.toList).run P w = .ok r' w ∧ (match r, r' with | none, none => True | some (j, v), some (j', cv) => j = j' ∧ j < es.length ∧ VRel μ v cv | _, _ => False) := by
  have hd : ∃ d, P.underlying kt = some d := by
    cases ik with
    | true => obtain ⟨k, hu⟩ := hk; exact ⟨_, hu⟩
    | false => exact ⟨_, hk⟩
  obtain ⟨d, hd⟩ := hd
  obtain ⟨r', h1, h2⟩ := find_sound hk hd hx hm 0 r hf
  refine ⟨r', by simp only [Instr.findKey, Sem.run_bind, run_underlying hd, Result.andThen_ok, h1, Sem.run_pure], ?_⟩
  cases r <;> cases r' <;> simp only [] at h2 ⊢
  obtain ⟨a, _, c, e⟩ := h2
  exact ⟨a, by omega, e⟩

theorem MRel.length {es : List (AVal × AVal × Nat)} {ces : List MapEntry} (hm : MRel μ es ces) : es.length = ces.length := by
  induction hm with
  | nil => rfl
  | cons _ _ _ _ _ _ _ _ _ _ ih => simp [ih]

theorem lookup_good {ik : Bool} {t kt e : TypeId} {zero : AVal} {commaOk : Bool} {m k : AVal} {cm ck : Value} (hr : HRel μ h w) (hm : VRel μ m cm) (hk : VRel μ k ck) (hu : P.underlying t = some (.map kt e)) (hkt : KeyT P ik kt)
    (hz : zeroOf P e = some zero) (hl : lookupOp ik zero commaOk m k h = some v) : Good P μ h w (Instr.lookup t cm ck commaOk) v h := by
  obtain ⟨cz, z1, z2⟩ := zeroOf_run hz w
  have fin : ∀ (x : AVal) (cx : Value) (ok : Bool), VRel μ x cx → VRel μ (if commaOk then AVal.tuple [x, .bool ok] else x) (if commaOk then Value.tuple #[cx, .bool ok] else cx) := by
    intro x cx ok hx
    cases commaOk with
    | true => exact .tuple _ _ (.cons _ _ _ _ hx (.cons _ _ _ _ (.bool _) .nil))
    | false => exact hx
  unfold lookupOp at hl
  simp only [] at hl
  split at hl
  · cases hm
    cases hl
    refine Good.of_pure hr ?_ (fin zero cz false (z2 μ))
    simp only [Instr.lookup, Sem.run_bind, run_underlying hu, Result.andThen_ok, Sem.run_pure, checkKey_run (n := 9999) hkt]
    have : (Instr.findKey kt ck (#[] : Array MapEntry).toList).run P w = .ok none w := by
      obtain ⟨r', a, b⟩ := findKey_run (P := P) (w := w) (es := []) (ces := #[]) hkt hk .nil (r := none) rfl
      cases r' with
      | none => exact a
      | some p => cases b
    rw [this]
    simp only [Result.andThen_ok, Sem.run_bind, z1, Sem.run_pure]
  · rename_i b
    split at hl
    case h_2 => cases hl
    rename_i es clock hg
    cases hm with
    | map _ im hmu =>
    obtain ⟨obj, q1, ces, rfl, q2⟩ := hr.live b _ im hg hmu
    split at hl
    · rename_i j x hf
      cases hl
      obtain ⟨r', a, b⟩ := findKey_run (P := P) (w := w) hkt hk q2 hf
      cases r' with
      | none => cases b
      | some p =>
        obtain ⟨j', cv⟩ := p
        obtain ⟨_, _, hv⟩ := b
        refine Good.of_pure hr ?_ (fin x cv true hv)
        simp only [Instr.lookup, Sem.run_bind, run_underlying hu, Result.andThen_ok, run_getObj_map q1, Sem.run_pure, checkKey_run (n := 9999) hkt, a]
    · rename_i hf
      cases hl
      obtain ⟨r', a, b⟩ := findKey_run (P := P) (w := w) hkt hk q2 hf
      cases r' with
      | some p => cases b
      | none =>
        refine Good.of_pure hr ?_ (fin zero cz false (z2 μ))
        simp only [Instr.lookup, Sem.run_bind, run_underlying hu, Result.andThen_ok, run_getObj_map q1, Sem.run_pure, checkKey_run (n := 9999) hkt, a, z1]
    · cases hl
  · cases hl

end Go.Cg

/- Maps that are written; going over maps and texts. -/
namespace Go.Cg
variable [Syms]

variable {P : Program} {μ : Mu} {h h' : Heap} {w : World} {v : AVal}

theorem setObj_wrote {r : Nat} {o : Obj} (w : World) : Wrote w { w with heap := w.heap.setIfInBounds r o } r where
  other := fun β hβ => by simp [Array.getElem?_setIfInBounds_ne (Ne.symm hβ)]
  size := by simp
  os := rfl
  output := rfl
  tape := rfl

theorem setObj_same {r : Nat} {o o' : Obj} (hh : w.heap[r]? = some o') : ({ w with heap := w.heap.setIfInBounds r o } : World).heap[r]? = some o := by
  have : r < w.heap.size := (Array.getElem?_eq_some_iff.1 hh).1
  simp [this]

theorem keyEq_bits {ik : Bool} {x y : AVal} {cx cy : Value} (hx : VRel μ x cx) (hy : VRel μ y cy) (hb : keyEq ik x y = some true) (n : Nat) : Instr.sameBits n cy cx = true := by
  cases ik with
  | true =>
    simp only [keyEq, eqInt] at hb
    split at hb
    case h_2 => cases hb
    split at hb
    case h_2 => cases hb
    rename_i hkk
    have hkk := kEq_iff.1 hkk
    subst hkk
    cases hx; cases hy
    rw [intEq_eq] at hb
    have hb := of_decide_eq_true (Option.some.inj hb)
    subst hb
    cases n <;> simp [Instr.sameBits]
  | false =>
    simp only [keyEq, eqStr] at hb
    split at hb
    case h_2 => cases hb
    cases hx with
    | str s l n h1 h2 =>
    cases hy with
    | str s' l' n' h3 h4 =>
    subst h1 h2 h3 h4
    rw [str_pack_eq, ← beq_toListBytes] at hb
    have hb := Option.some.inj hb
    have : (s' == s) = true := by
      rw [beq_toListBytes] at hb ⊢
      rw [beq_iff_eq] at hb ⊢
      exact hb.symm
    cases n <;> simp only [Instr.sameBits] <;> exact this

theorem find_key {ik : Bool} {x : AVal} {cx : Value} (hx : VRel μ x cx) : ∀ {es : List (AVal × AVal × Nat)} {ces : List MapEntry} (_ : MRel μ es ces) (i j : Nat) (v : AVal),
    findKey ik x es i = some (some (j, v)) → ∃ e, ces[j - i]? = some e ∧ i ≤ j ∧ ∀ n, Instr.sameBits n e.key cx = true
  | _, _, .nil, i, j, v, hf => by cases hf
  | _, _, .cons k v' born ck cv l cl hkk hv hs, i, j, v, hf => by
    simp only [findKey] at hf
    split at hf
    · rename_i he
      cases hf
      exact ⟨_, by rw [Nat.sub_self]; rfl, Nat.le_refl _, fun n => keyEq_bits hx hkk he n⟩
    · obtain ⟨e, h1, h2, h3⟩ := find_key hx hs (i + 1) j v hf
      refine ⟨e, ?_, by omega, h3⟩
      rw [show j - i = (j - (i + 1)) + 1 by omega, List.getElem?_cons_succ]; exact h1
    · cases hf

theorem MRel.modify {es : List (AVal × AVal × Nat)} {ces : List MapEntry} (hm : MRel μ es ces) {k v : AVal} {ck cv : Value} (hk : VRel μ k ck) (hv : VRel μ v cv) :
    ∀ i, MRel μ (es.modify i fun e => (k, v, e.2.2)) (ces.modify i fun e => { e with key := ck, val := cv }) := by
  induction hm with
  | nil => intro i; cases i <;> exact .nil
  | cons k' v' born ck' cv' l cl hk' hv' hs ih =>
    intro i
    cases i with
    | zero => exact .cons _ _ _ _ _ _ _ hk hv hs
    | succ i => exact .cons _ _ _ _ _ _ _ hk' hv' (ih i)

theorem MRel.append {es es' : List (AVal × AVal × Nat)} {ces ces' : List MapEntry} (hm : MRel μ es ces) (hm' : MRel μ es' ces') : MRel μ (es ++ es') (ces ++ ces') := by
  induction hm with
  | nil => exact hm'
  | cons k' v' born ck' cv' l cl hk' hv' hs ih => exact .cons _ _ _ _ _ _ _ hk' hv' ih

theorem MRel.erase {es : List (AVal × AVal × Nat)} {ces : List MapEntry} (hm : MRel μ es ces) : ∀ i, MRel μ (es.eraseIdx i) (ces.eraseIdx i) := by
  induction hm with
  | nil => intro i; exact .nil
  | cons k' v' born ck' cv' l cl hk' hv' hs ih =>
    intro i
    cases i with
    | zero => exact hs
    | succ i => exact .cons _ _ _ _ _ _ _ hk' hv' (ih i)

theorem mapup_good {ik : Bool} {t kt e : TypeId} {m k x : AVal} {cm ck cx : Value} (hr : HRel μ h w) (hm : VRel μ m cm) (hk : VRel μ k ck) (hx : VRel μ x cx) (hu : P.underlying t = some (.map kt e)) (hkt : KeyT P ik kt)
    (hl : mapUp ik m k x h = .ok v h') : v = .tuple [] ∧ GoodU P μ h w (Instr.mapUpdate t cm ck cx) h' := by
  unfold mapUp at hl
  split at hl
  case h_2 => cases hl
  rename_i b
  split at hl
  case h_2 => cases hl
  rename_i es clock hg
  cases hm with
  | map _ im hmu =>
  obtain ⟨obj, q1, ces, rfl, q2⟩ := hr.live b _ im hg hmu
  split at hl
  · rename_i j y hf
    rw [Heap.putK_eq] at hl
    cases hl
    obtain ⟨r', a, b'⟩ := findKey_run (P := P) (w := w) hkt hk q2 hf
    cases r' with
    | none => cases b'
    | some p =>
      obtain ⟨j', cv⟩ := p
      obtain ⟨rfl, hj, _⟩ := b'
      obtain ⟨e', e1, _, e3⟩ := find_key hk q2 0 j y hf
      rw [Nat.sub_zero, Array.getElem?_toList] at e1
      have hB : BRel μ ({ w with heap := w.heap.setIfInBounds im.blk (.map (ces.modify j fun e => { e with key := ck, val := cx }) clock) }) im (.map (es.modify j fun e => (k, x, e.2.2)) clock) :=
        ⟨_, setObj_same q1, _, rfl, by rw [Array.toList_modify]; exact q2.modify hk hx j⟩
      have hw := setObj_wrote (r := im.blk) (o := .map (ces.modify j fun e => { e with key := ck, val := cx }) clock) w
      obtain ⟨c1, c2⟩ := hr.put hg hmu hw.size hw.other hw.os hw.output hw.tape hB
      refine ⟨rfl, _, ?_, c1, c2⟩
      have hbits : Instr.sameBits 10000 (((ces[j]?).map (·.key)).getD ck) ck = true := by rw [e1]; exact e3 _
      simp only [Instr.mapUpdate, Sem.run_bind, run_underlying hu, Result.andThen_ok, run_getObj_map q1, checkKey_run (n := 9999) hkt, a, Instr.keyThatStays, hbits, if_true, Sem.run_pure, run_setObj_map q1]
  · rename_i hf
    rw [forceN_eq, Heap.putK_eq] at hl
    cases hl
    obtain ⟨r', a, b'⟩ := findKey_run (P := P) (w := w) hkt hk q2 hf
    cases r' with
    | some p => cases b'
    | none =>
      have hB : BRel μ ({ w with heap := w.heap.setIfInBounds im.blk (.map (ces.push { key := ck, val := cx, born := clock }) (clock + 1)) }) im (.map (es ++ [(k, x, clock)]) (clock + 1)) :=
        ⟨_, setObj_same q1, _, rfl, by rw [Array.toList_push]; exact q2.append (.cons _ _ _ _ _ _ _ hk hx .nil)⟩
      have hw := setObj_wrote (r := im.blk) (o := .map (ces.push { key := ck, val := cx, born := clock }) (clock + 1)) w
      obtain ⟨c1, c2⟩ := hr.put hg hmu hw.size hw.other hw.os hw.output hw.tape hB
      refine ⟨rfl, _, ?_, c1, c2⟩
      simp only [Instr.mapUpdate, Sem.run_bind, run_underlying hu, Result.andThen_ok, run_getObj_map q1, checkKey_run (n := 9999) hkt, a, run_setObj_map q1]
  · cases hl

theorem delete_good {ik : Bool} {ats : Array TypeId} {t kt e ty : TypeId} {m k : AVal} {cm ck : Value} (hr : HRel μ h w) (hm : VRel μ m cm) (hk : VRel μ k ck) (h0 : ats[0]? = some t) (hu : P.underlying t = some (.map kt e)) (hkt : KeyT P ik kt)
    (hl : deleteOp ik m k h = .ok v h') : Good P μ h w (Builtin.delete_ ats ty #[cm, ck]) v h' := by
  unfold deleteOp at hl
  split at hl
  · rename_i b
    split at hl
    case h_2 => cases hl
    rename_i es clock hg
    cases hm with
    | map _ im hmu =>
    obtain ⟨obj, q1, ces, rfl, q2⟩ := hr.live b _ im hg hmu
    split at hl
    · rename_i j y hf
      rw [Heap.putK_eq] at hl
      cases hl
      obtain ⟨r', a, b'⟩ := findKey_run (P := P) (w := w) hkt hk q2 hf
      cases r' with
      | none => cases b'
      | some p =>
        obtain ⟨j', cv⟩ := p
        obtain ⟨rfl, hj, _⟩ := b'
        have hB : BRel μ ({ w with heap := w.heap.setIfInBounds im.blk (.map (ces.eraseIdxIfInBounds j) clock) }) im (.map (es.eraseIdx j) clock) :=
          ⟨_, setObj_same q1, _, rfl, by rw [Array.toList_eraseIdxIfInBounds]; exact q2.erase j⟩
        have hw := setObj_wrote (r := im.blk) (o := .map (ces.eraseIdxIfInBounds j) clock) w
        obtain ⟨c1, c2⟩ := hr.put hg hmu hw.size hw.other hw.os hw.output hw.tape hB
        refine ⟨μ, .tuple #[], _, ?_, .tuple _ _ .nil, c1, c2⟩
        simp [Builtin.delete_, h0, run_underlying hu, run_getObj_map q1, checkKey_run (n := 9999) hkt, a, run_setObj_map q1]
    · rename_i hf
      cases hl
      obtain ⟨r', a, b'⟩ := findKey_run (P := P) (w := w) hkt hk q2 hf
      cases r' with
      | some p => cases b'
      | none =>
        have hw := setObj_wrote (r := im.blk) (o := .map ces clock) w
        have hsame : ({ w with heap := w.heap.setIfInBounds im.blk (.map ces clock) } : World).heap = w.heap := by
          apply Array.ext_getElem?
          intro i
          by_cases e : i = im.blk
          · subst e; rw [setObj_same q1, q1]
          · exact hw.other i e
        refine ⟨μ, .tuple #[], _, ?_, .tuple _ _ .nil, hr.same hsame, Ext.refl hsame rfl rfl rfl⟩
        simp [Builtin.delete_, h0, run_underlying hu, run_getObj_map q1, checkKey_run (n := 9999) hkt, a, run_setObj_map q1]
    · cases hl
  · cases hl
    cases hm
    refine Good.of_pure hr (cv := .tuple #[]) ?_ (.tuple _ _ .nil)
    simp [Builtin.delete_, h0, run_underlying hu, checkKey_run (n := 9999) hkt]
  · cases hl

end Go.Cg

/- Going over texts and maps; conversions; made slices. -/
namespace Go.Cg
variable [Syms]

variable {P : Program} {μ : Mu} {h h' : Heap} {w : World} {v : AVal}

theorem newObj_good {o : ABlk} {obj : Obj} (hr : HRel μ h w) (hf : μ h.next = none) (ho : ∀ μ' im, Mu.le μ μ' → im.base = 0 → ORel μ' im o obj) :
    ∃ im, im.base = 0 ∧ im.blk = w.heap.size ∧ HRel (μ.add h.next im) (h.new o) (w.alloc obj) ∧ Ext μ h w (μ.add h.next im) (h.new o) (w.alloc obj) := by
  obtain ⟨a, b⟩ := hr.new (w' := w.alloc obj) (size := 0) (obj := obj) (o := o) hf rfl rfl rfl rfl (ho _ _ (Mu.le_add _ hf) rfl)
  exact ⟨_, rfl, rfl, a, b⟩

theorem rangeS_good {t : TypeId} {cx : Value} {len n : Nat} (hr : HRel μ h w) (hf : μ h.next = none) (hx : VRel μ (.str len n) cx) (hu : P.underlying t = some .string) :
    Good P μ h w (Instr.range t cx) (.ptr h.next 0) (h.new (.siter len n 0)) := by
  cases hx with
  | str s _ _ e1 e2 =>
  obtain ⟨im, i1, i2, a, b⟩ := newObj_good (o := .siter len n 0) (obj := .stringIter s 0) hr hf (fun μ' im _ hb => ⟨hb, s, rfl, e1, e2⟩)
  refine ⟨_, .pointer (some ⟨im.blk, im.base + 0, none⟩), _, ?_, .ptr _ _ im (Mu.add_same _ _ _), a, b⟩
  simp [Instr.range, run_underlying hu, i1, i2]

theorem rangeM_good_nil {t k e : TypeId} {cx : Value} (hr : HRel μ h w) (hf : μ h.next = none) (hx : VRel μ .nilmap cx) (hu : P.underlying t = some (.map k e)) :
    Good P μ h w (Instr.range t cx) (.ptr h.next 0) (h.new (.miter none 0 [] 0)) := by
  cases hx
  obtain ⟨im, i1, i2, a, b⟩ := newObj_good (o := .miter none 0 [] 0) (obj := .mapIter none 0 #[] 0) hr hf (fun μ' im _ hb => ⟨hb, none, rfl, trivial⟩)
  refine ⟨_, .pointer (some ⟨im.blk, im.base + 0, none⟩), _, ?_, .ptr _ _ im (Mu.add_same _ _ _), a, b⟩
  simp [Instr.range, run_underlying hu, i1, i2]

theorem rangeM_good {t k e : TypeId} {cx : Value} {m : Pos} {es : List (AVal × AVal × Nat)} {clock : Nat} (hr : HRel μ h w) (hf : μ h.next = none) (hx : VRel μ (.map m) cx) (hu : P.underlying t = some (.map k e)) (hg : h.get m = some (.map es clock)) :
    Good P μ h w (Instr.range t cx) (.ptr h.next 0) (h.new (.miter (some m) clock [] clock)) := by
  cases hx with
  | map _ imm hm =>
  obtain ⟨obj, q1, ces, rfl, q2⟩ := hr.live m _ imm hg hm
  obtain ⟨im, i1, i2, a, b⟩ := newObj_good (o := .miter (some m) clock [] clock) (obj := .mapIter (some imm.blk) clock #[] clock) hr hf (fun μ' im hle hb => ⟨hb, some imm.blk, rfl, imm, hle _ _ hm, rfl⟩)
  refine ⟨_, .pointer (some ⟨im.blk, im.base + 0, none⟩), _, ?_, .ptr _ _ im (Mu.add_same _ _ _), a, b⟩
  simp [Instr.range, run_underlying hu, run_getObj_map q1, i1, i2]

theorem s2b_good {src dst e : TypeId} {cx : Value} {len n : Nat} (hr : HRel μ h w) (hf : μ h.next = none) (hx : VRel μ (.str len n) cx) (hs : P.underlying src = some .string) (hd : P.underlying dst = some (.slice e)) (he : P.underlying e = some (.int .u8)) :
    Good P μ h w (convert src dst cx) (.slice h.next 0 len len 1 false) (h.new (.bytes len n)) := by
  cases hx with
  | str s _ _ e1 e2 =>
  subst e1 e2
  have hl : s.size = s.data.toList.length := by simp
  let cap := (Question.appendCap s.size 0 e).cut (w.tape w.drawn (.appendCap s.size 0 e))
  have hcap : s.size ≤ cap := by simp only [cap, Question.cut]; omega
  let c : Array Value := s.data.map (fun b => Value.int .u8 b.toNat) ++ Array.replicate (cap - s.size) (.int .u8 0)
  have hcs : c.size = cap := by
    have : s.data.size = s.size := rfl
    simp only [c, Array.size_append, Array.size_map, Array.size_replicate, this]; omega
  let w1 : World := w.drew.alloc (.cells c e)
  let w2 : World := w1.freeze { block := w.heap.size, off := c.size } 1
  have hheap : w2.heap = w.heap.push (.cells c e (c.size, c.size + 1)) := by
    simp only [w2, w1, World.freeze]
    rw [if_neg (by omega)]
    simp only [World.alloc, World.drew]
    apply Array.ext_getElem?
    intro i
    rw [Array.getElem?_modify, Array.getElem?_push, Array.getElem?_push]
    by_cases e : i = w.heap.size
    · subst e; simp
    · simp [e, Ne.symm e]
  have hrun : (convert src dst (.string s)).run P w = .ok (.slice (some ⟨w.heap.size, 0, none⟩) s.size cap) w2 := by
    have hsh : w1.shape? w.heap.size = some (e, c.size) := by
      have : w1.heap[w.heap.size]? = some (.cells c e) := by
        show (w.heap.push (.cells c e))[w.heap.size]? = _
        simp
      unfold World.shape?
      rw [this]
    simp only [convert, Sem.run_bind, run_underlying hs, run_underlying hd, Result.andThen_ok, run_underlying he]
    simp only [Conv.stringToBytes, Sem.run_bind, run_choose, Question.forced, Bool.false_eq_true, if_false, Result.andThen_ok, newRow, run_newObj, Sem.run_pure, markStringish, run_shape]
    change ((match w1.shape? w.heap.size with | some (_, n) => freeze { block := w.heap.size, off := n } 1 | _ => pure ()).run P w1).andThen _ = _
    rw [hsh]
    simp only [run_freeze, Result.andThen_ok]
    rfl
  have := newBytes_good (bs := s.data.toList) (c := c) (e := e) (w' := w2) (c.size, c.size + 1) hr hf (.inr (Nat.le_refl _)) ⟨(Array.replicate (cap - s.size) (.int .u8 0)).toList, by simp [c, byteVals]⟩ hheap
    (by simp only [w2, World.freeze]; split <;> rfl) (by simp only [w2, World.freeze]; split <;> rfl) (by simp only [w2, World.freeze]; split <;> rfl)
  rw [← hl] at this
  obtain ⟨im, i1, i2, i3, a, b⟩ := this
  refine ⟨_, .slice (some ⟨im.blk, im.base + 0, none⟩) s.size cap, w2, by rw [hrun, i1, i3], ?_, a, b⟩
  exact .slice _ _ _ _ _ _ im _ _ (Mu.add_same _ _ _) (Nat.le_refl _) hcap (fun hc => by cases hc) (by rw [i1, i2, hcs]; omega) (fun _ => rfl)

theorem HRel.congr {h2 : Heap} (hg : ∀ b, h2.get b = h.get b) (hn : h2.next = h.next) (hr : HRel μ h w) : HRel μ h2 w where
  live := fun b o im x y => hr.live b o im (by rw [← hg]; exact x) y
  inj := fun b b' o o' im im' x x' => hr.inj b b' o o' im im' (by rw [← hg]; exact x) (by rw [← hg]; exact x')
  bound := hr.bound
  scope := fun b o x => by rw [hn]; exact hr.scope b o (by rw [← hg]; exact x)

theorem Ext.congr {μ' : Mu} {w' : World} {h1 h2 : Heap} (hg : ∀ b, h2.get b = h1.get b) (hn : h2.next = h1.next) (hx : Ext μ h w μ' h1 w') : Ext μ h w μ' h2 w' where
  mono := hx.mono
  newid := by rw [hn]; exact hx.newid
  next := by rw [hn]; exact hx.next
  hsize := hx.hsize
  frame := hx.frame
  aframe := fun b o x y => by rw [hg]; exact hx.aframe b o x y
  own := fun b o im x y => hx.own b o im (by rw [← hg]; exact x) y
  os := hx.os
  output := hx.output
  tape := hx.tape

theorem Heap.put_self {b : Pos} {o : ABlk} (hg : h.get b = some o) (c : Pos) : h.get c = (h.put b (some o)).get c := by
  by_cases e : b = c
  · subst e; rw [Heap.get_put_same, hg]
  · rw [Heap.get_put_other _ _ e]

theorem bb_good {t e : TypeId} {x : AVal} {cx : Value} (hr : HRel μ h w) (hx : VRel μ x cx) (hu : P.underlying t = some (.slice e)) (he : P.underlying e = some (.int .u8)) (hk : bbOp x h = .ok v h') :
    Good P μ h w (convert t t cx) v h' := by
  unfold bbOp at hk
  split at hk
  case h_2 => cases hk
  rename_i b off len cap0 es ex
  split at hk
  case h_2 => cases hk
  rename_i bl bn hg
  cases hk
  have hx' := hx
  cases hx with
  | slice _ _ _ _ _ _ im cap' adr g1 g2 g3 g4 g5 g6 =>
  obtain ⟨obj, q1, c, ee, fr, l, rfl, q2, q3, q4, q5, q6, q7⟩ := hr.live b _ im hg g1
  have hadr := g6 (by omega)
  have hsh : w.shape? im.blk = some (ee, c.size) := by
    unfold World.shape?
    rw [q1]
  have e1 : (markStringish adr).run P w = .ok () (w.freeze { block := im.blk, off := c.size } 1) := by
    simp only [markStringish, Sem.run_bind, run_shape, Result.andThen_ok]
    rw [hadr]
    simp only []
    rw [hsh]
    simp only [run_freeze]
  have hw : Wrote w (w.freeze { block := im.blk, off := c.size } 1) im.blk := by
    constructor
    · intro β hβ
      simp only [World.freeze]
      rw [if_neg (by omega)]
      simp [Array.getElem?_modify, Ne.symm hβ]
    · simp only [World.freeze]; rw [if_neg (by omega)]; simp
    · simp only [World.freeze]; split <;> rfl
    · simp only [World.freeze]; split <;> rfl
    · simp only [World.freeze]; split <;> rfl
  have hB : BRel μ (w.freeze { block := im.blk, off := c.size } 1) im (.bytes bl bn) := by
    refine ⟨.cells c ee (if fr.1 == fr.2 then (c.size, c.size + 1) else (min fr.1 c.size, max fr.2 (c.size + 1))), ?_, c, ee, _, l, rfl, q2, q3, ?_, q5, q6, q7⟩
    · simp only [World.freeze]
      rw [if_neg (by omega)]
      simp [Array.getElem?_modify, q1]
    · right
      split
      · exact Nat.le_refl _
      · rename_i hne
        rcases q4 with q4 | q4
        · simp [q4] at hne
        · simp only []; omega
  obtain ⟨a1, a2⟩ := hr.put hg g1 hw.size hw.other hw.os hw.output hw.tape hB
  refine ⟨μ, .slice (some adr) len cap', _, ?_, hx', a1.congr (Heap.put_self hg) (Heap.next_put _ _ _).symm, a2.congr (Heap.put_self hg) (Heap.next_put _ _ _).symm⟩
  simp only [convert, Sem.run_bind, run_underlying hu, Result.andThen_ok, run_underlying he, beq_self_eq_true, e1, Sem.run_pure]

theorem pack_zeros : ∀ n, pack (List.replicate n (0 : UInt8)) = 0
  | 0 => rfl
  | n + 1 => by rw [List.replicate_succ, pack_cons, pack_zeros n]; simp

theorem repl_zeros : ∀ n, repl n [AVal.int .u8 0] = (List.replicate n (0 : UInt8)).map (fun b => AVal.int .u8 (b.toNat : Int))
  | 0 => rfl
  | n + 1 => by
    have : repl (n + 1) [AVal.int .u8 0] = [AVal.int .u8 0] ++ repl n [AVal.int .u8 0] := by rw [← appL_eq]; rfl
    rw [this, repl_zeros n]; rfl

theorem byteVals_inj : ∀ {a b : List UInt8}, byteVals a = byteVals b → a = b
  | [], [], _ => rfl
  | [], _ :: _, h => by cases h
  | _ :: _, [], h => by cases h
  | x :: a, y :: b, h => by
    simp only [byteVals, List.map_cons, List.cons.injEq, Value.int.injEq, true_and] at h
    have e : x = y := UInt8.toNat_inj.1 (by omega)
    rw [e, byteVals_inj (a := a) (b := b) h.2]

theorem push_bytes : ∀ (bs : List UInt8) (s : ByteArray), (bs.map fun b => (b.toNat : Int)).foldl (fun r n => r.push (UInt8.ofNat n.toNat)) s = ⟨s.data ++ bs.toArray⟩
  | [], s => by simp
  | b :: bs, s => by
    simp only [List.map_cons, List.foldl_cons]
    rw [push_bytes bs]
    apply ByteArray.ext
    simp [ByteArray.push]

theorem b2s_good {src dst e : TypeId} {x : AVal} {cx : Value} (hr : HRel μ h w) (hx : VRel μ x cx) (hu : P.underlying src = some (.slice e)) (he : P.underlying e = some (.int .u8)) (hd : P.underlying dst = some .string)
    (hk : b2sOp x h = .ok v h') : Good P μ h w (convert src dst cx) v h' := by
  unfold b2sOp at hk
  split at hk
  case h_2 => cases hk
  rename_i n m hrow
  cases hk
  obtain ⟨cs, a, b, c⟩ := rowOf_sound (P := P) hr (fun _ => rfl) hx hrow
  cases a with
  | bytes bs _ =>
  have key : (convert src dst cx).run P w = .ok (.string ⟨bs.toArray⟩) w := by
    have c := c w rfl
    simp only [Row.len] at c b
    cases hx with
    | str s l q e1 e2 =>
      subst e1 e2
      simp only [rowOf, if_true] at hrow
      simp only [convert, Sem.run_bind, run_underlying hu, run_underlying hd, Result.andThen_ok, Sem.run_pure]
      simp only [Builtin.firstCells, Sem.run_pure] at c
      injection hrow with hrow
      injection hrow with f1 f2
      have e0 : (s.extract 0 bs.length) = s := by
        apply ByteArray.ext
        rw [← f1]; simp
      rw [e0] at c
      have hbs : bs = s.data.toList := by
        have := congrArg Array.toList (Result.ok.inj c).1
        apply byteVals_inj
        rw [show byteVals bs = (byteVals bs).toArray.toList from rfl, ← this]
        simp [byteVals]
      subst hbs
      rfl
    | nilslice =>
      simp only [rowOf] at hrow
      injection hrow with hrow
      injection hrow with f1 f2
      have : bs = [] := List.length_eq_zero_iff.1 f1.symm
      subst this
      simp only [convert, Sem.run_bind, run_underlying hu, run_underlying hd, Result.andThen_ok, run_underlying he, Conv.bytesToString, Sem.run_pure]
      rfl
    | slice _ _ _ _ _ _ im cap' adr g1 g2 g3 g4 g5 g6 =>
      simp only [Builtin.firstCells] at c
      simp only [Builtin.lenOf, Sem.run_pure] at b
      injection b with b1 _
      rw [run_convert_bytes_string w src dst e _ _ _ hu he hd, run_bytesToString w adr _ _ (bs.map fun b => (b.toNat : Int))]
      · rw [push_bytes]
        congr 2
        apply ByteArray.ext
        simp
      · rw [b1]
        simp only [Nat.mul_one] at c
        rw [c]
        simp [byteVals]
    | _ => simp [rowOf] at hrow
  refine Good.of_pure hr key (.str _ _ _ (by simp [ByteArray.size]) rfl)

theorem mkslice_good {t e : TypeId} {isByte : Bool} {es bytes : Nat} {z : List AVal} {l c : AVal} {cl cc : Value} (hr : HRel μ h w) (hf : Fresh μ h h') (hl : VRel μ l cl) (hc : VRel μ c cc) (hu : P.underlying t = some (.slice e))
    (hs : szOf P e = some es) (hby : byOf P e = some bytes) (hz : (zeroOf P e).bind cellsO = some z) (hzl : z.length = es) (hb : isByte = true → es = 1 ∧ z = [.int .u8 0]) (hk : mkSliceOp isByte es bytes z l c h = .ok v h') :
    Good P μ h w (Instr.makeSlice t cl cc) v h' := by
  unfold mkSliceOp at hk
  split at hk
  case h_2 => cases hk
  rename_i l0 c0 hl0 hc0
  split at hk
  case h_2 => cases hk
  rename_i hbb
  simp only [Bool.and_eq_true] at hbb
  obtain ⟨⟨⟨b1, b2⟩, b3⟩, b4⟩ := hbb
  have hb0 : 0 < bytes := by simpa using b4
  have b1 := Nat.le_of_ble_eq_true b1
  have b2 := Nat.le_of_ble_eq_true b2
  have b3 : 0 < es := by simpa using b3
  rw [Heap.newK_eq] at hk
  obtain ⟨cz, z1, z2, z3⟩ := zeroCells_run hz w
  obtain ⟨y1, y2⟩ := zeros_rel (len := c0) (z2 μ) hzl z3
  have il : ∃ k, cl = .int k (l0 : Int) := by
    unfold asNat at hl0; split at hl0
    · cases hl0; cases hl; exact ⟨_, rfl⟩
    · cases hl0
  have ic : ∃ k, cc = .int k (c0 : Int) := by
    unfold asNat at hc0; split at hc0
    · cases hc0; cases hc; exact ⟨_, rfl⟩
    · cases hc0
  obtain ⟨kl, rfl⟩ := il
  obtain ⟨kc, rfl⟩ := ic
  have hc1 : c0 ≤ most := Nat.le_trans (Nat.le_mul_of_pos_right _ hb0) b2
  have m40 : most = 1099511627776 := rfl
  obtain ⟨ti, t1, t2, _⟩ := byOf_run hby w
  have wr : ∀ n : Nat, n ≤ most → IntKind.i64.wrap (n : Int) = n := fun n hn => wrap_id (by rw [min_i64]; omega) (by rw [show IntKind.i64.max = 9223372036854775807 from rfl]; omega)
  have hmul : ((bytes * c0 : Nat) : Int) ≤ 1099511627776 := by rw [Nat.mul_comm]; omega
  have hmul : (bytes : Int) * (c0 : Int) ≤ 1099511627776 := by simpa using hmul
  have hrun : (Instr.makeSlice t (.int kl l0) (.int kc c0)).run P w = .ok (.slice (some ⟨w.heap.size, 0, none⟩) l0 c0) (w.alloc (.cells ((Array.range (c0 * es)).map (cz.cells[· % cz.cells.size]!)) e)) := by
    have hcond : ((((decide ((c0 : Int) < 0) || decide ((bytes : Int) * (c0 : Int) > 2 ^ 48)) || decide ((l0 : Int) < 0)) || decide ((l0 : Int) > (c0 : Int)))) = false := by
      simp only [Bool.or_eq_false_iff, decide_eq_false_iff_not]
      omega
    have a1 : ∀ (k : IntKind) (n : Nat), (asInt (.int k n)).run P w = .ok (n : Int) w := fun k n => rfl
    simp only [Instr.makeSlice, Sem.run_bind, run_underlying hu, Result.andThen_ok, a1, t1]
    simp only [t2, wr c0 hc1, wr l0 (Nat.le_trans b1 hc1), hcond, Bool.false_eq_true, if_false, Sem.run_bind, Int.toNat_natCast, run_askRoom, szOf_run hs, Result.andThen_ok]
    by_cases h0 : c0 * es = 0
    · rw [if_pos h0]
      simp only [Sem.run_bind, Sem.run_pure, Result.andThen_ok, newRow, run_newObj, h0]
      rw [World.alloc_eq, show ∀ (f g : Nat → Value), (Array.range 0).map f = (Array.range 0).map g from fun f g => by simp]
    · rw [if_neg h0]
      simp only [Sem.run_bind, Sem.run_pure, Result.andThen_ok, newRow, run_newObj, z1]
      rfl
  cases isByte with
  | true =>
    simp only [if_true] at hk
    cases hk
    obtain ⟨rfl, hzb⟩ := hb rfl
    have hn := hf h.next (Nat.le_refl _) (by rw [Heap.next_new, Pos.nat_succ]; omega)
    obtain ⟨im, i1, i2, i3, hr', hx⟩ := newBytes_good (bs := List.replicate c0 0) (c := ((Array.range (c0 * 1)).map (cz.cells[· % cz.cells.size]!))) (e := e) (w' := w.alloc (.cells ((Array.range (c0 * 1)).map (cz.cells[· % cz.cells.size]!)) e)) (0, 0) hr hn (.inl rfl)
      ⟨[], by
        rw [List.append_nil]
        rw [hzb, repl_zeros c0] at y1
        exact vsrel_bytes y1⟩ rfl rfl rfl rfl
    rw [List.length_replicate, pack_zeros] at hr' hx
    refine ⟨_, .slice (some ⟨im.blk, im.base + 0, none⟩) l0 c0, _, by rw [hrun, i1, i3], ?_, hr', hx⟩
    exact .slice _ _ _ _ _ _ im _ _ (Mu.add_same _ _ _) b1 (Nat.le_refl _) (fun _ => rfl) (by rw [i1, i2]; simp) (fun _ => rfl)
  | false =>
    simp only [Bool.false_eq_true, if_false] at hk
    cases hk
    have hn := hf h.next (Nat.le_refl _) (by rw [Heap.next_new, Pos.nat_succ]; omega)
    obtain ⟨im, i1, i2, i3, _, hr', hx⟩ := newRow_good (P := P) (e := e) hr hn y1 y2
    refine ⟨_, .slice (some ⟨im.blk, im.base + 0, none⟩) l0 c0, _, by rw [hrun, i1, i3], ?_, hr', hx⟩
    exact .slice _ _ _ _ _ _ im _ _ (Mu.add_same _ _ _) b1 (Nat.le_refl _) (fun _ => rfl) (by rw [i1, i2]; simp) (fun _ => rfl)

end Go.Cg

/- Steps of iterators; copies; lengths. -/
namespace Go.Cg
variable [Syms]

variable {P : Program} {μ : Mu} {h h' : Heap} {w : World} {v : AVal}

theorem run_getObj_some {r : Nat} {o : Obj} (hh : w.heap[r]? = some o) (hn : ∀ c e f, o ≠ .cells c e f) : (getObj r).run P w = .ok o w := by
  simp only [getObj, Sem.run, hh]

theorem run_setObj_some {r : Nat} {o o' : Obj} (hh : w.heap[r]? = some o') (hn : ∀ c e f, o' ≠ .cells c e f) : (setObj r o).run P w = .ok () { w with heap := w.heap.setIfInBounds r o } := by
  simp only [setObj, Sem.run, hh]

/-- A block whose object is put anew. -/
theorem setObj_good {b : Pos} {o o' : ABlk} {im : Img} {ob ob' : Obj} (hr : HRel μ h w) (hg : h.get b = some o) (hm : μ b = some im) (hh : w.heap[im.blk]? = some ob) (hn : ∀ c e f, ob ≠ .cells c e f) (ho : ORel μ im o' ob') :
    (setObj im.blk ob').run P w = .ok () { w with heap := w.heap.setIfInBounds im.blk ob' } ∧ HRel μ (h.put b (some o')) { w with heap := w.heap.setIfInBounds im.blk ob' } ∧ Ext μ h w μ (h.put b (some o')) { w with heap := w.heap.setIfInBounds im.blk ob' } := by
  have hw := setObj_wrote (r := im.blk) (o := ob') w
  obtain ⟨a, c⟩ := hr.put hg hm hw.size hw.other hw.os hw.output hw.tape ⟨_, setObj_same hh, ho⟩
  exact ⟨run_setObj_some hh hn, a, c⟩

theorem vsrel2 {a b : AVal} {ca cb : Value} (h1 : VRel μ a ca) (h2 : VRel μ b cb) : VsRel μ [a, b] [ca, cb] := .cons _ _ _ _ h1 (.cons _ _ _ _ h2 .nil)
theorem vsrel3 {a b c : AVal} {ca cb cc : Value} (h1 : VRel μ a ca) (h2 : VRel μ b cb) (h3 : VRel μ c cc) : VsRel μ [a, b, c] [ca, cb, cc] := .cons _ _ _ _ h1 (vsrel2 h2 h3)

theorem MRel.filter (p : Nat → Bool) : ∀ {es : List (AVal × AVal × Nat)} {ces : List MapEntry}, MRel μ es ces → MRel μ (es.filter fun e => p e.2.2) (ces.filter fun e => p e.born)
  | _, _, .nil => .nil
  | _, _, .cons k v born ck cv l cl hk hv hs => by
    simp only [List.filter_cons]
    split
    · exact .cons _ _ _ _ _ _ _ hk hv (hs.filter p)
    · exact hs.filter p

theorem MRel.all (p : Nat → Bool) : ∀ {es : List (AVal × AVal × Nat)} {ces : List MapEntry}, MRel μ es ces → (es.all fun e => p e.2.2) = (ces.all fun e => p e.born)
  | _, _, .nil => rfl
  | _, _, .cons k v born ck cv l cl hk hv hs => by simp only [List.all_cons, hs.all p]

theorem next_good {isString : Bool} {ty : TypeId} {x : AVal} {cx : Value} (hr : HRel μ h w) (hx : VRel μ x cx) (hk : nextOp isString x h = .ok v h') : Good P μ h w (Instr.next cx isString ty) v h' := by
  unfold nextOp at hk
  split at hk
  case h_2 => cases hk
  rename_i b
  cases hx with
  | ptr b _ im hm =>
  split at hk
  · -- a string
    rename_i len n pos hg
    obtain ⟨obj, q1, q0, s, rfl, q2, q3⟩ := hr.live b _ im hg hm
    subst q2 q3
    have hget := run_getObj_some (P := P) q1 (by intros; simp)
    split at hk
    · rename_i hlt
      have hlt : ¬ pos < s.size := by intro hc; rw [show Nat.blt pos s.size = true by simpa using hc] at hlt; cases hlt
      cases hk
      refine Good.of_pure hr (cv := .tuple #[.bool false]) ?_ (.tuple _ _ (.cons _ _ _ _ (.bool _) .nil))
      simp [Instr.next, q0, hget, hlt, Sem.run_bind]
    · rename_i hlt
      have hlt : pos < s.size := by simpa using hlt
      split at hk
      · cases hk
      rename_i h128
      rw [forceN_eq, forceN_eq, Heap.putK_eq] at hk
      cases hk
      have e1 : s.size = s.data.toList.length := by simp
      have hx : s.data.toList[pos]? = some s[pos] := by
        rw [Array.getElem?_toList, Array.getElem?_eq_getElem (by simpa using hlt)]; rfl
      have hb := byteAt_eq hx
      rw [← e1] at hb
      rw [hb] at h128 ⊢
      have h128 : s[pos].toNat < 128 := by simpa using h128
      have hget! : (s.get! pos) = s[pos] := by
        simp only [ByteArray.get!]
        exact getElem!_pos s.data pos hlt
      have hdec : Utf8.decode s pos = (s[pos].toNat, 1) := by
        simp only [Utf8.decode, Nat.add_zero, hget!, h128, if_true]
      obtain ⟨c0, c1, c2⟩ := setObj_good (P := P) (o' := .siter s.size (pack s.data.toList) (pos + 1)) (ob' := .stringIter s (pos + 1)) hr hg hm q1 (by intros; simp) ⟨q0, s, rfl, rfl, rfl⟩
      refine ⟨μ, .tuple #[.bool true, goInt pos, .int .i32 s[pos].toNat], _, ?_, .tuple _ _ (vsrel3 (.bool _) (.int _ _) (.int _ _)), c1, c2⟩
      simp only [Instr.next, q0, Nat.add_zero, Sem.run_bind, Sem.run_pure, hget, Result.andThen_ok, hlt, if_true, hdec, c0]
  · -- nil
    rename_i a1 a2 a3 hg
    obtain ⟨obj, q1, q0, m', rfl, q2⟩ := hr.live b _ im hg hm
    have hget := run_getObj_some (P := P) q1 (by intros; simp)
    cases m' with
    | some r => cases q2
    | none =>
    cases hk
    refine Good.of_pure hr (cv := .tuple #[.bool false]) ?_ (.tuple _ _ (.cons _ _ _ _ (.bool _) .nil))
    simp [Instr.next, q0, hget, Sem.run_bind]
  · -- a map
    rename_i m since seen last hg
    obtain ⟨obj, q1, q0, m', rfl, q2⟩ := hr.live b _ im hg hm
    have hget := run_getObj_some (P := P) q1 (by intros; simp)
    cases m' with
    | none => cases q2
    | some r =>
    obtain ⟨imm, hmm, rfl⟩ := q2
    split at hk
    case h_2 => cases hk
    rename_i es clock hgm
    obtain ⟨obj, r1, ces, rfl, r2⟩ := hr.live m _ imm hgm hmm
    have hgetm := run_getObj_some (P := P) r1 (by intros; simp)
    split at hk
    · cases hk
    rename_i hold
    simp only [] at hk
    have hf := r2.filter (fun n => !seen.contains n)
    have hempty : es.isEmpty = ces.toList.isEmpty := by cases es <;> cases hc : ces.toList <;> rw [hc] at r2 <;> first | rfl | cases r2
    have hall := r2.all (fun n => Nat.ble last n)
    have hcond : (!seen.toArray.isEmpty && !ces.isEmpty && ces.all (fun e => decide (e.born ≥ last))) = false := by
      have : ces.isEmpty = ces.toList.isEmpty := by simp
      rw [this, ← hempty]
      have h2 : ces.all (fun e => decide (e.born ≥ last)) = (ces.toList.all fun e => Nat.ble last e.born) := by
        rw [← Array.all_toList]
        congr 1
        funext e
        rw [Bool.eq_iff_iff]; simp
      rw [h2, ← hall]
      simpa using hold
    split at hk
    · rename_i hl
      rw [hl] at hf
      cases hk
      have hc0 : ces.filter (fun e => !seen.toArray.contains e.born) = #[] := by
        apply Array.ext'
        rw [Array.toList_filter]
        have := hf
        simp only [List.contains_toArray] at *
        cases hx : (List.filter (fun e => !seen.contains e.born) ces.toList) with
        | nil => rfl
        | cons a l => rw [hx] at this; cases this
      refine Good.of_pure hr (cv := .tuple #[.bool false]) ?_ (.tuple _ _ (.cons _ _ _ _ (.bool _) .nil))
      simp only [Instr.next, q0, Nat.add_zero, Sem.run_bind, hget, Result.andThen_ok, hgetm, hcond, Bool.false_eq_true, if_false, hc0]
      simp [Question.forced]
    · rename_i k x born hl
      rw [hl] at hf
      split at hk
      case h_2 => cases hk
      rename_i hborn
      have hborn : born < since := by simpa using hborn
      rw [Heap.putK_eq] at hk
      cases hk
      have hc1 : ∃ ck cv, ces.filter (fun e => !seen.toArray.contains e.born) = #[⟨ck, cv, born⟩] ∧ VRel μ k ck ∧ VRel μ x cv := by
        cases hx : (List.filter (fun e => !seen.contains e.born) ces.toList) with
        | nil => rw [hx] at hf; cases hf
        | cons a l =>
          rw [hx] at hf
          cases hf with
          | cons _ _ _ ck cv _ cl h1 h2 h3 =>
          cases h3
          refine ⟨ck, cv, ?_, h1, h2⟩
          apply Array.ext'
          rw [Array.toList_filter]
          simp only [List.contains_toArray]
          exact hx
      obtain ⟨ck, cv, hc1, hk1, hv1⟩ := hc1
      obtain ⟨c0, c1, c2⟩ := setObj_good (P := P) (o' := .miter (some m) since (seen ++ [born]) clock) (ob' := .mapIter (some imm.blk) since (seen ++ [born]).toArray clock) hr hg hm q1 (by intros; simp) ⟨q0, _, rfl, imm, hmm, rfl⟩
      refine ⟨μ, .tuple #[.bool true, ck, cv], _, ?_, .tuple _ _ (vsrel3 (.bool _) hk1 hv1), c1, c2⟩
      simp only [Instr.next, q0, Nat.add_zero, Sem.run_bind, hget, Result.andThen_ok, hgetm, hcond, Bool.false_eq_true, if_false, hc1]
      simp [Question.forced, hborn, c0]
    · cases hk
  · cases hk

theorem lastOf_eq : ∀ l : List Nat, lastOf l = l.getLast?
  | [] => rfl
  | [n] => rfl
  | _ :: b :: l => by rw [lastOf, lastOf_eq (b :: l), List.getLast?_cons_cons]; exact fun h => by cases h

theorem MRel.find (p : Nat → Bool) : ∀ {es : List (AVal × AVal × Nat)} {ces : List MapEntry} {k v : AVal} {n : Nat}, MRel μ es ces → es.find? (fun e => p e.2.2) = some (k, v, n) →
    ∃ e, ces.find? (fun e => p e.born) = some e ∧ VRel μ k e.key ∧ VRel μ v e.val
  | _, _, _, _, _, .nil, hf => by cases hf
  | _, _, _, _, _, .cons k v born ck cv l cl hk hv hs, hf => by
    simp only [List.find?_cons] at hf ⊢
    split at hf
    · cases hf; exact ⟨_, rfl, hk, hv⟩
    · exact hs.find p hf

theorem entry_good {x : AVal} {cx : Value} (hr : HRel μ h w) (hx : VRel μ x cx) (hk : entryOp x h = .ok v h') : Good P μ h w (Instr.entry cx) v h' := by
  unfold entryOp at hk
  split at hk
  case h_2 => cases hk
  rename_i b
  cases hx with
  | ptr b _ im hm =>
  split at hk
  case h_2 => cases hk
  rename_i m since seen stepped hg
  split at hk
  case h_2 => cases hk
  rename_i stamp es clock hl hgm
  split at hk
  case h_2 => cases hk
  rename_i k x born hc hf
  cases hk
  obtain ⟨obj, q1, q0, m', rfl, q2⟩ := hr.live b _ im hg hm
  cases m' with
  | none => cases q2
  | some r =>
  obtain ⟨imm, hmm, rfl⟩ := q2
  obtain ⟨obj, r1, ces, rfl, r2⟩ := hr.live m _ imm hgm hmm
  have hget := run_getObj_some (P := P) q1 (by intros; simp)
  have hgetm := run_getObj_some (P := P) r1 (by intros; simp)
  obtain ⟨e, e1, e2, e3⟩ := r2.find (fun n => Nat.beq n stamp) hf
  rw [lastOf_eq] at hl
  have hb : seen.toArray.back? = some stamp := by simpa using hl
  have hc : clock = stepped := Nat.eq_of_beq_eq_true hc
  have e1 : ces.find? (fun e => e.born == stamp) = some e := by
    rw [← Array.find?_toList]
    rw [← e1]
    congr 1
    funext e
    rw [Bool.eq_iff_iff]; simp
  refine Good.of_pure hr (cv := .tuple #[e.key, e.val]) ?_ (.tuple _ _ (vsrel2 e2 e3))
  simp [Instr.entry, q0, hget, hgetm, Sem.run_bind, hb, hc, e1]

def LenT (d : TypeDesc) (k : Nat) : Prop := (k = 0 ∧ d = .string) ∨ (k = 1 ∧ ∃ e, d = .slice e) ∨ (k = 2 ∧ ∃ a e, d = .map a e)

theorem len_good {ats : Array TypeId} {t ty : TypeId} {d : TypeDesc} {k : Nat} {x : AVal} {cx : Value} (hr : HRel μ h w) (hx : VRel μ x cx) (h0 : ats[0]? = some t) (hu : P.underlying t = some d)
    (hd : LenT d k) (hk : lenOp k x h = some v) : Good P μ h w (Builtin.len_ ats ty #[cx]) v h := by
  have h1 : (#[cx] : Array Value)[0]? = some cx := rfl
  rcases hd with ⟨rfl, rfl⟩ | ⟨rfl, e, rfl⟩ | ⟨rfl, a, e, rfl⟩
  · unfold lenOp at hk
    cases hx <;> try (simp at hk; done)
    simp only [Option.some.injEq] at hk
    subst hk
    rename_i s _ _ e1 e2
    subst e1
    exact Good.of_pure hr (cv := goInt s.size) (by simp [Builtin.len_, h0, Sem.run_bind, run_underlying hu]) (.int _ _)
  · unfold lenOp at hk
    cases hx <;> try (simp at hk; done)
    · simp only [Option.some.injEq] at hk
      subst hk
      exact Good.of_pure hr (cv := goInt _) (by simp [Builtin.len_, h0, Sem.run_bind, run_underlying hu]) (.int _ _)
    · simp only [Option.some.injEq] at hk
      subst hk
      exact Good.of_pure hr (cv := goInt 0) (by simp [Builtin.len_, h0, Sem.run_bind, run_underlying hu]) (.int _ _)
  · unfold lenOp at hk
    cases hx <;> try (simp at hk; done)
    · rename_i b im hm
      simp only [] at hk
      split at hk
      case h_2 => cases hk
      rename_i es clock hg
      rw [forceN_eq] at hk
      cases hk
      obtain ⟨obj, q1, ces, rfl, q2⟩ := hr.live b _ im hg hm
      have hl : es.length = ces.size := by rw [q2.length]; simp
      rw [hl]
      have hget := run_getObj_some (P := P) q1 (by intros; simp)
      exact Good.of_pure hr (cv := goInt ces.size) (by simp [Builtin.len_, h0, Sem.run_bind, run_underlying hu, hget]) (.int _ _)
    · simp only [Option.some.injEq] at hk
      subst hk
      exact Good.of_pure hr (cv := goInt 0) (by simp [Builtin.len_, h0, Sem.run_bind, run_underlying hu]) (.int _ _)

theorem lenA_good {ats : Array TypeId} {t ty e : TypeId} {n : Nat} {args : Array Value} (ha : ∃ cx, args[0]? = some cx) (hr : HRel μ h w) (h0 : ats[0]? = some t) (hu : P.underlying t = some (.array n e)) : Good P μ h w (Builtin.len_ ats ty args) (.int .i64 (.ofNat n)) h := by
  obtain ⟨cx, ha⟩ := ha
  refine Good.of_pure hr (cv := goInt n) ?_ (.int _ _)
  simp [Builtin.len_, h0, ha, Sem.run_bind, run_underlying hu]

theorem cap_good {ats : Array TypeId} {t ty e : TypeId} {a n : Nat} {l : Option Addr} (hr : HRel μ h w) (h0 : ats[0]? = some t) (hu : P.underlying t = some (.slice e)) : Good P μ h w (Builtin.cap_ ats ty #[.slice l a n]) (.int .i64 (.ofNat n)) h := by
  refine Good.of_pure hr (cv := goInt n) ?_ (.int _ _)
  simp [Builtin.cap_, h0, Sem.run_bind, run_underlying hu]

theorem min_good {ats : Array TypeId} {ty : TypeId} {k j : IntKind} {a b : Int} (hr : HRel μ h w) : Good P μ h w (Builtin.min_ ats ty #[.int k a, .int j b]) (.int k (if b < a then b else a)) h := by
  refine Good.of_pure hr (cv := .int k (if b < a then b else a)) ?_ (.int _ _)
  simp [Builtin.min_, Builtin.min2]

theorem max_good {ats : Array TypeId} {ty : TypeId} {k j : IntKind} {a b : Int} (hr : HRel μ h w) : Good P μ h w (Builtin.max_ ats ty #[.int k a, .int j b]) (.int k (if b > a then b else a)) h := by
  refine Good.of_pure hr (cv := .int k (if b > a then b else a)) ?_ (.int _ _)
  simp [Builtin.max_, Builtin.max2]

end Go.Cg

/- Copies. -/
namespace Go.Cg
variable [Syms]

variable {P : Program} {μ : Mu} {h h' : Heap} {w : World} {v : AVal}

theorem load_run_inv {a : Addr} {x : Value} {w' : World} (hl : (load a).run P w = .ok x w') : w' = w := by
  rw [run_load] at hl
  split at hl
  · cases hl; rfl
  · split at hl
    · cases hl; rfl
    all_goals cases hl

theorem loadCells_prefix (a : Addr) (n : Nat) : ∀ (i : Nat) (acc r : Array Value) (w' : World), (loadCellsFrom a i n acc).run P w = .ok r w' →
    w' = w ∧ ∃ l : List Value, l.length = n ∧ r = acc ++ l.toArray ∧ ∀ k, k ≤ n → ∀ acc', (loadCellsFrom a i k acc').run P w = .ok (acc' ++ (l.take k).toArray) w := by
  induction n with
  | zero =>
    intro i acc r w' h
    cases h
    exact ⟨rfl, [], rfl, by simp, fun k hk acc' => by
      rw [Nat.le_zero.1 hk]; simp [loadCellsFrom]⟩
  | succ n ih =>
    intro i acc r w' h
    simp only [loadCellsFrom, Sem.run_bind] at h
    cases hx : (load (a.add i)).run P w with
    | halt _ _ => rw [hx] at h; cases h
    | ok x w1 =>
      rw [hx] at h
      have := load_run_inv hx
      subst this
      simp only [Result.andThen_ok] at h
      obtain ⟨e1, l, e2, e3, e4⟩ := ih (i + 1) _ _ _ h
      refine ⟨e1, x :: l, by simp [e2], by rw [e3]; simp, fun k hk acc' => ?_⟩
      cases k with
      | zero => simp [loadCellsFrom]
      | succ k =>
        simp only [loadCellsFrom, Sem.run_bind, hx, Result.andThen_ok]
        rw [e4 k (by omega)]
        simp

theorem firstCells_prefix {es n k : Nat} {cx : Value} {cs : List Value} (hf : (Builtin.firstCells es n cx).run P w = .ok cs.toArray w) (hl : cs.length = n * es) (he : ∀ s, cx = .string s → es = 1) (hk : k ≤ n) :
    (Builtin.firstCells es k cx).run P w = .ok (cs.take (k * es)).toArray w := by
  cases cx with
  | slice base len cap =>
    cases base with
    | none =>
      simp only [Builtin.firstCells, Sem.run_pure] at hf ⊢
      injection hf with h1 _
      have : cs = [] := by simpa using (congrArg Array.toList h1).symm
      simp [this]
    | some a =>
      simp only [Builtin.firstCells, loadCells] at hf ⊢
      obtain ⟨_, l, e2, e3, e4⟩ := loadCells_prefix a _ _ _ _ _ hf
      have : cs = l := by simpa using congrArg Array.toList e3
      subst this
      have := e4 (k * es) (Nat.mul_le_mul_right _ hk) #[]
      rw [this]; simp
  | string s =>
    have := he s rfl
    subst this
    simp only [Builtin.firstCells, Sem.run_pure, Nat.mul_one] at hf hl ⊢
    injection hf with h1 _
    have h2 := congrArg Array.toList h1
    simp only [Array.toList_map] at h2
    congr 1
    apply Array.ext'
    simp only [Array.toList_map]
    rw [← h2]
    simp only [← List.map_take]
    congr 1
    simp [List.take_take, Nat.min_eq_left hk]
  | _ => simp [Builtin.firstCells] at hf

theorem RowRel.upTo {es k : Nat} {r : Row} {cs : List Value} (hr : RowRel μ es r cs) (hk : k ≤ r.len) :
    (∀ n l, r = .cells n l → RowRel μ es (.cells k (l.take (k * es))) (cs.take (k * es))) ∧ (∀ n m, r = .bytes n m → RowRel μ es (.bytes k (subStr n m 0 k)) (cs.take (k * es))) := by
  cases hr with
  | cells n l cs hv h1 hl =>
    refine ⟨fun n' l' e => ?_, fun n' m e => (by cases e)⟩
    cases e
    have hle : k * es ≤ n * es := Nat.mul_le_mul_right _ hk
    exact .cells _ _ _ (hv.take _) (fun x hx => h1 x (List.mem_of_mem_take hx)) (by simp; omega)
  | bytes bs he =>
    refine ⟨fun n' l' e => (by cases e), fun n' m e => ?_⟩
    cases e
    subst he
    have hk : k ≤ bs.length := hk
    rw [subStr_eq bs 0 k (Nat.zero_le _) hk]
    have := RowRel.bytes (μ := μ) (es := 1) (bs.take k) rfl
    rw [List.length_take, Nat.min_eq_left hk] at this
    simpa [byteVals] using this

theorem copy_good {ats : Array TypeId} {t e ty : TypeId} {es : Nat} {isByte : Bool} {d s : AVal} {cd cs : Value} (hr : HRel μ h w) (h0 : ats[0]? = some t) (hu : P.underlying t = some (.slice e)) (hs : szOf P e = some es) (hb : isByte = true → es = 1)
    (hd : VRel μ d cd) (hsr : VRel μ s cs) (hk : copyOp es isByte d s h = .ok v h') : Good P μ h w (Builtin.copy_ ats ty #[cd, cs]) v h' := by
  unfold copyOp at hk
  split at hk
  case h_1 => cases hk
  rename_i src hsrc
  obtain ⟨ncs, n1, n2, n3⟩ := rowOf_sound (P := P) hr hb hsr hsrc
  have hlen := n1.length
  have hstr : ∀ s, cs = .string s → es = 1 := by
    intro s' e
    subst e
    cases hsr
    unfold rowOf at hsrc
    simp only [] at hsrc
    split at hsrc
    · rename_i hbt; exact hb hbt
    · cases hsrc
  have hpre : ∀ k, k ≤ src.len → (Builtin.firstCells es k cs).run P w = .ok (ncs.take (k * es)).toArray w := fun k hk => firstCells_prefix (n3 w rfl) hlen hstr hk
  split at hk
  · cases hd
    cases hk
    refine Good.of_pure hr (cv := goInt 0) ?_ (.int _ _)
    have := hpre 0 (Nat.zero_le _)
    simp [Builtin.copy_, h0, Sem.run_bind, run_underlying hu, n2, szOf_run hs, this]
  · rename_i b off len cap es' ex
    split at hk
    · cases hk
    rename_i hes
    have hes := Nat.eq_of_beq_eq_true hes
    subst hes
    have hd' := hd
    cases hd with
    | slice _ _ _ _ _ _ im cap' adr g1 g2 g3 g4 g5 g6 =>
    have run : ∀ (k : Nat) (w' : World), k = Nat.min src.len len → (storeCells adr (ncs.take (k * es)) 0).run P w = .ok () w' → (Builtin.copy_ ats ty #[.slice (some adr) len cap', cs]).run P w = .ok (goInt k) w' := by
      intro k w' e hst
      subst e
      simp [Builtin.copy_, h0, Sem.run_bind, run_underlying hu, n2, szOf_run hs, hpre _ (Nat.min_le_left _ _), hst]
    have fin : ∀ (k : Nat) (r : Row) (o o' : ABlk), k = Nat.min src.len len → RowRel μ es r (ncs.take (k * es)) → r.len = k → h.get b = some o → storeRow o off r = some o' →
        Good P μ h w (Builtin.copy_ ats ty #[.slice (some adr) len cap', cs]) (.int .i64 (.ofNat k)) (h.put b (some o')) := by
      intro k r o o' e hrr hrl hg hst
      have hkl : k ≤ len := by rw [e]; exact Nat.min_le_right _ _
      have hmul : k * es ≤ cap' * es := Nat.mul_le_mul_right _ (by omega)
      obtain ⟨w', q1, q2, q3⟩ := storeRow_sound (P := P) (hr.live b o im hg g1) hrr hst (by rw [hrl]; omega)
      obtain ⟨a, c⟩ := hr.put hg g1 q2.size q2.other q2.os q2.output q2.tape q3
      refine ⟨μ, goInt k, w', run k w' e ?_, .int _ _, a, c⟩
      rcases Nat.eq_zero_or_pos cap' with hc0 | hc0
      · have : ncs.take (k * es) = [] := by
          rw [show k = 0 by omega, Nat.zero_mul, List.take_zero]
        rw [this] at q1 ⊢
        exact q1
      · rw [g6 hc0]; exact q1
    split at hk
    · rename_i n l
      rw [forceN_eq, takeK_eq] at hk
      split at hk
      case isFalse => cases hk
      split at hk
      case h_2 => cases hk
      rename_i o hg
      split at hk
      case h_2 => cases hk
      rename_i o' ho'
      rw [Heap.putK_eq] at hk
      cases hk
      exact fin _ (.cells (Nat.min n len) (l.take (Nat.min n len * es))) o o' rfl ((n1.upTo (Nat.min_le_left _ _)).1 n l rfl) rfl hg ho'
    · rename_i n m
      rw [forceN_eq] at hk
      split at hk
      case h_2 => cases hk
      rename_i o hg
      split at hk
      case h_2 => cases hk
      rename_i o' ho'
      rw [Heap.putK_eq] at hk
      cases hk
      exact fin _ (.bytes (Nat.min n len) (subStr n m 0 (Nat.min n len))) o o' rfl ((n1.upTo (Nat.min_le_left _ _)).2 n m rfl) rfl hg ho'
  · cases hk

theorem clear_good {ats : Array TypeId} {t e ty : TypeId} {es : Nat} {z : List AVal} {x : AVal} {cx : Value} (hr : HRel μ h w) (h0 : ats[0]? = some t) (hu : P.underlying t = some (.slice e)) (hs : szOf P e = some es) (hz : (zeroOf P e).bind cellsO = some z) (hzl : z.length = es)
    (hx : VRel μ x cx) (hk : clearOp es z x h = .ok v h') : Good P μ h w (Builtin.clear_ ats ty #[cx]) v h' := by
  unfold clearOp at hk
  split at hk
  · cases hk
    cases hx
    refine Good.of_pure hr (cv := .tuple #[]) ?_ (.tuple _ _ .nil)
    simp [Builtin.clear_, h0, run_underlying hu]
  · rename_i b off len cap es' ex
    split at hk
    case h_2 => cases hk
    rename_i o hes hg
    have hes := Nat.eq_of_beq_eq_true hes
    subst hes
    split at hk
    case h_2 => cases hk
    rename_i o' ho'
    rw [Heap.putK_eq] at hk
    cases hk
    cases hx with
    | slice _ _ _ _ _ _ im cap' adr g1 g2 g3 g4 g5 g6 =>
    obtain ⟨cz, z1, z2, z3⟩ := zeroCells_run hz w
    have hzs : cz.cells.size = es := by have := (z2 μ).length; simp at this; omega
    obtain ⟨y1, y2⟩ := zeros_rel (len := len) (z2 μ) hzl z3
    have hmul : len * es ≤ cap' * es := Nat.mul_le_mul_right _ (by omega)
    obtain ⟨w', q1, q2, q3⟩ := storeL_sound (P := P) (hr.live b o im hg g1) ho' y1 y2 (fun _ => by rw [repl_length, hzl]; omega)
    obtain ⟨a, c⟩ := hr.put hg g1 q2.size q2.other q2.os q2.output q2.tape q3
    refine ⟨μ, .tuple #[], w', ?_, .tuple _ _ .nil, a, c⟩
    cases len with
    | zero =>
      simp only [Nat.zero_mul] at q1
      have : w' = w := by
        have e : ((Array.range 0).map fun x => cz.cells[x % cz.cells.size]!).toList = [] := by simp
        rw [e] at q1
        cases q1; rfl
      subst this
      simp [Builtin.clear_, h0, run_underlying hu]
    | succ n =>
      have e : Builtin.zeroCells cz.cells (n + 1) = (Array.range ((n + 1) * es)).map fun x => cz.cells[x % cz.cells.size]! := by
        unfold Builtin.zeroCells; rw [hzs]
      rw [← g6 (by omega)] at q1
      have h1 : (#[Value.slice (some adr) (n + 1) cap'] : Array Value)[0]? = some (Value.slice (some adr) (n + 1) cap') := rfl
      simp only [Builtin.clear_, h0, h1, Sem.run_bind]
      rw [run_underlying hu]
      simp only [Result.andThen_ok, Sem.run_bind, z1]
      rw [e]
      simp only [Sem.run_map, Sem.run_bind, q1, Result.andThen_ok, Sem.run_pure, bind_pure_comp, pure_bind]
  · cases hk

end Go.Cg
end
