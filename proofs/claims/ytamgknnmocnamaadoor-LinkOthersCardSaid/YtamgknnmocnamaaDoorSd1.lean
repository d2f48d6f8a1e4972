/- The evaluator is sound: what it gives is what the model gives, whatever the tape. Part 1. No condition. -/
import Derived.Test.YtamgknnmocnamaaDoorEv
import Derived.Calls
import Derived.Orders
import Derived.Laws.World
import Derived.Laws.Sem
import Derived.Laws.Cells
import Derived.Laws.Tables
import Derived.Laws.Append
set_option linter.unusedVariables false
set_option linter.unusedSimpArgs false
set_option linter.unusedSectionVars false
noncomputable section
/- Packed bytes: a list of bytes as one number. -/
namespace Go.Cg

theorem foldl_pack (l : List UInt8) : ∀ a : Nat, l.foldl (fun a b => a * 256 + b.toNat) a = a * 256 ^ l.length + pack l := by
  induction l with
  | nil => intro a; simp [pack]
  | cons b l ih =>
    intro a
    simp only [List.foldl_cons, List.length_cons, pack]
    rw [ih, ih (0 * 256 + b.toNat)]
    simp only [Nat.zero_mul, Nat.zero_add, Nat.pow_succ, Nat.add_mul, Nat.mul_assoc, Nat.add_assoc]
    rw [Nat.mul_comm 256]

theorem pack_nil : pack [] = 0 := rfl
theorem pack_append (l r : List UInt8) : pack (l ++ r) = pack l * 256 ^ r.length + pack r := by
  simp only [pack, List.foldl_append]
  exact foldl_pack r _
theorem pack_cons (b : UInt8) (l : List UInt8) : pack (b :: l) = b.toNat * 256 ^ l.length + pack l := by
  have := pack_append [b] l
  simpa [pack] using this
theorem pack_snoc (l : List UInt8) (b : UInt8) : pack (l ++ [b]) = pack l * 256 + b.toNat := by
  rw [pack_append]; simp [pack]

theorem pack_lt (l : List UInt8) : pack l < 256 ^ l.length := by
  induction l with
  | nil => simp [pack]
  | cons b l ih =>
    rw [pack_cons, List.length_cons, Nat.pow_succ]
    have hb : b.toNat ≤ 255 := by have := b.toNat_lt; omega
    have : b.toNat * 256 ^ l.length ≤ 255 * 256 ^ l.length := Nat.mul_le_mul_right _ hb
    omega

theorem pack_inj : ∀ {l r : List UInt8}, l.length = r.length → pack l = pack r → l = r
  | [], [], _, _ => rfl
  | [], _ :: _, h, _ => by simp at h
  | _ :: _, [], h, _ => by simp at h
  | a :: l, b :: r, h, e => by
    have hl : l.length = r.length := by simpa using h
    rw [pack_cons, pack_cons, hl] at e
    have h1 := pack_lt l
    have h2 := pack_lt r
    rw [hl] at h1
    have hp : 0 < 256 ^ r.length := Nat.pow_pos (by omega)
    have e1 : a.toNat = b.toNat := by
      have x : (a.toNat * 256 ^ r.length + pack l) / 256 ^ r.length = a.toNat := by
        rw [Nat.mul_comm, Nat.mul_add_div hp, Nat.div_eq_of_lt h1, Nat.add_zero]
      have y : (b.toNat * 256 ^ r.length + pack r) / 256 ^ r.length = b.toNat := by
        rw [Nat.mul_comm, Nat.mul_add_div hp, Nat.div_eq_of_lt h2, Nat.add_zero]
      rw [← x, ← y, e]
    have ea : a = b := UInt8.toNat_inj.1 e1
    subst ea
    have : pack l = pack r := by omega
    rw [pack_inj hl this]

theorem pow_8 (n : Nat) : 2 ^ (8 * n) = 256 ^ n := by rw [Nat.pow_mul]

theorem land_255 (n : Nat) : Nat.land n 255 = n % 256 := Nat.and_two_pow_sub_one_eq_mod n 8

theorem shr_8 (n k : Nat) : Nat.shiftRight n (8 * k) = n / 256 ^ k := by
  rw [← pow_8]; exact Nat.shiftRight_eq_div_pow n (8 * k)

theorem shl_8 (n k : Nat) : Nat.shiftLeft n (8 * k) = n * 256 ^ k := by
  rw [← pow_8]; exact Nat.shiftLeft_eq n (8 * k)

/-- A list cut at a place. -/
theorem pack_cut (l : List UInt8) (k : Nat) (h : k ≤ l.length) : pack l = pack (l.take k) * 256 ^ (l.length - k) + pack (l.drop k) := by
  have := pack_append (l.take k) (l.drop k)
  rw [List.take_append_drop] at this
  rw [this, List.length_drop]

theorem pack_div (l : List UInt8) (k : Nat) (h : k ≤ l.length) : pack l / 256 ^ (l.length - k) = pack (l.take k) := by
  rw [pack_cut l k h]
  have hp : 0 < 256 ^ (l.length - k) := Nat.pow_pos (by omega)
  have h1 := pack_lt (l.drop k)
  rw [List.length_drop] at h1
  rw [Nat.mul_comm, Nat.mul_add_div hp, Nat.div_eq_of_lt h1, Nat.add_zero]

theorem pack_mod (l : List UInt8) (k : Nat) (_h : k ≤ l.length) : pack l % 256 ^ (l.length - k) = pack (l.drop k) := by
  rw [pack_cut l k _h]
  have h1 := pack_lt (l.drop k)
  rw [List.length_drop] at h1
  rw [Nat.mul_comm, Nat.mul_add_mod, Nat.mod_eq_of_lt h1]

theorem byteAt_eq {l : List UInt8} {i : Nat} {b : UInt8} (h : l[i]? = some b) : byteAt l.length (pack l) i = b.toNat := by
  have hi : i < l.length := by
    rcases Nat.lt_or_ge i l.length with h' | h'
    · exact h'
    · rw [List.getElem?_eq_none h'] at h; cases h
  unfold byteAt
  rw [land_255, shr_8, show l.length - 1 - i = l.length - (i + 1) by omega, pack_div l (i + 1) (by omega)]
  have : l.take (i + 1) = l.take i ++ [b] := by
    rw [List.take_add_one, h]; rfl
  rw [this, pack_snoc]
  have := b.toNat_lt
  omega

theorem subStr_eq (l : List UInt8) (lo hi : Nat) (h1 : lo ≤ hi) (h2 : hi ≤ l.length) : subStr l.length (pack l) lo hi = pack ((l.drop lo).take (hi - lo)) := by
  unfold subStr
  rw [shr_8, pow_8, pack_div l hi h2]
  have hl : (l.take hi).length = hi := by simp; omega
  have := pack_mod (l.take hi) lo (by omega)
  rw [hl] at this
  rw [this, List.drop_take]

theorem catStr_eq (l r : List UInt8) : catStr (pack l) (pack r) r.length = pack (l ++ r) := by
  unfold catStr
  rw [shl_8, pack_append]

theorem setByte_eq {l : List UInt8} {i : Nat} (b : UInt8) (h : i < l.length) : setByte l.length (pack l) i b.toNat = pack (l.set i b) := by
  unfold setByte
  have hx : l[i]? = some l[i] := List.getElem?_eq_getElem h
  rw [byteAt_eq hx, shl_8, shl_8]
  have h1 : pack l = pack (l.take i) * 256 ^ (l.length - i) + (l[i].toNat * 256 ^ (l.length - 1 - i) + pack (l.drop (i + 1))) := by
    rw [pack_cut l i (by omega)]
    congr 1
    rw [List.drop_eq_getElem_cons h, pack_cons, List.length_drop]
    congr 3
    omega
  have h2 : pack (l.set i b) = pack (l.take i) * 256 ^ (l.length - i) + (b.toNat * 256 ^ (l.length - 1 - i) + pack (l.drop (i + 1))) := by
    have e : l.set i b = l.take i ++ b :: l.drop (i + 1) := by
      rw [List.set_eq_take_append_cons_drop, if_pos h]
    rw [e, pack_append, pack_cons, List.length_cons, List.length_drop]
    congr 2
    · congr 1; omega
    · congr 2; omega
  rw [h1, h2]
  omega

theorem bytesTo_rec : ∀ (len n : Nat) (acc : List AVal),
    Nat.rec (motive := fun _ => Nat → List AVal → List AVal) (fun _ acc => acc)
      (fun _ ih n acc => forceN (Nat.land n 255) fun b => forceN (Nat.shiftRight n 8) fun n => ih n (.int .u8 (.ofNat b) :: acc)) len n acc =
    bytesTo len n ++ acc := by
  intro len
  induction len with
  | zero => intro n acc; rfl
  | succ len ih =>
    intro n acc
    have h : bytesTo (len + 1) n = Nat.rec (motive := fun _ => Nat → List AVal → List AVal) (fun _ acc => acc)
      (fun _ ih n acc => forceN (Nat.land n 255) fun b => forceN (Nat.shiftRight n 8) fun n => ih n (.int .u8 (.ofNat b) :: acc)) len (Nat.shiftRight n 8) [.int .u8 (.ofNat (Nat.land n 255))] := by
      unfold bytesTo; simp only [forceN_eq]
    simp only [forceN_eq]
    simp only [forceN_eq] at h
    rw [h]
    have e1 := ih (Nat.shiftRight n 8) (.int .u8 (.ofNat (Nat.land n 255)) :: acc)
    have e2 := ih (Nat.shiftRight n 8) [.int .u8 (.ofNat (Nat.land n 255))]
    simp only [forceN_eq] at e1 e2
    rw [e1, e2]; simp

theorem bytesTo_eq (l : List UInt8) : bytesTo l.length (pack l) = l.map fun b => AVal.int .u8 (b.toNat : Int) := by
  suffices h : ∀ (n : Nat) (l : List UInt8), l.length = n → bytesTo l.length (pack l) = l.map fun b => AVal.int .u8 (b.toNat : Int) from h _ l rfl
  intro n
  induction n with
  | zero => intro l hl; have : l = [] := List.length_eq_zero_iff.1 hl; subst this; rfl
  | succ n ih =>
    intro l hl
    obtain ⟨r, b, rfl⟩ : ∃ r b, l = r ++ [b] := by
      have hne : l ≠ [] := by intro e; subst e; simp at hl
      exact ⟨l.dropLast, l.getLast hne, (List.dropLast_concat_getLast hne).symm⟩
    have hr : r.length = n := by simpa using hl
    have h : bytesTo (r.length + 1) (pack (r ++ [b])) = bytesTo r.length (Nat.shiftRight (pack (r ++ [b])) 8) ++ [.int .u8 (.ofNat (Nat.land (pack (r ++ [b])) 255))] := by
      have := bytesTo_rec r.length (Nat.shiftRight (pack (r ++ [b])) 8) [.int .u8 (.ofNat (Nat.land (pack (r ++ [b])) 255))]
      rw [← this]; unfold bytesTo; simp only [forceN_eq]
    rw [List.length_append, List.length_singleton, h]
    have e1 : Nat.shiftRight (pack (r ++ [b])) 8 = pack r := by
      have := shr_8 (pack (r ++ [b])) 1
      rw [Nat.mul_one] at this
      rw [this, pack_snoc]
      have := b.toNat_lt
      omega
    have e2 : Nat.land (pack (r ++ [b])) 255 = b.toNat := by
      rw [land_255, pack_snoc]
      have := b.toNat_lt
      omega
    rw [e1, e2, ih r hr]
    simp

theorem strEq_eq (l r : List UInt8) : strEq l.length (pack l) r.length (pack r) = decide (l = r) := by
  unfold strEq
  by_cases h : l.length = r.length
  · rw [show Nat.beq l.length r.length = true from by rw [h]; exact Nat.beq_refl _]
    simp only
    by_cases e : l = r
    · subst e; simp
    · rw [decide_eq_false e]
      cases hb : Nat.beq (pack l) (pack r) with
      | false => rfl
      | true => exact absurd (pack_inj h (Nat.eq_of_beq_eq_true hb)) e
  · have : Nat.beq l.length r.length = false := by
      cases hb : Nat.beq l.length r.length with
      | false => rfl
      | true => exact absurd (Nat.eq_of_beq_eq_true hb) h
    rw [this]
    exact (decide_eq_false fun e => h (by rw [e])).symm

end Go.Cg

/- What the evaluator's values and heap say of the model's: the relations. -/
namespace Go.Cg

structure Img where
  blk : Nat
  base : Nat
  size : Nat

abbrev Mu := Pos → Option Img

/-- The numbers that symbols stand for. -/
class Syms where
  val : Nat → Int

variable [Syms]

mutual
inductive VRel (μ : Mu) : AVal → Value → Prop where
  | bool (b : Bool) : VRel μ (.bool b) (.bool b)
  | int (k : IntKind) (n : Int) : VRel μ (.int k n) (.int k n)
  | str (s : ByteArray) (len n : Nat) (hl : s.size = len) (hn : pack s.data.toList = n) : VRel μ (.str len n) (.string s)
  | ptr (b : Pos) (off : Nat) (im : Img) (h : μ b = some im) : VRel μ (.ptr b off) (.pointer (some ⟨im.blk, im.base + off, none⟩))
  | nilptr : VRel μ .nilptr (.pointer none)
  | slice (b : Pos) (off len cap es : Nat) (ex : Bool) (im : Img) (cap' : Nat) (adr : Addr) (h : μ b = some im) (hlen : len ≤ cap) (hcap : cap ≤ cap')
      (hex : ex = true → cap' = cap) (hsz : im.base + off + cap' * es ≤ im.size) (hadr : 0 < cap' → adr = ⟨im.blk, im.base + off, none⟩) :
      VRel μ (.slice b off len cap es ex) (.slice (some adr) len cap')
  | nilslice : VRel μ .nilslice (.slice none 0 0)
  | map (b : Pos) (im : Img) (h : μ b = some im) : VRel μ (.map b) (.map (some im.blk))
  | nilmap : VRel μ .nilmap (.map none)
  | func (f : Pos) (first captured : List AVal) (cf cc : Array Value) (hf : VsRel μ first cf.toList) (hc : VsRel μ captured cc.toList) :
      VRel μ (.func f first captured) (.func (.func (f.nat - 1)) cf cc)
  | nilfunc : VRel μ .nilfunc .nilFunc
  | iface (t : TypeId) (v : AVal) (cv : Value) (h : VRel μ v cv) : VRel μ (.iface t v) (.iface t cv)
  | nilIface : VRel μ .nilIface .nilIface
  | agg (l : List AVal) (c : Array Value) (h : VsRel μ l c.toList) (hc : ∀ v ∈ c.toList, v.oneCell' = true) : VRel μ (.agg l) (.agg c)
  | tuple (l : List AVal) (c : Array Value) (h : VsRel μ l c.toList) : VRel μ (.tuple l) (.tuple c)
  | sym (i : Nat) : VRel μ (.sym i) (.int .i64 (Syms.val i))
inductive VsRel (μ : Mu) : List AVal → List Value → Prop where
  | nil : VsRel μ [] []
  | cons (v : AVal) (cv : Value) (l : List AVal) (cl : List Value) (h : VRel μ v cv) (hs : VsRel μ l cl) : VsRel μ (v :: l) (cv :: cl)
end

def Mu.le (μ μ' : Mu) : Prop := ∀ b im, μ b = some im → μ' b = some im
theorem Mu.le_refl (μ : Mu) : Mu.le μ μ := fun _ _ h => h
theorem Mu.le_trans {a b c : Mu} (h : Mu.le a b) (h' : Mu.le b c) : Mu.le a c := fun _ _ x => h' _ _ (h _ _ x)

mutual
theorem VRel.mono {μ μ' : Mu} (hm : Mu.le μ μ') : ∀ {v : AVal} {c : Value}, VRel μ v c → VRel μ' v c
  | _, _, .bool b => .bool b
  | _, _, .int k n => .int k n
  | _, _, .str s len n hl hn => .str s len n hl hn
  | _, _, .ptr b off im h => .ptr b off im (hm _ _ h)
  | _, _, .nilptr => .nilptr
  | _, _, .slice b off len cap es ex im cap' adr h h1 h2 h3 h4 h5 => .slice b off len cap es ex im cap' adr (hm _ _ h) h1 h2 h3 h4 h5
  | _, _, .nilslice => .nilslice
  | _, _, .map b im h => .map b im (hm _ _ h)
  | _, _, .nilmap => .nilmap
  | _, _, .func f a b cf cc hf hc => .func f a b cf cc (hf.mono hm) (hc.mono hm)
  | _, _, .nilfunc => .nilfunc
  | _, _, .iface t v cv h => .iface t v cv (h.mono hm)
  | _, _, .nilIface => .nilIface
  | _, _, .agg l c h hc => .agg l c (h.mono hm) hc
  | _, _, .tuple l c h => .tuple l c (h.mono hm)
  | _, _, .sym i => .sym i
theorem VsRel.mono {μ μ' : Mu} (hm : Mu.le μ μ') : ∀ {l : List AVal} {c : List Value}, VsRel μ l c → VsRel μ' l c
  | _, _, .nil => .nil
  | _, _, .cons v cv l cl h hs => .cons v cv l cl (h.mono hm) (hs.mono hm)
end

theorem VsRel.length {μ : Mu} : ∀ {l : List AVal} {c : List Value}, VsRel μ l c → l.length = c.length
  | _, _, .nil => rfl
  | _, _, .cons _ _ _ _ _ hs => by simp [hs.length]

theorem VsRel.get {μ : Mu} : ∀ {l : List AVal} {c : List Value}, VsRel μ l c → ∀ {i : Nat} {v : AVal}, l[i]? = some v → ∃ cv, c[i]? = some cv ∧ VRel μ v cv
  | _, _, .nil, i, v, h => by simp at h
  | _, _, .cons v cv l cl hv hs, 0, w, h => ⟨cv, rfl, by simp at h; subst h; exact hv⟩
  | _, _, .cons v cv l cl hv hs, i + 1, w, h => by
    obtain ⟨c, h1, h2⟩ := hs.get (i := i) (v := w) (by simpa using h)
    exact ⟨c, by simpa using h1, h2⟩

theorem VsRel.of_get {μ : Mu} : ∀ {l : List AVal} {c : List Value}, l.length = c.length → (∀ (i : Nat) (v : AVal), l[i]? = some v → ∃ cv, c[i]? = some cv ∧ VRel μ v cv) → VsRel μ l c
  | [], [], _, _ => .nil
  | [], _ :: _, h, _ => by simp at h
  | _ :: _, [], h, _ => by simp at h
  | v :: l, cv :: cl, hl, h => by
    obtain ⟨c, h1, h2⟩ := h 0 v rfl
    simp at h1; subst h1
    exact .cons v cv l cl h2 (VsRel.of_get (by simpa using hl) fun i w hw => by
      obtain ⟨c, h1, h2⟩ := h (i + 1) w (by simpa using hw)
      exact ⟨c, by simpa using h1, h2⟩)

theorem VsRel.append {μ : Mu} : ∀ {l : List AVal} {c : List Value} {l' : List AVal} {c' : List Value}, VsRel μ l c → VsRel μ l' c' → VsRel μ (l ++ l') (c ++ c')
  | _, _, _, _, .nil, h => h
  | _, _, _, _, .cons v cv l cl hv hs, h => .cons v cv _ _ hv (hs.append h)

theorem VsRel.take {μ : Mu} : ∀ {l : List AVal} {c : List Value} (n : Nat), VsRel μ l c → VsRel μ (l.take n) (c.take n)
  | _, _, 0, _ => .nil
  | _, _, _ + 1, .nil => .nil
  | _, _, n + 1, .cons v cv _ _ hv hs => .cons v cv _ _ hv (hs.take n)

theorem VsRel.drop {μ : Mu} : ∀ {l : List AVal} {c : List Value} (n : Nat), VsRel μ l c → VsRel μ (l.drop n) (c.drop n)
  | _, _, 0, h => h
  | _, _, _ + 1, .nil => .nil
  | _, _, n + 1, .cons _ _ _ _ _ hs => hs.drop n

theorem VRel.cells {μ : Mu} {v : AVal} {c : Value} {l : List AVal} (h : VRel μ v c) (hl : cellsO v = some l) :
    VsRel μ l c.cells.toList ∧ ∀ x ∈ c.cells.toList, x.oneCell' = true := by
  cases h with
  | agg l' c hs hc => cases hl; exact ⟨hs, hc⟩
  | tuple l' c hs => cases hl
  | bool b => cases hl; exact ⟨.cons _ _ _ _ (.bool b) .nil, by simp [Value.cells, Value.oneCell']⟩
  | int k n => cases hl; exact ⟨.cons _ _ _ _ (.int k n) .nil, by simp [Value.cells, Value.oneCell']⟩
  | str s len n h1 h2 => cases hl; exact ⟨.cons _ _ _ _ (.str s len n h1 h2) .nil, by simp [Value.cells, Value.oneCell']⟩
  | ptr b off im h => cases hl; exact ⟨.cons _ _ _ _ (.ptr b off im h) .nil, by simp [Value.cells, Value.oneCell']⟩
  | nilptr => cases hl; exact ⟨.cons _ _ _ _ .nilptr .nil, by simp [Value.cells, Value.oneCell']⟩
  | slice b off len cap es ex im cap' adr h h1 h2 h3 h4 h5 => cases hl; exact ⟨.cons _ _ _ _ (.slice b off len cap es ex im cap' adr h h1 h2 h3 h4 h5) .nil, by simp [Value.cells, Value.oneCell']⟩
  | nilslice => cases hl; exact ⟨.cons _ _ _ _ .nilslice .nil, by simp [Value.cells, Value.oneCell']⟩
  | map b im h => cases hl; exact ⟨.cons _ _ _ _ (.map b im h) .nil, by simp [Value.cells, Value.oneCell']⟩
  | nilmap => cases hl; exact ⟨.cons _ _ _ _ .nilmap .nil, by simp [Value.cells, Value.oneCell']⟩
  | func f a b cf cc h1 h2 => cases hl; exact ⟨.cons _ _ _ _ (.func f a b cf cc h1 h2) .nil, by simp [Value.cells, Value.oneCell']⟩
  | nilfunc => cases hl; exact ⟨.cons _ _ _ _ .nilfunc .nil, by simp [Value.cells, Value.oneCell']⟩
  | iface t v cv h => cases hl; exact ⟨.cons _ _ _ _ (.iface t v cv h) .nil, by simp [Value.cells, Value.oneCell']⟩
  | nilIface => cases hl; exact ⟨.cons _ _ _ _ .nilIface .nil, by simp [Value.cells, Value.oneCell']⟩
  | sym i => cases hl; exact ⟨.cons _ _ _ _ (.sym i) .nil, by simp [Value.cells, Value.oneCell']⟩

/-! ### Blocks -/
inductive MRel (μ : Mu) : List (AVal × AVal × Nat) → List MapEntry → Prop where
  | nil : MRel μ [] []
  | cons (k v : AVal) (born : Nat) (ck cv : Value) (l : List (AVal × AVal × Nat)) (cl : List MapEntry) (hk : VRel μ k ck) (hv : VRel μ v cv) (hs : MRel μ l cl) :
      MRel μ ((k, v, born) :: l) (⟨ck, cv, born⟩ :: cl)

theorem MRel.mono {μ μ' : Mu} (hm : Mu.le μ μ') : ∀ {l : List (AVal × AVal × Nat)} {c : List MapEntry}, MRel μ l c → MRel μ' l c
  | _, _, .nil => .nil
  | _, _, .cons k v born ck cv l cl hk hv hs => .cons k v born ck cv l cl (hk.mono hm) (hv.mono hm) (hs.mono hm)

def MiRel (μ : Mu) : Option Pos → Option Nat → Prop
  | none, none => True
  | some b, some r => ∃ im, μ b = some im ∧ im.blk = r
  | _, _ => False

/-- What a block of the heap says of an object. -/
def ORel (μ : Mu) (im : Img) (o : ABlk) (obj : Obj) : Prop :=
  match o with
  | .cells vs => ∃ c elem fr, obj = .cells c elem fr ∧ c.size = im.size ∧ im.base + vs.length ≤ c.size ∧ fr.1 = fr.2 ∧
      ∀ i v, vs[i]? = some v → ∃ cv, c[im.base + i]? = some cv ∧ VRel μ v cv ∧ cv.oneCell' = true
  | .bytes len n => ∃ c elem fr l, obj = .cells c elem fr ∧ c.size = im.size ∧ im.base + len ≤ c.size ∧ (fr.1 = fr.2 ∨ c.size ≤ fr.1) ∧
      l.length = len ∧ pack l = n ∧ ∀ (i : Nat) (b : UInt8), l[i]? = some b → c[im.base + i]? = some (.int .u8 b.toNat)
  | .map es clock => ∃ ces, obj = .map ces clock ∧ MRel μ es ces.toList
  | .siter len n pos => im.base = 0 ∧ ∃ s, obj = .stringIter s pos ∧ s.size = len ∧ pack s.data.toList = n
  | .miter m since seen stepped => im.base = 0 ∧ ∃ m', obj = .mapIter m' since seen.toArray stepped ∧ MiRel μ m m'

theorem ORel.mono {μ μ' : Mu} (hm : Mu.le μ μ') {im : Img} {o : ABlk} {obj : Obj} (h : ORel μ im o obj) : ORel μ' im o obj := by
  cases o with
  | cells vs =>
    obtain ⟨c, e, fr, h1, h2, h3, h4, h5⟩ := h
    exact ⟨c, e, fr, h1, h2, h3, h4, fun i v hv => let ⟨cv, a, b, d⟩ := h5 i v hv; ⟨cv, a, b.mono hm, d⟩⟩
  | bytes len n => exact h
  | map es clock => obtain ⟨ces, h1, h2⟩ := h; exact ⟨ces, h1, h2.mono hm⟩
  | siter len n pos => exact h
  | miter m since seen stepped =>
    obtain ⟨h0, m', h1, h2⟩ := h
    refine ⟨h0, m', h1, ?_⟩
    cases m <;> cases m' <;> simp only [MiRel] at h2 ⊢
    obtain ⟨im, h3, h4⟩ := h2
    exact ⟨im, hm _ _ h3, h4⟩

def BRel (μ : Mu) (w : World) (im : Img) (o : ABlk) : Prop := ∃ obj, w.heap[im.blk]? = some obj ∧ ORel μ im o obj

def Heap.next : Heap → Pos
  | .mk n _ => n

structure HRel (μ : Mu) (h : Heap) (w : World) : Prop where
  live : ∀ b o im, h.get b = some o → μ b = some im → BRel μ w im o
  inj : ∀ b b' o o' im im', h.get b = some o → h.get b' = some o' → μ b = some im → μ b' = some im' → im.blk = im'.blk → b = b'
  bound : ∀ b im, μ b = some im → im.blk < w.heap.size
  scope : ∀ b o, h.get b = some o → b.nat < h.next.nat

def Fresh (μ : Mu) (h h' : Heap) : Prop := ∀ b : Pos, h.next.nat ≤ b.nat → b.nat < h'.next.nat → μ b = none

structure Ext (μ : Mu) (h : Heap) (w : World) (μ' : Mu) (h' : Heap) (w' : World) : Prop where
  mono : Mu.le μ μ'
  newid : ∀ b im, μ' b = some im → μ b = none → h.next.nat ≤ b.nat ∧ b.nat < h'.next.nat
  next : h.next.nat ≤ h'.next.nat
  hsize : w.heap.size ≤ w'.heap.size
  frame : ∀ β, β < w.heap.size → (∀ b o im, h.get b = some o → μ b = some im → im.blk ≠ β) → w'.heap[β]? = w.heap[β]?
  aframe : ∀ b o, h.get b = some o → μ b = none → h'.get b = some o
  own : ∀ b' o' im', h'.get b' = some o' → μ' b' = some im' → im'.blk < w.heap.size → ∃ b o im, h.get b = some o ∧ μ b = some im ∧ im.blk = im'.blk
  os : w'.os = w.os
  output : w'.output = w.output
  tape : w'.tape = w.tape

theorem Ext.refl {μ : Mu} {h : Heap} {w w' : World} (he : w'.heap = w.heap) (ho : w'.os = w.os) (hout : w'.output = w.output) (ht : w'.tape = w.tape) : Ext μ h w μ h w' where
  mono := Mu.le_refl μ
  newid := fun b im h1 h2 => by rw [h1] at h2; cases h2
  next := Nat.le_refl _
  hsize := by rw [he]; exact Nat.le_refl _
  frame := fun β _ _ => by rw [he]
  aframe := fun _ _ h _ => h
  own := fun b o im h1 h2 _ => ⟨b, o, im, h1, h2, rfl⟩
  os := ho
  output := hout
  tape := ht

theorem Ext.trans {μ μ1 μ2 : Mu} {h h1 h2 : Heap} {w w1 w2 : World} (hr : HRel μ h w) (a : Ext μ h w μ1 h1 w1) (b : Ext μ1 h1 w1 μ2 h2 w2) : Ext μ h w μ2 h2 w2 where
  mono := Mu.le_trans a.mono b.mono
  newid := fun p im x y => by
    cases hp : μ1 p with
    | none => have := b.newid p im x hp; exact ⟨Nat.le_trans a.next this.1, this.2⟩
    | some im1 => have := a.newid p im1 hp y; exact ⟨this.1, Nat.lt_of_lt_of_le this.2 b.next⟩
  next := Nat.le_trans a.next b.next
  hsize := Nat.le_trans a.hsize b.hsize
  frame := fun β hb hn => by
    rw [← a.frame β hb hn]
    refine b.frame β (Nat.lt_of_lt_of_le hb a.hsize) fun p o im x y e => ?_
    obtain ⟨p0, o0, im0, x0, y0, e0⟩ := a.own p o im x y (by rw [e]; exact hb)
    exact hn p0 o0 im0 x0 y0 (e0.trans e)
  aframe := fun p o x y => by
    refine b.aframe p o (a.aframe p o x y) ?_
    cases hp : μ1 p with
    | none => rfl
    | some im1 =>
      have h1 := (a.newid p im1 hp y).1
      have h2 := hr.scope p o x
      omega
  own := fun p o im x y e => by
    obtain ⟨p1, o1, im1, x1, y1, e1⟩ := b.own p o im x y (Nat.lt_of_lt_of_le e a.hsize)
    obtain ⟨p0, o0, im0, x0, y0, e0⟩ := a.own p1 o1 im1 x1 y1 (by rw [e1]; exact e)
    exact ⟨p0, o0, im0, x0, y0, e0.trans e1⟩
  os := b.os.trans a.os
  output := b.output.trans a.output
  tape := b.tape.trans a.tape

theorem Fresh.left {μ : Mu} {h h1 h2 : Heap} (f : Fresh μ h h2) (le : h1.next.nat ≤ h2.next.nat) : Fresh μ h h1 :=
  fun b x y => f b x (Nat.lt_of_lt_of_le y le)

theorem Fresh.right {μ μ1 : Mu} {h h1 h2 : Heap} {w w1 : World} (f : Fresh μ h h2) (e : Ext μ h w μ1 h1 w1) : Fresh μ1 h1 h2 := fun b x y => by
  cases hb : μ1 b with
  | none => rfl
  | some im =>
    have h0 : μ b = none := f b (Nat.le_trans e.next x) y
    have := (e.newid b im hb h0).2
    omega

/-! ### The evaluator's heap -/
@[simp] theorem Heap.get_mk (b : Pos) (n : Pos) (t : Tr ABlk) : (Heap.mk n t).get b = Tr.get b t := rfl
@[simp] theorem Heap.next_mk (n : Pos) (t : Tr ABlk) : (Heap.mk n t).next = n := rfl

def Heap.put (b : Pos) (o : Option ABlk) : Heap → Heap
  | .mk n t => .mk n (Tr.put o b t)

def Heap.new (o : ABlk) : Heap → Heap
  | .mk n t => .mk n.succ (Tr.put (some o) n t)

theorem Heap.putK_eq {β : Type} (b : Pos) (o : Option ABlk) (h : Heap) (k : Heap → β) : Heap.putK b o h k = k (h.put b o) := by
  cases h; exact Tr.putK_eq _ _ _ _

theorem Heap.newK_eq {β : Type} (o : ABlk) (h : Heap) (k : Pos → Heap → β) : Heap.newK o h k = k h.next (h.new o) := by
  cases h with
  | mk n t =>
    show Tr.putK (some o) n t (fun t' => Pos.succK n fun n' => k n (.mk n' t')) = _
    rw [Tr.putK_eq, Pos.succK_eq]; rfl

theorem Heap.get_put_same (b : Pos) (o : Option ABlk) (h : Heap) : (h.put b o).get b = o := by cases h; exact Tr.get_put_same _ _ _
theorem Heap.get_put_other {b c : Pos} (o : Option ABlk) (h : Heap) (hn : b ≠ c) : (h.put b o).get c = h.get c := by cases h; exact Tr.get_put_other _ _ _ _ hn
theorem Heap.get_new_same (o : ABlk) (h : Heap) : (h.new o).get h.next = some o := by cases h; exact Tr.get_put_same _ _ _
theorem Heap.get_new_other {c : Pos} (o : ABlk) (h : Heap) (hn : h.next ≠ c) : (h.new o).get c = h.get c := by cases h; exact Tr.get_put_other _ _ _ _ hn
@[simp] theorem Heap.next_put (b : Pos) (o : Option ABlk) (h : Heap) : (h.put b o).next = h.next := by cases h; rfl
@[simp] theorem Heap.next_new (o : ABlk) (h : Heap) : (h.new o).next = h.next.succ := by cases h; rfl

/-! ### A new block -/
def Mu.add (μ : Mu) (b : Pos) (im : Img) : Mu := fun c => if c = b then some im else μ c

theorem Mu.le_add {μ : Mu} {b : Pos} (im : Img) (h : μ b = none) : Mu.le μ (μ.add b im) := fun c i hc => by
  unfold Mu.add
  by_cases e : c = b
  · subst e; rw [h] at hc; cases hc
  · simp [e, hc]

theorem Mu.add_same (μ : Mu) (b : Pos) (im : Img) : μ.add b im b = some im := by simp [Mu.add]
theorem Mu.add_other {μ : Mu} {b c : Pos} (im : Img) (h : c ≠ b) : μ.add b im c = μ c := by simp [Mu.add, h]

theorem heap_push_old {hp : Array Obj} {o : Obj} {i : Nat} (h : i < hp.size) : (hp.push o)[i]? = hp[i]? := by
  rw [Array.getElem?_push]; simp [Nat.ne_of_lt h]

/-- A world whose heap has one object more. -/
theorem HRel.new {μ : Mu} {h : Heap} {w w' : World} {o : ABlk} {obj : Obj} {size : Nat} (hr : HRel μ h w) (hf : μ h.next = none)
    (he : w'.heap = w.heap.push obj) (ho : w'.os = w.os) (hout : w'.output = w.output) (ht : w'.tape = w.tape)
    (hrel : ORel (μ.add h.next ⟨w.heap.size, 0, size⟩) ⟨w.heap.size, 0, size⟩ o obj) :
    HRel (μ.add h.next ⟨w.heap.size, 0, size⟩) (h.new o) w' ∧ Ext μ h w (μ.add h.next ⟨w.heap.size, 0, size⟩) (h.new o) w' := by
  have hle := Mu.le_add ⟨w.heap.size, 0, size⟩ hf
  constructor
  · constructor
    · intro b o' im hb hm
      by_cases e : b = h.next
      · subst e
        rw [Heap.get_new_same] at hb; rw [Mu.add_same] at hm
        cases hb; cases hm
        exact ⟨obj, by rw [he]; simp, hrel⟩
      · rw [Heap.get_new_other o h (Ne.symm e)] at hb; rw [Mu.add_other _ e] at hm
        obtain ⟨ob, h1, h2⟩ := hr.live b o' im hb hm
        exact ⟨ob, by rw [he, heap_push_old (hr.bound b im hm)]; exact h1, h2.mono hle⟩
    · intro b b' o1 o2 im im' h1 h2 m1 m2 hbl
      by_cases e : b = h.next
      · by_cases e' : b' = h.next
        · rw [e, e']
        · subst e
          rw [Mu.add_same] at m1; rw [Mu.add_other _ e'] at m2
          cases m1
          have := hr.bound b' im' m2
          simp at hbl; omega
      · by_cases e' : b' = h.next
        · subst e'
          rw [Mu.add_same] at m2; rw [Mu.add_other _ e] at m1
          cases m2
          have := hr.bound b im m1
          simp at hbl; omega
        · rw [Heap.get_new_other o h (Ne.symm e)] at h1; rw [Heap.get_new_other o h (Ne.symm e')] at h2
          rw [Mu.add_other _ e] at m1; rw [Mu.add_other _ e'] at m2
          exact hr.inj b b' o1 o2 im im' h1 h2 m1 m2 hbl
    · intro b im hm
      rw [he]; simp only [Array.size_push]
      by_cases e : b = h.next
      · subst e; rw [Mu.add_same] at hm; cases hm; simp
      · rw [Mu.add_other _ e] at hm; have := hr.bound b im hm; omega
    · intro b o' hb
      rw [Heap.next_new, Pos.nat_succ]
      by_cases e : b = h.next
      · subst e; omega
      · rw [Heap.get_new_other o h (Ne.symm e)] at hb
        have := hr.scope b o' hb; omega
  · constructor
    · exact hle
    · intro b im h1 h2
      rw [Heap.next_new, Pos.nat_succ]
      by_cases e : b = h.next
      · subst e; exact ⟨Nat.le_refl _, Nat.lt_succ_self _⟩
      · rw [Mu.add_other _ e, h2] at h1; cases h1
    · rw [Heap.next_new, Pos.nat_succ]; exact Nat.le_succ _
    · rw [he]; simp
    · intro β hb _
      rw [he]; exact heap_push_old hb
    · intro b o' h1 h2
      by_cases e : b = h.next
      · subst e; have := hr.scope _ _ h1; omega
      · rw [Heap.get_new_other o h (Ne.symm e)]; exact h1
    · intro b o' im h1 h2 h3
      by_cases e : b = h.next
      · subst e; rw [Mu.add_same] at h2; cases h2; simp at h3
      · rw [Heap.get_new_other o h (Ne.symm e)] at h1; rw [Mu.add_other _ e] at h2
        exact ⟨b, o', im, h1, h2, rfl⟩
    · exact ho
    · exact hout
    · exact ht

/-- A block that is written: its object, and nothing else, is another one. -/
theorem HRel.put {μ : Mu} {h : Heap} {w w' : World} {b : Pos} {o o' : ABlk} {im : Img} (hr : HRel μ h w) (hb : h.get b = some o) (hm : μ b = some im)
    (hsz : w'.heap.size = w.heap.size) (hother : ∀ β, β ≠ im.blk → w'.heap[β]? = w.heap[β]?) (ho : w'.os = w.os) (hout : w'.output = w.output) (ht : w'.tape = w.tape)
    (hrel : BRel μ w' im o') : HRel μ (h.put b (some o')) w' ∧ Ext μ h w μ (h.put b (some o')) w' := by
  constructor
  · constructor
    · intro c x im' hc hm'
      by_cases e : c = b
      · subst e
        rw [Heap.get_put_same] at hc; rw [hm] at hm'
        cases hc; cases hm'
        exact hrel
      · rw [Heap.get_put_other _ _ (Ne.symm e)] at hc
        obtain ⟨ob, h1, h2⟩ := hr.live c x im' hc hm'
        refine ⟨ob, ?_, h2⟩
        rw [hother _ fun e' => e (hr.inj c b x o im' im hc hb hm' hm e')]; exact h1
    · intro c c' x x' i i' h1 h2 m1 m2 hbl
      have k1 : ∃ y, h.get c = some y := by
        by_cases e : c = b
        · exact ⟨o, e ▸ hb⟩
        · rw [Heap.get_put_other _ _ (Ne.symm e)] at h1; exact ⟨x, h1⟩
      have k2 : ∃ y, h.get c' = some y := by
        by_cases e : c' = b
        · exact ⟨o, e ▸ hb⟩
        · rw [Heap.get_put_other _ _ (Ne.symm e)] at h2; exact ⟨x', h2⟩
      obtain ⟨y, k1⟩ := k1
      obtain ⟨y', k2⟩ := k2
      exact hr.inj c c' y y' i i' k1 k2 m1 m2 hbl
    · intro c i hc; rw [hsz]; exact hr.bound c i hc
    · intro c x hc
      rw [Heap.next_put]
      by_cases e : c = b
      · subst e; exact hr.scope _ _ hb
      · rw [Heap.get_put_other _ _ (Ne.symm e)] at hc; exact hr.scope _ _ hc
  · constructor
    · exact Mu.le_refl μ
    · intro c i h1 h2; rw [h1] at h2; cases h2
    · rw [Heap.next_put]; exact Nat.le_refl _
    · rw [hsz]; exact Nat.le_refl _
    · intro β hβ hn
      exact hother β fun e => hn b o im hb hm e.symm
    · intro c x h1 h2
      by_cases e : c = b
      · subst e; rw [hm] at h2; cases h2
      · rw [Heap.get_put_other _ _ (Ne.symm e)]; exact h1
    · intro c x i h1 h2 _
      by_cases e : c = b
      · subst e; exact ⟨c, o, i, hb, h2, rfl⟩
      · rw [Heap.get_put_other _ _ (Ne.symm e)] at h1; exact ⟨c, x, i, h1, h2, rfl⟩
    · exact ho
    · exact hout
    · exact ht

end Go.Cg

/- Loads, stores and new blocks: the model's, by what the evaluator does. -/
namespace Go.Cg
variable [Syms]

variable {P : Program} {μ : Mu} {h : Heap} {w : World}

@[simp] theorem addr_add (b o i : Nat) : Addr.add ⟨b, o, none⟩ i = ⟨b, o + i, none⟩ := by
  unfold Addr.add
  split
  · rename_i e; subst e; rfl
  · rfl

theorem cell_at {b o : Nat} {c : Array Value} {e : TypeId} {fr : Nat × Nat} (hh : w.heap[b]? = some (.cells c e fr)) : w.cell? ⟨b, o, none⟩ = c[o]? := by
  simp [World.cell?, hh]

theorem frozen_at {b o : Nat} {c : Array Value} {e : TypeId} {fr : Nat × Nat} (hh : w.heap[b]? = some (.cells c e fr)) : w.frozen? ⟨b, o, none⟩ = (decide (fr.1 ≤ o) && decide (o < fr.2)) := by
  obtain ⟨lo, hi⟩ := fr
  simp [World.frozen?, hh]

theorem loadOne_sound {im : Img} {o : ABlk} {off : Nat} {v : AVal} (hb : BRel μ w im o) (hl : loadOne o off = some v) :
    ∃ cv, w.cell? ⟨im.blk, im.base + off, none⟩ = some cv ∧ VRel μ v cv ∧ cv.oneCell' = true := by
  obtain ⟨obj, hh, hr⟩ := hb
  cases o with
  | cells vs =>
    obtain ⟨c, e, fr, rfl, _, _, _, h5⟩ := hr
    rw [loadOne, nth_eq] at hl
    obtain ⟨cv, h6, h7⟩ := h5 off v hl
    exact ⟨cv, by rw [cell_at hh]; exact h6, h7⟩
  | bytes len n =>
    obtain ⟨c, e, fr, l, rfl, _, _, _, rfl, rfl, h7⟩ := hr
    simp only [loadOne] at hl
    split at hl
    · rename_i hlt
      have hlt : off < l.length := by simpa using hlt
      have hx : l[off]? = some l[off] := List.getElem?_eq_getElem hlt
      rw [forceN_eq, byteAt_eq hx] at hl
      cases hl
      exact ⟨_, by rw [cell_at hh]; exact h7 off _ hx, .int _ _, rfl⟩
    · cases hl
  | map es clock => simp [loadOne] at hl
  | siter len n pos => simp [loadOne] at hl
  | miter m since seen stepped => simp [loadOne] at hl

/-- n cells, as the model loads them. -/
theorem loadN_sound {im : Img} {o : ABlk} {off n : Nat} {l : List AVal} (hb : BRel μ w im o) (hl : loadN o off n = some l) :
    ∃ cs : List Value, cs.length = n ∧ VsRel μ l cs ∧ (∀ x ∈ cs, x.oneCell' = true) ∧ ∀ (j : Nat) (v : Value), cs[j]? = some v → w.cell? ⟨im.blk, im.base + off + j, none⟩ = some v := by
  obtain ⟨obj, hh, hr⟩ := hb
  cases o with
  | cells vs =>
    obtain ⟨c, e, fr, rfl, h2, h3, _, h5⟩ := hr
    rw [loadN, takeK_eq, dropN_eq] at hl
    split at hl
    · rename_i hn
      cases hl
      rw [List.length_drop] at hn
      have hc : (n ≤ (c.toList.drop (im.base + off)).length) := by simp; omega
      refine ⟨(c.toList.drop (im.base + off)).take n, by simp; omega, VsRel.of_get (by simp; omega) ?_, ?_, ?_⟩
      · intro i v hv
        have hi : i < n := by
          rcases Nat.lt_or_ge i n with h' | h'
          · exact h'
          · rw [List.getElem?_eq_none (by simp; omega)] at hv; cases hv
        rw [List.getElem?_take, if_pos hi, List.getElem?_drop] at hv
        obtain ⟨cv, h6, h7⟩ := h5 (off + i) v hv
        refine ⟨cv, ?_, h7.1⟩
        rw [List.getElem?_take, if_pos hi, List.getElem?_drop]
        simpa [Nat.add_assoc] using h6
      · intro x hx
        obtain ⟨i, hi⟩ := List.mem_iff_getElem?.1 hx
        have hin : i < n := by
          rcases Nat.lt_or_ge i n with h' | h'
          · exact h'
          · rw [List.getElem?_eq_none (by simp; omega)] at hi; cases hi
        rw [List.getElem?_take, if_pos hin, List.getElem?_drop] at hi
        have hv : off + i < vs.length := by omega
        obtain ⟨cv, h6, _, h8⟩ := h5 (off + i) _ (List.getElem?_eq_getElem hv)
        rw [← Nat.add_assoc] at h6
        rw [Array.getElem?_toList, h6] at hi
        cases hi; exact h8
      · intro j v hv
        have hj : j < n := by
          rcases Nat.lt_or_ge j n with h' | h'
          · exact h'
          · rw [List.getElem?_eq_none (by simp; omega)] at hv; cases hv
        rw [List.getElem?_take, if_pos hj, List.getElem?_drop] at hv
        rw [cell_at hh]
        simpa using hv
    · cases hl
  | bytes len m =>
    obtain ⟨c, e, fr, bs, rfl, h2, h3, _, rfl, rfl, h7⟩ := hr
    simp only [loadN] at hl
    split at hl
    · rename_i hle
      have hle : off + n ≤ bs.length := by simpa using hle
      rw [subStr_eq bs off (off + n) (by omega) hle, Nat.add_sub_cancel_left] at hl
      have hlen : ((bs.drop off).take n).length = n := by simp; omega
      have := bytesTo_eq ((bs.drop off).take n)
      rw [hlen] at this
      rw [this] at hl
      cases hl
      refine ⟨((bs.drop off).take n).map fun b => Value.int .u8 b.toNat, by simp; omega, VsRel.of_get (by simp) ?_, ?_, ?_⟩
      · intro i v hv
        rw [List.getElem?_map] at hv
        cases hx : ((bs.drop off).take n)[i]? with
        | none => rw [hx] at hv; cases hv
        | some b =>
          rw [hx] at hv; cases hv
          exact ⟨_, by rw [List.getElem?_map, hx]; rfl, .int _ _⟩
      · intro x hx
        obtain ⟨b, _, rfl⟩ := List.mem_map.1 hx
        rfl
      · intro j v hv
        rw [List.getElem?_map] at hv
        cases hx : ((bs.drop off).take n)[j]? with
        | none => rw [hx] at hv; cases hv
        | some b =>
          rw [hx] at hv; cases hv
          have hj : j < n := by
            rcases Nat.lt_or_ge j n with h' | h'
            · exact h'
            · rw [List.getElem?_eq_none (by simp; omega)] at hx; cases hx
          rw [List.getElem?_take, if_pos hj, List.getElem?_drop] at hx
          rw [cell_at hh]
          have := h7 (off + j) b hx
          rwa [← Nat.add_assoc] at this
    · cases hl
  | map es clock => simp [loadN] at hl
  | siter len n pos => simp [loadN] at hl
  | miter m since seen stepped => simp [loadN] at hl

/-! ### Stores -/
theorem setCell_heap_other (a : Addr) (v : Value) {β : Nat} (hn : β ≠ a.block) : (w.setCell a v).heap[β]? = w.heap[β]? := by
  simp [World.setCell, Array.getElem?_modify, Ne.symm hn]

theorem setCell_heap_same {b o : Nat} {c : Array Value} {e : TypeId} {fr : Nat × Nat} (v : Value) (hh : w.heap[b]? = some (.cells c e fr)) :
    (w.setCell ⟨b, o, none⟩ v).heap[b]? = some (.cells (c.setIfInBounds o v) e fr) := by
  simp [World.setCell, Array.getElem?_modify, hh]

/-- The cells of a list, set from a place on. -/
def setCells (c : Array Value) (o : Nat) : List Value → Array Value
  | [] => c
  | v :: l => setCells (c.setIfInBounds o v) (o + 1) l

theorem setCells_size (l : List Value) : ∀ (c : Array Value) (o : Nat), (setCells c o l).size = c.size := by
  induction l with
  | nil => intro c o; rfl
  | cons v l ih => intro c o; simp [setCells, ih]

theorem setCells_get (l : List Value) : ∀ (c : Array Value) (o i : Nat), o + l.length ≤ c.size →
    (setCells c o l)[i]? = if o ≤ i ∧ i < o + l.length then l[i - o]? else c[i]? := by
  induction l with
  | nil => intro c o i _; rw [setCells, if_neg (by simp only [List.length_nil]; omega)]
  | cons v l ih =>
    intro c o i hs
    simp only [List.length_cons] at hs
    rw [setCells, ih _ _ _ (by simp; omega)]
    by_cases h1 : i = o
    · subst h1
      have hlt : i < c.size := by omega
      rw [if_neg (by omega), if_pos (by simp only [List.length_cons]; omega)]
      simp [hlt]
    · by_cases h2 : o + 1 ≤ i ∧ i < o + 1 + l.length
      · rw [if_pos h2, if_pos (by simp only [List.length_cons]; omega)]
        rw [show i - o = (i - (o + 1)) + 1 by omega, List.getElem?_cons_succ]
      · rw [if_neg h2, if_neg (by simp only [List.length_cons]; omega)]
        rw [Array.getElem?_setIfInBounds_ne (Ne.symm h1)]

def Value.one : Value → Bool
  | .agg _ | .tuple _ => false
  | _ => true

/-- What a run of stores leaves: one block's cells set. -/
structure Stored (w w' : World) (b : Nat) (obj : Obj) : Prop where
  same : w'.heap[b]? = some obj
  other : ∀ β, β ≠ b → w'.heap[β]? = w.heap[β]?
  size : w'.heap.size = w.heap.size
  os : w'.os = w.os
  output : w'.output = w.output
  tape : w'.tape = w.tape

theorem run_storeCells (l : List Value) : ∀ (w : World) (b o i : Nat) (c : Array Value) (e : TypeId) (fr : Nat × Nat), w.heap[b]? = some (.cells c e fr) →
    (∀ v ∈ l, v.oneCell' = true) → (∀ j, j < l.length → (decide (fr.1 ≤ o + i + j) && decide (o + i + j < fr.2)) = false) → o + i + l.length ≤ c.size →
    ∃ w', (storeCells ⟨b, o, none⟩ l i).run P w = .ok () w' ∧ Stored w w' b (.cells (setCells c (o + i) l) e fr) := by
  induction l with
  | nil =>
    intro w b o i c e fr hh _ _ _
    exact ⟨w, rfl, hh, fun _ _ => rfl, rfl, rfl, rfl, rfl⟩
  | cons v l ih =>
    intro w b o i c e fr hh h1 h2 h3
    simp only [List.length_cons] at h2 h3
    have hc : w.cell? ⟨b, o + i, none⟩ = some c[o + i] := by rw [cell_at hh]; exact Array.getElem?_eq_getElem (by omega)
    have hf : w.frozen? ⟨b, o + i, none⟩ = false := by rw [frozen_at hh]; exact h2 0 (by omega)
    have hst : (store ⟨b, o + i, none⟩ v).run P w = .ok () (w.setCell ⟨b, o + i, none⟩ v) := by
      rw [run_store P w _ v _ (h1 v (List.mem_cons_self ..)), hc]
      simp [hf]
    obtain ⟨w', hr, s⟩ := ih (w.setCell ⟨b, o + i, none⟩ v) b o (i + 1) (c.setIfInBounds (o + i) v) e fr (setCell_heap_same v hh)
      (fun x hx => h1 x (List.mem_cons_of_mem _ hx)) (fun j hj => by have := h2 (j + 1) (by omega); rwa [show o + i + (j + 1) = o + (i + 1) + j by omega] at this) (by simp; omega)
    refine ⟨w', ?_, ?_⟩
    · simp only [storeCells, addr_add, Sem.run_bind, hst, Result.andThen_ok, hr]
    · refine ⟨by rw [setCells]; exact s.same, fun β hβ => ?_, ?_, s.os, s.output, s.tape⟩
      · rw [s.other β hβ]; exact setCell_heap_other _ _ hβ
      · rw [s.size]; simp

end Go.Cg

/- Blocks written: the model's stores, by what the evaluator does. -/
namespace Go.Cg
variable [Syms]

variable {P : Program} {μ : Mu} {h : Heap} {w : World}

structure Wrote (w w' : World) (b : Nat) : Prop where
  other : ∀ β, β ≠ b → w'.heap[β]? = w.heap[β]?
  size : w'.heap.size = w.heap.size
  os : w'.os = w.os
  output : w'.output = w.output
  tape : w'.tape = w.tape

theorem unfrozen {fr : Nat × Nat} {o s : Nat} (hf : fr.1 = fr.2 ∨ s ≤ fr.1) (ho : o < s) : (decide (fr.1 ≤ o) && decide (o < fr.2)) = false := by
  rcases hf with hf | hf
  · by_cases h1 : fr.1 ≤ o
    · have : ¬ o < fr.2 := by omega
      simp [this]
    · simp [h1]
  · have : ¬ fr.1 ≤ o := by omega
    simp [this]

theorem storeL_sound {im : Img} {o o' : ABlk} {off : Nat} {ws : List AVal} {grow : Bool} {cs : List Value} (hb : BRel μ w im o) (hs : storeL o off ws grow = some o')
    (hv : VsRel μ ws cs) (h1 : ∀ x ∈ cs, x.oneCell' = true) (hg : grow = true → im.base + off + ws.length ≤ im.size) :
    ∃ w', (storeCells ⟨im.blk, im.base + off, none⟩ cs 0).run P w = .ok () w' ∧ Wrote w w' im.blk ∧ BRel μ w' im o' := by
  obtain ⟨obj, hh, hr⟩ := hb
  cases o with
  | cells vs =>
    obtain ⟨c, e, fr, rfl, h2, h3, h4, h5⟩ := hr
    simp only [storeL] at hs
    split at hs
    case h_2 => cases hs
    rename_i hbit
    rw [takeK_eq] at hs
    split at hs
    case isFalse => cases hs
    rename_i hoff
    cases hs
    have hlen := hv.length
    have hbnd : im.base + off + ws.length ≤ c.size := by
      cases hgr : grow with
      | true => rw [h2]; exact hg hgr
      | false =>
        rw [hgr, Bool.or_false] at hbit
        have := Nat.le_of_ble_eq_true hbit
        omega
    obtain ⟨w', hrun, hst⟩ := run_storeCells (P := P) cs w im.blk (im.base + off) 0 c e fr hh h1
      (fun j hj => unfrozen (s := c.size) (.inl h4) (by omega)) (by omega)
    refine ⟨w', hrun, ⟨hst.other, hst.size, hst.os, hst.output, hst.tape⟩, _, hst.same, _, e, fr, rfl, by rw [setCells_size]; exact h2, ?_, h4, ?_⟩
    · rw [setCells_size, appL_eq, appL_eq, dropN_eq]
      simp only [List.length_append, List.length_take, List.length_drop]
      omega
    · intro i v hiv
      rw [appL_eq, appL_eq, dropN_eq] at hiv
      rw [Nat.add_zero, setCells_get cs c (im.base + off) (im.base + i) (by omega)]
      by_cases c1 : i < off
      · rw [if_neg (by omega)]
        rw [List.getElem?_append_left (by simp; omega), List.getElem?_take, if_pos c1] at hiv
        exact h5 i v hiv
      · rw [List.getElem?_append_right (by simp; omega)] at hiv
        simp only [List.length_take] at hiv
        rw [show i - min off vs.length = i - off by omega] at hiv
        by_cases c2 : i - off < ws.length
        · rw [if_pos (by omega)]
          rw [List.getElem?_append_left c2] at hiv
          obtain ⟨cv, a, b⟩ := hv.get hiv
          refine ⟨cv, by rw [show im.base + i - (im.base + off) = i - off by omega]; exact a, b, h1 cv (List.mem_of_getElem? a)⟩
        · rw [if_neg (by omega)]
          rw [List.getElem?_append_right (by omega), List.getElem?_drop] at hiv
          rw [show off + ws.length + (i - off - ws.length) = i by omega] at hiv
          exact h5 i v hiv
  | bytes len n => simp [storeL] at hs
  | map es clock => simp [storeL] at hs
  | siter len n pos => simp [storeL] at hs
  | miter m since seen stepped => simp [storeL] at hs

def byteVals (l : List UInt8) : List Value := l.map fun b => Value.int .u8 b.toNat

/-- Bytes laid over bytes, as lists. -/
theorem storeB_list {l bs : List UInt8} {o' : ABlk} {off : Nat} {grow : Bool} (hs : storeB (.bytes l.length (pack l)) off bs.length (pack bs) grow = some o') :
    ∃ l', o' = .bytes l'.length (pack l') ∧ off ≤ l.length ∧ (grow = true ∨ off + bs.length ≤ l.length) ∧ l'.length = max l.length (off + bs.length) ∧
        ∀ i : Nat, l'[i]? = if off ≤ i ∧ i < off + bs.length then bs[i - off]? else l[i]? := by
  simp only [storeB] at hs
  split at hs
  · rename_i hle
    have hle := Nat.le_of_ble_eq_true hle
    rw [forceN_eq] at hs
    cases hs
    refine ⟨l.take off ++ bs ++ l.drop (off + bs.length), ?_, by omega, .inr hle, by simp; omega, fun i => ?_⟩
    · have e1 := subStr_eq l 0 off (by omega) (by omega)
      have e2 := subStr_eq l (off + bs.length) l.length (by omega) (Nat.le_refl _)
      simp only [List.drop_zero, Nat.sub_zero] at e1
      rw [List.take_of_length_le (by simp)] at e2
      rw [e1, e2, catStr_eq]
      have e3 := catStr_eq (l.take off ++ bs) (l.drop (off + bs.length))
      rw [List.length_drop] at e3
      rw [e3]
      congr 1
      simp; omega
    · rw [List.append_assoc]
      by_cases c1 : i < off
      · rw [if_neg (by omega), List.getElem?_append_left (by simp; omega), List.getElem?_take, if_pos c1]
      · rw [List.getElem?_append_right (by simp; omega)]
        simp only [List.length_take]
        rw [show i - min off l.length = i - off by omega]
        by_cases c2 : i - off < bs.length
        · rw [if_pos (by omega), List.getElem?_append_left c2]
        · rw [if_neg (by omega), List.getElem?_append_right (by omega), List.getElem?_drop]
          rw [show off + bs.length + (i - off - bs.length) = i by omega]
  · split at hs
    case h_2 => cases hs
    rename_i _ hbit _ hgr
    simp only [Bool.and_eq_true] at hgr
    have hle := Nat.le_of_ble_eq_true hgr.2
    have hbit : ¬ off + bs.length ≤ l.length := fun hc => by
      rw [Nat.ble_eq_true_of_le hc] at hbit; cases hbit
    rw [forceN_eq, forceN_eq] at hs
    cases hs
    refine ⟨l.take off ++ bs, ?_, hle, .inl hgr.1, by simp; omega, fun i => ?_⟩
    · have e1 := subStr_eq l 0 off (by omega) (by omega)
      simp only [List.drop_zero, Nat.sub_zero] at e1
      rw [e1, catStr_eq]
      congr 1
      simp; omega
    · by_cases c1 : i < off
      · rw [if_neg (by omega), List.getElem?_append_left (by simp; omega), List.getElem?_take, if_pos c1]
      · rw [List.getElem?_append_right (by simp; omega)]
        simp only [List.length_take]
        rw [show i - min off l.length = i - off by omega]
        by_cases c2 : i - off < bs.length
        · rw [if_pos (by omega)]
        · rw [if_neg (by omega), List.getElem?_eq_none (by omega), List.getElem?_eq_none (by omega)]

theorem storeB_sound {im : Img} {o o' : ABlk} {off : Nat} {bs : List UInt8} {grow : Bool} (hb : BRel μ w im o) (hs : storeB o off bs.length (pack bs) grow = some o')
    (hg : grow = true → im.base + off + bs.length ≤ im.size) :
    ∃ w', (storeCells ⟨im.blk, im.base + off, none⟩ (byteVals bs) 0).run P w = .ok () w' ∧ Wrote w w' im.blk ∧ BRel μ w' im o' := by
  obtain ⟨obj, hh, hr⟩ := hb
  cases o with
  | bytes ol on =>
    obtain ⟨c, e, fr, l, rfl, h2, h3, h4, rfl, rfl, h7⟩ := hr
    obtain ⟨l', rfl, hoff, hbig, hlen, hget⟩ := storeB_list hs
    have hbnd : im.base + off + bs.length ≤ c.size := by
      rcases hbig with hb | hb
      · rw [h2]; exact hg hb
      · omega
    obtain ⟨w', hrun, hst⟩ := run_storeCells (P := P) (byteVals bs) w im.blk (im.base + off) 0 c e fr hh
      (fun v hv => by obtain ⟨b, _, rfl⟩ := List.mem_map.1 hv; rfl)
      (fun j hj => unfrozen (s := c.size) h4 (by simp [byteVals] at hj; omega)) (by simp [byteVals]; omega)
    refine ⟨w', hrun, ⟨hst.other, hst.size, hst.os, hst.output, hst.tape⟩, _, hst.same, _, e, fr, l', rfl, by rw [setCells_size]; exact h2, ?_, ?_, rfl, rfl, ?_⟩
    · rw [setCells_size, hlen]; omega
    · rw [setCells_size]; exact h4
    · intro i b hb
      rw [hget] at hb
      rw [Nat.add_zero, setCells_get _ c (im.base + off) (im.base + i) (by simp [byteVals]; omega)]
      simp only [byteVals, List.length_map]
      by_cases c1 : off ≤ i ∧ i < off + bs.length
      · rw [if_pos c1] at hb
        rw [if_pos (by omega), List.getElem?_map, show im.base + i - (im.base + off) = i - off by omega, hb]; rfl
      · rw [if_neg c1] at hb
        rw [if_neg (by omega)]; exact h7 i b hb
  | cells vs => simp [storeB] at hs
  | map es clock => simp [storeB] at hs
  | siter len n pos => simp [storeB] at hs
  | miter m since seen stepped => simp [storeB] at hs

theorem storeOne_sound {im : Img} {o o' : ABlk} {off : Nat} {v : AVal} {cv : Value} (hb : BRel μ w im o) (hs : storeOne o off v = some o') (hv : VRel μ v cv) (h1 : cv.oneCell' = true) :
    ∃ w', (storeCells ⟨im.blk, im.base + off, none⟩ [cv] 0).run P w = .ok () w' ∧ Wrote w w' im.blk ∧ BRel μ w' im o' := by
  cases o with
  | cells vs =>
    simp only [storeOne, setNthK_eq] at hs
    split at hs
    case isFalse => cases hs
    rename_i hlt
    have : storeL (.cells vs) off [v] false = some o' := by
      rw [← hs]
      simp only [storeL, List.length_singleton, Bool.or_false]
      rw [Nat.ble_eq_true_of_le (by omega)]
      simp only [takeK_eq]
      rw [if_pos (by omega), appL_eq, appL_eq, dropN_eq]
      rw [List.set_eq_take_append_cons_drop, if_pos hlt]; rfl
    exact storeL_sound hb this (.cons _ _ _ _ hv .nil) (fun x hx => by simp at hx; subst hx; exact h1) (fun hc => by cases hc)
  | bytes len n =>
    obtain ⟨obj, hh, hr⟩ := hb
    obtain ⟨c, e, fr, l, rfl, h2, h3, h4, rfl, rfl, h7⟩ := hr
    simp only [storeOne] at hs
    split at hs
    case h_2 => cases hs
    rename_i hlt
    have hlt : off < l.length := by simpa using hlt
    split at hs
    case h_2 => cases hs
    rename_i x
    split at hs
    case h_2 => cases hs
    rename_i hx
    have hx : x < 256 := by simpa using hx
    cases hv
    have hb8 : (UInt8.ofNat x).toNat = x := by simp; omega
    rw [forceN_eq, ← hb8, setByte_eq _ hlt] at hs
    cases hs
    obtain ⟨w', hrun, hst⟩ := run_storeCells (P := P) [Value.int .u8 (.ofNat x)] w im.blk (im.base + off) 0 c e fr hh
      (fun v hv => by simp at hv; subst hv; rfl) (fun j hj => unfrozen (s := c.size) h4 (by simp at hj; omega)) (by simp; omega)
    refine ⟨w', hrun, ⟨hst.other, hst.size, hst.os, hst.output, hst.tape⟩, _, hst.same, _, e, fr, l.set off (UInt8.ofNat x), rfl, by rw [setCells_size]; exact h2, ?_, ?_, by simp, by simp, ?_⟩
    · rw [setCells_size]; exact h3
    · rw [setCells_size]; exact h4
    · intro i b hb
      rw [Nat.add_zero, setCells_get _ c (im.base + off) (im.base + i) (by simp; omega)]
      simp only [List.length_singleton]
      by_cases c1 : i = off
      · subst c1
        rw [List.getElem?_set_self hlt] at hb
        cases hb
        rw [if_pos (by omega), Nat.sub_self, hb8]; rfl
      · rw [if_neg (by omega)]
        rw [List.getElem?_set_ne (Ne.symm c1)] at hb
        exact h7 i b hb
  | map es clock => simp [storeOne] at hs
  | siter len n pos => simp [storeOne] at hs
  | miter m since seen stepped => simp [storeOne] at hs

end Go.Cg

/- Operations on memory: loads, stores, new variables, aggregates. -/
namespace Go.Cg
variable [Syms]

variable {P : Program} {μ : Mu} {h h' : Heap} {w : World} {v : AVal}

/-- The model's run gives the value, and the relations hold behind it. -/
def Good (P : Program) (μ : Mu) (h : Heap) (w : World) (s : Sem Value) (v : AVal) (h' : Heap) : Prop :=
  ∃ μ' cv w', s.run P w = .ok cv w' ∧ VRel μ' v cv ∧ HRel μ' h' w' ∧ Ext μ h w μ' h' w'

theorem HRel.same {w' : World} (hr : HRel μ h w) (he : w'.heap = w.heap) : HRel μ h w' where
  live := fun b o im x y => let ⟨obj, a, c⟩ := hr.live b o im x y; ⟨obj, by rw [he]; exact a, c⟩
  inj := hr.inj
  bound := fun b im x => by rw [he]; exact hr.bound b im x
  scope := hr.scope

theorem Good.of_pure {s : Sem Value} {cv : Value} (hr : HRel μ h w) (e : s.run P w = .ok cv w) (hv : VRel μ v cv) : Good P μ h w s v h :=
  ⟨μ, cv, w, e, hv, hr, Ext.refl rfl rfl rfl rfl⟩

theorem szOf_run {t : TypeId} {n : Nat} (hs : szOf P t = some n) (w : World) : (sizeOf t).run P w = .ok n w := by
  unfold szOf at hs
  cases hi : P.info? t with
  | none => rw [hi] at hs; cases hs
  | some i =>
    rw [hi] at hs; cases hs
    simp [sizeOf, typeInfo, hi]

theorem byOf_run {t : TypeId} {n : Nat} (hs : byOf P t = some n) (w : World) : ∃ i, (typeInfo t).run P w = .ok i w ∧ i.bytes = n ∧ P.info? t = some i := by
  unfold byOf at hs
  cases hi : P.info? t with
  | none => rw [hi] at hs; cases hs
  | some i =>
    rw [hi] at hs; cases hs
    exact ⟨i, by simp [typeInfo, hi], rfl, rfl⟩

theorem aggOf_run {t : TypeId} {b : Bool} (ha : aggOf P t = some b) (w : World) : (isAgg t).run P w = .ok b w := by
  unfold aggOf at ha
  split at ha
  · rename_i fs hu; cases ha; simp [isAgg, run_underlying hu]
  · rename_i n e hu; cases ha; simp [isAgg, run_underlying hu]
  · rename_i d h1 h2 hu
    cases ha
    simp only [isAgg, Sem.run_bind, run_underlying hu, Result.andThen_ok]
    cases d <;> first | rfl | exact absurd hu (h1 _) | exact absurd hu (h2 _ _)
  · cases ha

/-! ### Constants -/
theorem allSome_spec {α β : Type} {f : α → Option β} : ∀ {l : List α} {r : List β}, allSome f l = some r → l.length = r.length ∧ ∀ (i : Nat) (b : β), r[i]? = some b → ∃ a, l[i]? = some a ∧ f a = some b
  | [], r, h => by cases h; exact ⟨rfl, fun i b hb => by simp at hb⟩
  | a :: l, r, h => by
    simp only [allSome] at h
    cases hf : f a with
    | none => rw [hf] at h; cases h
    | some b =>
      rw [hf] at h
      cases hl : allSome f l with
      | none => rw [hl] at h; cases h
      | some bs =>
        rw [hl] at h; cases h
        obtain ⟨h1, h2⟩ := allSome_spec hl
        refine ⟨by simp [h1], fun i c hc => ?_⟩
        cases i with
        | zero => simp at hc; subst hc; exact ⟨a, rfl, hf⟩
        | succ i => simp at hc; simpa using h2 i c hc

theorem ofValue_rel (μ : Mu) : ∀ (n : Nat) {c : Value} {v : AVal}, ofValue n c = some v → VRel μ v c
  | 0, _, _, h => by cases h
  | n + 1, c, v, h => by
    simp only [ofValue] at h
    split at h
    case h_1 => cases h; exact .bool _
    case h_2 => cases h; exact .int _ _
    case h_3 => cases h; exact .str _ _ _ rfl rfl
    case h_4 => cases h; exact .nilptr
    case h_5 => cases h; exact .nilslice
    case h_6 => cases h; exact .nilmap
    case h_7 => cases h; exact .nilfunc
    case h_8 => cases h; exact .nilIface
    case h_9 t x =>
      split at h
      · rename_i a ha; cases h; exact .iface _ _ _ (ofValue_rel μ n ha)
      · cases h
    case h_10 cs =>
      split at h
      case h_2 => cases h
      rename_i l hl
      split at h
      case h_2 => cases h
      rename_i hall
      cases h
      obtain ⟨h1, h2⟩ := allSome_spec hl
      refine .agg _ _ (VsRel.of_get h1.symm fun i x hx => ?_) (fun x hx => List.all_eq_true.1 hall x hx)
      obtain ⟨a, h3, h4⟩ := h2 i x hx
      exact ⟨a, h3, ofValue_rel μ n h4⟩
    case h_11 cs =>
      split at h
      case h_2 => cases h
      rename_i l hl
      cases h
      obtain ⟨h1, h2⟩ := allSome_spec hl
      refine .tuple _ _ (VsRel.of_get h1.symm fun i x hx => ?_)
      obtain ⟨a, h3, h4⟩ := h2 i x hx
      exact ⟨a, h3, ofValue_rel μ n h4⟩
    case h_12 => cases h

theorem zeroOf_run {t : TypeId} {z : AVal} (hz : zeroOf P t = some z) (w : World) : ∃ cz, (zeroValue t).run P w = .ok cz w ∧ ∀ μ, VRel μ z cz := by
  unfold zeroOf at hz
  split at hz
  · rename_i i hi
    split at hz
    · rename_i c hc
      exact ⟨c, by simp [zeroValue, typeInfo, hi, hc], fun μ => ofValue_rel μ 8 hz⟩
    · cases hz
  · cases hz

theorem zeroCells_run {t : TypeId} {z : List AVal} (hz : (zeroOf P t).bind cellsO = some z) (w : World) :
    ∃ cz, (zeroValue t).run P w = .ok cz w ∧ (∀ μ, VsRel μ z cz.cells.toList) ∧ ∀ x ∈ cz.cells.toList, x.oneCell' = true := by
  cases hz0 : zeroOf P t with
  | none => rw [hz0] at hz; cases hz
  | some a =>
    rw [hz0] at hz
    obtain ⟨cz, h1, h2⟩ := zeroOf_run hz0 w
    exact ⟨cz, h1, fun μ => ((h2 μ).cells hz).1, ((h2 (fun _ => none)).cells hz).2⟩

/-! ### New rows -/
/-- The block of cells that are just made. -/
theorem orel_cells {im : Img} {l : List AVal} {c : Array Value} {e : TypeId} (hb : im.base = 0) (hs : im.size = c.size) (hv : ∃ c1 c2 : List Value, c.toList = c1 ++ c2 ∧ VsRel μ l c1 ∧ ∀ x ∈ c1, x.oneCell' = true) :
    ORel μ im (.cells l) (.cells c e) := by
  obtain ⟨c1, c2, h1, h2, h3⟩ := hv
  have hl := h2.length
  have hsz : c.size = c1.length + c2.length := by rw [← Array.length_toList, h1]; simp
  refine ⟨c, e, (0, 0), rfl, hs.symm, by omega, rfl, fun i v hi => ?_⟩
  obtain ⟨cv, a, b⟩ := h2.get hi
  refine ⟨cv, ?_, b, h3 cv (List.mem_of_getElem? a)⟩
  have hi1 : i < c1.length := by
    rcases Nat.lt_or_ge i c1.length with h' | h'
    · exact h'
    · rw [List.getElem?_eq_none h'] at a; cases a
  rw [hb, Nat.zero_add, ← Array.getElem?_toList, h1, List.getElem?_append_left hi1]
  exact a

theorem newRow_good {l : List AVal} {c : Array Value} {e : TypeId} (hr : HRel μ h w) (hf : μ h.next = none) (hv : VsRel μ l c.toList) (h1 : ∀ x ∈ c.toList, x.oneCell' = true) :
    ∃ im, im.base = 0 ∧ im.size = c.size ∧ im.blk = w.heap.size ∧ (newRow e c).run P w = .ok ⟨w.heap.size, 0, none⟩ (w.alloc (.cells c e)) ∧ HRel (μ.add h.next im) (h.new (.cells l)) (w.alloc (.cells c e)) ∧
      Ext μ h w (μ.add h.next im) (h.new (.cells l)) (w.alloc (.cells c e)) := by
  have hle := Mu.le_add ⟨w.heap.size, 0, c.size⟩ hf
  obtain ⟨a, b⟩ := hr.new (w' := w.alloc (.cells c e)) (size := c.size) (obj := .cells c e) hf rfl rfl rfl rfl
    (orel_cells rfl rfl ⟨c.toList, [], by simp, hv.mono hle, h1⟩)
  exact ⟨_, rfl, rfl, rfl, by simp [newRow], a, b⟩

theorem alloc_good {t : TypeId} {z : List AVal} (hr : HRel μ h w) (hf : μ h.next = none) (hz : (zeroOf P t).bind cellsO = some z) :
    Good P μ h w (Instr.alloc t true (.tuple #[])) (.ptr h.next 0) (h.new (.cells z)) := by
  obtain ⟨cz, h1, h2, h3⟩ := zeroCells_run hz w
  obtain ⟨im, hb, _, hblk, hrun, a, b⟩ := newRow_good (P := P) (e := t) hr hf (h2 μ) h3
  refine ⟨_, .pointer (some ⟨im.blk, im.base + 0, none⟩), _, ?_, ?_, a, b⟩
  · simp only [Instr.alloc, Sem.run_bind, h1, Result.andThen_ok, newVar, hrun, Sem.run_pure, hb, hblk]
  · exact .ptr _ _ im (Mu.add_same _ _ _)

theorem box_good {t : TypeId} {x : AVal} {cx : Value} {cs : List AVal} (hr : HRel μ h w) (hf : μ h.next = none) (hx : VRel μ x cx) (hc : cellsO x = some cs) :
    Good P μ h w (Instr.box t cx) (.ptr h.next 0) (h.new (.cells cs)) := by
  obtain ⟨h2, h3⟩ := hx.cells hc
  obtain ⟨im, hb, _, hblk, hrun, a, b⟩ := newRow_good (P := P) (e := t) hr hf h2 h3
  refine ⟨_, .pointer (some ⟨im.blk, im.base + 0, none⟩), _, ?_, ?_, a, b⟩
  · simp only [Instr.box, newVar, Sem.run_bind, hrun, Result.andThen_ok, Sem.run_pure, hb, hblk]
  · exact .ptr _ _ im (Mu.add_same _ _ _)

/-! ### Loads and stores -/
theorem ld_good {t : TypeId} {agg : Bool} {n : Nat} {b : Pos} {o : Nat} {blk : ABlk} {cx : Value} (hr : HRel μ h w) (ha : aggOf P t = some agg) (hs : szOf P t = some n)
    (hx : VRel μ (.ptr b o) cx) (hb : h.get b = some blk) (hl : (match agg with | true => (loadN blk o n).map AVal.agg | false => loadOne blk o) = some v) :
    Good P μ h w (Instr.loadAt t cx) v h := by
  cases hx with
  | ptr b o im hm =>
  have hB := hr.live b blk im hb hm
  cases agg with
  | true =>
    simp only at hl
    cases hl0 : loadN blk o n with
    | none => rw [hl0] at hl; cases hl
    | some l =>
      rw [hl0] at hl; cases hl
      obtain ⟨cs, h1, h2, h3, h4⟩ := loadN_sound hB hl0
      refine Good.of_pure hr (cv := .agg cs.toArray) ?_ (.agg _ _ (by simpa using h2) (by simpa using h3))
      have := run_loadCells_list (P := P) w ⟨im.blk, im.base + o, none⟩ cs (fun j v hv => by rw [addr_add]; exact h4 j v hv)
      rw [h1] at this
      simp only [Instr.loadAt, Instr.sureAddr, loadVar, Sem.run_bind, Sem.run_pure, Result.andThen_ok, aggOf_run ha, szOf_run hs, if_true, this]
  | false =>
    obtain ⟨cv, h1, h2, _⟩ := loadOne_sound hB hl
    refine Good.of_pure hr (cv := cv) ?_ h2
    simp only [Instr.loadAt, Instr.sureAddr, loadVar, Sem.run_bind, Sem.run_pure, Result.andThen_ok, aggOf_run ha, Bool.false_eq_true, if_false, run_load, h1]

/-- The model's run changes the world alone. -/
def GoodU (P : Program) (μ : Mu) (h : Heap) (w : World) (s : Sem Unit) (h' : Heap) : Prop :=
  ∃ w', s.run P w = .ok () w' ∧ HRel μ h' w' ∧ Ext μ h w μ h' w'

theorem st_good {t : TypeId} {n : Nat} {b : Pos} {o : Nat} {blk blk' : ABlk} {cx cv : Value} (hr : HRel μ h w) (hs : szOf P t = some n)
    (hx : VRel μ (.ptr b o) cx) (hv : VRel μ v cv) (hb : h.get b = some blk)
    (hst : (∃ cs, v = .agg cs ∧ cs.length = n ∧ storeL blk o cs false = some blk') ∨ (n = 1 ∧ (∃ cs, cellsO v = some cs) ∧ (∀ cs, v ≠ .agg cs) ∧ storeOne blk o v = some blk')) :
    GoodU P μ h w (Instr.storeAt t cx cv) (h.put b (some blk')) := by
  cases hx with
  | ptr b o im hm =>
  have hB := hr.live b blk im hb hm
  have key : ∃ w', (storeCells ⟨im.blk, im.base + o, none⟩ cv.cells.toList 0).run P w = .ok () w' ∧ Wrote w w' im.blk ∧ BRel μ w' im blk' ∧ cv.cells.size = n := by
    rcases hst with ⟨cs, rfl, hn, hst⟩ | ⟨hn, ⟨cs, hcs⟩, hna, hst⟩
    · obtain ⟨h1, h2⟩ := hv.cells rfl
      obtain ⟨w', a, b, c⟩ := storeL_sound (P := P) hB hst h1 h2 (fun hc => by cases hc)
      exact ⟨w', a, b, c, by rw [← Array.length_toList, ← h1.length, hn]⟩
    · have h1 : cv.cells = #[cv] ∧ cv.oneCell' = true := by
        cases hv with
        | agg l c _ _ => exact absurd rfl (hna l)
        | tuple l c _ => cases hcs
        | _ => exact ⟨rfl, rfl⟩
      obtain ⟨w', a, b, c⟩ := storeOne_sound (P := P) hB hst hv h1.2
      exact ⟨w', by rw [h1.1]; exact a, b, c, by rw [h1.1, hn]; rfl⟩
  obtain ⟨w', hrun, hw, hB', hsz⟩ := key
  obtain ⟨a, c⟩ := hr.put hb hm hw.size hw.other hw.os hw.output hw.tape hB'
  refine ⟨w', ?_, a, c⟩
  simp only [Instr.storeAt, Instr.sureAddr, storeVar, Sem.run_bind, Sem.run_pure, Result.andThen_ok, szOf_run hs]
  rw [if_neg (by simp [hsz])]
  simpa using hrun

/-! ### Aggregates -/
theorem foldl_set (l : List Value) : ∀ (c : Array Value) (off k : Nat), (l.zipIdx k).foldl (fun cs p => cs.setIfInBounds (off + p.2) p.1) c = setCells c (off + k) l := by
  induction l with
  | nil => intro c off k; rfl
  | cons v l ih => intro c off k; simp only [List.zipIdx_cons, List.foldl_cons, setCells]; rw [ih]; rfl

theorem setCells_rel {l ws : List AVal} {c : Array Value} {cs : List Value} {off : Nat} (hv : VsRel μ l c.toList) (hw : VsRel μ ws cs) (hb : off + ws.length ≤ l.length) :
    VsRel μ (l.take off ++ (ws ++ l.drop (off + ws.length))) (setCells c off cs).toList := by
  have h1 : l.length = c.size := by simpa using hv.length
  have h2 := hw.length
  refine VsRel.of_get (by simp [setCells_size]; omega) fun i v hi => ?_
  rw [Array.getElem?_toList, setCells_get cs c off i (by omega)]
  by_cases c1 : i < off
  · rw [if_neg (by omega)]
    rw [List.getElem?_append_left (by simp; omega), List.getElem?_take, if_pos c1] at hi
    rw [← Array.getElem?_toList]; exact hv.get hi
  · rw [List.getElem?_append_right (by simp; omega)] at hi
    simp only [List.length_take] at hi
    rw [show i - min off l.length = i - off by omega] at hi
    by_cases c2 : i - off < ws.length
    · rw [if_pos (by omega)]
      rw [List.getElem?_append_left c2] at hi
      exact hw.get hi
    · rw [if_neg (by omega)]
      rw [List.getElem?_append_right (by omega), List.getElem?_drop, show off + ws.length + (i - off - ws.length) = i by omega] at hi
      rw [← Array.getElem?_toList]; exact hv.get hi

theorem setCells_one {c : Array Value} {cs : List Value} {off : Nat} (h1 : ∀ x ∈ c.toList, x.oneCell' = true) (h2 : ∀ x ∈ cs, x.oneCell' = true) (hb : off + cs.length ≤ c.size) :
    ∀ x ∈ (setCells c off cs).toList, x.oneCell' = true := by
  intro x hx
  obtain ⟨i, hi⟩ := List.mem_iff_getElem?.1 hx
  rw [Array.getElem?_toList, setCells_get cs c off i hb] at hi
  split at hi
  · exact h2 x (List.mem_of_getElem? hi)
  · rw [← Array.getElem?_toList] at hi; exact h1 x (List.mem_of_getElem? hi)

end Go.Cg

/- Aggregates and slices that are built. -/
namespace Go.Cg
variable [Syms]

variable {P : Program} {μ : Mu} {h h' : Heap} {w : World} {v : AVal}

/-- Operands as the model has them, for parts. -/
inductive PRel (μ : Mu) (env : Env) (place : Nat → Option (Nat × Nat)) : List (Nat × Nat × AOpd) → List (Nat × Value) → Prop where
  | nil : PRel μ env place [] []
  | cons (i off size : Nat) (x : AOpd) (cv : Value) (l : List (Nat × Nat × AOpd)) (cl : List (Nat × Value)) (hp : place i = some (off, size))
      (hx : ∀ v, x.ev env = some v → VRel μ v cv) (hs : PRel μ env place l cl) : PRel μ env place ((off, size, x) :: l) ((i, cv) :: cl)

theorem fill_step {place : Nat → Option (Nat × Nat)} {c : Array Value} {i off size : Nat} {cv : Value} {rest : List (Nat × Value)} (hp : place i = some (off, size))
    (h1 : cv.cells.size = size) (h2 : off + size ≤ c.size) :
    Instr.fill place c ((i, cv) :: rest) = Instr.fill place (setCells c off cv.cells.toList) rest := by
  rw [Instr.fill, hp]
  simp only []
  rw [if_neg (by simp; omega)]
  have := foldl_set cv.cells.toList c off 0
  rw [Nat.add_zero] at this
  rw [← this]
  congr 1
  rw [← Array.foldl_toList, Array.toList_zipIdx]

theorem fillK_step {env : Env} {k : List AVal → OR} {r : AVal} {off size : Nat} {x : AOpd} {ps : List (Nat × Nat × AOpd)} {l : List AVal}
    (hk : fillK env .fail ((off, size, x) :: ps) l k = .ok r h') :
    ∃ v cs, x.ev env = some v ∧ cellsO v = some cs ∧ cs.length = size ∧ off + size ≤ l.length ∧
      fillK env .fail ps (l.take off ++ (cs ++ l.drop (off + cs.length))) k = .ok r h' := by
  rw [fillK] at hk
  simp only [] at hk
  cases hev : x.ev env with
  | none => rw [hev] at hk; cases hk
  | some v =>
    rw [hev] at hk
    simp only [] at hk
    cases hcs : cellsO v with
    | none => rw [hcs] at hk; cases hk
    | some cs =>
      rw [hcs] at hk
      simp only [] at hk
      cases hbb : (Nat.beq cs.length size && Nat.ble (off + size) l.length) with
      | false => rw [hbb] at hk; cases hk
      | true =>
        rw [hbb] at hk
        simp only [Bool.and_eq_true] at hbb
        have hb1 : cs.length = size := Nat.eq_of_beq_eq_true hbb.1
        have hb2 : off + size ≤ l.length := Nat.le_of_ble_eq_true hbb.2
        simp only [] at hk
        rw [takeK_eq, if_pos (by omega), appL_eq, appL_eq, dropN_eq, ← hb1] at hk
        exact ⟨v, cs, rfl, hcs, hb1, hb2, hk⟩

theorem fill_sound {env : Env} {place : Nat → Option (Nat × Nat)} {k : List AVal → OR} {r : AVal} {ps : List (Nat × Nat × AOpd)} {cps : List (Nat × Value)} (hp : PRel μ env place ps cps) :
    ∀ {l : List AVal} {c : Array Value}, VsRel μ l c.toList → (∀ x ∈ c.toList, x.oneCell' = true) → fillK env .fail ps l k = .ok r h' →
    ∃ l' c', Instr.fill place c cps = some c' ∧ VsRel μ l' c'.toList ∧ (∀ x ∈ c'.toList, x.oneCell' = true) ∧ k l' = .ok r h' ∧ c'.size = c.size := by
  induction hp with
  | nil => intro l c hv h1 hk; exact ⟨l, c, rfl, hv, h1, hk, rfl⟩
  | cons i off size x cv ps cps hp hx hs ih =>
    intro l c hv h1 hk
    obtain ⟨v, cs, hev, hcs, hb1, hb2, hk⟩ := fillK_step hk
    obtain ⟨h2, h3⟩ := (hx v hev).cells hcs
    have hl : l.length = c.size := by simpa using hv.length
    have hl2 : cs.length = cv.cells.size := by simpa using h2.length
    obtain ⟨l', c', a, b, d, e, f⟩ := ih (setCells_rel hv h2 (by omega)) (setCells_one h1 h3 (by simp; omega)) hk
    exact ⟨l', c', by rw [fill_step hp (by omega) (by omega)]; exact a, b, d, e, by rw [f, setCells_size]⟩

/-! ### Literals of structs, arrays, slices -/
theorem build_struct_good {t : TypeId} {fs : Array Field} {pl : List (Nat × Nat)} {z : List AVal} {env : Env} {ps : List (Nat × Nat × AOpd)} {parts : Array (Nat × Value)} (hr : HRel μ h w)
    (hu : P.underlying t = some (.struct fs)) (hz : (zeroOf P t).bind cellsO = some z) (hpl : fs.toList.mapM (fun f => (P.info? f.type).map fun i => (f.offset, i.size)) = some pl)
    (hp : PRel μ env (nth pl) ps parts.toList) (hk : fillK env OR.fail ps z (fun cs => OR.ok (.agg cs) h) = OR.ok v h') : Good P μ h w (Instr.build t parts) v h' := by
  obtain ⟨cz, h1, h2, h3⟩ := zeroCells_run hz w
  obtain ⟨l', c', a, b, d, e, _⟩ := fill_sound hp (h2 μ) h3 hk
  cases e
  refine Good.of_pure hr (cv := .agg c') (run_build w t parts c' ?_) (.agg _ _ b d)
  unfold zeroOf at hz
  cases hit : P.info? t with
  | none => rw [hit] at hz; cases hz
  | some it =>
    cases hzz : it.zero with
    | none => simp only [hit, hzz] at hz; cases hz
    | some zz =>
      have : zz = cz := by
        simp only [zeroValue, Sem.run_bind, typeInfo, run_program, Result.andThen_ok, hit, Sem.run_pure, hzz] at h1
        cases h1; rfl
      subst this
      simp only [Program.built, hit, hu, hzz, hpl]
      rw [← a]
      congr 1
      funext i
      rw [nth_eq]; simp

theorem build_array_good {t e : TypeId} {m n : Nat} {z : List AVal} {env : Env} {ps : List (Nat × Nat × AOpd)} {parts : Array (Nat × Value)} (hr : HRel μ h w)
    (hu : P.underlying t = some (.array m e)) (hz : (zeroOf P t).bind cellsO = some z) (hn : szOf P e = some n)
    (hp : PRel μ env (fun i => some (i * n, n)) ps parts.toList) (hk : fillK env OR.fail ps z (fun cs => OR.ok (.agg cs) h) = OR.ok v h') : Good P μ h w (Instr.build t parts) v h' := by
  obtain ⟨cz, h1, h2, h3⟩ := zeroCells_run hz w
  obtain ⟨l', c', a, b, d, e', _⟩ := fill_sound hp (h2 μ) h3 hk
  cases e'
  refine Good.of_pure hr (cv := .agg c') ?_ (.agg _ _ b d)
  simp only [Instr.build, Sem.run_bind, h1, Result.andThen_ok, run_underlying hu, szOf_run hn]
  rw [a]; rfl

theorem repl_length (n : Nat) (z : List AVal) : (repl n z).length = n * z.length := by
  induction n with
  | zero => rw [Nat.zero_mul]; rfl
  | succ n ih =>
    have : repl (n + 1) z = z ++ repl n z := by rw [← appL_eq]; rfl
    rw [this, List.length_append, ih, Nat.succ_mul, Nat.add_comm]

theorem repl_get (n : Nat) (z : List AVal) : ∀ i, i < n * z.length → (repl n z)[i]? = z[i % z.length]? := by
  induction n with
  | zero => intro i hi; simp at hi
  | succ n ih =>
    intro i hi
    have : repl (n + 1) z = z ++ repl n z := by rw [← appL_eq]; rfl
    rw [this]
    by_cases hl : i < z.length
    · rw [List.getElem?_append_left hl, Nat.mod_eq_of_lt hl]
    · rw [List.getElem?_append_right (by omega), ih _ (by rw [Nat.succ_mul] at hi; omega)]
      rw [show i % z.length = (i - z.length) % z.length from Nat.mod_eq_sub_mod (by omega)]

theorem zeros_rel {n len : Nat} {z : List AVal} {cz : Array Value} (hz : VsRel μ z cz.toList) (hn : z.length = n) (h1 : ∀ x ∈ cz.toList, x.oneCell' = true) :
    VsRel μ (repl len z) ((Array.range (len * n)).map (cz[· % cz.size]!)).toList ∧ ∀ x ∈ ((Array.range (len * n)).map (cz[· % cz.size]!)).toList, x.oneCell' = true := by
  have hl : z.length = cz.size := by simpa using hz.length
  have get : ∀ i, i < len * n → ((Array.range (len * n)).map (cz[· % cz.size]!)).toList[i]? = some cz[i % cz.size]! := by
    intro i hi
    simp [hi]
  have ok : ∀ i, i < len * n → ∃ cv, cz[i % cz.size]? = some cv ∧ cz[i % cz.size]! = cv := by
    intro i hi
    have : i % cz.size < cz.size := Nat.mod_lt _ (by
      rcases Nat.eq_zero_or_pos cz.size with h0 | h0
      · rw [show n = 0 by omega, Nat.mul_zero] at hi; omega
      · exact h0)
    exact ⟨cz[i % cz.size], Array.getElem?_eq_getElem this, by rw [getElem!_pos cz _ this]⟩
  constructor
  · refine VsRel.of_get (by simp [repl_length, hn]) fun i v hi => ?_
    have hlt : i < len * n := by
      rcases Nat.lt_or_ge i (len * n) with h' | h'
      · exact h'
      · rw [List.getElem?_eq_none (by rw [repl_length, hn]; exact h')] at hi; cases hi
    rw [repl_get len z i (by rw [hn]; exact hlt)] at hi
    obtain ⟨cv, a, b⟩ := hz.get hi
    obtain ⟨cv', c, d⟩ := ok i hlt
    refine ⟨_, get i hlt, ?_⟩
    rw [d]
    rw [Array.getElem?_toList, hl, c] at a
    cases a; exact b
  · intro x hx
    obtain ⟨i, hi⟩ := List.mem_iff_getElem?.1 hx
    have hlt : i < len * n := by
      rcases Nat.lt_or_ge i (len * n) with h' | h'
      · exact h'
      · rw [List.getElem?_eq_none (by simp; exact h')] at hi; cases hi
    rw [get i hlt] at hi
    obtain ⟨cv', c, d⟩ := ok i hlt
    cases hi
    rw [d]
    rw [← Array.getElem?_toList] at c
    exact h1 _ (List.mem_of_getElem? c)

end Go.Cg

/- Slices that are made. -/
namespace Go.Cg
variable [Syms]

variable {P : Program} {μ : Mu} {h h' : Heap} {w : World} {v : AVal}

theorem packOf_spec : ∀ {l : List AVal} {acc n : Nat}, packOf l acc = some n → ∃ bs : List UInt8, l = bs.map (fun b => AVal.int .u8 (b.toNat : Int)) ∧ n = acc * 256 ^ bs.length + pack bs
  | [], acc, n, hp => by
    rw [packOf] at hp; cases hp; exact ⟨[], rfl, by simp [pack]⟩
  | v :: l, acc, n, hp => by
    unfold packOf at hp
    split at hp
    case h_2 => cases hp
    rename_i b
    split at hp
    case h_2 => cases hp
    rename_i hb
    have hb : b < 256 := by simpa using hb
    rw [forceN_eq] at hp
    obtain ⟨bs, h1, h2⟩ := packOf_spec hp
    have e : (UInt8.ofNat b).toNat = b := by simp; omega
    refine ⟨UInt8.ofNat b :: bs, by rw [h1, List.map_cons, e]; rfl, ?_⟩
    rw [h2, pack_cons, e, List.length_cons, Nat.pow_succ, Nat.add_mul]
    rw [Nat.mul_assoc, Nat.mul_comm 256, Nat.add_assoc]

theorem vsrel_bytes {bs : List UInt8} {cs : List Value} (hv : VsRel μ (bs.map (fun b => AVal.int .u8 (b.toNat : Int))) cs) : cs = byteVals bs := by
  induction bs generalizing cs with
  | nil => cases hv; rfl
  | cons b bs ih =>
    cases hv with
    | cons v cv l cl hh hs =>
      cases hh
      rw [ih hs]; rfl

theorem byteVals_length (bs : List UInt8) : (byteVals bs).length = bs.length := by simp [byteVals]

/-- A new row whose first cells are bytes. -/
theorem newBytes_good {bs : List UInt8} {c : Array Value} {e : TypeId} {w' : World} (fr : Nat × Nat) (hr : HRel μ h w) (hf : μ h.next = none) (hfr : fr.1 = fr.2 ∨ c.size ≤ fr.1)
    (hc : ∃ rest, c.toList = byteVals bs ++ rest) (he : w'.heap = w.heap.push (.cells c e fr)) (ho : w'.os = w.os) (hout : w'.output = w.output) (ht : w'.tape = w.tape) :
    ∃ im, im.base = 0 ∧ im.size = c.size ∧ im.blk = w.heap.size ∧ HRel (μ.add h.next im) (h.new (.bytes bs.length (pack bs))) w' ∧ Ext μ h w (μ.add h.next im) (h.new (.bytes bs.length (pack bs))) w' := by
  obtain ⟨rest, hc⟩ := hc
  have hsz : c.size = bs.length + rest.length := by rw [← Array.length_toList, hc]; simp [byteVals]
  obtain ⟨a, b⟩ := hr.new (o := .bytes bs.length (pack bs)) (size := c.size) hf he ho hout ht
    ⟨c, e, fr, bs, rfl, rfl, by simp; omega, hfr, rfl, rfl, fun i x hx => by
      have hi : i < bs.length := by
        rcases Nat.lt_or_ge i bs.length with h' | h'
        · exact h'
        · rw [List.getElem?_eq_none h'] at hx; cases hx
      rw [Nat.zero_add, ← Array.getElem?_toList, hc, List.getElem?_append_left (by rw [byteVals_length]; exact hi)]
      simp [byteVals, hx]⟩
  exact ⟨_, rfl, rfl, rfl, a, b⟩

theorem run_buildSlice' {t e : TypeId} {len n : Nat} {parts : Array (Nat × Value)} {cells cz : Array Value} {z : Value} (hu : P.underlying t = some (.slice e)) (hs : szOf P e = some n)
    (hz : (zeroValue e).run P w = .ok z w) (hsmall : len * n ≤ 16777216) (hcz : z.cells = cz)
    (h : Instr.fill (fun i => some (i * n, n)) ((Array.range (len * n)).map (cz[· % cz.size]!)) parts.toList = some cells) :
    (Instr.buildSlice t len parts).run P w = .ok (.slice (some ⟨w.heap.size, 0, none⟩) len len) (w.alloc (.cells cells e)) := by
  subst hcz
  have h1 : ¬ (16777216 < len * n) := by omega
  by_cases h0 : len * n = 0
  · have hsm : (len = 0 ∨ n = 0) := Nat.mul_eq_zero.1 h0
    have he : ((Array.range (len * n)).map (fun x => (#[] : Array Value)[x % (#[] : Array Value).size]!)) = ((Array.range (len * n)).map (z.cells[· % z.cells.size]!)) := by rw [h0]; simp
    rw [← he] at h
    simp only [Instr.buildSlice, Sem.run_bind, run_underlying hu, Result.andThen_ok, szOf_run hs, gt_iff_lt]
    rw [if_neg (by simpa using h1)]
    simp only [h0, if_true, Sem.run_pure, Result.andThen_ok, Sem.run_bind]
    rw [h0] at h
    rw [h]
    simp [newRow]
  · simp only [Instr.buildSlice, Sem.run_bind, run_underlying hu, Result.andThen_ok, szOf_run hs, gt_iff_lt]
    rw [if_neg (by simpa using h1)]
    simp only [h0, if_false, Sem.run_pure, Result.andThen_ok, Sem.run_bind, hz]
    rw [h]
    simp [newRow]

theorem bslice_good {t e : TypeId} {isByte : Bool} {n len : Nat} {z : List AVal} {env : Env} {ps : List (Nat × Nat × AOpd)} {parts : Array (Nat × Value)} (hr : HRel μ h w) (hf : μ h.next = none)
    (hu : P.underlying t = some (.slice e)) (hs : szOf P e = some n) (hz : (zeroOf P e).bind cellsO = some z) (hzn : z.length = n) (hsmall : len * n ≤ 16777216) (hb : isByte = true → n = 1)
    (hp : PRel μ env (fun i => some (i * n, n)) ps parts.toList) (hk : fillK env OR.fail ps (repl len z) (fun cs => bsliceOp isByte n len cs h) = OR.ok v h') : Good P μ h w (Instr.buildSlice t len parts) v h' := by
  obtain ⟨cz, h1, h2, h3⟩ := zeroCells_run hz w
  obtain ⟨hz1, hz2⟩ := zeros_rel (len := len) (h2 μ) hzn h3
  obtain ⟨l', c', a, b, d, hk, hsz⟩ := fill_sound hp hz1 hz2 hk
  have hsz : c'.size = len * n := by rw [hsz]; simp
  have hrun := run_buildSlice' (P := P) (w := w) hu hs h1 hsmall rfl a
  unfold bsliceOp at hk
  split at hk
  · -- bytes
    have hn : n = 1 := hb rfl
    split at hk
    case h_2 => cases hk
    rename_i m hm
    rw [Heap.newK_eq] at hk
    cases hk
    obtain ⟨bs, hl', hm'⟩ := packOf_spec hm
    subst hl'
    have hcs := vsrel_bytes b
    have hbl : bs.length = len := by
      have : c'.size = bs.length := by rw [← Array.length_toList, hcs, byteVals_length]
      rw [hn] at hsz; omega
    obtain ⟨im, i1, i2, i3, hr', hx⟩ := newBytes_good (bs := bs) (c := c') (e := e) (w' := w.alloc (.cells c' e)) (0, 0) hr hf (.inl rfl) ⟨[], by rw [hcs, List.append_nil]⟩ rfl rfl rfl rfl
    rw [Nat.zero_mul, Nat.zero_add] at hm'
    subst hm' hbl
    refine ⟨_, .slice (some ⟨im.blk, im.base + 0, none⟩) bs.length bs.length, _, ?_, ?_, hr', hx⟩
    · rw [hrun, i1, i3]
    · exact .slice _ _ _ _ _ _ im _ _ (Mu.add_same _ _ _) (Nat.le_refl _) (Nat.le_refl _) (fun _ => rfl) (by rw [i1, i2, hsz, hn]; omega) (fun _ => rfl)
  · rw [Heap.newK_eq] at hk
    cases hk
    obtain ⟨im, i1, i2, i3, _, hr', hx⟩ := newRow_good (P := P) (e := e) hr hf b d
    refine ⟨_, .slice (some ⟨im.blk, im.base + 0, none⟩) len len, _, ?_, ?_, hr', hx⟩
    · rw [hrun, i1, i3]
    · exact .slice _ _ _ _ _ _ im _ _ (Mu.add_same _ _ _) (Nat.le_refl _) (Nat.le_refl _) (fun _ => rfl) (by rw [i1, i2, hsz]; omega) (fun _ => rfl)

end Go.Cg

/- Appending. -/
namespace Go.Cg
variable [Syms]

variable {P : Program} {μ : Mu} {h h' : Heap} {w : World} {v : AVal}

/-! ### Rows that are read -/
/-- Elements as the model has them. -/
inductive RowRel (μ : Mu) (es : Nat) : Row → List Value → Prop where
  | cells (n : Nat) (l : List AVal) (cs : List Value) (hv : VsRel μ l cs) (h1 : ∀ x ∈ cs, x.oneCell' = true) (hl : l.length = n * es) : RowRel μ es (.cells n l) cs
  | bytes (bs : List UInt8) (he : es = 1) : RowRel μ es (.bytes bs.length (pack bs)) (byteVals bs)

theorem RowRel.length {es : Nat} {r : Row} {cs : List Value} (hr : RowRel μ es r cs) : cs.length = r.len * es := by
  cases hr with
  | cells n l cs hv h1 hl => rw [← hv.length]; exact hl
  | bytes bs he => rw [byteVals_length, he, Row.len, Nat.mul_one]

theorem RowRel.one {es : Nat} {r : Row} {cs : List Value} (hr : RowRel μ es r cs) : ∀ x ∈ cs, x.oneCell' = true := by
  cases hr with
  | cells n l cs hv h1 hl => exact h1
  | bytes bs he => intro x hx; obtain ⟨b, _, rfl⟩ := List.mem_map.1 hx; rfl

theorem RowRel.mono {μ' : Mu} (hm : Mu.le μ μ') {es : Nat} {r : Row} {cs : List Value} (hr : RowRel μ es r cs) : RowRel μ' es r cs := by
  cases hr with
  | cells n l cs hv h1 hl => exact .cells n l cs (hv.mono hm) h1 hl
  | bytes bs he => exact .bytes bs he

theorem RowRel.cat {es : Nat} {r1 r2 r : Row} {c1 c2 : List Value} (h1 : RowRel μ es r1 c1) (h2 : RowRel μ es r2 c2) (hc : r1.cat r2 = some r) : RowRel μ es r (c1 ++ c2) ∧ r.len = r1.len + r2.len := by
  cases h1 with
  | cells n l cs hv h1 hl =>
    cases h2 with
    | cells n' l' cs' hv' h1' hl' =>
      cases hc
      refine ⟨.cells _ _ _ (by rw [appL_eq]; exact hv.append hv') (fun x hx => ?_) (by rw [appL_eq, List.length_append, hl, hl', Nat.add_mul]), rfl⟩
      rcases List.mem_append.1 hx with hx | hx
      · exact h1 x hx
      · exact h1' x hx
    | bytes bs he => cases hc
  | bytes bs he =>
    cases h2 with
    | cells n' l' cs' hv' h1' hl' => cases hc
    | bytes bs' he' =>
      simp only [Row.cat, catStr_eq] at hc
      cases hc
      have : byteVals bs ++ byteVals bs' = byteVals (bs ++ bs') := by simp [byteVals]
      rw [this, ← List.length_append]
      exact ⟨.bytes _ he, by simp [Row.len]⟩

theorem rowOf_sound {es : Nat} {isByte : Bool} {x : AVal} {cx : Value} {r : Row} (hr : HRel μ h w) (hb : isByte = true → es = 1) (hx : VRel μ x cx) (hrow : rowOf es isByte x h = some r) :
    ∃ cs, RowRel μ es r cs ∧ (Builtin.lenOf cx).run P w = .ok r.len w ∧ ∀ w1 : World, w1.heap = w.heap → (Builtin.firstCells es r.len cx).run P w1 = .ok cs.toArray w1 := by
  unfold rowOf at hrow
  split at hrow
  · -- nil
    cases hx
    cases isByte with
    | true =>
      cases hrow
      exact ⟨[], .bytes [] (hb rfl), rfl, fun w1 _ => rfl⟩
    | false =>
      cases hrow
      exact ⟨[], .cells 0 [] [] .nil (by simp) (by simp), rfl, fun w1 _ => rfl⟩
  · -- a string
    cases hx with
    | str s len n hl hn =>
    split at hrow
    case isFalse => cases hrow
    rename_i hbt
    cases hrow
    subst hn hl
    have e1 : s.size = s.data.toList.length := by simp
    refine ⟨byteVals s.data.toList, ?_, rfl, fun w1 _ => ?_⟩
    · have := RowRel.bytes (μ := μ) (es := es) s.data.toList (hb hbt)
      rw [← e1] at this; exact this
    · have e2 : (s.extract 0 s.size) = s := by
        apply ByteArray.ext
        simp
      simp only [Builtin.firstCells, Row.len, e2, Sem.run_pure]
      congr 1
      apply Array.ext'
      simp [byteVals]
  · -- a slice
    rename_i b off len cap es' ex
    cases hx with
    | slice b off len cap es' ex im cap' adr hm hlen hcap hex hsz hadr =>
    split at hrow
    · -- cells
      rename_i vs hes hg
      have hes := Nat.eq_of_beq_eq_true hes
      subst hes
      have hB := hr.live b _ im hg hm
      split at hrow
      case h_2 => cases hrow
      rw [takeK_eq] at hrow
      split at hrow
      case isFalse => cases hrow
      rename_i hle
      cases hrow
      have hload : loadN (.cells vs) off (len * es) = some ((dropN off vs).take (len * es)) := by
        rw [loadN, takeK_eq, if_pos hle]
      obtain ⟨cs, c1, c2, c3, c4⟩ := loadN_sound hB hload
      refine ⟨cs, .cells _ _ _ c2 c3 (by simp; omega), rfl, fun w1 he => ?_⟩
      simp only [Builtin.firstCells, Row.len]
      by_cases h0 : len * es = 0
      · have : cs = [] := List.length_eq_zero_iff.1 (by omega)
        subst this
        rw [h0]; rfl
      · have hc' : 0 < cap' := by
          rcases Nat.eq_zero_or_pos cap' with hz | hz
          · have : len = 0 := by omega
            rw [this, Nat.zero_mul] at h0; exact absurd rfl h0
          · exact hz
        rw [hadr hc']
        have := run_loadCells_list (P := P) w1 ⟨im.blk, im.base + off, none⟩ cs (fun j v hv => by
          rw [addr_add]
          have := c4 j v hv
          simp only [World.cell?, he] at this ⊢
          exact this)
        rw [c1] at this
        exact this
    · -- bytes
      rename_i bl bn hes hg
      have hes := Nat.eq_of_beq_eq_true hes
      subst hes
      have hB := hr.live b _ im hg hm
      split at hrow
      case h_2 => cases hrow
      rename_i hbb
      simp only [Bool.and_eq_true] at hbb
      have he1 := hb hbb.1
      have hle := Nat.le_of_ble_eq_true hbb.2
      rw [forceN_eq] at hrow
      cases hrow
      subst he1
      obtain ⟨obj, hh, hor⟩ := hB
      obtain ⟨c, e, fr, bs, rfl, h2, h3, h4, rfl, rfl, h7⟩ := hor
      rw [subStr_eq bs off (off + len) (by omega) hle, Nat.add_sub_cancel_left]
      have hlen' : ((bs.drop off).take len).length = len := by simp; omega
      refine ⟨byteVals ((bs.drop off).take len), ?_, rfl, fun w1 he => ?_⟩
      · have := RowRel.bytes (μ := μ) (es := 1) ((bs.drop off).take len) rfl
        rw [hlen'] at this; exact this
      · simp only [Builtin.firstCells, Row.len, Nat.mul_one]
        by_cases h0 : len = 0
        · subst h0
          simp only [List.take_zero]
          rfl
        · rw [hadr (by omega)]
          have := run_loadCells_list (P := P) w1 ⟨im.blk, im.base + off, none⟩ (byteVals ((bs.drop off).take len)) (fun j v hv => by
            rw [addr_add]
            have hc : w1.cell? ⟨im.blk, im.base + off + j, none⟩ = c[im.base + off + j]? := cell_at (e := e) (fr := fr) (by rw [he]; exact hh)
            rw [hc]
            simp only [byteVals, List.getElem?_map] at hv
            cases hx : ((bs.drop off).take len)[j]? with
            | none => rw [hx] at hv; cases hv
            | some x =>
              rw [hx] at hv; cases hv
              have hj : j < len := by
                rcases Nat.lt_or_ge j len with h' | h'
                · exact h'
                · rw [List.getElem?_eq_none (by omega)] at hx; cases hx
              rw [List.getElem?_take, if_pos hj, List.getElem?_drop] at hx
              have := h7 (off + j) x hx
              rwa [← Nat.add_assoc] at this)
          rw [byteVals_length, hlen'] at this
          exact this
    · cases hrow
  · cases hrow

end Go.Cg

/- Appending, copying. -/
namespace Go.Cg
variable [Syms]

variable {P : Program} {μ : Mu} {h h' : Heap} {w : World} {v : AVal}

theorem storeRow_sound {im : Img} {o o' : ABlk} {off es : Nat} {r : Row} {cs : List Value} (hb : BRel μ w im o) (hr : RowRel μ es r cs) (hs : storeRow o off r = some o')
    (hg : im.base + off + r.len * es ≤ im.size) :
    ∃ w', (storeCells ⟨im.blk, im.base + off, none⟩ cs 0).run P w = .ok () w' ∧ Wrote w w' im.blk ∧ BRel μ w' im o' := by
  cases hr with
  | cells n l cs hv h1 hl =>
    exact storeL_sound hb hs hv h1 (fun _ => by rw [hl]; exact hg)
  | bytes bs he =>
    subst he
    exact storeB_sound hb hs (fun _ => by simpa [Row.len] using hg)

/-- A new row: its first cells are the row's. -/
theorem newRow_of {es : Nat} {r : Row} {cs : List Value} {c : Array Value} {e : TypeId} {w' : World} (hr : HRel μ h w) (hf : μ h.next = none) (hrow : RowRel μ es r cs)
    (hc : ∃ rest, c.toList = cs ++ rest) (he : w'.heap = w.heap.push (.cells c e)) (ho : w'.os = w.os) (hout : w'.output = w.output) (ht : w'.tape = w.tape) :
    ∃ im, im.base = 0 ∧ im.size = c.size ∧ im.blk = w.heap.size ∧ HRel (μ.add h.next im) (h.new r.blk) w' ∧ Ext μ h w (μ.add h.next im) (h.new r.blk) w' := by
  cases hrow with
  | cells n l cs hv h1 hl =>
    have hle := Mu.le_add ⟨w.heap.size, 0, c.size⟩ hf
    obtain ⟨rest, hc⟩ := hc
    obtain ⟨a, b⟩ := hr.new (o := .cells l) (size := c.size) hf he ho hout ht (orel_cells rfl rfl ⟨cs, rest, hc, hv.mono hle, h1⟩)
    exact ⟨_, rfl, rfl, rfl, a, b⟩
  | bytes bs hes => exact newBytes_good (0, 0) hr hf (.inl rfl) hc he ho hout ht

/-- A block forgotten. -/
theorem HRel.kill {b : Pos} (hr : HRel μ h w) : HRel μ (h.put b none) w where
  live := fun c o im hc hm => by
    by_cases e : c = b
    · subst e; rw [Heap.get_put_same] at hc; cases hc
    · rw [Heap.get_put_other _ _ (Ne.symm e)] at hc; exact hr.live c o im hc hm
  inj := fun c c' o o' im im' h1 h2 m1 m2 hb => by
    by_cases e : c = b
    · subst e; rw [Heap.get_put_same] at h1; cases h1
    · by_cases e' : c' = b
      · subst e'; rw [Heap.get_put_same] at h2; cases h2
      · rw [Heap.get_put_other _ _ (Ne.symm e)] at h1; rw [Heap.get_put_other _ _ (Ne.symm e')] at h2
        exact hr.inj c c' o o' im im' h1 h2 m1 m2 hb
  bound := hr.bound
  scope := fun c o hc => by
    rw [Heap.next_put]
    by_cases e : c = b
    · subst e; rw [Heap.get_put_same] at hc; cases hc
    · rw [Heap.get_put_other _ _ (Ne.symm e)] at hc; exact hr.scope c o hc

theorem Ext.kill {μ' : Mu} {w' : World} {b : Pos} {im : Img} (hx : Ext μ h w μ' h' w') (hm : μ b = some im) : Ext μ h w μ' (h'.put b none) w' where
  mono := hx.mono
  newid := fun c i x y => by rw [Heap.next_put]; exact hx.newid c i x y
  next := by rw [Heap.next_put]; exact hx.next
  hsize := hx.hsize
  frame := hx.frame
  aframe := fun c o x y => by
    by_cases e : c = b
    · subst e; rw [hm] at y; cases y
    · rw [Heap.get_put_other _ _ (Ne.symm e)]; exact hx.aframe c o x y
  own := fun c o i x y z => by
    by_cases e : c = b
    · subst e; rw [Heap.get_put_same] at x; cases x
    · rw [Heap.get_put_other _ _ (Ne.symm e)] at x; exact hx.own c o i x y z
  os := hx.os
  output := hx.output
  tape := hx.tape

theorem orel_mono_one {im : Img} {o : ABlk} {obj : Obj} {b : Pos} {i : Img} (hn : μ b = none) (ho : ORel μ im o obj) : ORel (μ.add b i) im o obj := ho.mono (Mu.le_add i hn)

/-- A block's name changed: the row from a place on, as a block of its own. -/
theorem HRel.move {w' : World} {b : Pos} {o o' : ABlk} {im im' : Img} (hr : HRel μ h w) (hf : μ h.next = none) (hb : h.get b = some o) (hm : μ b = some im) (hblk : im'.blk = im.blk)
    (hw : Wrote w w' im.blk) (hrel : BRel (μ.add h.next im') w' im' o') :
    HRel (μ.add h.next im') ((h.new o').put b none) w' ∧ Ext μ h w (μ.add h.next im') ((h.new o').put b none) w' := by
  have hle := Mu.le_add im' hf
  have hne : b ≠ h.next := fun e => by have := hr.scope b o hb; rw [e] at this; omega
  have getold : ∀ c x, ((h.new o').put b none).get c = some x → c ≠ h.next → c ≠ b ∧ h.get c = some x := by
    intro c x hc hn
    by_cases e : c = b
    · subst e; rw [Heap.get_put_same] at hc; cases hc
    · rw [Heap.get_put_other _ _ (Ne.symm e), Heap.get_new_other _ _ (Ne.symm hn)] at hc
      exact ⟨e, hc⟩
  have getnew : ((h.new o').put b none).get h.next = some o' := by rw [Heap.get_put_other _ _ hne, Heap.get_new_same]
  constructor
  · constructor
    · intro c x i hc hi
      by_cases e : c = h.next
      · subst e; rw [getnew] at hc; cases hc; rw [Mu.add_same] at hi; cases hi; exact hrel
      · obtain ⟨e1, hc⟩ := getold c x hc e
        rw [Mu.add_other _ e] at hi
        obtain ⟨obj, a, r⟩ := hr.live c x i hc hi
        exact ⟨obj, by rw [hw.other _ fun e' => e1 (hr.inj c b x o i im hc hb hi hm e')]; exact a, r.mono hle⟩
    · intro c c' x x' i i' h1 h2 m1 m2 hbl
      by_cases e : c = h.next
      · by_cases e' : c' = h.next
        · rw [e, e']
        · subst e
          obtain ⟨e1, h2⟩ := getold c' x' h2 e'
          rw [Mu.add_same] at m1; cases m1
          rw [Mu.add_other _ e'] at m2
          exact absurd (hr.inj c' b x' o i' im h2 hb m2 hm (by rw [← hbl, hblk])) e1
      · by_cases e' : c' = h.next
        · subst e'
          obtain ⟨e1, h1⟩ := getold c x h1 e
          rw [Mu.add_same] at m2; cases m2
          rw [Mu.add_other _ e] at m1
          exact absurd (hr.inj c b x o i im h1 hb m1 hm (by rw [hbl, hblk])) e1
        · obtain ⟨_, h1⟩ := getold c x h1 e
          obtain ⟨_, h2⟩ := getold c' x' h2 e'
          rw [Mu.add_other _ e] at m1; rw [Mu.add_other _ e'] at m2
          exact hr.inj c c' x x' i i' h1 h2 m1 m2 hbl
    · intro c i hi
      rw [hw.size]
      by_cases e : c = h.next
      · subst e; rw [Mu.add_same] at hi; cases hi; rw [hblk]; exact hr.bound b im hm
      · rw [Mu.add_other _ e] at hi; exact hr.bound c i hi
    · intro c x hc
      rw [Heap.next_put, Heap.next_new, Pos.nat_succ]
      by_cases e : c = h.next
      · subst e; omega
      · have := hr.scope c x (getold c x hc e).2; omega
  · constructor
    · exact hle
    · intro c i h1 h2
      rw [Heap.next_put, Heap.next_new, Pos.nat_succ]
      by_cases e : c = h.next
      · subst e; omega
      · rw [Mu.add_other _ e, h2] at h1; cases h1
    · rw [Heap.next_put, Heap.next_new, Pos.nat_succ]; exact Nat.le_succ _
    · rw [hw.size]; exact Nat.le_refl _
    · intro β hβ hn
      exact hw.other β fun e => hn b o im hb hm e.symm
    · intro c x h1 h2
      have e1 : c ≠ b := fun e => by subst e; rw [hm] at h2; cases h2
      have e2 : c ≠ h.next := fun e => by have := hr.scope c x h1; rw [e] at this; omega
      rw [Heap.get_put_other _ _ (Ne.symm e1), Heap.get_new_other _ _ (Ne.symm e2)]; exact h1
    · intro c x i h1 h2 h3
      by_cases e : c = h.next
      · subst e; rw [Mu.add_same] at h2; cases h2; exact ⟨b, o, im, hb, hm, hblk.symm⟩
      · obtain ⟨_, h1⟩ := getold c x h1 e
        rw [Mu.add_other _ e] at h2
        exact ⟨c, x, i, h1, h2, rfl⟩
    · exact hw.os
    · exact hw.output
    · exact hw.tape

/-- What a written row reads as, as a block of its own. -/
theorem view_row {im : Img} {o o' : ABlk} {off es len : Nat} {isByte : Bool} {old new row : Row} {cap : Nat} {ex : Bool} {b : Pos}
    (hb : BRel μ w im o') (ho : h.get b = some o) (hst : storeRow o (off + len * es) new = some o') (hold : rowOf es isByte (.slice b off len cap es ex) h = some old)
    (hc : old.cat new = some row) (hes : isByte = true → es = 1) (hnl : ∀ n l, new = .cells n l → l.length = n * es) (hnb : ∀ n m, new = .bytes n m → ∃ bs : List UInt8, n = bs.length ∧ m = pack bs)
    (hob : ∀ n m, o = .bytes n m → ∃ bs : List UInt8, n = bs.length ∧ m = pack bs) :
    BRel μ w ⟨im.blk, im.base + off, im.size⟩ row.blk := by
  obtain ⟨obj, hh, hor⟩ := hb
  refine ⟨obj, hh, ?_⟩
  unfold rowOf at hold
  simp only [ho] at hold
  cases o with
  | cells vs =>
    simp only [show Nat.beq es es = true from Nat.beq_refl _] at hold
    split at hold
    case h_2 => cases hold
    rw [takeK_eq] at hold
    split at hold
    case isFalse => cases hold
    rename_i hle
    rw [dropN_eq] at hle hold
    cases hold
    rw [List.length_drop] at hle
    cases new with
    | bytes n m => cases hc
    | cells n l =>
      cases hc
      have hl := hnl n l rfl
      simp only [storeRow, storeL] at hst
      split at hst
      case h_2 => cases hst
      rw [takeK_eq] at hst
      split at hst
      case isFalse => cases hst
      rename_i hle2
      cases hst
      obtain ⟨c, e, fr, rfl, h2, h3, h4, h5⟩ := hor
      rw [appL_eq, appL_eq, dropN_eq] at h3 h5
      simp only [List.length_append, List.length_take, List.length_drop] at h3
      refine ⟨c, e, fr, rfl, h2, ?_, h4, fun i v hv => ?_⟩
      · simp only [appL_eq, List.length_append, List.length_take, List.length_drop]
        omega
      · have := h5 (off + i) v (by
          rw [appL_eq] at hv
          by_cases c1 : i < len * es
          · rw [List.getElem?_append_left (by simp; omega), List.getElem?_take, if_pos c1, List.getElem?_drop] at hv
            rw [List.getElem?_append_left (by simp; omega), List.getElem?_take, if_pos (by omega)]
            exact hv
          · rw [List.getElem?_append_right (by simp; omega)] at hv
            simp only [List.length_take, List.length_drop] at hv
            have hi : i - min (len * es) (vs.length - off) < l.length := by
              rcases Nat.lt_or_ge (i - min (len * es) (vs.length - off)) l.length with h' | h'
              · exact h'
              · rw [List.getElem?_eq_none h'] at hv; cases hv
            rw [List.getElem?_append_right (by simp; omega)]
            simp only [List.length_take]
            rw [show off + i - min (off + len * es) vs.length = i - min (len * es) (vs.length - off) by omega]
            rw [List.getElem?_append_left hi]
            exact hv)
        rwa [← Nat.add_assoc] at this
  | bytes ol on =>
    simp only [show Nat.beq es es = true from Nat.beq_refl _] at hold
    split at hold
    case h_2 => cases hold
    rename_i hbb
    simp only [Bool.and_eq_true] at hbb
    have hes1 := hes hbb.1
    have hle := Nat.le_of_ble_eq_true hbb.2
    subst hes1
    rw [forceN_eq] at hold
    cases hold
    cases new with
    | cells n l => cases hc
    | bytes n m =>
      cases hc
      obtain ⟨nb, rfl, rfl⟩ := hnb n m rfl
      obtain ⟨l, rfl, rfl⟩ := hob ol on rfl
      simp only [storeRow, Nat.mul_one] at hst
      obtain ⟨l', rfl, hoff, _, hlen, hget⟩ := storeB_list hst
      obtain ⟨c, e, fr, l'', rfl, h2, h3, h4, h5, h6, h7⟩ := hor
      have := pack_inj h5 h6
      subst this
      have e1 : subStr l.length (pack l) off (off + len) = pack ((l.drop off).take len) := by
        rw [subStr_eq l off (off + len) (by omega) hle, Nat.add_sub_cancel_left]
      have hlen' : ((l.drop off).take len).length = len := by simp; omega
      refine ⟨c, e, fr, (l.drop off).take len ++ nb, rfl, h2, ?_, h4, by rw [List.length_append, hlen'], by rw [e1, catStr_eq], fun i x hx => ?_⟩
      · rw [hlen] at h3; simp only []; omega
      · have hg : l''[off + i]? = some x := by
          rw [hget]
          by_cases c1 : i < len
          · rw [if_neg (by omega)]
            rw [List.getElem?_append_left (by omega), List.getElem?_take, if_pos c1, List.getElem?_drop] at hx
            exact hx
          · rw [List.getElem?_append_right (by omega), hlen'] at hx
            have hi : i - len < nb.length := by
              rcases Nat.lt_or_ge (i - len) nb.length with h' | h'
              · exact h'
              · rw [List.getElem?_eq_none h'] at hx; cases hx
            rw [if_pos (by omega), show off + i - (off + len) = i - len by omega]
            exact hx
        have := h7 (off + i) x hg
        rwa [← Nat.add_assoc] at this
  | map es clock => simp at hold
  | siter len n pos => simp at hold
  | miter m since seen stepped => simp at hold

end Go.Cg

/- Appending: the model's, by what the evaluator does. -/
namespace Go.Cg
variable [Syms]

variable {P : Program} {μ : Mu} {h h' : Heap} {w : World} {v : AVal}

section
variable {ats : Array TypeId} {t u e ty : TypeId} {d : TypeDesc} {es n : Nat} {cx : Value} {cs : List Value}

theorem append_run_in (h0 : ats[0]? = some t) (h1 : ats[1]? = some u) (hu : P.underlying t = some (.slice e)) (hd : P.underlying u = some d) (hd' : (∃ x, d = .slice x) ∨ d = .string) (hs : szOf P e = some es)
    (hlen : (Builtin.lenOf cx).run P w = .ok n w) (hfc : (Builtin.firstCells es n cx).run P w = .ok cs.toArray w) (base : Option Addr) (sLen sCap : Nat) (hin : sLen + n ≤ sCap) :
    (Builtin.append_ ats ty #[.slice base sLen sCap, cx]).run P w =
      ((match base with | some a => storeCells (a.add (sLen * es)) cs | none => pure ()).run P w).andThen fun _ w => .ok (.slice base (sLen + n) sCap) w := by
  rcases hd' with ⟨x, rfl⟩ | rfl
  all_goals
    cases base <;> simp [Builtin.append_, h0, h1, run_underlying hu, run_underlying hd, szOf_run hs, hlen, hin, hfc]

theorem append_run_new (h0 : ats[0]? = some t) (h1 : ats[1]? = some u) (hu : P.underlying t = some (.slice e)) (hd : P.underlying u = some d) (hd' : (∃ x, d = .slice x) ∨ d = .string) (hs : szOf P e = some es)
    {bytes : Nat} (hby : byOf P e = some bytes) (hbp : 0 < bytes) {z : List AVal} (hz : (zeroOf P e).bind cellsO = some z)
    (hlen : (Builtin.lenOf cx).run P w = .ok n w) (hfc : ∀ w1 : World, w1.heap = w.heap → (Builtin.firstCells es n cx).run P w1 = .ok cs.toArray w1) (base : Option Addr) (sLen sCap : Nat)
    {olds : List Value} (hfo : ∀ w1 : World, w1.heap = w.heap → (Builtin.firstCells es sLen (.slice base sLen sCap)).run P w1 = .ok olds.toArray w1)
    (hin : ¬ sLen + n ≤ sCap) (hmost : (sLen + n) * bytes ≤ most) :
    ∃ (cap' : Nat) (rest : List Value), sLen + n ≤ cap' ∧ rest.length = (cap' - (sLen + n)) * (z.length) ∧ (Builtin.append_ ats ty #[.slice base sLen sCap, cx]).run P w =
      .ok (.slice (some ⟨w.heap.size, 0, none⟩) (sLen + n) cap') (w.drew.alloc (.cells (olds ++ cs ++ rest).toArray e)) := by
  obtain ⟨i, hi1, hi2, hi3⟩ := byOf_run hby w
  obtain ⟨cz, hz1, hz2, hz3⟩ := zeroCells_run (P := P) hz w
  have hsz : z.length = cz.cells.size := by simpa using (hz2 (fun _ => none)).length
  have hneed : sLen + n ≤ most := by
    have : sLen + n ≤ (sLen + n) * bytes := Nat.le_mul_of_pos_right _ hbp
    omega
  have hm : most = 1099511627776 := rfl
  have h63 : ¬ (9223372036854775807 < ((sLen : Int) + (n : Int))) := by omega
  have h48 : ¬ (281474976710656 < Builtin.nextslicecap (sLen + n) sCap * bytes) := by
    have a := nextslicecap_le (need := sLen + n) (old := sCap) (by omega)
    have b : Builtin.nextslicecap (sLen + n) sCap * bytes ≤ 2 * (sLen + n) * bytes := Nat.mul_le_mul_right _ a
    rw [Nat.mul_assoc] at b
    omega
  have hz' : ∀ w1 : World, (zeroValue e).run P w1 = .ok cz w1 := fun w1 => by
    obtain ⟨cz', a, _, _⟩ := zeroCells_run (P := P) hz w1
    have : cz' = cz := by
      unfold zeroOf at hz
      simp only [zeroValue, Sem.run_bind, typeInfo, run_program, Result.andThen_ok, hi3, Sem.run_pure] at a hz1
      cases hzz : i.zero with
      | none => simp only [hzz] at a; cases a
      | some zz => simp only [hzz] at a hz1; cases a; cases hz1; rfl
    rw [this] at a; exact a
  refine ⟨grownCap w (sLen + n) sCap e, (Builtin.zeroCells cz.cells (grownCap w (sLen + n) sCap e - (sLen + n))).toList, ?_, ?_, ?_⟩
  · simp only [grownCap, Question.cut]; omega
  · simp [Builtin.zeroCells, hsz]
  · rcases hd' with ⟨x, rfl⟩ | rfl
    all_goals
      have hf1 := hfc w.drew rfl
      have hf2 := hfo w.drew rfl
      simp [Builtin.append_, h0, h1, run_underlying hu, run_underlying hd, szOf_run hs, hlen, hin, typeInfo, hi3, hi2, h63, h48, Question.forced, hf1, hf2, hz', newRow, grownCap]
      congr 2
      apply Array.ext'
      simp
end

end Go.Cg

/- Appending: sound. -/
namespace Go.Cg
variable [Syms]

variable {P : Program} {μ : Mu} {h h' : Heap} {w : World} {v : AVal}

theorem rowrel_cells {es : Nat} {r : Row} {cs : List Value} (hr : RowRel μ es r cs) : ∀ n l, r = .cells n l → l.length = n * es := by
  intro n l e; cases hr with
  | cells n' l' cs hv h1 hl => cases e; exact hl
  | bytes bs he => cases e

theorem rowrel_bytes {es : Nat} {r : Row} {cs : List Value} (hr : RowRel μ es r cs) : ∀ n m, r = .bytes n m → ∃ bs : List UInt8, n = bs.length ∧ m = pack bs := by
  intro n l e; cases hr with
  | cells n' l' cs hv h1 hl => cases e
  | bytes bs he => cases e; exact ⟨bs, rfl, rfl⟩

theorem brel_bytes {im : Img} {o : ABlk} (hb : BRel μ w im o) : ∀ n m, o = .bytes n m → ∃ bs : List UInt8, n = bs.length ∧ m = pack bs := by
  intro n m e
  subst e
  obtain ⟨obj, hh, c, e, fr, bs, _, _, _, _, h1, h2, _⟩ := hb
  exact ⟨bs, h1.symm, h2.symm⟩

theorem HRel.drew (hr : HRel μ h w) : HRel μ h w.drew := hr.same rfl

theorem new_slice {es need : Nat} {r : Row} {e : TypeId} {all rest : List Value} {cap' : Nat} (hr : HRel μ h w) (hf : μ h.next = none) (hrow : RowRel μ es r all) (hlen : r.len = need) (hcap : need ≤ cap')
    (hrest : rest.length = (cap' - need) * es) {s : Sem Value} (hrun : s.run P w = .ok (.slice (some ⟨w.heap.size, 0, none⟩) need cap') (w.drew.alloc (.cells (all ++ rest).toArray e))) :
    Good P μ h w s (.slice h.next 0 need need es false) (h.new r.blk) := by
  obtain ⟨im, i1, i2, i3, hr', hx⟩ := newRow_of (c := (all ++ rest).toArray) (e := e) (w' := w.drew.alloc (.cells (all ++ rest).toArray e)) hr hf hrow ⟨rest, by simp⟩ rfl rfl rfl rfl
  have hal := hrow.length
  refine ⟨_, .slice (some ⟨im.blk, im.base + 0, none⟩) need cap', _, ?_, ?_, hr', hx⟩
  · rw [hrun, i1, i3]
  · refine .slice _ _ _ _ _ _ im _ _ (Mu.add_same _ _ _) (Nat.le_refl _) hcap (fun hc => by cases hc) ?_ (fun _ => rfl)
    rw [i1, i2]
    simp only [List.size_toArray, List.length_append, hal, hlen, hrest]
    rw [← Nat.add_mul, Nat.add_sub_cancel' hcap]
    omega

/-- A row behind what was read can be laid. -/
theorem storeRow_some {b : Pos} {o : ABlk} {off len cap es : Nat} {ex isByte : Bool} {old new row : Row} (ho : h.get b = some o) (hold : rowOf es isByte (.slice b off len cap es ex) h = some old)
    (hc : old.cat new = some row) (hb : isByte = true → es = 1) : ∃ o', storeRow o (off + len * es) new = some o' := by
  unfold rowOf at hold
  simp only [ho, show Nat.beq es es = true from Nat.beq_refl _] at hold
  cases o with
  | cells vs =>
    simp only [] at hold
    split at hold
    case h_2 => cases hold
    rename_i hbb
    simp only [Bool.and_eq_true] at hbb
    have hle := Nat.le_of_ble_eq_true hbb.2
    rw [takeK_eq] at hold
    split at hold
    case isFalse => cases hold
    cases hold
    cases new with
    | bytes n m => cases hc
    | cells n l =>
      simp only [storeRow, storeL, Bool.or_true]
      rw [takeK_eq]
      rw [if_pos hle]; exact ⟨_, rfl⟩
  | bytes ol on =>
    simp only [] at hold
    split at hold
    case h_2 => cases hold
    rename_i hbb
    simp only [Bool.and_eq_true] at hbb
    have hes := hb hbb.1
    have hle := Nat.le_of_ble_eq_true hbb.2
    subst hes
    rw [forceN_eq] at hold
    cases hold
    cases new with
    | cells n l => cases hc
    | bytes n m =>
      simp only [storeRow, storeB, Nat.mul_one]
      split
      · rw [forceN_eq]; exact ⟨_, rfl⟩
      · rw [Nat.ble_eq_true_of_le hle]
        simp only [Bool.and_true, forceN_eq]
        exact ⟨_, rfl⟩
  | map es clock => simp at hold
  | siter len n pos => simp at hold
  | miter m since seen stepped => simp at hold

section
variable {ats : Array TypeId} {t u e ty : TypeId} {d : TypeDesc} {es bytes : Nat} {isByte : Bool} {z : List AVal} {s x : AVal} {cs cx : Value}

theorem append_good (hr : HRel μ h w) (hf : Fresh μ h h') (h0 : ats[0]? = some t) (h1 : ats[1]? = some u) (hu : P.underlying t = some (.slice e)) (hd : P.underlying u = some d)
    (hd' : (∃ x, d = .slice x) ∨ d = .string) (hs : szOf P e = some es) (hby : byOf P e = some bytes) (hbp : 0 < bytes) (hz : (zeroOf P e).bind cellsO = some z) (hzl : z.length = es) (hb : isByte = true → es = 1)
    (hsr : VRel μ s cs) (hxr : VRel μ x cx) (hk : appendOp es bytes isByte s x h = .ok v h') : Good P μ h w (Builtin.append_ ats ty #[cs, cx]) v h' := by
  unfold appendOp at hk
  split at hk
  case h_1 => cases hk
  rename_i new hnew
  obtain ⟨nc, n1, n2, n3⟩ := rowOf_sound (P := P) hr hb hxr hnew
  have ncl := n1.length
  split at hk
  · -- nil
    cases hsr
    split at hk
    · rename_i hl0
      cases hk
      refine Good.of_pure hr (cv := .slice none 0 0) ?_ .nilslice
      rw [append_run_in h0 h1 hu hd hd' hs n2 (n3 w rfl) none 0 0 (by omega)]
      simp [hl0]
    · rename_i n hl
      split at hk
      case h_2 => cases hk
      rename_i hbb
      simp only [Bool.and_eq_true] at hbb
      have hm := Nat.le_of_ble_eq_true hbb.1
      rw [forceN_eq, Heap.newK_eq] at hk
      cases hk
      have hfr : μ h.next = none := hf h.next (Nat.le_refl _) (by rw [Heap.next_new, Pos.nat_succ]; exact Nat.lt_succ_self _)
      obtain ⟨cap', rest, r1, r2, r3⟩ := append_run_new (ty := ty) h0 h1 hu hd hd' hs hby hbp hz n2 n3 none 0 0 (olds := []) (fun w1 _ => rfl) (by omega) (by rw [Nat.zero_add, hl]; exact hm)
      rw [Nat.zero_add] at r1 r2 r3
      rw [hl] at r1 r2 r3
      rw [hzl] at r2
      exact new_slice hr hfr n1 hl r1 r2 (by simpa using r3)
  · -- a slice
    rename_i b off len cap es' ex
    split at hk
    case h_1 => cases hk
    rename_i hbb
    simp only [Bool.and_eq_true] at hbb
    have hes := Nat.eq_of_beq_eq_true hbb.1
    subst hes
    have hes0 : 0 < es := by simpa using hbb.2
    have hsr' := hsr
    cases hsr with
    | slice b off len cap _ ex im cap' adr hm hlen hcap hex hsz hadr =>
    rw [forceN_eq] at hk
    split at hk
    · -- in place
      rename_i hle
      have hle := Nat.le_of_ble_eq_true hle
      split at hk
      case h_2 => cases hk
      rename_i o ho
      split at hk
      case h_2 => cases hk
      rename_i o' ho'
      rw [Heap.putK_eq] at hk
      cases hk
      have hB := hr.live b o im ho hm
      have hmul : (len + new.len) * es ≤ cap' * es := Nat.mul_le_mul_right _ (by omega)
      have hbnd : im.base + (off + len * es) + new.len * es ≤ im.size := by rw [Nat.add_mul] at hmul; omega
      obtain ⟨w', hst, hwr, hB'⟩ := storeRow_sound (P := P) hB n1 ho' hbnd
      have hrun := append_run_in (ty := ty) h0 h1 hu hd hd' hs n2 (n3 w rfl) (some adr) len cap' (by omega)
      simp only [] at hrun
      have hst' : (storeCells (adr.add (len * es)) nc).run P w = .ok () w' := by
        rcases Nat.eq_zero_or_pos cap' with hc0 | hc0
        · have hn0 : nc = [] := List.length_eq_zero_iff.1 (by rw [ncl, show new.len = 0 by omega, Nat.zero_mul])
          subst hn0
          exact hst
        · rw [hadr hc0, addr_add, Nat.add_assoc]; exact hst
      rw [hst', Result.andThen_ok] at hrun
      obtain ⟨a, c⟩ := hr.put ho hm hwr.size hwr.other hwr.os hwr.output hwr.tape hB'
      exact ⟨μ, _, w', hrun, .slice b off _ cap es ex im cap' adr hm hle hcap hex hsz hadr, a, c⟩
    · -- a new row, perhaps
      rename_i hle
      have hle : ¬ len + new.len ≤ cap := fun hc => by rw [Nat.ble_eq_true_of_le hc] at hle; cases hle
      split at hk
      case h_1 => cases hk
      rename_i hmost
      have hmost := Nat.le_of_ble_eq_true hmost
      split at hk
      case h_1 => cases hk
      rename_i old hold
      split at hk
      case h_1 => cases hk
      rename_i row hrow
      obtain ⟨oc, o1, o2, o3⟩ := rowOf_sound (P := P) hr hb hsr' hold
      have hol : old.len = len := by
        have : (Builtin.lenOf (.slice (some adr) len cap')).run P w = .ok len w := rfl
        rw [this] at o2; cases o2; rfl
      obtain ⟨c1, c2⟩ := o1.cat n1 hrow
      rw [hol] at c2 o3
      have grow : ¬ len + new.len ≤ cap' → μ h.next = none → Good P μ h w (Builtin.append_ ats ty #[.slice (some adr) len cap', cx]) (.slice h.next 0 (len + new.len) (len + new.len) es false) (h.new row.blk) := by
        intro hn hfr
        obtain ⟨cap2, rest, r1, r2, r3⟩ := append_run_new (ty := ty) h0 h1 hu hd hd' hs hby hbp hz n2 n3 (some adr) len cap' (olds := oc) o3 hn hmost
        rw [hzl] at r2
        exact new_slice hr hfr c1 c2 r1 r2 r3
      split at hk
      · -- the capacity is known
        rw [Heap.newK_eq] at hk
        cases hk
        have hfr : μ h.next = none := hf h.next (Nat.le_refl _) (by rw [Heap.next_new, Pos.nat_succ]; exact Nat.lt_succ_self _)
        exact grow (by rw [hex rfl]; exact hle) hfr
      · rw [Heap.newK_eq, Heap.putK_eq] at hk
        cases hk
        have hfr : μ h.next = none := hf h.next (Nat.le_refl _) (by rw [Heap.next_put, Heap.next_new, Pos.nat_succ]; exact Nat.lt_succ_self _)
        by_cases hin : len + new.len ≤ cap'
        · -- in place
          -- the block is there, for its row was read
          obtain ⟨o, ho⟩ : ∃ o, h.get b = some o := by
            unfold rowOf at hold
            cases hg : h.get b with
            | none => simp only [hg] at hold; simp at hold
            | some o => exact ⟨o, rfl⟩
          have hB := hr.live b o im ho hm
          have hmul : (len + new.len) * es ≤ cap' * es := Nat.mul_le_mul_right _ hin
          have hbnd : im.base + (off + len * es) + new.len * es ≤ im.size := by rw [Nat.add_mul] at hmul; omega
          obtain ⟨o', ho'⟩ := storeRow_some ho hold hrow hb
          obtain ⟨w', hst, hwr, hB'⟩ := storeRow_sound (P := P) hB n1 ho' hbnd
          have hrun := append_run_in (ty := ty) h0 h1 hu hd hd' hs n2 (n3 w rfl) (some adr) len cap' hin
          simp only [] at hrun
          have hst' : (storeCells (adr.add (len * es)) nc).run P w = .ok () w' := by
            rcases Nat.eq_zero_or_pos cap' with hc0 | hc0
            · omega
            · rw [hadr hc0, addr_add, Nat.add_assoc]; exact hst
          rw [hst', Result.andThen_ok] at hrun
          have hview := view_row hB' ho ho' hold hrow hb (rowrel_cells n1) (rowrel_bytes n1) (brel_bytes hB)
          obtain ⟨a, c⟩ := hr.move (im' := ⟨im.blk, im.base + off, im.size⟩) hfr ho hm rfl hwr (o' := row.blk) (by
            obtain ⟨obj, q1, q2⟩ := hview
            exact ⟨obj, q1, q2.mono (Mu.le_add _ hfr)⟩)
          refine ⟨_, _, w', hrun, ?_, a, c⟩
          refine .slice _ _ _ _ _ _ ⟨im.blk, im.base + off, im.size⟩ cap' adr (Mu.add_same _ _ _) (Nat.le_refl _) hin (fun hc => by cases hc) (by simpa using hsz) (fun hc => ?_)
          rw [hadr hc]; rfl
        · obtain ⟨μ', cv, w', q1, q2, q3, q4⟩ := grow hin hfr
          exact ⟨μ', cv, w', q1, q2, q3.kill, q4.kill hm⟩
  · cases hk
end

end Go.Cg
end
