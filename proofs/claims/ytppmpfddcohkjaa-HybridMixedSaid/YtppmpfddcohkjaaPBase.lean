/- What the functions below the laws answer, in plain lists and numbers; no condition but the sizes that a machine has. -/
import Derived.Test.YtppmpfddcohkjaaEqs0
import Derived.Test.YtppmpfddcohkjaaEqs1
import Derived.Laws.BitsLemmas
import Derived.KernelRfl
namespace Go.Proofs.YtppmpfddcohkjaaP
open Go Go.Proofs.YtppmpfddcohkjaaA

theorem wi64 (n : Int) (h : -9223372036854775808 ≤ n ∧ n ≤ 9223372036854775807) : IntKind.i64.wrap n = n := by rw [IntKind.wrap_i64]; omega
theorem wu64 (n : Int) (h : 0 ≤ n ∧ n ≤ 18446744073709551615) : IntKind.u64.wrap n = n := by
  simp [IntKind.wrap, IntKind.bits, IntKind.signed]; omega
theorem wu8 (n : Int) : IntKind.u8.wrap n = n % 256 := IntKind.wrap_u8 n
theorem or_shift (x y : Nat) (m : Nat) (h : x < 2 ^ m) : x ||| (y * 2 ^ m) = x + y * 2 ^ m := by
  have := Nat.two_pow_add_eq_or_of_lt (i := m) (b := x) h y
  rw [Nat.mul_comm y, Nat.or_comm, ← this, Nat.add_comm]
theorem toNat_ofInt (n : Nat) (x : Int) : (BitVec.ofInt n x).toNat = (x % (2 ^ n : Int)).toNat := by
  rw [BitVec.toNat_ofInt]; simp
theorem bitsOp_and (k : IntKind) (x y : Int) : bitsOp .and k x y = k.wrap ((((x % (2 ^ k.bits : Int)).toNat &&& (y % (2 ^ k.bits : Int)).toNat : Nat)) : Int) := by
  unfold bitsOp
  simp only [BitVec.toNat_and, toNat_ofInt]
theorem bitsOp_or (k : IntKind) (x y : Int) : bitsOp .or k x y = k.wrap ((((x % (2 ^ k.bits : Int)).toNat ||| (y % (2 ^ k.bits : Int)).toNat : Nat)) : Int) := by
  unfold bitsOp
  simp only [BitVec.toNat_or, toNat_ofInt]
theorem and_mask (x : Int) (m : Nat) (hm : m ≤ 62) : bitsOp .and .i64 x (2 ^ m - 1) = x % 2 ^ m := by
  rw [bitsOp_and]
  have hp : (0 : Int) < 2 ^ m := Int.pow_pos (by omega)
  have hle : (2 ^ m : Int) ≤ 2 ^ 62 := by exact_mod_cast (Nat.pow_le_pow_right (n := 2) (by omega) hm)
  have e1 : ((2 ^ m - 1 : Int) % (2 ^ IntKind.i64.bits : Int)) = ((2 ^ m - 1 : Nat) : Int) := by
    have : ((2 ^ m - 1 : Nat) : Int) = 2 ^ m - 1 := by
      have h1 : 1 ≤ 2 ^ m := Nat.one_le_two_pow
      push_cast [h1]; simp
    rw [this, Int.emod_eq_of_lt (by omega)]
    show (2 ^ m - 1 : Int) < 2 ^ 64
    have : (2 ^ 62 : Int) < 2 ^ 64 := by decide
    omega
  rw [e1, Int.toNat_natCast, Nat.and_two_pow_sub_one_eq_mod]
  have hx0 : 0 ≤ x % (2 ^ IntKind.i64.bits : Int) := Int.emod_nonneg _ (by decide)
  have e2 : (((x % (2 ^ IntKind.i64.bits : Int)).toNat % 2 ^ m : Nat) : Int) = x % 2 ^ m := by
    rw [Int.natCast_emod, Int.toNat_of_nonneg hx0]
    push_cast
    have hd : (2 ^ m : Int) ∣ (2 ^ IntKind.i64.bits : Int) := by
      refine ⟨2 ^ (64 - m), ?_⟩
      rw [← Int.pow_add]
      show (2 : Int) ^ 64 = _
      congr 1; omega
    rw [Int.emod_emod_of_dvd _ hd]
  rw [e2]
  have h1 : 0 ≤ x % 2 ^ m := Int.emod_nonneg _ (by omega)
  have h2 : x % 2 ^ m < 2 ^ m := Int.emod_lt_of_pos _ hp
  have h3 : (2 ^ 62 : Int) ≤ 9223372036854775807 := by decide
  exact wi64 _ ⟨by omega, by omega⟩
theorem or_disj64 (x y : Int) (m : Nat) (hx : 0 ≤ x) (hxm : x < 2 ^ m) (hy : 0 ≤ y) (ht : x + y * 2 ^ m ≤ 9223372036854775807) : bitsOp .or .i64 x (y * 2 ^ m) = x + y * 2 ^ m := by
  rw [bitsOp_or]
  have hp : (0 : Int) < 2 ^ m := Int.pow_pos (by omega)
  have hym : 0 ≤ y * 2 ^ m := Int.mul_nonneg hy (by omega)
  have e1 : x % (2 ^ IntKind.i64.bits : Int) = x := Int.emod_eq_of_lt hx (Int.lt_of_le_of_lt (b := 9223372036854775807) (by omega) (by decide))
  have e2 : (y * 2 ^ m) % (2 ^ IntKind.i64.bits : Int) = y * 2 ^ m := Int.emod_eq_of_lt hym (Int.lt_of_le_of_lt (b := 9223372036854775807) (by omega) (by decide))
  rw [e1, e2]
  have e3 : (y * 2 ^ m).toNat = y.toNat * 2 ^ m := by
    rw [Int.toNat_mul hy (by omega)]
    congr 1
  have hxn : x.toNat < 2 ^ m := by
    have : ((x.toNat : Nat) : Int) < ((2 ^ m : Nat) : Int) := by rw [Int.toNat_of_nonneg hx]; push_cast; exact hxm
    exact Int.ofNat_lt.1 this
  rw [e3, or_shift _ _ _ hxn]
  have : ((x.toNat + y.toNat * 2 ^ m : Nat) : Int) = x + y * 2 ^ m := by
    push_cast
    rw [Int.toNat_of_nonneg hx, Int.toNat_of_nonneg hy]
  rw [this]
  exact wi64 _ ⟨by omega, ht⟩
theorem or_disjU (x y : Int) (m : Nat) (hx : 0 ≤ x) (hxm : x < 2 ^ m) (hy : 0 ≤ y) (ht : x + y * 2 ^ m ≤ 18446744073709551615) : bitsOp .or .u64 x (y * 2 ^ m) = x + y * 2 ^ m := by
  rw [bitsOp_or]
  have hp : (0 : Int) < 2 ^ m := Int.pow_pos (by omega)
  have hym : 0 ≤ y * 2 ^ m := Int.mul_nonneg hy (by omega)
  have e1 : x % (2 ^ IntKind.u64.bits : Int) = x := Int.emod_eq_of_lt hx (Int.lt_of_le_of_lt (b := 18446744073709551615) (by omega) (by decide))
  have e2 : (y * 2 ^ m) % (2 ^ IntKind.u64.bits : Int) = y * 2 ^ m := Int.emod_eq_of_lt hym (Int.lt_of_le_of_lt (b := 18446744073709551615) (by omega) (by decide))
  rw [e1, e2]
  have e3 : (y * 2 ^ m).toNat = y.toNat * 2 ^ m := by
    rw [Int.toNat_mul hy (by omega)]
    congr 1
  have hxn : x.toNat < 2 ^ m := by
    have : ((x.toNat : Nat) : Int) < ((2 ^ m : Nat) : Int) := by rw [Int.toNat_of_nonneg hx]; push_cast; exact hxm
    exact Int.ofNat_lt.1 this
  rw [e3, or_shift _ _ _ hxn]
  have : ((x.toNat + y.toNat * 2 ^ m : Nat) : Int) = x + y * 2 ^ m := by
    push_cast
    rw [Int.toNat_of_nonneg hx, Int.toNat_of_nonneg hy]
  rw [this]
  exact wu64 _ ⟨by omega, ht⟩
def may (x : Int) : Bool := decide (0 ≤ x) && decide (x ≤ 2147483647)
theorem pad_May_ok {k : Nat} (hk : 1 ≤ k) (x : Int) : pad_May.f idb k x = some (may x) := by
  obtain ⟨k, rfl⟩ : ∃ m, k = m + 1 := ⟨k - 1, by omega⟩
  rw [pad_May.f_eq]
  unfold may
  by_cases h : 0 ≤ x
  · have : x ≥ 0 := h
    simp [h]
  · have : ¬ x ≥ 0 := h
    simp [h]
def val : List UInt8 → Nat
  | [] => 0
  | b :: l => b.toNat + 256 * val l
theorem val_lt : ∀ l : List UInt8, val l < 2 ^ (8 * l.length)
  | [] => by simp [val]
  | b :: l => by
    have := val_lt l
    have hb : b.toNat < 256 := b.toNat_lt
    simp only [val, List.length_cons]
    rw [show 8 * (l.length + 1) = 8 + 8 * l.length by omega, Nat.pow_add]
    have : 256 * (val l + 1) ≤ 256 * 2 ^ (8 * l.length) := Nat.mul_le_mul_left _ this
    omega
theorem val_append : ∀ l m : List UInt8, val (l ++ m) = val l + 2 ^ (8 * l.length) * val m
  | [], m => by simp [val]
  | b :: l, m => by
    simp only [List.cons_append, val, val_append l m, List.length_cons]
    rw [show 8 * (l.length + 1) = 8 + 8 * l.length by omega, Nat.pow_add, Nat.mul_add, ← Nat.mul_assoc, Nat.add_assoc]
def numOf (s : List UInt8) : Int := IntKind.i64.wrap (val s)
theorem rd_get {α : Type} {l : List α} {i : Nat} (h : i < l.length) : rd l (i : Int) = some l[i] := by
  unfold rd
  have : decide ((0 : Int) ≤ (i : Int)) = true := by simp
  rw [this]
  simp only [cond, Int.toNat_natCast]
  exact List.getElem?_eq_getElem h
theorem num_Of_l0 (s : List UInt8) (hs : s.length ≤ 8) : ∀ (j i : Nat), i + j = s.length → ∀ k n, j + 1 ≤ n → num_Of.l0 idb k n s (val (s.take i) : Int) (s.length : Int) (i : Int) = some (numOf s)
  | 0, i, hij, k, n, hn => by
    obtain ⟨n, rfl⟩ : ∃ m, n = m + 1 := ⟨n - 1, by omega⟩
    rw [num_Of.l0_eq]
    have : ¬ ((i : Int) < (s.length : Int)) := by omega
    simp only [this, decide_false, cond, numOf]
    rw [List.take_of_length_le (by omega)]
  | j + 1, i, hij, k, n, hn => by
    obtain ⟨n, rfl⟩ : ∃ m, n = m + 1 := ⟨n - 1, by omega⟩
    rw [num_Of.l0_eq]
    have hlt : i < s.length := by omega
    have h1 : ((i : Int) < (s.length : Int)) := by omega
    have e8 : IntKind.i64.wrap (8 * (i : Int)) = 8 * (i : Int) := wi64 _ (by omega)
    have e9 : IntKind.i64.wrap ((i : Int) + 1) = ((i + 1 : Nat) : Int) := by rw [wi64 _ (by omega)]; rfl
    have h2 : ¬ (8 * (i : Int) < 0) := by omega
    have hb : (s[i].toNat : Int) ≤ 255 := by have : s[i].toNat < 256 := s[i].toNat_lt
                                             omega
    have hv := val_lt (s.take i)
    rw [List.length_take, Nat.min_eq_left (by omega)] at hv
    have hpow : (2 : Nat) ^ (8 * i) ≤ 2 ^ 56 := Nat.pow_le_pow_right (by omega) (by omega)
    have hbp : s[i].toNat * 2 ^ (8 * i) ≤ 255 * 2 ^ (8 * i) := Nat.mul_le_mul_right _ (by omega)
    have e10 : (8 * (i : Int)).toNat = 8 * i := by omega
    have e11 : min (8 * i) IntKind.u64.bits = 8 * i := Nat.min_eq_left (by show 8 * i ≤ 64; omega)
    have e12 : IntKind.u64.wrap (s[i].toNat : Int) = (s[i].toNat : Int) := wu64 _ (by omega)
    have c1 : ((2 : Int) ^ (8 * i)) = ((2 ^ (8 * i) : Nat) : Int) := by push_cast; rfl
    have hmulI : (s[i].toNat : Int) * 2 ^ (8 * i) = ((s[i].toNat * 2 ^ (8 * i) : Nat) : Int) := by rw [c1]; push_cast; rfl
    have p56 : (2 : Nat) ^ 56 = 72057594037927936 := by decide
    have e13 : IntKind.u64.wrap ((s[i].toNat : Int) * 2 ^ (8 * i)) = (s[i].toNat : Int) * 2 ^ (8 * i) := by
      rw [hmulI]; exact wu64 _ (by omega)
    simp only [h1, decide_true, cond, rd_get hlt, Option.bind_some, e8, h2, decide_false, e9, e10, e11, e12, e13]
    rw [or_disjU _ _ _ (by omega) (by rw [c1]; exact Int.ofNat_lt.2 hv) (by omega) (by rw [hmulI]; omega)]
    have e14 : (val (s.take i) : Int) + (s[i].toNat : Int) * 2 ^ (8 * i) = (val (s.take (i + 1)) : Int) := by
      rw [List.take_succ_eq_append_getElem hlt, val_append, List.length_take, Nat.min_eq_left (by omega), hmulI]
      simp only [val]
      rw [Nat.mul_zero, Nat.add_zero, Nat.mul_comm]
      push_cast; rfl
    rw [e14]
    exact num_Of_l0 s hs j (i + 1) (by omega) k n (by omega)
theorem num_Of_ok {k : Nat} (hk : 11 ≤ k) (s : List UInt8) (hs : s.length ≤ 8) : num_Of.f idb k s = some (numOf s) := by
  obtain ⟨k, rfl⟩ : ∃ m, k = m + 1 := ⟨k - 1, by omega⟩
  rw [num_Of.f_eq]
  have := num_Of_l0 s hs s.length 0 (by omega) k k (by omega)
  simpa [val] using this
def pvL : Nat → Int → List Int
  | 0, x => [x]
  | f + 1, x => if 128 ≤ x then (x % 128 + 128) :: pvL f (x / 128) else [x]
def putVar (x : Int) : List UInt8 × Int := if may x = true then (strOfBytes (pvL 4 x), 0) else ([], 300)
theorem or128 : ∀ n : Nat, n < 256 → n ||| 128 = n % 128 + 128 := by decide +kernel
theorem or_u8 (x : Int) (hx : 0 ≤ x) : bitsOp .or .u8 (IntKind.u8.wrap x) 128 = x % 128 + 128 := by
  rw [bitsOp_or, wu8 x]
  have e1 : (x % 256) % (2 ^ IntKind.u8.bits : Int) = x % 256 := Int.emod_emod_of_dvd _ ⟨1, rfl⟩
  have e2 : ((128 : Int) % (2 ^ IntKind.u8.bits : Int)).toNat = 128 := rfl
  rw [e1, e2, or128 _ (by omega), wu8]
  omega
theorem fdiv128 (x : Int) : Int.fdiv x (2 ^ (min 7 IntKind.i64.bits)) = x / 128 := by
  show Int.fdiv x (2 ^ 7) = x / 128
  rw [Int.fdiv_eq_ediv_of_nonneg _ (by decide)]
  rfl
theorem pvL_length : ∀ (f : Nat) (x : Int), 1 ≤ (pvL f x).length ∧ (pvL f x).length ≤ f + 1
  | 0, x => by simp [pvL]
  | f + 1, x => by
    unfold pvL
    split
    · have := pvL_length f (x / 128); simp; omega
    · simp
theorem num_PutVar_l0 : ∀ (f : Nat) (x : Int) (out : List Int) (k n : Nat), 0 ≤ x → x < 128 ^ (f + 1) → f + 1 ≤ n → out.length + f + 1 ≤ 140737488355328 → num_PutVar.l0 idb k n x out = some (strOfBytes (out ++ pvL f x), 0)
  | 0, x, out, k, n, hx, hx2, hn, hl => by
    obtain ⟨n, rfl⟩ : ∃ m, n = m + 1 := ⟨n - 1, by omega⟩
    rw [num_PutVar.l0_eq]
    have h1 : ¬ (x ≥ 128) := by simp at hx2; omega
    have h2 : ∀ y : Int, decide ((out.length + [y].length) * 1 ≤ 140737488355328) = true := fun y => by simp; omega
    have h3 : IntKind.u8.wrap x = x := by rw [wu8]; omega
    simp only [h1, h2, h3, decide_true, decide_false, cond, pvL]
  | f + 1, x, out, k, n, hx, hx2, hn, hl => by
    obtain ⟨n, rfl⟩ : ∃ m, n = m + 1 := ⟨n - 1, by omega⟩
    rw [num_PutVar.l0_eq]
    by_cases h1 : 128 ≤ x
    · have h1' : x ≥ 128 := h1
      have h2 : ∀ y : Int, decide ((out.length + [y].length) * 1 ≤ 140737488355328) = true := fun y => by simp; omega
      simp only [h1', h2, decide_true, cond, fdiv128, or_u8 x hx]
      rw [num_PutVar_l0 f (x / 128) _ k n (by omega) (by rw [Int.pow_succ] at hx2; exact Int.ediv_lt_of_lt_mul (by omega) hx2) (by omega) (by simp; omega)]
      simp [pvL, h1]
    · have h1' : ¬ (x ≥ 128) := h1
      have h2 : ∀ y : Int, decide ((out.length + [y].length) * 1 ≤ 140737488355328) = true := fun y => by simp; omega
      have h3 : IntKind.u8.wrap x = x := by rw [wu8]; omega
      simp only [h1', h2, h3, decide_true, decide_false, cond, pvL, h1, if_false]
theorem may_iff {x : Int} : may x = true ↔ 0 ≤ x ∧ x ≤ 2147483647 := by simp [may]
theorem num_PutVar_ok {k : Nat} (hk : 7 ≤ k) (x : Int) : num_PutVar.f idb k x = some (putVar x) := by
  obtain ⟨k, rfl⟩ : ∃ m, k = m + 1 := ⟨k - 1, by omega⟩
  rw [num_PutVar.f_eq, pad_May_ok (by omega)]
  unfold putVar
  cases hm : may x with
  | false => simp
  | true =>
    obtain ⟨h1, h2⟩ := may_iff.1 hm
    have := num_PutVar_l0 4 x [] k k h1 (by have : (128 : Int) ^ (4 + 1) = 34359738368 := by decide
                                            omega) (by omega) (by simp)
    simp only [Option.bind_some, Bool.not_true, cond, this, List.nil_append, if_true]
/-- What GetVar's loop answers. -/
def gvL (s : List UInt8) (a : Nat) : Nat → Int → Nat → Int × Int × Int
  | 0, _, _ => (0, 0, 300)
  | f + 1, x, i =>
    match s[a + i]? with
    | none => (0, 0, 300)
    | some b =>
      if 128 ≤ b.toNat then gvL s a f (x + ((b.toNat : Int) % 128) * 2 ^ (7 * i)) (i + 1)
      else if may (x + ((b.toNat : Int) % 128) * 2 ^ (7 * i)) = true ∧ strOfBytes (pvL 4 (x + ((b.toNat : Int) % 128) * 2 ^ (7 * i))) = (s.take (a + i + 1)).drop a then
        (x + ((b.toNat : Int) % 128) * 2 ^ (7 * i), ((a + i + 1 : Nat) : Int), 0)
      else (0, 0, 300)
def getVar (s : List UInt8) (a : Int) : Int × Int × Int := if 0 ≤ a ∧ a ≤ (s.length : Int) then gvL s a.toNat 5 0 0 else (0, 0, 300)
theorem rd_none {α : Type} {l : List α} {i : Nat} (h : l.length ≤ i) : l[i]? = none := List.getElem?_eq_none h
theorem step_val (x : Int) (b : UInt8) (i : Nat) (hi : i ≤ 4) (hx : 0 ≤ x) (hx2 : x < 2 ^ (7 * i)) :
    bitsOp .or .i64 x (IntKind.i64.wrap ((IntKind.i64.wrap (Int.tmod (b.toNat : Int) 128)) * 2 ^ (min (IntKind.i64.wrap (7 * (i : Int))).toNat IntKind.i64.bits))) = x + ((b.toNat : Int) % 128) * 2 ^ (7 * i) ∧
    0 ≤ x + ((b.toNat : Int) % 128) * 2 ^ (7 * i) ∧ x + ((b.toNat : Int) % 128) * 2 ^ (7 * i) < 2 ^ (7 * (i + 1)) := by
  have hb : b.toNat < 256 := b.toNat_lt
  have e1 : Int.tmod (b.toNat : Int) 128 = (b.toNat : Int) % 128 := Int.tmod_eq_emod_of_nonneg (by omega)
  have e2 : IntKind.i64.wrap ((b.toNat : Int) % 128) = (b.toNat : Int) % 128 := wi64 _ (by omega)
  have e3 : (IntKind.i64.wrap (7 * (i : Int))).toNat = 7 * i := by rw [wi64 _ (by omega)]; omega
  have e4 : min (7 * i) IntKind.i64.bits = 7 * i := Nat.min_eq_left (by show 7 * i ≤ 64; omega)
  rw [e1, e2, e3, e4]
  have hp : (2 : Int) ^ (7 * i) ≤ 268435456 := by
    have h28 : (2 : Nat) ^ 28 = 268435456 := by decide
    have : (2 : Nat) ^ (7 * i) ≤ 2 ^ 28 := Nat.pow_le_pow_right (by omega) (by omega)
    rw [h28] at this
    have c : ((2 ^ (7 * i) : Nat) : Int) = 2 ^ (7 * i) := Int.natCast_pow 2 (7 * i)
    omega
  have hp0 : (0 : Int) < 2 ^ (7 * i) := Int.pow_pos (by omega)
  have hm0 : 0 ≤ (b.toNat : Int) % 128 := by omega
  have hm1 : (b.toNat : Int) % 128 ≤ 127 := by omega
  have hmul0 : 0 ≤ ((b.toNat : Int) % 128) * 2 ^ (7 * i) := Int.mul_nonneg hm0 (by omega)
  have hmul1 : ((b.toNat : Int) % 128) * 2 ^ (7 * i) ≤ 127 * 2 ^ (7 * i) := Int.mul_le_mul_of_nonneg_right hm1 (by omega)
  have e5 : IntKind.i64.wrap (((b.toNat : Int) % 128) * 2 ^ (7 * i)) = ((b.toNat : Int) % 128) * 2 ^ (7 * i) := wi64 _ (by omega)
  rw [e5, or_disj64 x _ _ hx hx2 hm0 (by omega)]
  refine ⟨rfl, by omega, ?_⟩
  have : (2 : Int) ^ (7 * (i + 1)) = 128 * 2 ^ (7 * i) := by rw [show 7 * (i + 1) = 7 + 7 * i by omega, Int.pow_add]; rfl
  omega
theorem num_GetVar_l0 (s : List UInt8) (hs : (s.length : Int) ≤ 9223372036854775000) (a : Nat) (ha : a ≤ s.length) : ∀ (f i : Nat) (x : Int) (k n : Nat), i + f = 5 → 0 ≤ x → x < 2 ^ (7 * i) → f + 1 ≤ n → 7 ≤ k →
    num_GetVar.l0 idb k n s (a : Int) x (i : Int) = some (gvL s a f x i)
  | 0, i, x, k, n, hi, hx, hx2, hn, hk => by
    obtain ⟨n, rfl⟩ : ∃ m, n = m + 1 := ⟨n - 1, by omega⟩
    rw [num_GetVar.l0_eq]
    have h1 : ¬ ((i : Int) < 5) := by omega
    simp only [h1, decide_false, cond, gvL]
  | f + 1, i, x, k, n, hi, hx, hx2, hn, hk => by
    obtain ⟨n, rfl⟩ : ∃ m, n = m + 1 := ⟨n - 1, by omega⟩
    rw [num_GetVar.l0_eq]
    have h1 : ((i : Int) < 5) := by omega
    have e1 : IntKind.i64.wrap ((a : Int) + (i : Int)) = ((a + i : Nat) : Int) := by rw [wi64 _ (by omega)]; push_cast; rfl
    simp only [h1, decide_true, cond, e1, gvL]
    by_cases hlt : a + i < s.length
    · have h2 : (((a + i : Nat) : Int) < (s.length : Int)) := by omega
      have h3 : ¬ (IntKind.i64.wrap (7 * (i : Int)) < 0) := by rw [wi64 _ (by omega)]; omega
      obtain ⟨v1, v2, v3⟩ := step_val x s[a + i] i (by omega) hx hx2
      have e2 : IntKind.i64.wrap ((i : Int) + 1) = ((i + 1 : Nat) : Int) := by rw [wi64 _ (by omega)]; push_cast; rfl
      have e3 : IntKind.i64.wrap (((a + i : Nat) : Int) + 1) = ((a + i + 1 : Nat) : Int) := by rw [wi64 _ (by omega)]; push_cast; rfl
      simp only [h2, h3, decide_true, decide_false, rd_get hlt, Option.bind_some, v1, e2, e3, num_PutVar_ok hk, List.getElem?_eq_getElem hlt]
      by_cases hb : 128 ≤ s[a + i].toNat
      · have hb' : ((s[a + i].toNat : Int) ≥ 128) := by omega
        simp only [hb', decide_true, hb, if_true]
        exact num_GetVar_l0 s hs a ha f (i + 1) _ k n (by omega) v2 v3 (by omega) hk
      · have hb' : ¬ ((s[a + i].toNat : Int) ≥ 128) := by omega
        simp only [hb', decide_false, hb, if_false]
        unfold putVar
        cases hm : may (x + ((s[a + i].toNat : Int) % 128) * 2 ^ (7 * i)) with
        | false => simp
        | true =>
          have h4 : (0 : Int) ≤ ((a + i + 1 : Nat) : Int) := by omega
          have h5 : (((a + i + 1 : Nat) : Int) ≤ ((s.length : Nat) : Int)) := by omega
          have h6 : (0 : Int) ≤ (a : Int) := by omega
          have h7 : (a : Int) ≤ ((a + i + 1 : Nat) : Int) := by omega
          simp only [if_true, h4, h5, h6, h7, decide_true, Bool.and_self, Int.toNat_natCast, true_and]
          by_cases he : strOfBytes (pvL 4 (x + ((s[a + i].toNat : Int) % 128) * 2 ^ (7 * i))) = (s.take (a + i + 1)).drop a
          · simp [he]
          · have he' : (strOfBytes (pvL 4 (x + ((s[a + i].toNat : Int) % 128) * 2 ^ (7 * i))) != (s.take (a + i + 1)).drop a) = true := by simpa using he
            simp [he, he']
    · have h2 : ¬ (((a + i : Nat) : Int) < (s.length : Int)) := by omega
      simp only [h2, decide_false, rd_none (l := s) (i := a + i) (by omega)]
theorem num_GetVar_ok {k : Nat} (hk : 8 ≤ k) (s : List UInt8) (hs : (s.length : Int) ≤ 9223372036854775000) (a : Int) : num_GetVar.f idb k s a = some (getVar s a) := by
  obtain ⟨k, rfl⟩ : ∃ m, k = m + 1 := ⟨k - 1, by omega⟩
  rw [num_GetVar.f_eq]
  unfold getVar
  by_cases h0 : a < 0
  · have : ¬ (0 ≤ a ∧ a ≤ (s.length : Int)) := by omega
    simp [h0, this]
  · by_cases h1 : a > (s.length : Int)
    · have : ¬ (0 ≤ a ∧ a ≤ (s.length : Int)) := by omega
      simp [h0, h1, this]
    · have h2 : 0 ≤ a ∧ a ≤ (s.length : Int) := by omega
      have := num_GetVar_l0 s hs a.toNat (by omega) 5 0 0 k k (by omega) (by omega) (by decide) (by omega) (by omega)
      have ea : ((a.toNat : Nat) : Int) = a := by omega
      rw [ea] at this
      simp only [h0, h1, decide_false, Bool.not_false, cond, if_pos h2]
      exact this
theorem ofNat_toNat {n : Nat} (h : n < 256) : (UInt8.ofNat n).toNat = n := by simp [UInt8.toNat_ofNat]; omega
theorem byte_val (x : Int) : ((UInt8.ofNat (IntKind.u8.wrap x).toNat).toNat : Int) = x % 256 := by
  rw [wu8, ofNat_toNat (by omega)]; omega
theorem fdiv_pos (x y : Int) (h : 0 ≤ y) : Int.fdiv x y = x / y := Int.fdiv_eq_ediv_of_nonneg _ h
theorem slice_mid (a b c : List UInt8) (n : Nat) (hn : n = b.length) : ((a ++ b ++ c).take (a.length + n)).drop a.length = b := by
  subst hn
  rw [List.append_assoc, List.take_length_add_append, List.drop_left, List.take_left]
theorem strOfBytes_append (l m : List Int) : strOfBytes (l ++ m) = strOfBytes l ++ strOfBytes m := by simp [strOfBytes]
theorem strOfBytes_length (l : List Int) : (strOfBytes l).length = l.length := by simp [strOfBytes]
theorem byte_of {n : Int} (h0 : 0 ≤ n) (h1 : n < 256) : ((UInt8.ofNat n.toNat).toNat : Int) = n := by rw [ofNat_toNat (by omega)]; omega
theorem gvL_put (a c d : List UInt8) (x : Int) (hx : may x = true) : ∀ (f i : Nat) (acc y : Int), f + i = 4 → 0 ≤ y → y < 128 ^ (f + 1) → x = acc + y * 2 ^ (7 * i) → strOfBytes (pvL 4 x) = c ++ strOfBytes (pvL f y) → c.length = i →
    gvL (a ++ strOfBytes (pvL 4 x) ++ d) a.length (f + 1) acc i = (x, ((a.length + (strOfBytes (pvL 4 x)).length : Nat) : Int), 0) := by
  intro f
  induction f generalizing c with
  | zero =>
    intro i acc y hfi hy hy2 hxe hc hcl
    have hy3 : y < 128 := by simpa using hy2
    have hby : (a ++ strOfBytes (pvL 4 x) ++ d)[a.length + i]? = some (UInt8.ofNat y.toNat) := by
      rw [List.append_assoc, List.getElem?_append_right (by omega), hc]
      simp only [pvL, strOfBytes, List.map_cons, List.map_nil]
      rw [show a.length + i - a.length = c.length by omega, List.append_assoc, List.getElem?_append_right (by omega)]
      simp
    have hbv := byte_of hy (by omega : y < 256)
    have hlen : (strOfBytes (pvL 4 x)).length = i + 1 := by rw [hc]; simp [pvL, strOfBytes, hcl]
    rw [gvL, hby]
    have h1 : ¬ (128 ≤ (UInt8.ofNat y.toNat).toNat) := by omega
    have h2 : ((UInt8.ofNat y.toNat).toNat : Int) % 128 = y := by omega
    simp only [h1, if_false, h2, ← hxe, hx, true_and]
    have h3 : strOfBytes (pvL 4 x) = ((a ++ strOfBytes (pvL 4 x) ++ d).take (a.length + i + 1)).drop a.length := by
      rw [Nat.add_assoc]; exact (slice_mid a _ d (i + 1) hlen.symm).symm
    rw [if_pos h3, hlen, Nat.add_assoc]
  | succ f ih =>
    intro i acc y hfi hy hy2 hxe hc hcl
    by_cases hb : 128 ≤ y
    · have hby : (a ++ strOfBytes (pvL 4 x) ++ d)[a.length + i]? = some (UInt8.ofNat (y % 128 + 128).toNat) := by
        rw [List.append_assoc, List.getElem?_append_right (by omega), hc]
        simp only [pvL, hb, if_true, strOfBytes, List.map_cons]
        rw [show a.length + i - a.length = c.length by omega, List.append_assoc, List.getElem?_append_right (by omega)]
        simp
      have hbv := byte_of (n := y % 128 + 128) (by omega) (by omega)
      rw [gvL, hby]
      have h1 : 128 ≤ (UInt8.ofNat (y % 128 + 128).toNat).toNat := by omega
      have h2 : ((UInt8.ofNat (y % 128 + 128).toNat).toNat : Int) % 128 = y % 128 := by omega
      simp only [h1, if_true, h2]
      refine ih (c ++ [UInt8.ofNat (y % 128 + 128).toNat]) (i + 1) _ (y / 128) (by omega) (by omega) (by rw [Int.pow_succ] at hy2; exact Int.ediv_lt_of_lt_mul (by omega) hy2) ?_ ?_ (by simp [hcl])
      · rw [hxe]
        have e : (2 : Int) ^ (7 * (i + 1)) = 128 * 2 ^ (7 * i) := by rw [show 7 * (i + 1) = 7 + 7 * i by omega, Int.pow_add]; rfl
        rw [e, ← Int.mul_assoc, Int.add_assoc, ← Int.add_mul]
        congr 2
        omega
      · rw [hc]
        simp [pvL, hb, strOfBytes]
    · have hby : (a ++ strOfBytes (pvL 4 x) ++ d)[a.length + i]? = some (UInt8.ofNat y.toNat) := by
        rw [List.append_assoc, List.getElem?_append_right (by omega), hc]
        simp only [pvL, hb, if_false, strOfBytes, List.map_cons, List.map_nil]
        rw [show a.length + i - a.length = c.length by omega, List.append_assoc, List.getElem?_append_right (by omega)]
        simp
      have hbv := byte_of hy (by omega : y < 256)
      have hlen : (strOfBytes (pvL 4 x)).length = i + 1 := by rw [hc]; simp [pvL, hb, strOfBytes, hcl]
      rw [gvL, hby]
      have h1 : ¬ (128 ≤ (UInt8.ofNat y.toNat).toNat) := by omega
      have h2 : ((UInt8.ofNat y.toNat).toNat : Int) % 128 = y := by omega
      simp only [h1, if_false, h2, ← hxe, hx, true_and]
      have h3 : strOfBytes (pvL 4 x) = ((a ++ strOfBytes (pvL 4 x) ++ d).take (a.length + i + 1)).drop a.length := by
        rw [Nat.add_assoc]; exact (slice_mid a _ d (i + 1) hlen.symm).symm
      rw [if_pos h3, hlen, Nat.add_assoc]
def pv (x : Int) : List UInt8 := strOfBytes (pvL 4 x)
theorem putVar_may {x : Int} (h : may x = true) : putVar x = (pv x, 0) := by simp [putVar, h, pv]
theorem pv_length (x : Int) : 1 ≤ (pv x).length ∧ (pv x).length ≤ 5 := by unfold pv; rw [strOfBytes_length]; exact pvL_length 4 x
theorem getVar_put (a d : List UInt8) (x : Int) (h : may x = true) : getVar (a ++ pv x ++ d) (a.length : Int) = (x, (a.length : Int) + ((pv x).length : Int), 0) := by
  obtain ⟨h1, h2⟩ := may_iff.1 h
  unfold getVar
  rw [if_pos ⟨by omega, by simp; omega⟩]
  have := gvL_put a [] d x h 4 0 0 x (by omega) h1 (by have : (128 : Int) ^ (4 + 1) = 34359738368 := by decide
                                                       omega) (by simp) (by simp) rfl
  have e : (a.length : Int).toNat = a.length := by omega
  rw [e]
  unfold pv at *
  rw [this]
  simp
def msk (x : Int) : Int := bitsOp .and .i64 x 2147483647
def enc (l : List Int) : List UInt8 := l.flatMap fun x => pv (msk x)
theorem law0_Num {k : Nat} (hk : 1 ≤ k) (x : Int) : quiverlaw0_Num.f idb k x = some x := by
  obtain ⟨k, rfl⟩ : ∃ m, k = m + 1 := ⟨k - 1, by omega⟩
  rw [quiverlaw0_Num.f_eq]
theorem wsucc {i : Nat} (h : (i : Int) ≤ 4611686018427387904) : IntKind.i64.wrap ((i : Int) + 1) = ((i + 1 : Nat) : Int) := by rw [wi64 _ (by omega)]; push_cast; rfl
theorem bar_eq (R : Type) (x : Option R) : idb R x = x := by cases x <;> rfl
theorem u64_mod (x : Int) (m : Nat) (h0 : 0 < m) (hm : m ≤ 1000) : IntKind.u64.wrap (m : Int) = (m : Int) ∧ 0 ≤ IntKind.i64.wrap (Int.tmod (IntKind.u64.wrap x) (m : Int)) ∧ IntKind.i64.wrap (Int.tmod (IntKind.u64.wrap x) (m : Int)) < (m : Int) := by
  have e1 : IntKind.u64.wrap (m : Int) = (m : Int) := wu64 _ (by omega)
  have hx : 0 ≤ IntKind.u64.wrap x := by
    have : IntKind.u64.wrap x = x % 18446744073709551616 := by simp [IntKind.wrap, IntKind.bits, IntKind.signed]
    omega
  have h1 : Int.tmod (IntKind.u64.wrap x) (m : Int) = IntKind.u64.wrap x % (m : Int) := Int.tmod_eq_emod_of_nonneg hx
  have h2 : 0 ≤ IntKind.u64.wrap x % (m : Int) := Int.emod_nonneg _ (by omega)
  have h3 : IntKind.u64.wrap x % (m : Int) < (m : Int) := Int.emod_lt_of_pos _ (by omega)
  rw [h1, wi64 _ (by omega)]
  exact ⟨e1, h2, h3⟩
theorem cond_pos' {α : Type} {b : Bool} (h : b = true) (x y : α) : (bif b then x else y) = x := by subst h; rfl
def b1 (b : Bool) : Int := if b then 1 else 0
theorem SameInts_l0 (a : List Int) (ha : a.length ≤ 17592186044415) (k : Nat) : ∀ (j i : Nat), i + j = a.length → ∀ n, j + 1 ≤ n → quiverlaw0_SameInts.l0 idb k n a a (i : Int) = some true
  | 0, i, hij, n, hn => by
    obtain ⟨n, rfl⟩ : ∃ m, n = m + 1 := ⟨n - 1, by omega⟩
    rw [quiverlaw0_SameInts.l0_eq]
    have h1 : ¬ ((i : Int) < (a.length : Int)) := by omega
    simp only [h1, decide_false, cond]
  | j + 1, i, hij, n, hn => by
    obtain ⟨n, rfl⟩ : ∃ m, n = m + 1 := ⟨n - 1, by omega⟩
    rw [quiverlaw0_SameInts.l0_eq]
    have hlt : i < a.length := by omega
    have h1 : ((i : Int) < (a.length : Int)) := by omega
    simp only [h1, decide_true, cond, rd_get hlt, Option.bind_some, bne_self_eq_false, wsucc (show (i : Int) ≤ _ by omega)]
    exact SameInts_l0 a ha k j (i + 1) (by omega) n (by omega)
theorem SameInts_ok {k : Nat} (a : List Int) (ha : a.length ≤ 17592186044415) (hk : a.length + 3 ≤ k) : quiverlaw0_SameInts.f idb k a a = some true := by
  obtain ⟨k, rfl⟩ : ∃ m, k = m + 1 := ⟨k - 1, by omega⟩
  rw [quiverlaw0_SameInts.f_eq]
  simp only [bne_self_eq_false, cond]
  exact SameInts_l0 a ha k a.length 0 (by omega) k (by omega)
theorem cT {α : Type} (x y : α) : (bif true then x else y) = x := cond_pos' rfl x y
theorem cF' {α : Type} {b : Bool} (h : b = false) (x y : α) : (bif b then x else y) = y := by subst h; rfl
theorem cF {α : Type} (x y : α) : (bif false then x else y) = y := cF' rfl x y
theorem bS' {α β : Type} {o : Option α} {a : α} (h : o = some a) (f : α → Option β) : o.bind f = f a := by subst h; rfl
theorem bS {α β : Type} (a : α) (f : α → Option β) : (some a).bind f = f a := bS' rfl f
end Go.Proofs.YtppmpfddcohkjaaP
