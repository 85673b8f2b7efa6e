/- Numbers: what the functions of the package num answer. -/
import Derived.Test.YtgedegmcbkligaaEqs0
import Derived.Test.YtgedegmcbkligaaEqs1
import Derived.Laws.BitsLemmas
namespace Go.Proofs.YtgedegmcbkligaaP
open Go Go.Proofs.YtgedegmcbkligaaA

/-! ### Words of bits -/
theorem wi64 (n : Int) (h : -9223372036854775808 ≤ n ∧ n ≤ 9223372036854775807) : IntKind.i64.wrap n = n := by rw [IntKind.wrap_i64]; omega
theorem wu64 (n : Int) (h : 0 ≤ n ∧ n ≤ 18446744073709551615) : IntKind.u64.wrap n = n := by
  simp [IntKind.wrap, IntKind.bits, IntKind.signed]; omega
theorem wu8 (n : Int) : IntKind.u8.wrap n = n % 256 := IntKind.wrap_u8 n
theorem or_shift (x y : Nat) (m : Nat) (h : x < 2 ^ m) : x ||| (y * 2 ^ m) = x + y * 2 ^ m := by
  have := Nat.two_pow_add_eq_or_of_lt (i := m) (b := x) h y
  rw [Nat.mul_comm y, Nat.or_comm, ← this, Nat.add_comm]
theorem toNat_ofInt (n : Nat) (x : Int) : (BitVec.ofInt n x).toNat = (x % (2 ^ n : Int)).toNat := by
  rw [BitVec.toNat_ofInt]; simp
theorem bitsOp_and (k : IntKind) (x y : Int) : bitsOp .and k x y = k.wrap ((((x % (2 ^ k.bits : Int)).toNat &&& (y % (2 ^ k.bits : Int)).toNat : Nat)) : Int) := by
  unfold bitsOp
  simp only [BitVec.toNat_and, toNat_ofInt]
theorem bitsOp_or (k : IntKind) (x y : Int) : bitsOp .or k x y = k.wrap ((((x % (2 ^ k.bits : Int)).toNat ||| (y % (2 ^ k.bits : Int)).toNat : Nat)) : Int) := by
  unfold bitsOp
  simp only [BitVec.toNat_or, toNat_ofInt]
theorem and_mask (x : Int) (m : Nat) (hm : m ≤ 62) : bitsOp .and .i64 x (2 ^ m - 1) = x % 2 ^ m := by
  rw [bitsOp_and]
  have hp : (0 : Int) < 2 ^ m := Int.pow_pos (by omega)
  have hle : (2 ^ m : Int) ≤ 2 ^ 62 := by exact_mod_cast (Nat.pow_le_pow_right (n := 2) (by omega) hm)
  have e1 : ((2 ^ m - 1 : Int) % (2 ^ IntKind.i64.bits : Int)) = ((2 ^ m - 1 : Nat) : Int) := by
    have : ((2 ^ m - 1 : Nat) : Int) = 2 ^ m - 1 := by
      have h1 : 1 ≤ 2 ^ m := Nat.one_le_two_pow
      push_cast [h1]; simp
    rw [this, Int.emod_eq_of_lt (by omega)]
    show (2 ^ m - 1 : Int) < 2 ^ 64
    have : (2 ^ 62 : Int) < 2 ^ 64 := by decide
    omega
  rw [e1, Int.toNat_natCast, Nat.and_two_pow_sub_one_eq_mod]
  have hx0 : 0 ≤ x % (2 ^ IntKind.i64.bits : Int) := Int.emod_nonneg _ (by decide)
  have e2 : (((x % (2 ^ IntKind.i64.bits : Int)).toNat % 2 ^ m : Nat) : Int) = x % 2 ^ m := by
    rw [Int.natCast_emod, Int.toNat_of_nonneg hx0]
    push_cast
    have hd : (2 ^ m : Int) ∣ (2 ^ IntKind.i64.bits : Int) := by
      refine ⟨2 ^ (64 - m), ?_⟩
      rw [← Int.pow_add]
      show (2 : Int) ^ 64 = _
      congr 1; omega
    rw [Int.emod_emod_of_dvd _ hd]
  rw [e2]
  have h1 : 0 ≤ x % 2 ^ m := Int.emod_nonneg _ (by omega)
  have h2 : x % 2 ^ m < 2 ^ m := Int.emod_lt_of_pos _ hp
  have h3 : (2 ^ 62 : Int) ≤ 9223372036854775807 := by decide
  exact wi64 _ ⟨by omega, by omega⟩
theorem or_disj64 (x y : Int) (m : Nat) (hx : 0 ≤ x) (hxm : x < 2 ^ m) (hy : 0 ≤ y) (ht : x + y * 2 ^ m ≤ 9223372036854775807) : bitsOp .or .i64 x (y * 2 ^ m) = x + y * 2 ^ m := by
  rw [bitsOp_or]
  have hp : (0 : Int) < 2 ^ m := Int.pow_pos (by omega)
  have hym : 0 ≤ y * 2 ^ m := Int.mul_nonneg hy (by omega)
  have e1 : x % (2 ^ IntKind.i64.bits : Int) = x := Int.emod_eq_of_lt hx (Int.lt_of_le_of_lt (b := 9223372036854775807) (by omega) (by decide))
  have e2 : (y * 2 ^ m) % (2 ^ IntKind.i64.bits : Int) = y * 2 ^ m := Int.emod_eq_of_lt hym (Int.lt_of_le_of_lt (b := 9223372036854775807) (by omega) (by decide))
  rw [e1, e2]
  have e3 : (y * 2 ^ m).toNat = y.toNat * 2 ^ m := by
    rw [Int.toNat_mul hy (by omega)]
    congr 1
  have hxn : x.toNat < 2 ^ m := by
    have : ((x.toNat : Nat) : Int) < ((2 ^ m : Nat) : Int) := by rw [Int.toNat_of_nonneg hx]; push_cast; exact hxm
    exact Int.ofNat_lt.1 this
  rw [e3, or_shift _ _ _ hxn]
  have : ((x.toNat + y.toNat * 2 ^ m : Nat) : Int) = x + y * 2 ^ m := by
    push_cast
    rw [Int.toNat_of_nonneg hx, Int.toNat_of_nonneg hy]
  rw [this]
  exact wi64 _ ⟨by omega, ht⟩
theorem or_disjU (x y : Int) (m : Nat) (hx : 0 ≤ x) (hxm : x < 2 ^ m) (hy : 0 ≤ y) (ht : x + y * 2 ^ m ≤ 18446744073709551615) : bitsOp .or .u64 x (y * 2 ^ m) = x + y * 2 ^ m := by
  rw [bitsOp_or]
  have hp : (0 : Int) < 2 ^ m := Int.pow_pos (by omega)
  have hym : 0 ≤ y * 2 ^ m := Int.mul_nonneg hy (by omega)
  have e1 : x % (2 ^ IntKind.u64.bits : Int) = x := Int.emod_eq_of_lt hx (Int.lt_of_le_of_lt (b := 18446744073709551615) (by omega) (by decide))
  have e2 : (y * 2 ^ m) % (2 ^ IntKind.u64.bits : Int) = y * 2 ^ m := Int.emod_eq_of_lt hym (Int.lt_of_le_of_lt (b := 18446744073709551615) (by omega) (by decide))
  rw [e1, e2]
  have e3 : (y * 2 ^ m).toNat = y.toNat * 2 ^ m := by
    rw [Int.toNat_mul hy (by omega)]
    congr 1
  have hxn : x.toNat < 2 ^ m := by
    have : ((x.toNat : Nat) : Int) < ((2 ^ m : Nat) : Int) := by rw [Int.toNat_of_nonneg hx]; push_cast; exact hxm
    exact Int.ofNat_lt.1 this
  rw [e3, or_shift _ _ _ hxn]
  have : ((x.toNat + y.toNat * 2 ^ m : Nat) : Int) = x + y * 2 ^ m := by
    push_cast
    rw [Int.toNat_of_nonneg hx, Int.toNat_of_nonneg hy]
  rw [this]
  exact wu64 _ ⟨by omega, ht⟩

/-! ### Whether a number may be -/
def may (x : Int) : Bool := decide (0 ≤ x) && decide (x ≤ 2147483647)
theorem pad_May_ok {k : Nat} (hk : 1 ≤ k) (x : Int) : pad_May.f idb k x = some (may x) := by
  obtain ⟨k, rfl⟩ : ∃ m, k = m + 1 := ⟨k - 1, by omega⟩
  rw [pad_May.f_eq]
  unfold may
  by_cases h : 0 ≤ x
  · have : x ≥ 0 := h
    simp [h]
  · have : ¬ x ≥ 0 := h
    simp [h]
theorem in_ok {k : Nat} (hk : 2 ≤ k) (x : Int) : quiverref1_in.f idb k x = some (may x) := by
  obtain ⟨k, rfl⟩ : ∃ m, k = m + 2 := ⟨k - 2, by omega⟩
  rw [quiverref1_in.f_eq, quiverref1_upTo.f_eq]
  unfold may
  by_cases h : 0 ≤ x
  · have : x ≥ 0 := h
    simp [h]
  · have : ¬ x ≥ 0 := h
    simp [h]

/-! ### Words -/
def w4 (x : Int) : List UInt8 := strOfBytes [IntKind.u8.wrap (Int.fdiv x 1), IntKind.u8.wrap (Int.fdiv x (2 ^ 8)), IntKind.u8.wrap (Int.fdiv x (2 ^ 16)), IntKind.u8.wrap (Int.fdiv x (2 ^ 24))]
def w8 (x : Int) : List UInt8 := strOfBytes [IntKind.u8.wrap (Int.fdiv x 1), IntKind.u8.wrap (Int.fdiv x (2 ^ 8)), IntKind.u8.wrap (Int.fdiv x (2 ^ 16)), IntKind.u8.wrap (Int.fdiv x (2 ^ 24)),
  IntKind.u8.wrap (Int.fdiv x (2 ^ 32)), IntKind.u8.wrap (Int.fdiv x (2 ^ 40)), IntKind.u8.wrap (Int.fdiv x (2 ^ 48)), IntKind.u8.wrap (Int.fdiv x (2 ^ 56))]
theorem word4 (m : Nat) (x : Int) : num_Word.f idb (m + 12) x 4 = some (w4 x) := by kernel_rfl
theorem word8 (m : Nat) (x : Int) : num_Word.f idb (m + 12) x 8 = some (w8 x) := by kernel_rfl
theorem low4 (m : Nat) (x : Int) : quiverref1_Low.f idb (m + 12) x 4 = some (w4 x) := by kernel_rfl
theorem low8 (m : Nat) (x : Int) : quiverref1_Low.f idb (m + 12) x 8 = some (w8 x) := by kernel_rfl
/-- What Put answers. -/
def put (x w : Int) : List UInt8 × Int := if w = 8 then (w8 x, 0) else if w = 4 ∧ may x = true then (w4 x, 0) else ([], 300)
theorem num_Put_ok {k : Nat} (hk : 13 ≤ k) (x w : Int) : num_Put.f idb k x w = some (put x w) := by
  obtain ⟨k, rfl⟩ : ∃ m, k = m + 13 := ⟨k - 13, by omega⟩
  rw [show k + 13 = k + 12 + 1 from rfl, num_Put.f_eq, pad_May_ok (by omega)]
  unfold put
  by_cases h8 : w = 8
  · subst h8; simp [word8]
  · by_cases h4 : w = 4
    · subst h4
      cases hm : may x <;> simp [word4]
    · have b8 : (w != 8) = true := by simpa using h8
      have b4 : (w != 4) = true := by simpa using h4
      simp [h8, h4, b8, b4]
theorem ref_Put_ok {k : Nat} (hk : 13 ≤ k) (x w : Int) : quiverref1_PutNum.f idb k x w = some (put x w) := by
  obtain ⟨k, rfl⟩ : ∃ m, k = m + 13 := ⟨k - 13, by omega⟩
  rw [show k + 13 = k + 12 + 1 from rfl, quiverref1_PutNum.f_eq, in_ok (by omega)]
  unfold put
  by_cases h8 : w = 8
  · subst h8; simp [low8]
  · by_cases h4 : w = 4
    · subst h4
      cases hm : may x <;> simp [low4]
    · have b8 : (w != 8) = true := by simpa using h8
      have b4 : (w != 4) = true := by simpa using h4
      simp [h8, h4, b8, b4]

/-! ### Numbers out of words -/
def val : List UInt8 → Nat
  | [] => 0
  | b :: l => b.toNat + 256 * val l
theorem val_lt : ∀ l : List UInt8, val l < 2 ^ (8 * l.length)
  | [] => by simp [val]
  | b :: l => by
    have := val_lt l
    have hb : b.toNat < 256 := b.toNat_lt
    simp only [val, List.length_cons]
    rw [show 8 * (l.length + 1) = 8 + 8 * l.length by omega, Nat.pow_add]
    have : 256 * (val l + 1) ≤ 256 * 2 ^ (8 * l.length) := Nat.mul_le_mul_left _ this
    omega
theorem val_append : ∀ l m : List UInt8, val (l ++ m) = val l + 2 ^ (8 * l.length) * val m
  | [], m => by simp [val]
  | b :: l, m => by
    simp only [List.cons_append, val, val_append l m, List.length_cons]
    rw [show 8 * (l.length + 1) = 8 + 8 * l.length by omega, Nat.pow_add, Nat.mul_add, ← Nat.mul_assoc, Nat.add_assoc]
def numOf (s : List UInt8) : Int := IntKind.i64.wrap (val s)

theorem rd_get {α : Type} {l : List α} {i : Nat} (h : i < l.length) : rd l (i : Int) = some l[i] := by
  unfold rd
  have : decide ((0 : Int) ≤ (i : Int)) = true := by simp
  rw [this]
  simp only [cond, Int.toNat_natCast]
  exact List.getElem?_eq_getElem h

theorem num_Of_l0 (s : List UInt8) (hs : s.length ≤ 8) : ∀ (j i : Nat), i + j = s.length → ∀ k n, j + 1 ≤ n → num_Of.l0 idb k n s (val (s.take i) : Int) (s.length : Int) (i : Int) = some (numOf s)
  | 0, i, hij, k, n, hn => by
    obtain ⟨n, rfl⟩ : ∃ m, n = m + 1 := ⟨n - 1, by omega⟩
    rw [num_Of.l0_eq]
    have : ¬ ((i : Int) < (s.length : Int)) := by omega
    simp only [this, decide_false, cond, numOf]
    rw [List.take_of_length_le (by omega)]
  | j + 1, i, hij, k, n, hn => by
    obtain ⟨n, rfl⟩ : ∃ m, n = m + 1 := ⟨n - 1, by omega⟩
    rw [num_Of.l0_eq]
    have hlt : i < s.length := by omega
    have h1 : ((i : Int) < (s.length : Int)) := by omega
    have e8 : IntKind.i64.wrap (8 * (i : Int)) = 8 * (i : Int) := wi64 _ (by omega)
    have e9 : IntKind.i64.wrap ((i : Int) + 1) = ((i + 1 : Nat) : Int) := by rw [wi64 _ (by omega)]; rfl
    have h2 : ¬ (8 * (i : Int) < 0) := by omega
    have hb : (s[i].toNat : Int) ≤ 255 := by have : s[i].toNat < 256 := s[i].toNat_lt
                                             omega
    have hv := val_lt (s.take i)
    rw [List.length_take, Nat.min_eq_left (by omega)] at hv
    have hpow : (2 : Nat) ^ (8 * i) ≤ 2 ^ 56 := Nat.pow_le_pow_right (by omega) (by omega)
    have hbp : s[i].toNat * 2 ^ (8 * i) ≤ 255 * 2 ^ (8 * i) := Nat.mul_le_mul_right _ (by omega)
    have e10 : (8 * (i : Int)).toNat = 8 * i := by omega
    have e11 : min (8 * i) IntKind.u64.bits = 8 * i := Nat.min_eq_left (by show 8 * i ≤ 64; omega)
    have e12 : IntKind.u64.wrap (s[i].toNat : Int) = (s[i].toNat : Int) := wu64 _ (by omega)
    have c1 : ((2 : Int) ^ (8 * i)) = ((2 ^ (8 * i) : Nat) : Int) := by push_cast; rfl
    have hmulI : (s[i].toNat : Int) * 2 ^ (8 * i) = ((s[i].toNat * 2 ^ (8 * i) : Nat) : Int) := by rw [c1]; push_cast; rfl
    have p56 : (2 : Nat) ^ 56 = 72057594037927936 := by decide
    have e13 : IntKind.u64.wrap ((s[i].toNat : Int) * 2 ^ (8 * i)) = (s[i].toNat : Int) * 2 ^ (8 * i) := by
      rw [hmulI]; exact wu64 _ (by omega)
    simp only [h1, decide_true, cond, rd_get hlt, Option.bind_some, e8, h2, decide_false, e9, e10, e11, e12, e13]
    rw [or_disjU _ _ _ (by omega) (by rw [c1]; exact Int.ofNat_lt.2 hv) (by omega) (by rw [hmulI]; omega)]
    have e14 : (val (s.take i) : Int) + (s[i].toNat : Int) * 2 ^ (8 * i) = (val (s.take (i + 1)) : Int) := by
      rw [List.take_succ_eq_append_getElem hlt, val_append, List.length_take, Nat.min_eq_left (by omega), hmulI]
      simp only [val]
      rw [Nat.mul_zero, Nat.add_zero, Nat.mul_comm]
      push_cast; rfl
    rw [e14]
    exact num_Of_l0 s hs j (i + 1) (by omega) k n (by omega)
theorem num_Of_ok {k : Nat} (hk : 11 ≤ k) (s : List UInt8) (hs : s.length ≤ 8) : num_Of.f idb k s = some (numOf s) := by
  obtain ⟨k, rfl⟩ : ∃ m, k = m + 1 := ⟨k - 1, by omega⟩
  rw [num_Of.f_eq]
  have := num_Of_l0 s hs s.length 0 (by omega) k k (by omega)
  simpa [val] using this
theorem ref_Num_l0 (s : List UInt8) (hs : s.length ≤ 8) : ∀ (i : Nat), i ≤ s.length → ∀ k n, i + 1 ≤ n → quiverref1_Num.l0 idb k n s (val (s.drop i) : Int) ((i : Int) - 1) = some (numOf s)
  | 0, _, k, n, hn => by
    obtain ⟨n, rfl⟩ : ∃ m, n = m + 1 := ⟨n - 1, by omega⟩
    rw [quiverref1_Num.l0_eq]
    have h1 : ¬ (((0 : Nat) : Int) - 1 ≥ 0) := by omega
    simp only [h1, decide_false, cond, List.drop_zero]
    rfl
  | i + 1, hi, k, n, hn => by
    obtain ⟨n, rfl⟩ : ∃ m, n = m + 1 := ⟨n - 1, by omega⟩
    rw [quiverref1_Num.l0_eq]
    have hlt : i < s.length := by omega
    have e0 : (((i + 1 : Nat) : Int) - 1) = (i : Int) := by omega
    have h1 : ((i : Int) ≥ 0) := by omega
    have e9 : IntKind.i64.wrap ((i : Int) - 1) = (i : Int) - 1 := wi64 _ (by omega)
    have hv := val_lt (s.drop (i + 1))
    rw [List.length_drop] at hv
    have hpow : (2 : Nat) ^ (8 * (s.length - (i + 1))) ≤ 2 ^ 56 := Nat.pow_le_pow_right (by omega) (by omega)
    have p56 : (2 : Nat) ^ 56 = 72057594037927936 := by decide
    have hb : s[i].toNat < 256 := s[i].toNat_lt
    have e12 : IntKind.u64.wrap (s[i].toNat : Int) = (s[i].toNat : Int) := wu64 _ (by omega)
    have e13 : IntKind.u64.wrap ((val (s.drop (i + 1)) : Int) * 2 ^ (min 8 IntKind.u64.bits)) = (val (s.drop (i + 1)) : Int) * 2 ^ 8 := by
      show IntKind.u64.wrap ((val (s.drop (i + 1)) : Int) * 2 ^ 8) = _
      exact wu64 _ (by omega)
    have e14 : bitsOp .or .u64 ((val (s.drop (i + 1)) : Int) * 2 ^ 8) (s[i].toNat : Int) = (val (s.drop i) : Int) := by
      have hc : ∀ x y : Int, bitsOp .or .u64 x y = bitsOp .or .u64 y x := by intro x y; rw [bitsOp_or, bitsOp_or, Nat.or_comm]
      rw [hc, or_disjU _ _ 8 (by omega) (by show (s[i].toNat : Int) < 256; omega) (by omega) (by omega), List.drop_eq_getElem_cons hlt]
      have e15 : (val (s[i] :: s.drop (i + 1)) : Int) = (s[i].toNat : Int) + 256 * (val (s.drop (i + 1)) : Int) := by rw [val, Int.natCast_add, Int.natCast_mul]; rfl
      rw [e15]; omega
    simp only [e0, h1, decide_true, cond, rd_get hlt, Option.bind_some, e9, e12, e13, e14]
    exact ref_Num_l0 s hs i (by omega) k n (by omega)
theorem ref_Num_ok {k : Nat} (hk : 11 ≤ k) (s : List UInt8) (hs : s.length ≤ 8) : quiverref1_Num.f idb k s = some (numOf s) := by
  obtain ⟨k, rfl⟩ : ∃ m, k = m + 1 := ⟨k - 1, by omega⟩
  rw [quiverref1_Num.f_eq, wi64 _ (by omega)]
  have := ref_Num_l0 s hs s.length (Nat.le_refl _) k k (by omega)
  simpa [val] using this

end Go.Proofs.YtgedegmcbkligaaP
