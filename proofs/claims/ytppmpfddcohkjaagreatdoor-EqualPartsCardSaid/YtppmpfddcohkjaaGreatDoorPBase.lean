/- What the functions below the laws answer, in plain lists and numbers; no condition but the sizes that a machine has. -/
import Derived.Test.YtppmpfddcohkjaaGreatDoorEqs0
import Derived.Test.YtppmpfddcohkjaaGreatDoorEqs1
import Derived.Test.YtppmpfddcohkjaaGreatDoorEqs2
import Derived.Laws.BitsLemmas
import Derived.KernelRfl
namespace Go.Proofs.YtppmpfddcohkjaaGreatDoorP
open Go Go.Proofs.YtppmpfddcohkjaaGreatDoorA

theorem wi64 (n : Int) (h : -9223372036854775808 ≤ n ∧ n ≤ 9223372036854775807) : IntKind.i64.wrap n = n := by rw [IntKind.wrap_i64]; omega
theorem wu64 (n : Int) (h : 0 ≤ n ∧ n ≤ 18446744073709551615) : IntKind.u64.wrap n = n := by
  simp [IntKind.wrap, IntKind.bits, IntKind.signed]; omega
theorem wu8 (n : Int) : IntKind.u8.wrap n = n % 256 := IntKind.wrap_u8 n
theorem or_shift (x y : Nat) (m : Nat) (h : x < 2 ^ m) : x ||| (y * 2 ^ m) = x + y * 2 ^ m := by
  have := Nat.two_pow_add_eq_or_of_lt (i := m) (b := x) h y
  rw [Nat.mul_comm y, Nat.or_comm, ← this, Nat.add_comm]
theorem toNat_ofInt (n : Nat) (x : Int) : (BitVec.ofInt n x).toNat = (x % (2 ^ n : Int)).toNat := by
  rw [BitVec.toNat_ofInt]; simp
theorem bitsOp_and (k : IntKind) (x y : Int) : bitsOp .and k x y = k.wrap ((((x % (2 ^ k.bits : Int)).toNat &&& (y % (2 ^ k.bits : Int)).toNat : Nat)) : Int) := by
  unfold bitsOp
  simp only [BitVec.toNat_and, toNat_ofInt]
theorem bitsOp_or (k : IntKind) (x y : Int) : bitsOp .or k x y = k.wrap ((((x % (2 ^ k.bits : Int)).toNat ||| (y % (2 ^ k.bits : Int)).toNat : Nat)) : Int) := by
  unfold bitsOp
  simp only [BitVec.toNat_or, toNat_ofInt]
theorem and_mask (x : Int) (m : Nat) (hm : m ≤ 62) : bitsOp .and .i64 x (2 ^ m - 1) = x % 2 ^ m := by
  rw [bitsOp_and]
  have hp : (0 : Int) < 2 ^ m := Int.pow_pos (by omega)
  have hle : (2 ^ m : Int) ≤ 2 ^ 62 := by exact_mod_cast (Nat.pow_le_pow_right (n := 2) (by omega) hm)
  have e1 : ((2 ^ m - 1 : Int) % (2 ^ IntKind.i64.bits : Int)) = ((2 ^ m - 1 : Nat) : Int) := by
    have : ((2 ^ m - 1 : Nat) : Int) = 2 ^ m - 1 := by
      have h1 : 1 ≤ 2 ^ m := Nat.one_le_two_pow
      push_cast [h1]; simp
    rw [this, Int.emod_eq_of_lt (by omega)]
    show (2 ^ m - 1 : Int) < 2 ^ 64
    have : (2 ^ 62 : Int) < 2 ^ 64 := by decide
    omega
  rw [e1, Int.toNat_natCast, Nat.and_two_pow_sub_one_eq_mod]
  have hx0 : 0 ≤ x % (2 ^ IntKind.i64.bits : Int) := Int.emod_nonneg _ (by decide)
  have e2 : (((x % (2 ^ IntKind.i64.bits : Int)).toNat % 2 ^ m : Nat) : Int) = x % 2 ^ m := by
    rw [Int.natCast_emod, Int.toNat_of_nonneg hx0]
    push_cast
    have hd : (2 ^ m : Int) ∣ (2 ^ IntKind.i64.bits : Int) := by
      refine ⟨2 ^ (64 - m), ?_⟩
      rw [← Int.pow_add]
      show (2 : Int) ^ 64 = _
      congr 1; omega
    rw [Int.emod_emod_of_dvd _ hd]
  rw [e2]
  have h1 : 0 ≤ x % 2 ^ m := Int.emod_nonneg _ (by omega)
  have h2 : x % 2 ^ m < 2 ^ m := Int.emod_lt_of_pos _ hp
  have h3 : (2 ^ 62 : Int) ≤ 9223372036854775807 := by decide
  exact wi64 _ ⟨by omega, by omega⟩
theorem or_disj64 (x y : Int) (m : Nat) (hx : 0 ≤ x) (hxm : x < 2 ^ m) (hy : 0 ≤ y) (ht : x + y * 2 ^ m ≤ 9223372036854775807) : bitsOp .or .i64 x (y * 2 ^ m) = x + y * 2 ^ m := by
  rw [bitsOp_or]
  have hp : (0 : Int) < 2 ^ m := Int.pow_pos (by omega)
  have hym : 0 ≤ y * 2 ^ m := Int.mul_nonneg hy (by omega)
  have e1 : x % (2 ^ IntKind.i64.bits : Int) = x := Int.emod_eq_of_lt hx (Int.lt_of_le_of_lt (b := 9223372036854775807) (by omega) (by decide))
  have e2 : (y * 2 ^ m) % (2 ^ IntKind.i64.bits : Int) = y * 2 ^ m := Int.emod_eq_of_lt hym (Int.lt_of_le_of_lt (b := 9223372036854775807) (by omega) (by decide))
  rw [e1, e2]
  have e3 : (y * 2 ^ m).toNat = y.toNat * 2 ^ m := by
    rw [Int.toNat_mul hy (by omega)]
    congr 1
  have hxn : x.toNat < 2 ^ m := by
    have : ((x.toNat : Nat) : Int) < ((2 ^ m : Nat) : Int) := by rw [Int.toNat_of_nonneg hx]; push_cast; exact hxm
    exact Int.ofNat_lt.1 this
  rw [e3, or_shift _ _ _ hxn]
  have : ((x.toNat + y.toNat * 2 ^ m : Nat) : Int) = x + y * 2 ^ m := by
    push_cast
    rw [Int.toNat_of_nonneg hx, Int.toNat_of_nonneg hy]
  rw [this]
  exact wi64 _ ⟨by omega, ht⟩
theorem or_disjU (x y : Int) (m : Nat) (hx : 0 ≤ x) (hxm : x < 2 ^ m) (hy : 0 ≤ y) (ht : x + y * 2 ^ m ≤ 18446744073709551615) : bitsOp .or .u64 x (y * 2 ^ m) = x + y * 2 ^ m := by
  rw [bitsOp_or]
  have hp : (0 : Int) < 2 ^ m := Int.pow_pos (by omega)
  have hym : 0 ≤ y * 2 ^ m := Int.mul_nonneg hy (by omega)
  have e1 : x % (2 ^ IntKind.u64.bits : Int) = x := Int.emod_eq_of_lt hx (Int.lt_of_le_of_lt (b := 18446744073709551615) (by omega) (by decide))
  have e2 : (y * 2 ^ m) % (2 ^ IntKind.u64.bits : Int) = y * 2 ^ m := Int.emod_eq_of_lt hym (Int.lt_of_le_of_lt (b := 18446744073709551615) (by omega) (by decide))
  rw [e1, e2]
  have e3 : (y * 2 ^ m).toNat = y.toNat * 2 ^ m := by
    rw [Int.toNat_mul hy (by omega)]
    congr 1
  have hxn : x.toNat < 2 ^ m := by
    have : ((x.toNat : Nat) : Int) < ((2 ^ m : Nat) : Int) := by rw [Int.toNat_of_nonneg hx]; push_cast; exact hxm
    exact Int.ofNat_lt.1 this
  rw [e3, or_shift _ _ _ hxn]
  have : ((x.toNat + y.toNat * 2 ^ m : Nat) : Int) = x + y * 2 ^ m := by
    push_cast
    rw [Int.toNat_of_nonneg hx, Int.toNat_of_nonneg hy]
  rw [this]
  exact wu64 _ ⟨by omega, ht⟩
def may (x : Int) : Bool := decide (0 ≤ x) && decide (x ≤ 2147483647)
theorem pad_May_ok {k : Nat} (hk : 1 ≤ k) (x : Int) : pad_May.f idb k x = some (may x) := by
  obtain ⟨k, rfl⟩ : ∃ m, k = m + 1 := ⟨k - 1, by omega⟩
  rw [pad_May.f_eq]
  unfold may
  by_cases h : 0 ≤ x
  · have : x ≥ 0 := h
    simp [h]
  · have : ¬ x ≥ 0 := h
    simp [h]
theorem in_ok {k : Nat} (hk : 2 ≤ k) (x : Int) : quiverref1_in.f idb k x = some (may x) := by
  obtain ⟨k, rfl⟩ : ∃ m, k = m + 2 := ⟨k - 2, by omega⟩
  rw [quiverref1_in.f_eq, quiverref1_upTo.f_eq]
  unfold may
  by_cases h : 0 ≤ x
  · have : x ≥ 0 := h
    simp [h]
  · have : ¬ x ≥ 0 := h
    simp [h]
def w4 (x : Int) : List UInt8 := strOfBytes [IntKind.u8.wrap (Int.fdiv x 1), IntKind.u8.wrap (Int.fdiv x (2 ^ 8)), IntKind.u8.wrap (Int.fdiv x (2 ^ 16)), IntKind.u8.wrap (Int.fdiv x (2 ^ 24))]
def w8 (x : Int) : List UInt8 := strOfBytes [IntKind.u8.wrap (Int.fdiv x 1), IntKind.u8.wrap (Int.fdiv x (2 ^ 8)), IntKind.u8.wrap (Int.fdiv x (2 ^ 16)), IntKind.u8.wrap (Int.fdiv x (2 ^ 24)),
  IntKind.u8.wrap (Int.fdiv x (2 ^ 32)), IntKind.u8.wrap (Int.fdiv x (2 ^ 40)), IntKind.u8.wrap (Int.fdiv x (2 ^ 48)), IntKind.u8.wrap (Int.fdiv x (2 ^ 56))]
theorem low4 (m : Nat) (x : Int) : quiverref1_Low.f idb (m + 12) x 4 = some (w4 x) := by kernel_rfl
theorem low8 (m : Nat) (x : Int) : quiverref1_Low.f idb (m + 12) x 8 = some (w8 x) := by kernel_rfl
/-- What Put answers. -/
def put (x w : Int) : List UInt8 × Int := if w = 8 then (w8 x, 0) else if w = 4 ∧ may x = true then (w4 x, 0) else ([], 300)
def val : List UInt8 → Nat
  | [] => 0
  | b :: l => b.toNat + 256 * val l
theorem val_lt : ∀ l : List UInt8, val l < 2 ^ (8 * l.length)
  | [] => by simp [val]
  | b :: l => by
    have := val_lt l
    have hb : b.toNat < 256 := b.toNat_lt
    simp only [val, List.length_cons]
    rw [show 8 * (l.length + 1) = 8 + 8 * l.length by omega, Nat.pow_add]
    have : 256 * (val l + 1) ≤ 256 * 2 ^ (8 * l.length) := Nat.mul_le_mul_left _ this
    omega
theorem val_append : ∀ l m : List UInt8, val (l ++ m) = val l + 2 ^ (8 * l.length) * val m
  | [], m => by simp [val]
  | b :: l, m => by
    simp only [List.cons_append, val, val_append l m, List.length_cons]
    rw [show 8 * (l.length + 1) = 8 + 8 * l.length by omega, Nat.pow_add, Nat.mul_add, ← Nat.mul_assoc, Nat.add_assoc]
def numOf (s : List UInt8) : Int := IntKind.i64.wrap (val s)
theorem rd_get {α : Type} {l : List α} {i : Nat} (h : i < l.length) : rd l (i : Int) = some l[i] := by
  unfold rd
  have : decide ((0 : Int) ≤ (i : Int)) = true := by simp
  rw [this]
  simp only [cond, Int.toNat_natCast]
  exact List.getElem?_eq_getElem h
theorem num_Of_l0 (s : List UInt8) (hs : s.length ≤ 8) : ∀ (j i : Nat), i + j = s.length → ∀ k n, j + 1 ≤ n → num_Of.l0 idb k n s (val (s.take i) : Int) (s.length : Int) (i : Int) = some (numOf s)
  | 0, i, hij, k, n, hn => by
    obtain ⟨n, rfl⟩ : ∃ m, n = m + 1 := ⟨n - 1, by omega⟩
    rw [num_Of.l0_eq]
    have : ¬ ((i : Int) < (s.length : Int)) := by omega
    simp only [this, decide_false, cond, numOf]
    rw [List.take_of_length_le (by omega)]
  | j + 1, i, hij, k, n, hn => by
    obtain ⟨n, rfl⟩ : ∃ m, n = m + 1 := ⟨n - 1, by omega⟩
    rw [num_Of.l0_eq]
    have hlt : i < s.length := by omega
    have h1 : ((i : Int) < (s.length : Int)) := by omega
    have e8 : IntKind.i64.wrap (8 * (i : Int)) = 8 * (i : Int) := wi64 _ (by omega)
    have e9 : IntKind.i64.wrap ((i : Int) + 1) = ((i + 1 : Nat) : Int) := by rw [wi64 _ (by omega)]; rfl
    have h2 : ¬ (8 * (i : Int) < 0) := by omega
    have hb : (s[i].toNat : Int) ≤ 255 := by have : s[i].toNat < 256 := s[i].toNat_lt
                                             omega
    have hv := val_lt (s.take i)
    rw [List.length_take, Nat.min_eq_left (by omega)] at hv
    have hpow : (2 : Nat) ^ (8 * i) ≤ 2 ^ 56 := Nat.pow_le_pow_right (by omega) (by omega)
    have hbp : s[i].toNat * 2 ^ (8 * i) ≤ 255 * 2 ^ (8 * i) := Nat.mul_le_mul_right _ (by omega)
    have e10 : (8 * (i : Int)).toNat = 8 * i := by omega
    have e11 : min (8 * i) IntKind.u64.bits = 8 * i := Nat.min_eq_left (by show 8 * i ≤ 64; omega)
    have e12 : IntKind.u64.wrap (s[i].toNat : Int) = (s[i].toNat : Int) := wu64 _ (by omega)
    have c1 : ((2 : Int) ^ (8 * i)) = ((2 ^ (8 * i) : Nat) : Int) := by push_cast; rfl
    have hmulI : (s[i].toNat : Int) * 2 ^ (8 * i) = ((s[i].toNat * 2 ^ (8 * i) : Nat) : Int) := by rw [c1]; push_cast; rfl
    have p56 : (2 : Nat) ^ 56 = 72057594037927936 := by decide
    have e13 : IntKind.u64.wrap ((s[i].toNat : Int) * 2 ^ (8 * i)) = (s[i].toNat : Int) * 2 ^ (8 * i) := by
      rw [hmulI]; exact wu64 _ (by omega)
    simp only [h1, decide_true, cond, rd_get hlt, Option.bind_some, e8, h2, decide_false, e9, e10, e11, e12, e13]
    rw [or_disjU _ _ _ (by omega) (by rw [c1]; exact Int.ofNat_lt.2 hv) (by omega) (by rw [hmulI]; omega)]
    have e14 : (val (s.take i) : Int) + (s[i].toNat : Int) * 2 ^ (8 * i) = (val (s.take (i + 1)) : Int) := by
      rw [List.take_succ_eq_append_getElem hlt, val_append, List.length_take, Nat.min_eq_left (by omega), hmulI]
      simp only [val]
      rw [Nat.mul_zero, Nat.add_zero, Nat.mul_comm]
      push_cast; rfl
    rw [e14]
    exact num_Of_l0 s hs j (i + 1) (by omega) k n (by omega)
theorem num_Of_ok {k : Nat} (hk : 11 ≤ k) (s : List UInt8) (hs : s.length ≤ 8) : num_Of.f idb k s = some (numOf s) := by
  obtain ⟨k, rfl⟩ : ∃ m, k = m + 1 := ⟨k - 1, by omega⟩
  rw [num_Of.f_eq]
  have := num_Of_l0 s hs s.length 0 (by omega) k k (by omega)
  simpa [val] using this
theorem ref_Num_l0 (s : List UInt8) (hs : s.length ≤ 8) : ∀ (i : Nat), i ≤ s.length → ∀ k n, i + 1 ≤ n → quiverref1_Num.l0 idb k n s (val (s.drop i) : Int) ((i : Int) - 1) = some (numOf s)
  | 0, _, k, n, hn => by
    obtain ⟨n, rfl⟩ : ∃ m, n = m + 1 := ⟨n - 1, by omega⟩
    rw [quiverref1_Num.l0_eq]
    have h1 : ¬ (((0 : Nat) : Int) - 1 ≥ 0) := by omega
    simp only [h1, decide_false, cond, List.drop_zero]
    rfl
  | i + 1, hi, k, n, hn => by
    obtain ⟨n, rfl⟩ : ∃ m, n = m + 1 := ⟨n - 1, by omega⟩
    rw [quiverref1_Num.l0_eq]
    have hlt : i < s.length := by omega
    have e0 : (((i + 1 : Nat) : Int) - 1) = (i : Int) := by omega
    have h1 : ((i : Int) ≥ 0) := by omega
    have e9 : IntKind.i64.wrap ((i : Int) - 1) = (i : Int) - 1 := wi64 _ (by omega)
    have hv := val_lt (s.drop (i + 1))
    rw [List.length_drop] at hv
    have hpow : (2 : Nat) ^ (8 * (s.length - (i + 1))) ≤ 2 ^ 56 := Nat.pow_le_pow_right (by omega) (by omega)
    have p56 : (2 : Nat) ^ 56 = 72057594037927936 := by decide
    have hb : s[i].toNat < 256 := s[i].toNat_lt
    have e12 : IntKind.u64.wrap (s[i].toNat : Int) = (s[i].toNat : Int) := wu64 _ (by omega)
    have e13 : IntKind.u64.wrap ((val (s.drop (i + 1)) : Int) * 2 ^ (min 8 IntKind.u64.bits)) = (val (s.drop (i + 1)) : Int) * 2 ^ 8 := by
      show IntKind.u64.wrap ((val (s.drop (i + 1)) : Int) * 2 ^ 8) = _
      exact wu64 _ (by omega)
    have e14 : bitsOp .or .u64 ((val (s.drop (i + 1)) : Int) * 2 ^ 8) (s[i].toNat : Int) = (val (s.drop i) : Int) := by
      have hc : ∀ x y : Int, bitsOp .or .u64 x y = bitsOp .or .u64 y x := by intro x y; rw [bitsOp_or, bitsOp_or, Nat.or_comm]
      rw [hc, or_disjU _ _ 8 (by omega) (by show (s[i].toNat : Int) < 256; omega) (by omega) (by omega), List.drop_eq_getElem_cons hlt]
      have e15 : (val (s[i] :: s.drop (i + 1)) : Int) = (s[i].toNat : Int) + 256 * (val (s.drop (i + 1)) : Int) := by rw [val, Int.natCast_add, Int.natCast_mul]; rfl
      rw [e15]; omega
    simp only [e0, h1, decide_true, cond, rd_get hlt, Option.bind_some, e9, e12, e13, e14]
    exact ref_Num_l0 s hs i (by omega) k n (by omega)
theorem ref_Num_ok {k : Nat} (hk : 11 ≤ k) (s : List UInt8) (hs : s.length ≤ 8) : quiverref1_Num.f idb k s = some (numOf s) := by
  obtain ⟨k, rfl⟩ : ∃ m, k = m + 1 := ⟨k - 1, by omega⟩
  rw [quiverref1_Num.f_eq, wi64 _ (by omega)]
  have := ref_Num_l0 s hs s.length (Nat.le_refl _) k k (by omega)
  simpa [val] using this
def get (s : List UInt8) (at_ w : Int) : Int × Int :=
  if (w = 4 ∨ w = 8) ∧ 0 ≤ at_ ∧ at_ + w ≤ (s.length : Int) then
    if w = 4 ∧ may (numOf ((s.take (at_ + w).toNat).drop at_.toNat)) = false then (0, 300) else (numOf ((s.take (at_ + w).toNat).drop at_.toNat), 0)
  else (0, 300)
theorem slice_length (s : List UInt8) (a w : Int) (h0 : 0 ≤ a) (hw : 0 ≤ w) (hl : a + w ≤ (s.length : Int)) : ((s.take (a + w).toNat).drop a.toNat).length = w.toNat := by
  simp only [List.length_drop, List.length_take]; omega
theorem num_Get_ok {k : Nat} (hk : 13 ≤ k) (s : List UInt8) (hs : (s.length : Int) ≤ 9223372036854775000) (a w : Int) (ha : -9223372036854775808 ≤ a ∧ a ≤ 9223372036854775807) : num_Get.f idb k s a w = some (get s a w) := by
  obtain ⟨k, rfl⟩ : ∃ m, k = m + 1 := ⟨k - 1, by omega⟩
  rw [num_Get.f_eq]
  have body : ∀ v : Int, v = 4 ∨ v = 8 →
      (bif (!(decide (a < 0))) then
        bif (!(decide (a > (s.length : Int)))) then
         bif decide ((IntKind.i64.wrap ((s.length : Int) - a)) < v) then
          some ((0 : Int), (300 : Int))
         else
          bif decide (0 ≤ IntKind.i64.wrap (a + v)) && decide (IntKind.i64.wrap (a + v) ≤ ((s.length : Nat) : Int)) then
           bif decide (0 ≤ a) && decide (a ≤ (((IntKind.i64.wrap (a + v)).toNat : Nat) : Int)) then
            (num_Of.f idb k (List.drop (a.toNat) (List.take ((IntKind.i64.wrap (a + v)).toNat) s))).bind fun r_1 =>
            bif (v == 4) then
             (pad_May.f idb k r_1).bind fun r_2 =>
             bif (!r_2) then
              some (0, 300)
             else
              some (r_1, 0)
            else
             some (r_1, 0)
           else
            none
          else
           none
        else
         some (0, 300)
       else
        some (0, 300)) = some (get s a v) := by
    intro v hv
    unfold get
    by_cases h0 : a < 0
    · have : ¬ ((v = 4 ∨ v = 8) ∧ 0 ≤ a ∧ a + v ≤ (s.length : Int)) := by omega
      simp [h0, this]
    · by_cases h1 : a > (s.length : Int)
      · have : ¬ ((v = 4 ∨ v = 8) ∧ 0 ≤ a ∧ a + v ≤ (s.length : Int)) := by omega
        simp [h0, h1, this]
      · rw [wi64 ((s.length : Int) - a) (by omega)]
        by_cases h2 : (s.length : Int) - a < v
        · have : ¬ ((v = 4 ∨ v = 8) ∧ 0 ≤ a ∧ a + v ≤ (s.length : Int)) := by omega
          simp [h0, h1, h2, this]
        · have h3 : (v = 4 ∨ v = 8) ∧ 0 ≤ a ∧ a + v ≤ (s.length : Int) := by omega
          have h3' := h3.2
          have hv8 : v ≤ 8 := by omega
          rw [wi64 (a + v) (by omega)]
          have h4 : 0 ≤ a + v := by omega
          have h5 : a ≤ (((a + v).toNat : Nat) : Int) := by omega
          rw [num_Of_ok (by omega) _ (by rw [slice_length s a v (by omega) (by omega) (by omega)]; omega), if_pos h3]
          simp only [h0, h1, h2, h3'.1, h3'.2, h4, h5, decide_true, decide_false, Bool.not_false, Bool.and_self, cond, Option.bind_some, pad_May_ok (k := k) (by omega)]
          by_cases h6 : v = 4
          · subst h6
            cases hm : may (numOf ((s.take (a + 4).toNat).drop a.toNat)) <;> simp [hm]
          · have : (v == 4) = false := by simpa using h6
            simp [h6, this]
  by_cases h4 : w = 4
  · subst h4
    simpa using body 4 (.inl rfl)
  · by_cases h8 : w = 8
    · subst h8
      simpa using body 8 (.inr rfl)
    · have b8 : (w != 8) = true := by simpa using h8
      have b4 : (w != 4) = true := by simpa using h4
      simp [b4, b8, get, h4, h8]
theorem ref_Get_ok {k : Nat} (hk : 13 ≤ k) (s : List UInt8) (hs : (s.length : Int) ≤ 9223372036854775000) (a w : Int) (ha : -9223372036854775808 ≤ a ∧ a ≤ 9223372036854775807) : quiverref1_GetNum.f idb k s a w = some (get s a w) := by
  obtain ⟨k, rfl⟩ : ∃ m, k = m + 1 := ⟨k - 1, by omega⟩
  rw [quiverref1_GetNum.f_eq]
  have body : ∀ v : Int, v = 4 ∨ v = 8 →
      (bif (!(decide (a < 0))) then
       bif decide (a > (IntKind.i64.wrap ((s.length : Int) - v))) then
        some ((0 : Int), (300 : Int))
       else
        bif decide (0 ≤ IntKind.i64.wrap (a + v)) && decide (IntKind.i64.wrap (a + v) ≤ ((s.length : Nat) : Int)) then
         bif decide (0 ≤ a) && decide (a ≤ (((IntKind.i64.wrap (a + v)).toNat : Nat) : Int)) then
          (quiverref1_Num.f idb k (List.drop (a.toNat) (List.take ((IntKind.i64.wrap (a + v)).toNat) s))).bind fun r_1 =>
          bif (v == 4) then
           (quiverref1_in.f idb k r_1).bind fun r_2 =>
           bif (!r_2) then
            some (0, 300)
           else
            some (r_1, 0)
          else
           some (r_1, 0)
         else
          none
        else
         none
      else
       some (0, 300)) = some (get s a v) := by
    intro v hv
    unfold get
    by_cases h0 : a < 0
    · have : ¬ ((v = 4 ∨ v = 8) ∧ 0 ≤ a ∧ a + v ≤ (s.length : Int)) := by omega
      simp [h0, this]
    · rw [wi64 ((s.length : Int) - v) (by omega)]
      by_cases h2 : a > (s.length : Int) - v
      · have : ¬ ((v = 4 ∨ v = 8) ∧ 0 ≤ a ∧ a + v ≤ (s.length : Int)) := by omega
        simp [h0, h2, this]
      · have h3 : (v = 4 ∨ v = 8) ∧ 0 ≤ a ∧ a + v ≤ (s.length : Int) := by omega
        have h3' := h3.2
        have hv8 : v ≤ 8 := by omega
        rw [wi64 (a + v) (by omega)]
        have h4 : 0 ≤ a + v := by omega
        have h5 : a ≤ (((a + v).toNat : Nat) : Int) := by omega
        rw [ref_Num_ok (by omega) _ (by rw [slice_length s a v (by omega) (by omega) (by omega)]; omega), if_pos h3]
        simp only [h0, h2, h3'.1, h3'.2, h4, h5, decide_true, decide_false, Bool.not_false, Bool.and_self, cond, Option.bind_some, in_ok (k := k) (by omega)]
        by_cases h6 : v = 4
        · subst h6
          cases hm : may (numOf ((s.take (a + 4).toNat).drop a.toNat)) <;> simp [hm]
        · have : (v == 4) = false := by simpa using h6
          simp [h6, this]
  by_cases h4 : w = 4
  · subst h4
    simpa using body 4 (.inl rfl)
  · by_cases h8 : w = 8
    · subst h8
      simpa using body 8 (.inr rfl)
    · have b8 : (w != 8) = true := by simpa using h8
      have b4 : (w != 4) = true := by simpa using h4
      simp [b4, b8, get, h4, h8]
def pvL : Nat → Int → List Int
  | 0, x => [x]
  | f + 1, x => if 128 ≤ x then (x % 128 + 128) :: pvL f (x / 128) else [x]
def putVar (x : Int) : List UInt8 × Int := if may x = true then (strOfBytes (pvL 4 x), 0) else ([], 300)
theorem or128 : ∀ n : Nat, n < 256 → n ||| 128 = n % 128 + 128 := by decide +kernel
theorem and127 : ∀ n : Nat, n < 256 → n &&& 127 = n % 128 := by decide +kernel
theorem or_u8 (x : Int) (hx : 0 ≤ x) : bitsOp .or .u8 (IntKind.u8.wrap x) 128 = x % 128 + 128 := by
  rw [bitsOp_or, wu8 x]
  have e1 : (x % 256) % (2 ^ IntKind.u8.bits : Int) = x % 256 := Int.emod_emod_of_dvd _ ⟨1, rfl⟩
  have e2 : ((128 : Int) % (2 ^ IntKind.u8.bits : Int)).toNat = 128 := rfl
  rw [e1, e2, or128 _ (by omega), wu8]
  omega
theorem ref_byte (x : Int) (hx : 0 ≤ x) : IntKind.u8.wrap (bitsOp .or .i64 (bitsOp .and .i64 x 127) 128) = x % 128 + 128 := by
  have e0 : bitsOp .and .i64 x 127 = x % 128 := and_mask x 7 (by omega)
  rw [e0]
  have e3 : (x % 128).toNat % 128 = (x % 128).toNat := by omega
  have e4 : bitsOp .or .i64 (x % 128) 128 = x % 128 + 128 := by
    have := or_disj64 (x % 128) 1 7 (by omega) (by omega) (by omega) (by omega)
    simpa using this
  rw [e4, wu8]
  omega
theorem fdiv128 (x : Int) : Int.fdiv x (2 ^ (min 7 IntKind.i64.bits)) = x / 128 := by
  show Int.fdiv x (2 ^ 7) = x / 128
  rw [Int.fdiv_eq_ediv_of_nonneg _ (by decide)]
  rfl
theorem pvL_length : ∀ (f : Nat) (x : Int), 1 ≤ (pvL f x).length ∧ (pvL f x).length ≤ f + 1
  | 0, x => by simp [pvL]
  | f + 1, x => by
    unfold pvL
    split
    · have := pvL_length f (x / 128); simp; omega
    · simp
theorem may_iff {x : Int} : may x = true ↔ 0 ≤ x ∧ x ≤ 2147483647 := by simp [may]
/-- What GetVar's loop answers. -/
def gvL (s : List UInt8) (a : Nat) : Nat → Int → Nat → Int × Int × Int
  | 0, _, _ => (0, 0, 300)
  | f + 1, x, i =>
    match s[a + i]? with
    | none => (0, 0, 300)
    | some b =>
      if 128 ≤ b.toNat then gvL s a f (x + ((b.toNat : Int) % 128) * 2 ^ (7 * i)) (i + 1)
      else if may (x + ((b.toNat : Int) % 128) * 2 ^ (7 * i)) = true ∧ strOfBytes (pvL 4 (x + ((b.toNat : Int) % 128) * 2 ^ (7 * i))) = (s.take (a + i + 1)).drop a then
        (x + ((b.toNat : Int) % 128) * 2 ^ (7 * i), ((a + i + 1 : Nat) : Int), 0)
      else (0, 0, 300)
def getVar (s : List UInt8) (a : Int) : Int × Int × Int := if 0 ≤ a ∧ a ≤ (s.length : Int) then gvL s a.toNat 5 0 0 else (0, 0, 300)
theorem rd_none {α : Type} {l : List α} {i : Nat} (h : l.length ≤ i) : l[i]? = none := List.getElem?_eq_none h
theorem step_val (x : Int) (b : UInt8) (i : Nat) (hi : i ≤ 4) (hx : 0 ≤ x) (hx2 : x < 2 ^ (7 * i)) :
    bitsOp .or .i64 x (IntKind.i64.wrap ((IntKind.i64.wrap (Int.tmod (b.toNat : Int) 128)) * 2 ^ (min (IntKind.i64.wrap (7 * (i : Int))).toNat IntKind.i64.bits))) = x + ((b.toNat : Int) % 128) * 2 ^ (7 * i) ∧
    0 ≤ x + ((b.toNat : Int) % 128) * 2 ^ (7 * i) ∧ x + ((b.toNat : Int) % 128) * 2 ^ (7 * i) < 2 ^ (7 * (i + 1)) := by
  have hb : b.toNat < 256 := b.toNat_lt
  have e1 : Int.tmod (b.toNat : Int) 128 = (b.toNat : Int) % 128 := Int.tmod_eq_emod_of_nonneg (by omega)
  have e2 : IntKind.i64.wrap ((b.toNat : Int) % 128) = (b.toNat : Int) % 128 := wi64 _ (by omega)
  have e3 : (IntKind.i64.wrap (7 * (i : Int))).toNat = 7 * i := by rw [wi64 _ (by omega)]; omega
  have e4 : min (7 * i) IntKind.i64.bits = 7 * i := Nat.min_eq_left (by show 7 * i ≤ 64; omega)
  rw [e1, e2, e3, e4]
  have hp : (2 : Int) ^ (7 * i) ≤ 268435456 := by
    have h28 : (2 : Nat) ^ 28 = 268435456 := by decide
    have : (2 : Nat) ^ (7 * i) ≤ 2 ^ 28 := Nat.pow_le_pow_right (by omega) (by omega)
    rw [h28] at this
    have c : ((2 ^ (7 * i) : Nat) : Int) = 2 ^ (7 * i) := Int.natCast_pow 2 (7 * i)
    omega
  have hp0 : (0 : Int) < 2 ^ (7 * i) := Int.pow_pos (by omega)
  have hm0 : 0 ≤ (b.toNat : Int) % 128 := by omega
  have hm1 : (b.toNat : Int) % 128 ≤ 127 := by omega
  have hmul0 : 0 ≤ ((b.toNat : Int) % 128) * 2 ^ (7 * i) := Int.mul_nonneg hm0 (by omega)
  have hmul1 : ((b.toNat : Int) % 128) * 2 ^ (7 * i) ≤ 127 * 2 ^ (7 * i) := Int.mul_le_mul_of_nonneg_right hm1 (by omega)
  have e5 : IntKind.i64.wrap (((b.toNat : Int) % 128) * 2 ^ (7 * i)) = ((b.toNat : Int) % 128) * 2 ^ (7 * i) := wi64 _ (by omega)
  rw [e5, or_disj64 x _ _ hx hx2 hm0 (by omega)]
  refine ⟨rfl, by omega, ?_⟩
  have : (2 : Int) ^ (7 * (i + 1)) = 128 * 2 ^ (7 * i) := by rw [show 7 * (i + 1) = 7 + 7 * i by omega, Int.pow_add]; rfl
  omega
theorem and_u8 (b : UInt8) : bitsOp .and .u8 (b.toNat : Int) 127 = (b.toNat : Int) % 128 := by
  have hb : b.toNat < 256 := b.toNat_lt
  rw [bitsOp_and]
  have e1 : ((b.toNat : Int) % (2 ^ IntKind.u8.bits : Int)).toNat = b.toNat := by show ((b.toNat : Int) % 256).toNat = _; omega
  have e2 : ((127 : Int) % (2 ^ IntKind.u8.bits : Int)).toNat = 127 := rfl
  rw [e1, e2, and127 _ hb, wu8]
  omega
theorem ofNat_toNat {n : Nat} (h : n < 256) : (UInt8.ofNat n).toNat = n := by simp [UInt8.toNat_ofNat]; omega
theorem byte_val (x : Int) : ((UInt8.ofNat (IntKind.u8.wrap x).toNat).toNat : Int) = x % 256 := by
  rw [wu8, ofNat_toNat (by omega)]; omega
theorem fdiv_pos (x y : Int) (h : 0 ≤ y) : Int.fdiv x y = x / y := Int.fdiv_eq_ediv_of_nonneg _ h
theorem w4_length (x : Int) : (w4 x).length = 4 := rfl
theorem w8_length (x : Int) : (w8 x).length = 8 := rfl
theorem val_w4 (x : Int) (h : 0 ≤ x ∧ x < 4294967296) : (val (w4 x) : Int) = x := by
  have e : (val (w4 x) : Int) = ((UInt8.ofNat (IntKind.u8.wrap (Int.fdiv x 1)).toNat).toNat : Int) + 256 * (((UInt8.ofNat (IntKind.u8.wrap (Int.fdiv x (2 ^ 8))).toNat).toNat : Int) + 256 * (((UInt8.ofNat (IntKind.u8.wrap (Int.fdiv x (2 ^ 16))).toNat).toNat : Int) +
      256 * (((UInt8.ofNat (IntKind.u8.wrap (Int.fdiv x (2 ^ 24))).toNat).toNat : Int) + 256 * 0))) := by
    simp only [w4, strOfBytes, List.map_cons, List.map_nil, val, Int.natCast_add, Int.natCast_mul]; rfl
  rw [e]
  simp only [byte_val, fdiv_pos _ _ (show (0 : Int) ≤ 1 by decide), fdiv_pos _ _ (show (0 : Int) ≤ 2 ^ 8 by decide), fdiv_pos _ _ (show (0 : Int) ≤ 2 ^ 16 by decide), fdiv_pos _ _ (show (0 : Int) ≤ 2 ^ 24 by decide)]
  have p8 : (2 : Int) ^ 8 = 256 := by decide
  have p16 : (2 : Int) ^ 16 = 65536 := by decide
  have p24 : (2 : Int) ^ 24 = 16777216 := by decide
  rw [p8, p16, p24]
  omega
theorem val_w8 (x : Int) : (val (w8 x) : Int) = x % 18446744073709551616 := by
  have e : (val (w8 x) : Int) = ((UInt8.ofNat (IntKind.u8.wrap (Int.fdiv x 1)).toNat).toNat : Int) + 256 * (((UInt8.ofNat (IntKind.u8.wrap (Int.fdiv x (2 ^ 8))).toNat).toNat : Int) + 256 * (((UInt8.ofNat (IntKind.u8.wrap (Int.fdiv x (2 ^ 16))).toNat).toNat : Int) +
      256 * (((UInt8.ofNat (IntKind.u8.wrap (Int.fdiv x (2 ^ 24))).toNat).toNat : Int) + 256 * (((UInt8.ofNat (IntKind.u8.wrap (Int.fdiv x (2 ^ 32))).toNat).toNat : Int) + 256 * (((UInt8.ofNat (IntKind.u8.wrap (Int.fdiv x (2 ^ 40))).toNat).toNat : Int) +
      256 * (((UInt8.ofNat (IntKind.u8.wrap (Int.fdiv x (2 ^ 48))).toNat).toNat : Int) + 256 * (((UInt8.ofNat (IntKind.u8.wrap (Int.fdiv x (2 ^ 56))).toNat).toNat : Int) + 256 * 0))))))) := by
    simp only [w8, strOfBytes, List.map_cons, List.map_nil, val, Int.natCast_add, Int.natCast_mul]; rfl
  rw [e]
  simp only [byte_val, fdiv_pos _ _ (show (0 : Int) ≤ 1 by decide), fdiv_pos _ _ (show (0 : Int) ≤ 2 ^ 8 by decide), fdiv_pos _ _ (show (0 : Int) ≤ 2 ^ 16 by decide), fdiv_pos _ _ (show (0 : Int) ≤ 2 ^ 24 by decide),
    fdiv_pos _ _ (show (0 : Int) ≤ 2 ^ 32 by decide), fdiv_pos _ _ (show (0 : Int) ≤ 2 ^ 40 by decide), fdiv_pos _ _ (show (0 : Int) ≤ 2 ^ 48 by decide), fdiv_pos _ _ (show (0 : Int) ≤ 2 ^ 56 by decide)]
  have p8 : (2 : Int) ^ 8 = 256 := by decide
  have p16 : (2 : Int) ^ 16 = 65536 := by decide
  have p24 : (2 : Int) ^ 24 = 16777216 := by decide
  have p32 : (2 : Int) ^ 32 = 4294967296 := by decide
  have p40 : (2 : Int) ^ 40 = 1099511627776 := by decide
  have p48 : (2 : Int) ^ 48 = 281474976710656 := by decide
  have p56 : (2 : Int) ^ 56 = 72057594037927936 := by decide
  rw [p8, p16, p24, p32, p40, p48, p56]
  omega
theorem numOf_w4 (x : Int) (h : may x = true) : numOf (w4 x) = x := by
  obtain ⟨h1, h2⟩ := may_iff.1 h
  unfold numOf
  rw [val_w4 x ⟨h1, by omega⟩, wi64 _ (by omega)]
theorem numOf_w8 (x : Int) (h : -9223372036854775808 ≤ x ∧ x ≤ 9223372036854775807) : numOf (w8 x) = x := by
  unfold numOf
  rw [val_w8, IntKind.wrap_i64]; omega
theorem slice_mid (a b c : List UInt8) (n : Nat) (hn : n = b.length) : ((a ++ b ++ c).take (a.length + n)).drop a.length = b := by
  subst hn
  rw [List.append_assoc, List.take_length_add_append, List.drop_left, List.take_left]
theorem get_w4 (a c : List UInt8) (x : Int) (h : may x = true) : get (a ++ w4 x ++ c) (a.length : Int) 4 = (x, 0) := by
  unfold get
  have e : (((a ++ w4 x ++ c).take ((a.length : Int) + 4).toNat).drop (a.length : Int).toNat) = w4 x := by
    have e1 : ((a.length : Int) + 4).toNat = a.length + 4 := by omega
    have e2 : (a.length : Int).toNat = a.length := by omega
    rw [e1, e2]; exact slice_mid a (w4 x) c 4 rfl
  rw [if_pos ⟨.inl rfl, by omega, by simp [w4_length]; omega⟩, e, numOf_w4 x h, h]
  simp
theorem get_w8 (a c : List UInt8) (x : Int) (h : -9223372036854775808 ≤ x ∧ x ≤ 9223372036854775807) : get (a ++ w8 x ++ c) (a.length : Int) 8 = (x, 0) := by
  unfold get
  have e : (((a ++ w8 x ++ c).take ((a.length : Int) + 8).toNat).drop (a.length : Int).toNat) = w8 x := by
    have e1 : ((a.length : Int) + 8).toNat = a.length + 8 := by omega
    have e2 : (a.length : Int).toNat = a.length := by omega
    rw [e1, e2]; exact slice_mid a (w8 x) c 8 rfl
  rw [if_pos ⟨.inr rfl, by omega, by simp [w8_length]; omega⟩, e, numOf_w8 x h]
  simp
theorem strOfBytes_append (l m : List Int) : strOfBytes (l ++ m) = strOfBytes l ++ strOfBytes m := by simp [strOfBytes]
theorem strOfBytes_length (l : List Int) : (strOfBytes l).length = l.length := by simp [strOfBytes]
theorem byte_of {n : Int} (h0 : 0 ≤ n) (h1 : n < 256) : ((UInt8.ofNat n.toNat).toNat : Int) = n := by rw [ofNat_toNat (by omega)]; omega
theorem gvL_put (a c d : List UInt8) (x : Int) (hx : may x = true) : ∀ (f i : Nat) (acc y : Int), f + i = 4 → 0 ≤ y → y < 128 ^ (f + 1) → x = acc + y * 2 ^ (7 * i) → strOfBytes (pvL 4 x) = c ++ strOfBytes (pvL f y) → c.length = i →
    gvL (a ++ strOfBytes (pvL 4 x) ++ d) a.length (f + 1) acc i = (x, ((a.length + (strOfBytes (pvL 4 x)).length : Nat) : Int), 0) := by
  intro f
  induction f generalizing c with
  | zero =>
    intro i acc y hfi hy hy2 hxe hc hcl
    have hy3 : y < 128 := by simpa using hy2
    have hby : (a ++ strOfBytes (pvL 4 x) ++ d)[a.length + i]? = some (UInt8.ofNat y.toNat) := by
      rw [List.append_assoc, List.getElem?_append_right (by omega), hc]
      simp only [pvL, strOfBytes, List.map_cons, List.map_nil]
      rw [show a.length + i - a.length = c.length by omega, List.append_assoc, List.getElem?_append_right (by omega)]
      simp
    have hbv := byte_of hy (by omega : y < 256)
    have hlen : (strOfBytes (pvL 4 x)).length = i + 1 := by rw [hc]; simp [pvL, strOfBytes, hcl]
    rw [gvL, hby]
    have h1 : ¬ (128 ≤ (UInt8.ofNat y.toNat).toNat) := by omega
    have h2 : ((UInt8.ofNat y.toNat).toNat : Int) % 128 = y := by omega
    simp only [h1, if_false, h2, ← hxe, hx, true_and]
    have h3 : strOfBytes (pvL 4 x) = ((a ++ strOfBytes (pvL 4 x) ++ d).take (a.length + i + 1)).drop a.length := by
      rw [Nat.add_assoc]; exact (slice_mid a _ d (i + 1) hlen.symm).symm
    rw [if_pos h3, hlen, Nat.add_assoc]
  | succ f ih =>
    intro i acc y hfi hy hy2 hxe hc hcl
    by_cases hb : 128 ≤ y
    · have hby : (a ++ strOfBytes (pvL 4 x) ++ d)[a.length + i]? = some (UInt8.ofNat (y % 128 + 128).toNat) := by
        rw [List.append_assoc, List.getElem?_append_right (by omega), hc]
        simp only [pvL, hb, if_true, strOfBytes, List.map_cons]
        rw [show a.length + i - a.length = c.length by omega, List.append_assoc, List.getElem?_append_right (by omega)]
        simp
      have hbv := byte_of (n := y % 128 + 128) (by omega) (by omega)
      rw [gvL, hby]
      have h1 : 128 ≤ (UInt8.ofNat (y % 128 + 128).toNat).toNat := by omega
      have h2 : ((UInt8.ofNat (y % 128 + 128).toNat).toNat : Int) % 128 = y % 128 := by omega
      simp only [h1, if_true, h2]
      refine ih (c ++ [UInt8.ofNat (y % 128 + 128).toNat]) (i + 1) _ (y / 128) (by omega) (by omega) (by rw [Int.pow_succ] at hy2; exact Int.ediv_lt_of_lt_mul (by omega) hy2) ?_ ?_ (by simp [hcl])
      · rw [hxe]
        have e : (2 : Int) ^ (7 * (i + 1)) = 128 * 2 ^ (7 * i) := by rw [show 7 * (i + 1) = 7 + 7 * i by omega, Int.pow_add]; rfl
        rw [e, ← Int.mul_assoc, Int.add_assoc, ← Int.add_mul]
        congr 2
        omega
      · rw [hc]
        simp [pvL, hb, strOfBytes]
    · have hby : (a ++ strOfBytes (pvL 4 x) ++ d)[a.length + i]? = some (UInt8.ofNat y.toNat) := by
        rw [List.append_assoc, List.getElem?_append_right (by omega), hc]
        simp only [pvL, hb, if_false, strOfBytes, List.map_cons, List.map_nil]
        rw [show a.length + i - a.length = c.length by omega, List.append_assoc, List.getElem?_append_right (by omega)]
        simp
      have hbv := byte_of hy (by omega : y < 256)
      have hlen : (strOfBytes (pvL 4 x)).length = i + 1 := by rw [hc]; simp [pvL, hb, strOfBytes, hcl]
      rw [gvL, hby]
      have h1 : ¬ (128 ≤ (UInt8.ofNat y.toNat).toNat) := by omega
      have h2 : ((UInt8.ofNat y.toNat).toNat : Int) % 128 = y := by omega
      simp only [h1, if_false, h2, ← hxe, hx, true_and]
      have h3 : strOfBytes (pvL 4 x) = ((a ++ strOfBytes (pvL 4 x) ++ d).take (a.length + i + 1)).drop a.length := by
        rw [Nat.add_assoc]; exact (slice_mid a _ d (i + 1) hlen.symm).symm
      rw [if_pos h3, hlen, Nat.add_assoc]
def pv (x : Int) : List UInt8 := strOfBytes (pvL 4 x)
theorem putVar_may {x : Int} (h : may x = true) : putVar x = (pv x, 0) := by simp [putVar, h, pv]
theorem pv_length (x : Int) : 1 ≤ (pv x).length ∧ (pv x).length ≤ 5 := by unfold pv; rw [strOfBytes_length]; exact pvL_length 4 x
theorem getVar_put (a d : List UInt8) (x : Int) (h : may x = true) : getVar (a ++ pv x ++ d) (a.length : Int) = (x, (a.length : Int) + ((pv x).length : Int), 0) := by
  obtain ⟨h1, h2⟩ := may_iff.1 h
  unfold getVar
  rw [if_pos ⟨by omega, by simp; omega⟩]
  have := gvL_put a [] d x h 4 0 0 x (by omega) h1 (by have : (128 : Int) ^ (4 + 1) = 34359738368 := by decide
                                                       omega) (by simp) (by simp) rfl
  have e : (a.length : Int).toNat = a.length := by omega
  rw [e]
  unfold pv at *
  rw [this]
  simp
theorem mask_may (x : Int) : may (bitsOp .and .i64 x 2147483647) = true := by
  have e : bitsOp .and .i64 x 2147483647 = x % 2147483648 := and_mask x 31 (by omega)
  rw [e]
  exact may_iff.2 ⟨by omega, by omega⟩
theorem pv_inj {x y : Int} (hx : may x = true) (hy : may y = true) (h : pv x = pv y) : x = y := by
  have h1 := getVar_put [] [] x hx
  have h2 := getVar_put [] [] y hy
  rw [h, h2] at h1
  exact (Prod.mk.inj h1).1.symm
theorem w4_inj {x y : Int} (hx : may x = true) (hy : may y = true) (h : w4 x = w4 y) : x = y := by
  rw [← numOf_w4 x hx, ← numOf_w4 y hy, h]
theorem pick {α : Type} {l : List α} {Q : α → Prop} (hl : ∀ e ∈ l, Q e) {i : Int} (h0 : 0 ≤ i) (h1 : i < (l.length : Int)) : ∃ e, l[i.toNat]? = some e ∧ Q e := by
  have : i.toNat < l.length := by omega
  exact ⟨_, List.getElem?_eq_getElem this, hl _ (List.getElem_mem this)⟩
def msk (x : Int) : Int := bitsOp .and .i64 x 2147483647
def enc (l : List Int) : List UInt8 := l.flatMap fun x => pv (msk x)
theorem enc_append (l m : List Int) : enc (l ++ m) = enc l ++ enc m := by simp [enc]
theorem enc_cons (x : Int) (l : List Int) : enc (x :: l) = pv (msk x) ++ enc l := by simp [enc]
theorem enc_length : ∀ l : List Int, (enc l).length ≤ 5 * l.length
  | [] => by simp [enc]
  | x :: l => by
    have h1 := enc_length l
    have h2 := (pv_length (msk x)).2
    have e : enc (x :: l) = pv (msk x) ++ enc l := by simp [enc]
    rw [e, List.length_append, List.length_cons]; omega
theorem law0_Num {k : Nat} (hk : 1 ≤ k) (x : Int) : quiverlaw0_Num.f idb k x = some x := by
  obtain ⟨k, rfl⟩ : ∃ m, k = m + 1 := ⟨k - 1, by omega⟩
  rw [quiverlaw0_Num.f_eq]
def par (t : List Nod) (i : Nat) : Int := match t[i]? with | some n => n.parent | none => -1
def knd (t : List Nod) (i : Nat) : Int := match t[i]? with | some n => n.kind | none => 0
def nul (t : List Nod) (i : Nat) : Bool := match t[i]? with | some n => n.null | none => false
theorem par_get {t : List Nod} {i : Nat} (h : i < t.length) : t[i].parent = par t i := by simp [par, h]
theorem knd_get {t : List Nod} {i : Nat} (h : i < t.length) : t[i].kind = knd t i := by simp [knd, h]
theorem nul_get {t : List Nod} {i : Nat} (h : i < t.length) : t[i].null = nul t i := by simp [nul, h]
def inner (k : Int) : Bool := k == 3 || k == 4
/-- The kids below a place. -/
def kidsU (t : List Nod) (a : Int) (i : Nat) : List Int := ((List.range i).filter fun j => decide (0 < j) && par t j == a).map fun j => ((j : Nat) : Int)
def kidsL (t : List Nod) (a : Int) : List Int := kidsU t a t.length
theorem kidsU_succ (t : List Nod) (a : Int) (i : Nat) : kidsU t a (i + 1) = if 0 < i ∧ par t i = a then kidsU t a i ++ [(i : Int)] else kidsU t a i := by
  unfold kidsU
  rw [List.range_succ, List.filter_append, List.map_append]
  by_cases h : 0 < i ∧ par t i = a
  · simp [h]
  · rw [if_neg h]
    have : (decide (0 < i) && par t i == a) = false := by
      simp only [Bool.and_eq_false_iff, decide_eq_false_iff_not, beq_eq_false_iff_ne]
      by_cases h0 : 0 < i
      · exact .inr fun e => h ⟨h0, e⟩
      · exact .inl h0
    simp [this]
theorem kidsU_length (t : List Nod) (a : Int) : ∀ i, (kidsU t a i).length ≤ i
  | 0 => by simp [kidsU]
  | i + 1 => by
    have := kidsU_length t a i
    rw [kidsU_succ]
    split <;> simp <;> omega
theorem mem_kidsL {t : List Nod} {a : Int} {x : Int} : x ∈ kidsL t a ↔ ∃ j : Nat, j < t.length ∧ 0 < j ∧ par t j = a ∧ x = (j : Int) := by
  unfold kidsL kidsU
  simp only [List.mem_map, List.mem_filter, List.mem_range, Bool.and_eq_true, decide_eq_true_eq, beq_iff_eq]
  constructor
  · rintro ⟨j, ⟨h1, h2, h3⟩, rfl⟩; exact ⟨j, h1, h2, h3, rfl⟩
  · rintro ⟨j, h1, h2, h3, rfl⟩; exact ⟨j, ⟨h1, h2, h3⟩, rfl⟩
theorem wsucc {i : Nat} (h : (i : Int) ≤ 4611686018427387904) : IntKind.i64.wrap ((i : Int) + 1) = ((i + 1 : Nat) : Int) := by rw [wi64 _ (by omega)]; push_cast; rfl
theorem types_kids_l0 (t : List Nod) (a : Int) (ht : t.length ≤ 17592186044415) (k : Nat) : ∀ (j i : Nat), i + j = t.length → ∀ n, j + 1 ≤ n → types_kids.l0 idb k n a t (t.length : Int) (i : Int) (kidsU t a i) = some (kidsL t a)
  | 0, i, hij, n, hn => by
    obtain ⟨n, rfl⟩ : ∃ m, n = m + 1 := ⟨n - 1, by omega⟩
    rw [types_kids.l0_eq]
    have h1 : ¬ ((i : Int) < (t.length : Int)) := by omega
    simp only [h1, decide_false, cond, kidsL]
    rw [show i = t.length by omega]
  | j + 1, i, hij, n, hn => by
    obtain ⟨n, rfl⟩ : ∃ m, n = m + 1 := ⟨n - 1, by omega⟩
    rw [types_kids.l0_eq]
    have hlt : i < t.length := by omega
    have h1 : ((i : Int) < (t.length : Int)) := by omega
    have ih := types_kids_l0 t a ht k j (i + 1) (by omega) n (by omega)
    rw [kidsU_succ] at ih
    have hl := kidsU_length t a i
    have h2 : ((kidsU t a i).length + [(i : Int)].length) * 8 ≤ 140737488355328 := by simp; omega
    simp only [h1, decide_true, cond, rd_get hlt, Option.bind_some, wsucc (show (i : Int) ≤ _ by omega), par_get hlt]
    by_cases h3 : (i : Int) > 0
    · have h3' : 0 < i := by omega
      by_cases h4 : par t i = a
      · rw [if_pos ⟨h3', h4⟩] at ih
        have hb : (par t i == a) = true := by simpa using h4
        simp only [h3, decide_true, hb, h2]
        exact ih
      · rw [if_neg (fun h => h4 h.2)] at ih
        have hb : (par t i == a) = false := by simpa using h4
        simp only [h3, decide_true, hb]
        exact ih
    · rw [if_neg (fun h => h3 (by omega))] at ih
      simp only [h3, decide_false]
      exact ih
theorem types_kids_ok {k : Nat} (t : List Nod) (a : Int) (ht : t.length ≤ 17592186044415) (hk : t.length + 2 ≤ k) : types_kids.f idb k t a = some (kidsL t a) := by
  obtain ⟨k, rfl⟩ : ∃ m, k = m + 1 := ⟨k - 1, by omega⟩
  rw [types_kids.f_eq]
  have := types_kids_l0 t a ht k t.length 0 (by omega) k (by omega)
  simpa [kidsU] using this
theorem ref_kids_l0 (t : List Nod) (a : Int) (ht : t.length ≤ 17592186044415) (k : Nat) : ∀ (j i : Nat), 0 < i → t.length ≤ i + j → ∀ n, j + 1 ≤ n → (i ≤ t.length ∨ kidsU t a i = kidsL t a) → quiverref1_kids.l0 idb k n a (i : Int) t (kidsU t a i) = some (kidsL t a)
  | 0, i, hi, hij, n, hn, hc => by
    obtain ⟨n, rfl⟩ : ∃ m, n = m + 1 := ⟨n - 1, by omega⟩
    rw [quiverref1_kids.l0_eq]
    have h1 : ¬ ((i : Int) < (t.length : Int)) := by omega
    simp only [h1, decide_false, cond]
    rcases hc with hc | hc
    · rw [show i = t.length by omega]; rfl
    · rw [hc]
  | j + 1, i, hi, hij, n, hn, hc => by
    obtain ⟨n, rfl⟩ : ∃ m, n = m + 1 := ⟨n - 1, by omega⟩
    rw [quiverref1_kids.l0_eq]
    by_cases hlt : i < t.length
    · have h1 : ((i : Int) < (t.length : Int)) := by omega
      have ih := ref_kids_l0 t a ht k j (i + 1) (by omega) (by omega) n (by omega) (.inl hlt)
      rw [kidsU_succ] at ih
      have hl := kidsU_length t a i
      have h2 : ((kidsU t a i).length + [(i : Int)].length) * 8 ≤ 140737488355328 := by simp; omega
      simp only [h1, decide_true, cond, rd_get hlt, Option.bind_some, wsucc (show (i : Int) ≤ _ by omega), par_get hlt]
      by_cases h4 : par t i = a
      · rw [if_pos ⟨hi, h4⟩] at ih
        have hb : (par t i == a) = true := by simpa using h4
        simp only [hb, h2, decide_true]
        exact ih
      · rw [if_neg (fun h => h4 h.2)] at ih
        have hb : (par t i == a) = false := by simpa using h4
        simp only [hb]
        exact ih
    · have h1 : ¬ ((i : Int) < (t.length : Int)) := by omega
      simp only [h1, decide_false, cond]
      rcases hc with hc | hc
      · rw [show i = t.length by omega]; rfl
      · rw [hc]
theorem ref_kids_ok {k : Nat} (t : List Nod) (a : Int) (ht : t.length ≤ 17592186044415) (hk : t.length + 2 ≤ k) : quiverref1_kids.f idb k t a = some (kidsL t a) := by
  obtain ⟨k, rfl⟩ : ∃ m, k = m + 1 := ⟨k - 1, by omega⟩
  rw [quiverref1_kids.f_eq]
  have := ref_kids_l0 t a ht k t.length 1 (by omega) (by omega) k (by omega) (by
    by_cases h : 1 ≤ t.length
    · exact .inl h
    · refine .inr ?_
      have : t = [] := List.eq_nil_of_length_eq_zero (by omega)
      subst this
      rfl)
  have e : kidsU t a 1 = [] := by rw [kidsU_succ, if_neg (by omega)]; rfl
  rw [e] at this
  exact this
/-- Who stands where it may. -/
def standsB (t : List Nod) (i : Nat) : Bool :=
  if i = 0 then par t 0 == -1 else decide (0 ≤ par t i) && decide (par t i < (i : Int)) && inner (knd t (par t i).toNat)
theorem types_Inner_ok {k : Nat} (hk : 1 ≤ k) (x : Int) : types_Inner.f idb k x = some (inner x) := by
  obtain ⟨k, rfl⟩ : ∃ m, k = m + 1 := ⟨k - 1, by omega⟩
  rw [types_Inner.f_eq]
  unfold inner
  cases h : (x == 3) <;> simp
theorem ref_IsLeaf_ok {k : Nat} (hk : 1 ≤ k) (x : Int) : quiverref1_IsLeaf.f idb k x = some (!inner x) := by
  obtain ⟨k, rfl⟩ : ∃ m, k = m + 1 := ⟨k - 1, by omega⟩
  rw [quiverref1_IsLeaf.f_eq]
  unfold inner
  simp only [bne]
  cases h : (x == 3) <;> simp
theorem types_stands_ok {k : Nat} (hk : 2 ≤ k) (t : List Nod) (i : Nat) (hi : i < t.length) : types_stands.f idb k t (i : Int) = some (standsB t i) := by
  obtain ⟨k, rfl⟩ : ∃ m, k = m + 1 := ⟨k - 1, by omega⟩
  rw [types_stands.f_eq]
  unfold standsB
  simp only [rd_get hi, Option.bind_some, par_get hi, types_Inner_ok (show 1 ≤ k by omega)]
  by_cases h0 : i = 0
  · subst h0; simp
  · have hb : ((i : Int) == 0) = false := by simp; omega
    rw [if_neg h0]
    simp only [hb, cond]
    by_cases h1 : 0 ≤ par t i
    · have h1' : par t i ≥ 0 := h1
      by_cases h2 : par t i < (i : Int)
      · have h3 : (par t i).toNat < t.length := by omega
        have e : par t i = (((par t i).toNat : Nat) : Int) := by omega
        have hr : rd t (par t i) = some t[(par t i).toNat] := by
          have := rd_get h3
          rw [← e] at this
          exact this
        simp only [h1', h1, h2, decide_true, hr, Option.bind_some, knd_get h3, Bool.true_and]
      · simp [h1, h2]
    · have h1' : ¬ par t i ≥ 0 := h1
      simp [h1]
def wayF (t : List Nod) : Nat → Int → List Int
  | 0, _ => []
  | f + 1, a => if 0 ≤ a then a :: wayF t f (par t a.toNat) else []
def wayL (t : List Nod) (a : Int) : List Int := wayF t (a + 1).toNat a
def Stands (t : List Nod) : Prop := ∀ i, i < t.length → standsB t i = true
theorem Stands.up {t : List Nod} (h : Stands t) {i : Nat} (hi : i < t.length) : par t i < (i : Int) ∧ -1 ≤ par t i := by
  have := h i hi
  unfold standsB at this
  split at this
  · rename_i h0
    subst h0
    have : par t 0 = -1 := by simpa using this
    omega
  · simp only [Bool.and_eq_true, decide_eq_true_eq] at this
    omega
theorem wayF_more {t : List Nod} (h : Stands t) : ∀ (f g : Nat) (a : Int), a < (t.length : Int) → a < (f : Int) → a < (g : Int) → wayF t f a = wayF t g a
  | 0, 0, _, _, _, _ => rfl
  | 0, g + 1, a, _, h1, _ => by
    have : ¬ 0 ≤ a := by omega
    simp [wayF, this]
  | f + 1, 0, a, _, _, h1 => by
    have : ¬ 0 ≤ a := by omega
    simp [wayF, this]
  | f + 1, g + 1, a, hl, h1, h2 => by
    simp only [wayF]
    split
    · rename_i h0
      have hup := h.up (i := a.toNat) (by omega)
      rw [wayF_more h f g _ (by omega) (by omega) (by omega)]
    · rfl
theorem wayL_neg {t : List Nod} {a : Int} (h : a < 0) : wayL t a = [] := by
  unfold wayL
  rw [show (a + 1).toNat = 0 by omega]; rfl
theorem wayL_up {t : List Nod} (h : Stands t) {i : Nat} (hi : i < t.length) : wayL t (i : Int) = (i : Int) :: wayL t (par t i) := by
  have hup := h.up hi
  unfold wayL
  rw [show ((i : Int) + 1).toNat = i + 1 by omega]
  simp only [wayF]
  rw [if_pos (by omega), Int.toNat_natCast, wayF_more h i ((par t i + 1).toNat) (par t i) (by omega) (by omega) (by omega)]
theorem wayL_length {t : List Nod} (h : Stands t) : ∀ i : Nat, i < t.length → 1 ≤ (wayL t (i : Int)).length ∧ (wayL t (i : Int)).length ≤ i + 1 := by
  intro i
  induction i using Nat.strongRecOn with
  | _ i ih =>
    intro hi
    rw [wayL_up h hi]
    have hup := h.up hi
    by_cases hp : par t i < 0
    · rw [wayL_neg hp]; simp
    · have e : par t i = (((par t i).toNat : Nat) : Int) := by omega
      rw [e]
      have := ih (par t i).toNat (by omega) (by omega)
      simp only [List.length_cons]; omega
theorem types_way_l0 {t : List Nod} (h : Stands t) (ht : t.length ≤ 1000) (k : Nat) : ∀ (f : Nat) (a : Int) (out : List Int) (n : Nat), a < (t.length : Int) → a < (f : Int) → f + 1 ≤ n → out.length + f ≤ 10000 → types_way.l0 idb k n t a out = some (out ++ wayF t f a)
  | 0, a, out, n, hl, hf, hn, ho => by
    obtain ⟨n, rfl⟩ : ∃ m, n = m + 1 := ⟨n - 1, by omega⟩
    rw [types_way.l0_eq]
    have h1 : ¬ a ≥ 0 := by omega
    simp [h1, wayF]
  | f + 1, a, out, n, hl, hf, hn, ho => by
    obtain ⟨n, rfl⟩ : ∃ m, n = m + 1 := ⟨n - 1, by omega⟩
    rw [types_way.l0_eq]
    by_cases h0 : 0 ≤ a
    · have h1 : a ≥ 0 := h0
      have hlt : a.toNat < t.length := by omega
      have e : a = ((a.toNat : Nat) : Int) := by omega
      have hr : rd t a = some t[a.toNat] := by
        have := rd_get hlt
        rw [← e] at this
        exact this
      have h2 : (out.length + [a].length) * 8 ≤ 140737488355328 := by simp; omega
      have hup := h.up hlt
      simp only [h1, h2, decide_true, cond, hr, Option.bind_some, par_get hlt]
      rw [types_way_l0 h ht k f _ _ n (by omega) (by omega) (by omega) (by simp; omega)]
      simp [wayF, h0]
    · have h1 : ¬ a ≥ 0 := h0
      simp [h1, wayF, h0]
theorem types_way_ok {t : List Nod} (h : Stands t) (ht : t.length ≤ 1000) {k : Nat} (i : Nat) (hi : i < t.length) (hk : t.length + 3 ≤ k) : types_way.f idb k t (i : Int) = some (wayL t (i : Int)) := by
  obtain ⟨k, rfl⟩ : ∃ m, k = m + 1 := ⟨k - 1, by omega⟩
  rw [types_way.f_eq, types_way_l0 h ht k (i + 1) _ [] k (by omega) (by omega) (by omega) (by simp; omega)]
  unfold wayL
  rw [show ((i : Int) + 1).toNat = i + 1 by omega]
  rfl
theorem natbeq (n m : Nat) : ((n : Int) == (m : Int)) = (n == m) := by
  by_cases h : n = m
  · simp [h]
  · have : ¬ ((n : Int) = (m : Int)) := by omega
    exact (beq_eq_false_iff_ne.2 this).trans (beq_eq_false_iff_ne.2 h).symm
def kindB (t : List Nod) (i : Nat) : Bool := decide (0 ≤ knd t i) && decide (knd t i ≤ 4)
def kidsB (t : List Nod) (i : Nat) : Bool := (!(knd t i == 3) || (kidsL t (i : Int)).length == 1) && (!(knd t i == 4) || !((kidsL t (i : Int)).length == 0))
def mayT (t : List Nod) : Bool :=
  decide (1 ≤ t.length) && decide (t.length ≤ 8) && (List.range t.length).all (fun i => kindB t i && standsB t i) && (List.range t.length).all (fun i => kidsB t i && decide ((wayL t (i : Int)).length ≤ 5))
theorem all_drop (p : Nat → Bool) (N i : Nat) (hi : i < N) : ((List.range' i (N - i)).all p) = (p i && (List.range' (i + 1) (N - (i + 1))).all p) := by
  rw [show N - i = (N - (i + 1)) + 1 by omega, List.range'_succ, List.all_cons]
theorem types_May_l2 (t : List Nod) (h : Stands t) (ht : t.length ≤ 8) (k : Nat) (hk : 20 ≤ k) : ∀ (j i : Nat), i + j = t.length → ∀ n, j + 1 ≤ n →
    types_May.l2 idb k n t (t.length : Int) (i : Int) = some ((List.range' i (t.length - i)).all fun i => kidsB t i && decide ((wayL t (i : Int)).length ≤ 5))
  | 0, i, hij, n, hn => by
    obtain ⟨n, rfl⟩ : ∃ m, n = m + 1 := ⟨n - 1, by omega⟩
    rw [types_May.l2_eq]
    have h1 : ¬ ((i : Int) < (t.length : Int)) := by omega
    simp only [h1, decide_false, cond]
    rw [show t.length - i = 0 by omega]; rfl
  | j + 1, i, hij, n, hn => by
    obtain ⟨n, rfl⟩ : ∃ m, n = m + 1 := ⟨n - 1, by omega⟩
    rw [types_May.l2_eq]
    have hlt : i < t.length := by omega
    have h1 : ((i : Int) < (t.length : Int)) := by omega
    have ih := types_May_l2 t h ht k hk j (i + 1) (by omega) n (by omega)
    rw [all_drop _ _ _ hlt]
    simp only [h1, decide_true, cond, rd_get hlt, Option.bind_some, knd_get hlt, types_kids_ok t _ (show t.length ≤ 17592186044415 by omega) (show t.length + 2 ≤ k by omega), types_way_ok h (show t.length ≤ 1000 by omega) i hlt (show t.length + 3 ≤ k by omega), wsucc (show (i : Int) ≤ _ by omega), ih]
    unfold kidsB
    have e1 : (((kidsL t (i : Int)).length : Int) != 1) = !((kidsL t (i : Int)).length == 1) := by
      simp only [bne]
      congr 1
      exact natbeq _ 1
    have e2 : (((kidsL t (i : Int)).length : Int) == 0) = ((kidsL t (i : Int)).length == 0) := natbeq _ 0
    have e3 : decide (((wayL t (i : Int)).length : Int) > 5) = !decide ((wayL t (i : Int)).length ≤ 5) := by
      by_cases hh : (wayL t (i : Int)).length ≤ 5
      · have : ¬ (((wayL t (i : Int)).length : Int) > 5) := by omega
        simp [hh, this]
      · have : (((wayL t (i : Int)).length : Int) > 5) := by omega
        simp [hh, this]
    simp only [e1, e2, e3]
    cases (knd t i == 3) <;> cases (knd t i == 4) <;> cases ((kidsL t (i : Int)).length == 1) <;> cases ((kidsL t (i : Int)).length == 0) <;> cases (decide ((wayL t (i : Int)).length ≤ 5)) <;> simp
theorem types_May_l0 (t : List Nod) (ht : t.length ≤ 8) (k : Nat) (hk : 20 ≤ k) : ∀ (j i : Nat), i + j = t.length → (∀ q, q < i → standsB t q = true) → ∀ n, j + 1 ≤ n →
    types_May.l0 idb k n t (t.length : Int) (i : Int) = some ((List.range' i (t.length - i)).all (fun i => kindB t i && standsB t i) && (List.range t.length).all (fun i => kidsB t i && decide ((wayL t (i : Int)).length ≤ 5)))
  | 0, i, hij, hst, n, hn => by
    obtain ⟨n, rfl⟩ : ∃ m, n = m + 1 := ⟨n - 1, by omega⟩
    rw [types_May.l0_eq]
    have h1 : ¬ ((i : Int) < (t.length : Int)) := by omega
    have := types_May_l2 t (fun q hq => hst q (by omega)) ht k hk t.length 0 (by omega) k (by omega)
    simp only [h1, decide_false, cond]
    rw [show t.length - i = 0 by omega]
    rw [Nat.sub_zero] at this
    rw [List.range_eq_range']
    simpa using this
  | j + 1, i, hij, hst, n, hn => by
    obtain ⟨n, rfl⟩ : ∃ m, n = m + 1 := ⟨n - 1, by omega⟩
    rw [types_May.l0_eq]
    have hlt : i < t.length := by omega
    have h1 : ((i : Int) < (t.length : Int)) := by omega
    rw [all_drop _ _ _ hlt]
    simp only [h1, decide_true, cond, rd_get hlt, Option.bind_some, knd_get hlt, types_stands_ok (show 2 ≤ k by omega) t i hlt, wsucc (show (i : Int) ≤ _ by omega)]
    unfold kindB
    by_cases h2 : 0 ≤ knd t i
    · have h2' : ¬ (knd t i < 0) := by omega
      by_cases h3 : knd t i ≤ 4
      · have h3' : ¬ (knd t i > 4) := by omega
        cases hs : standsB t i with
        | false => simp [h2, h2', h3, h3']
        | true =>
          have ih := types_May_l0 t ht k hk j (i + 1) (by omega) (fun q hq => by
            by_cases e : q = i
            · subst e; exact hs
            · exact hst q (by omega)) n (by omega)
          unfold kindB at ih
          simp only [h2, h2', h3, h3', decide_true, decide_false, Bool.not_false, Bool.not_true, Bool.true_and, ih]
      · have h3' : (knd t i > 4) := by omega
        simp [h2, h2', h3, h3']
    · have h2' : (knd t i < 0) := by omega
      simp [h2, h2']
theorem types_May_ok {k : Nat} (hk : 21 ≤ k) (t : List Nod) : types_May.f idb k t = some (mayT t) := by
  obtain ⟨k, rfl⟩ : ∃ m, k = m + 1 := ⟨k - 1, by omega⟩
  rw [types_May.f_eq]
  unfold mayT
  by_cases h0 : t.length = 0
  · simp [h0]
  · have b0 : ((t.length : Int) == 0) = false := beq_eq_false_iff_ne.2 (by omega)
    by_cases h8 : t.length ≤ 8
    · have b8 : ¬ ((t.length : Int) > 8) := by omega
      have h1 : 1 ≤ t.length := by omega
      have := types_May_l0 t h8 k (by omega) t.length 0 (by omega) (fun q hq => absurd hq (Nat.not_lt_zero q)) k (by omega)
      rw [Nat.sub_zero, ← List.range_eq_range'] at this
      simp only [b0, Bool.not_false, cond, b8, decide_false, h1, h8, decide_true, Bool.true_and]
      exact this
    · have b8 : ((t.length : Int) > 8) := by omega
      simp [b0, b8, h8]
def Ups (t : List Nod) (m : Nat) : Prop := ∀ q, q < m → par t q < (q : Int)
theorem wayF_ups {t : List Nod} {m : Nat} (h : Ups t m) : ∀ (f g : Nat) (a : Int), a < (m : Int) → a < (f : Int) → a < (g : Int) → wayF t f a = wayF t g a
  | 0, 0, _, _, _, _ => rfl
  | 0, g + 1, a, _, h1, _ => by
    have : ¬ 0 ≤ a := by omega
    simp [wayF, this]
  | f + 1, 0, a, _, _, h1 => by
    have : ¬ 0 ≤ a := by omega
    simp [wayF, this]
  | f + 1, g + 1, a, hl, h1, h2 => by
    simp only [wayF]
    split
    · rename_i h0
      have hup := h a.toNat (by omega)
      rw [wayF_ups h f g _ (by omega) (by omega) (by omega)]
    · rfl
theorem wayL_ups {t : List Nod} {m : Nat} (h : Ups t m) {i : Nat} (hi : i < m) : wayL t (i : Int) = (i : Int) :: wayL t (par t i) := by
  have hup := h i hi
  unfold wayL
  rw [show ((i : Int) + 1).toNat = i + 1 by omega]
  simp only [wayF]
  rw [if_pos (by omega), Int.toNat_natCast]
  by_cases hp : 0 ≤ par t i
  · rw [wayF_ups h i ((par t i + 1).toNat) (par t i) (by omega) (by omega) (by omega)]
  · rw [show (par t i + 1).toNat = 0 by omega]
    congr 1
    cases i with
    | zero => rfl
    | succ i => simp [wayF, hp]
def refB (t : List Nod) (i : Nat) : Bool :=
  kindB t i && (inner (knd t i) || (kidsL t (i : Int)).length == 0) && kidsB t i && (i == 0 || (decide (0 ≤ par t i) && decide (par t i < (i : Int)) && decide ((wayL t (par t i)).length ≤ 4)))
theorem ref_upTo_ok {k : Nat} (hk : 1 ≤ k) (x a b : Int) : quiverref1_upTo.f idb k x a b = some (decide (a ≤ x) && decide (x ≤ b)) := by
  obtain ⟨k, rfl⟩ : ∃ m, k = m + 1 := ⟨k - 1, by omega⟩
  rw [quiverref1_upTo.f_eq]
  by_cases h : a ≤ x
  · have : x ≥ a := h
    simp [h]
  · have : ¬ x ≥ a := h
    simp [h]
set_option maxHeartbeats 2000000 in
theorem ref_May_l0 (t : List Nod) (ht : t.length ≤ 8) (k : Nat) (hk : 20 ≤ k) (h0 : par t 0 = -1) : ∀ (j i : Nat), i + j = t.length → Ups t i → ∀ deep : List Int, deep.length = t.length → (i = 0 → deep[0]? = some 0) →
    (∀ q, q < i → deep[q]? = some (((wayL t (q : Int)).length : Int) - 1)) → ∀ n, j + 1 ≤ n → quiverref1_TypeMay.l0 idb k n (i : Int) t deep = some ((List.range' i (t.length - i)).all (refB t))
  | 0, i, hij, hu, deep, hdl, hd0, hd, n, hn => by
    obtain ⟨n, rfl⟩ : ∃ m, n = m + 1 := ⟨n - 1, by omega⟩
    rw [quiverref1_TypeMay.l0_eq]
    have h1 : ¬ ((i : Int) < (t.length : Int)) := by omega
    simp only [h1, decide_false, cond]
    rw [show t.length - i = 0 by omega]; rfl
  | j + 1, i, hij, hu, deep, hdl, hd0, hd, n, hn => by
    obtain ⟨n, rfl⟩ : ∃ m, n = m + 1 := ⟨n - 1, by omega⟩
    have hlt : i < t.length := by omega
    have h1 : ((i : Int) < (t.length : Int)) := by omega
    rw [quiverref1_TypeMay.l0_eq, all_drop _ _ _ hlt]
    simp only [h1, decide_true, cond, rd_get hlt, Option.bind_some, knd_get hlt, par_get hlt, ref_upTo_ok (show 1 ≤ k by omega), ref_kids_ok t _ (show t.length ≤ 17592186044415 by omega) (show t.length + 2 ≤ k by omega), ref_IsLeaf_ok (show 1 ≤ k by omega),
      wsucc (show (i : Int) ≤ _ by omega), wi64 ((i : Int) - 1) (by omega)]
    -- what comes behind the looks at the kind and the kids
    have rest : ∀ g : Bool, refB t i = (g && (i == 0 || (decide (0 ≤ par t i) && decide (par t i < (i : Int)) && decide ((wayL t (par t i)).length ≤ 4)))) → g = true →
        (bif ((i : Int) == 0) then quiverref1_TypeMay.l0 idb k n ((i + 1 : Nat) : Int) t deep
         else bif (!(!(decide (0 ≤ par t i) && decide (par t i ≤ (i : Int) - 1)))) then
          bif decide (0 ≤ par t i) && decide (par t i < (deep.length : Int)) then
           (deep[(par t i).toNat]?).bind fun e_6 =>
           bif decide (e_6 ≥ 4) then some false
           else
            bif decide (0 ≤ par t i) && decide (par t i < (deep.length : Int)) then
             (deep[(par t i).toNat]?).bind fun e_7 =>
             bif decide (0 ≤ (i : Int)) && decide ((i : Int) < (deep.length : Int)) then
              (deep[((i : Int)).toNat]?).bind fun e_8 =>
              quiverref1_TypeMay.l0 idb k n ((i + 1 : Nat) : Int) t (deep.set ((i : Int)).toNat (IntKind.i64.wrap (e_7 + 1)))
             else none
            else none
          else none
         else some false) = some (refB t i && (List.range' (i + 1) (t.length - (i + 1))).all (refB t)) := by
      intro g hg hgt
      subst hgt
      rw [Bool.true_and] at hg
      by_cases hi0 : i = 0
      · subst hi0
        have hr : refB t 0 = true := by rw [hg]; rfl
        have hu1 : Ups t 1 := fun q hq => by
          have : q = 0 := by omega
          subst this; rw [h0]; decide
        have hw : (wayL t ((0 : Nat) : Int)).length = 1 := by
          rw [wayL_ups hu1 (by omega), h0, wayL_neg (by decide)]; rfl
        have ih := ref_May_l0 t ht k hk h0 j 1 (by omega) hu1 deep hdl (fun h => by omega) (fun q hq => by
          have : q = 0 := by omega
          subst this
          rw [hd0 rfl, hw]; rfl) n (by omega)
        have b0 : (((0 : Nat) : Int) == 0) = true := rfl
        simp only [b0, cond, hr, Bool.true_and]
        exact ih
      · have b0 : ((i : Int) == 0) = false := beq_eq_false_iff_ne.2 (by omega)
        have bn : (i == 0) = false := beq_eq_false_iff_ne.2 hi0
        rw [bn, Bool.false_or] at hg
        simp only [b0, cond]
        by_cases hp : 0 ≤ par t i ∧ par t i < (i : Int)
        · obtain ⟨hp1, hp2⟩ := hp
          have hp3 : par t i ≤ (i : Int) - 1 := by omega
          have hp4 : par t i < (deep.length : Int) := by omega
          have hq : (par t i).toNat < i := by omega
          have e : (((par t i).toNat : Nat) : Int) = par t i := by omega
          have hv := hd _ hq
          rw [e] at hv
          have hi1 : (0 : Int) ≤ (i : Int) := by omega
          have hi2 : (i : Int) < (deep.length : Int) := by omega
          have hget : deep[((i : Int)).toNat]? = some (deep[i]'(by omega)) := by rw [Int.toNat_natCast]; exact List.getElem?_eq_getElem (by omega)
          simp only [hp1, hp2, hp3, hp4, decide_true, Bool.and_self, Bool.not_true, Bool.not_false, hv, Option.bind_some, hi1, hi2, hget]
          simp only [hp1, hp2, decide_true, Bool.true_and] at hg
          by_cases hw : (wayL t (par t i)).length ≤ 4
          · have hw' : ¬ (((wayL t (par t i)).length : Int) - 1 ≥ 4) := by omega
            have hr : refB t i = true := by rw [hg]; simpa using hw
            have hu1 : Ups t (i + 1) := fun q hq => by
              by_cases e : q = i
              · subst e; exact hp2
              · exact hu q (by omega)
            have hwl : wayL t (i : Int) = (i : Int) :: wayL t (par t i) := wayL_ups hu1 (by omega)
            have hs : IntKind.i64.wrap (((wayL t (par t i)).length : Int) - 1 + 1) = ((wayL t (i : Int)).length : Int) - 1 := by
              rw [wi64 _ (by omega), hwl, List.length_cons]; omega
            have ih := ref_May_l0 t ht k hk h0 j (i + 1) (by omega) hu1 (deep.set i (((wayL t (i : Int)).length : Int) - 1)) (by simpa using hdl) (fun h => by omega) (fun q hq => by
              by_cases e : q = i
              · subst e
                rw [List.getElem?_set_self (by omega)]
              · rw [List.getElem?_set_ne (fun h => e h.symm)]
                exact hd q (by omega)) n (by omega)
            simp only [hw', decide_false, hr, Bool.true_and, hs, Int.toNat_natCast]
            exact ih
          · have hw' : (((wayL t (par t i)).length : Int) - 1 ≥ 4) := by omega
            have hr : refB t i = false := by rw [hg]; simpa using hw
            simp only [hw', decide_true, hr, Bool.false_and]
        · have hr : refB t i = false := by
            rw [hg]
            by_cases hp1 : 0 ≤ par t i
            · have hp2 : ¬ par t i < (i : Int) := fun h => hp ⟨hp1, h⟩
              simp [hp2]
            · simp [hp1]
          have hb : (decide (0 ≤ par t i) && decide (par t i ≤ (i : Int) - 1)) = false := by
            by_cases hp1 : 0 ≤ par t i
            · have hp2 : ¬ par t i ≤ (i : Int) - 1 := fun h => hp ⟨hp1, by omega⟩
              simp [hp2]
            · simp [hp1]
          simp only [hb, Bool.not_false, Bool.not_true, hr, Bool.false_and]
    have e1 : (((kidsL t (i : Int)).length : Int) != 1) = !((kidsL t (i : Int)).length == 1) := by
      simp only [bne]
      congr 1
      exact natbeq _ 1
    have e2 : decide (((kidsL t (i : Int)).length : Int) < 1) = ((kidsL t (i : Int)).length == 0) := by
      by_cases hh : (kidsL t (i : Int)).length = 0
      · simp [hh]
      · have h3 : ¬ (((kidsL t (i : Int)).length : Int) < 1) := by omega
        rw [beq_eq_false_iff_ne.2 hh, decide_eq_false h3]
    have e3 : decide (((kidsL t (i : Int)).length : Int) > 0) = !((kidsL t (i : Int)).length == 0) := by
      by_cases hh : (kidsL t (i : Int)).length = 0
      · simp [hh]
      · have h3 : (((kidsL t (i : Int)).length : Int) > 0) := by omega
        rw [beq_eq_false_iff_ne.2 hh, decide_eq_true h3]
        rfl
    simp only [e1, e2, e3]
    have hrefl : refB t i = (kindB t i && (inner (knd t i) || (kidsL t (i : Int)).length == 0) && kidsB t i && (i == 0 || (decide (0 ≤ par t i) && decide (par t i < (i : Int)) && decide ((wayL t (par t i)).length ≤ 4)))) := rfl
    have hkb : (decide (0 ≤ knd t i) && decide (knd t i ≤ 4)) = kindB t i := rfl
    rw [hkb]
    have rest' := rest _ hrefl
    unfold kidsB inner at rest' hrefl
    unfold inner
    generalize kindB t i = bk at rest' hrefl ⊢
    generalize (knd t i == 3) = b3 at rest' hrefl ⊢
    generalize (knd t i == 4) = b4 at rest' hrefl ⊢
    generalize ((kidsL t (i : Int)).length == 0) = z at rest' hrefl ⊢
    generalize ((kidsL t (i : Int)).length == 1) = o at rest' hrefl ⊢
    generalize refB t i = rb at rest' hrefl ⊢
    cases bk with
    | false => simp only [Bool.false_and] at hrefl; subst hrefl; simp only [Bool.not_false, Bool.false_and]
    | true =>
      cases b3 <;> cases b4 <;> cases z <;> cases o <;> simp only [Bool.not_true, Bool.not_false, Bool.true_and, Bool.false_and, Bool.and_true, Bool.and_false, Bool.or_true, Bool.true_or, Bool.or_false, Bool.false_or, Bool.and_self, Bool.or_self] at rest' hrefl ⊢ <;>
        first | (exact rest' trivial) | (exact rest' rfl) | (subst hrefl; simp only [Bool.false_and]; done) | (subst hrefl; rfl)
theorem ref_May_ok {k : Nat} (hk : 21 ≤ k) (t : List Nod) : quiverref1_TypeMay.f idb k t = some (decide (1 ≤ t.length) && decide (t.length ≤ 8) && (par t 0 == -1) && (List.range t.length).all (refB t)) := by
  obtain ⟨k, rfl⟩ : ∃ m, k = m + 1 := ⟨k - 1, by omega⟩
  rw [quiverref1_TypeMay.f_eq]
  by_cases h1 : 1 ≤ t.length
  · have h1' : ¬ ((t.length : Int) < 1) := by omega
    by_cases h8 : t.length ≤ 8
    · have h8' : ¬ ((t.length : Int) > 8) := by omega
      have hr : rd t 0 = some t[0] := rd_get (i := 0) h1
      have hb : (((t.length : Int) == (t.length : Int)) && (decide (0 ≤ (t.length : Int)) && decide ((t.length : Int) * 8 ≤ 140737488355328))) = true := by simp; omega
      simp only [h1, h1', h8, h8', decide_true, decide_false, Bool.not_false, cond, hr, Option.bind_some, par_get h1, hb, Bool.true_and]
      by_cases hp : par t 0 = -1
      · have b1 : (par t 0 != -1) = false := by simp [hp]
        have b2 : (par t 0 == -1) = true := by simp [hp]
        have := ref_May_l0 t h8 k (by omega) hp t.length 0 (by omega) (fun q hq => absurd hq (Nat.not_lt_zero q)) (List.replicate ((t.length : Int)).toNat 0) (by simp) (fun _ => by
          rw [List.getElem?_replicate, if_pos (by omega)]) (fun q hq => absurd hq (Nat.not_lt_zero q)) k (by omega)
        rw [Nat.sub_zero, ← List.range_eq_range'] at this
        simp only [b1, b2, Bool.true_and]
        exact this
      · have b1 : (par t 0 != -1) = true := by simpa using hp
        have b2 : (par t 0 == -1) = false := by simpa using hp
        simp only [b1, b2, Bool.false_and]
    · have h8' : ((t.length : Int) > 8) := by omega
      simp only [h1', h8, h8', decide_true, decide_false, Bool.not_false, Bool.not_true, cond, Bool.false_and, Bool.and_false]
  · have h1' : ((t.length : Int) < 1) := by omega
    simp only [h1, h1', decide_true, decide_false, Bool.not_true, cond, Bool.false_and]
theorem mayT_iff (t : List Nod) : mayT t = true ↔ (1 ≤ t.length ∧ t.length ≤ 8) ∧ (∀ i, i < t.length → kindB t i = true ∧ standsB t i = true) ∧ ∀ i, i < t.length → kidsB t i = true ∧ (wayL t (i : Int)).length ≤ 5 := by
  unfold mayT
  simp only [Bool.and_eq_true, decide_eq_true_eq, List.all_eq_true, List.mem_range]
  constructor
  · rintro ⟨⟨⟨h1, h2⟩, h3⟩, h4⟩; exact ⟨⟨h1, h2⟩, h3, h4⟩
  · rintro ⟨⟨h1, h2⟩, h3, h4⟩; exact ⟨⟨⟨h1, h2⟩, h3⟩, h4⟩
theorem mayT_stands {t : List Nod} (h : mayT t = true) : Stands t := fun i hi => (((mayT_iff t).1 h).2.1 i hi).2
theorem may_same (t : List Nod) : (decide (1 ≤ t.length) && decide (t.length ≤ 8) && (par t 0 == -1) && (List.range t.length).all (refB t)) = mayT t := by
  apply Bool.eq_iff_iff.2
  rw [mayT_iff]
  simp only [Bool.and_eq_true, decide_eq_true_eq, List.all_eq_true, List.mem_range, beq_iff_eq]
  constructor
  · rintro ⟨⟨⟨h1, h2⟩, h0⟩, hall⟩
    have href : ∀ i, i < t.length → kindB t i = true ∧ (inner (knd t i) = true ∨ (kidsL t (i : Int)).length = 0) ∧ kidsB t i = true ∧ (i = 0 ∨ (0 ≤ par t i ∧ par t i < (i : Int) ∧ (wayL t (par t i)).length ≤ 4)) := by
      intro i hi
      have := hall i hi
      simp only [refB, Bool.and_eq_true, Bool.or_eq_true, beq_iff_eq, decide_eq_true_eq] at this
      obtain ⟨⟨⟨q1, q2⟩, q3⟩, q4⟩ := this
      refine ⟨q1, q2, q3, ?_⟩
      rcases q4 with q4 | ⟨⟨q5, q6⟩, q7⟩
      · exact .inl q4
      · exact .inr ⟨q5, q6, q7⟩
    have hst : Stands t := by
      intro i hi
      unfold standsB
      split
      · simpa using h0
      · rename_i hi0
        obtain ⟨_, _, _, q4⟩ := href i hi
        rcases q4 with q4 | ⟨q5, q6, q7⟩
        · exact absurd q4 hi0
        · have hp : (par t i).toNat < t.length := by omega
          have hm : (i : Int) ∈ kidsL t (((par t i).toNat : Nat) : Int) := mem_kidsL.2 ⟨i, hi, by omega, by omega, rfl⟩
          obtain ⟨_, q2, _, _⟩ := href _ hp
          have hin : inner (knd t (par t i).toNat) = true := by
            rcases q2 with q2 | q2
            · exact q2
            · rw [List.eq_nil_of_length_eq_zero q2] at hm; simp at hm
          simp [q5, q6, hin]
    refine ⟨⟨h1, h2⟩, fun i hi => ⟨(href i hi).1, hst i hi⟩, fun i hi => ⟨(href i hi).2.2.1, ?_⟩⟩
    rw [wayL_up hst hi, List.length_cons]
    rcases (href i hi).2.2.2 with q4 | ⟨_, _, q7⟩
    · subst q4
      rw [h0, wayL_neg (by decide)]; simp
    · omega
  · rintro ⟨⟨h1, h2⟩, h3, h4⟩
    have hst : Stands t := fun i hi => (h3 i hi).2
    have h0 : par t 0 = -1 := by
      have := hst 0 (by omega)
      simpa [standsB] using this
    refine ⟨⟨⟨h1, h2⟩, h0⟩, fun i hi => ?_⟩
    simp only [refB, Bool.and_eq_true, Bool.or_eq_true, beq_iff_eq, decide_eq_true_eq]
    refine ⟨⟨⟨(h3 i hi).1, ?_⟩, (h4 i hi).1⟩, ?_⟩
    · by_cases hk : (kidsL t (i : Int)).length = 0
      · exact .inr hk
      · refine .inl ?_
        obtain ⟨x, hx⟩ := List.exists_mem_of_length_pos (Nat.pos_of_ne_zero hk)
        obtain ⟨j, hj, hj0, hpj, _⟩ := mem_kidsL.1 hx
        have := hst j hj
        unfold standsB at this
        rw [if_neg (by omega)] at this
        simp only [Bool.and_eq_true] at this
        rw [hpj, Int.toNat_natCast] at this
        exact this.2
    · by_cases hi0 : i = 0
      · exact .inl hi0
      · refine .inr ?_
        have hs := hst i hi
        unfold standsB at hs
        rw [if_neg hi0] at hs
        simp only [Bool.and_eq_true, decide_eq_true_eq] at hs
        have hw := (h4 i hi).2
        rw [wayL_up hst hi, List.length_cons] at hw
        exact ⟨⟨hs.1.1, hs.1.2⟩, by omega⟩
theorem ref_TypeMay_ok {k : Nat} (hk : 21 ≤ k) (t : List Nod) : quiverref1_TypeMay.f idb k t = some (mayT t) := by rw [ref_May_ok hk, may_same]
theorem bar_eq (R : Type) (x : Option R) : idb R x = x := by cases x <;> rfl
def nb (n : Nod) : List Int := [IntKind.u8.wrap n.kind, IntKind.u8.wrap (IntKind.i64.wrap (n.parent + 1)), if n.null then 1 else 0]
def bodyT (l : List Nod) : List Int := l.flatMap nb
def textT (t : List Nod) : List UInt8 := strOfBytes (IntKind.u8.wrap (t.length : Int) :: bodyT t)
def putS (t : List Nod) : List UInt8 × Int := if mayT t then (textT t, 0) else ([], 600)
theorem bodyT_append (l m : List Nod) : bodyT (l ++ m) = bodyT l ++ bodyT m := by simp [bodyT]
theorem bodyT_cons (n : Nod) (l : List Nod) : bodyT (n :: l) = nb n ++ bodyT l := by simp [bodyT]
theorem bodyT_length : ∀ l : List Nod, (bodyT l).length = 3 * l.length
  | [] => rfl
  | n :: l => by rw [bodyT_cons, List.length_append, bodyT_length l]; simp [nb]; omega
theorem mayT_length {t : List Nod} (h : mayT t = true) : 1 ≤ t.length ∧ t.length ≤ 8 := ((mayT_iff t).1 h).1
def pn (a b c : UInt8) : Nod := ⟨(a.toNat : Int), (b.toNat : Int) - 1, (c.toNat : Int) == 1⟩
def parse : Nat → List UInt8 → List Nod
  | f + 1, a :: b :: c :: l => pn a b c :: parse f l
  | _, _ => []
def finS (s : List UInt8) (out : List Nod) : List Nod × Int := if mayT out = true ∧ textT out = s then (out, 0) else ([], 600)
def getS (s : List UInt8) : List Nod × Int := finS s (parse 9 s.tail)
theorem rd_cat {a l : List UInt8} {x : UInt8} {i : Nat} (h : l[i]? = some x) {p : Int} (hp : p = ((a.length + i : Nat) : Int)) : rd (a ++ l) p = some x := by
  subst hp
  unfold rd
  have : decide ((0 : Int) ≤ ((a.length + i : Nat) : Int)) = true := by simp; omega
  rw [this]
  simp only [cond, Int.toNat_natCast]
  rw [List.getElem?_append_right (by omega), show a.length + i - a.length = i by omega]
  exact h
theorem pn_eq (a b c : UInt8) : (Nod.mk (IntKind.i64.wrap (a.toNat : Int)) (IntKind.i64.wrap ((IntKind.i64.wrap (b.toNat : Int)) - 1)) ((c.toNat : Int) == 1)) = pn a b c := by
  have ha : a.toNat < 256 := a.toNat_lt
  have hb : b.toNat < 256 := b.toNat_lt
  rw [wi64 (a.toNat : Int) (by omega), wi64 (b.toNat : Int) (by omega), wi64 _ (by omega)]; rfl
theorem parse_length : ∀ (f : Nat) (l : List UInt8), (parse f l).length = min f (l.length / 3)
  | 0, l => by simp [parse]
  | f + 1, [] => by simp [parse]
  | f + 1, [_] => by simp [parse]
  | f + 1, [_, _] => by simp [parse]
  | f + 1, a :: b :: c :: l => by
    simp only [parse, List.length_cons, parse_length f l]
    omega
theorem parse_more : ∀ (f g : Nat) (l : List UInt8), l.length / 3 ≤ f → l.length / 3 ≤ g → parse f l = parse g l
  | 0, 0, _, _, _ => rfl
  | 0, g + 1, [], _, _ => rfl
  | 0, g + 1, [_], _, _ => rfl
  | 0, g + 1, [_, _], _, _ => rfl
  | 0, g + 1, a :: b :: c :: l, h, _ => by simp at h; omega
  | f + 1, 0, [], _, _ => rfl
  | f + 1, 0, [_], _, _ => rfl
  | f + 1, 0, [_, _], _, _ => rfl
  | f + 1, 0, a :: b :: c :: l, _, h => by simp at h; omega
  | f + 1, g + 1, [], _, _ => rfl
  | f + 1, g + 1, [_], _, _ => rfl
  | f + 1, g + 1, [_, _], _, _ => rfl
  | f + 1, g + 1, a :: b :: c :: l, h1, h2 => by
    simp only [parse]
    rw [parse_more f g l (by simp at h1; omega) (by simp at h2; omega)]
theorem textT_length (t : List Nod) : (textT t).length = 1 + 3 * t.length := by unfold textT; rw [strOfBytes_length, List.length_cons, bodyT_length]; omega
theorem textT_cons (t : List Nod) : textT t = UInt8.ofNat (IntKind.u8.wrap (t.length : Int)).toNat :: strOfBytes (bodyT t) := rfl
theorem textT_head {t : List Nod} (h : mayT t = true) {a : UInt8} {l : List UInt8} (he : textT t = a :: l) : a.toNat = t.length ∧ l.length = 3 * t.length := by
  have hl := mayT_length h
  have hlen := textT_length t
  rw [he, List.length_cons] at hlen
  rw [textT_cons] at he
  have ha := (List.cons.inj he).1
  refine ⟨?_, by omega⟩
  rw [← ha, wu8, ofNat_toNat (by omega)]
  omega
theorem nodeEq (x y : Nod) : ((x.kind == y.kind) && ((x.parent == y.parent) && ((x.null == y.null) && true))) = decide (x = y) := by
  obtain ⟨a, b, c⟩ := x
  obtain ⟨d, e, f⟩ := y
  apply Bool.eq_iff_iff.2
  simp
theorem finS_length (s : List UInt8) (out : List Nod) : (finS s out).1.length ≤ 8 := by
  unfold finS
  split
  · rename_i h; exact (mayT_length h.1).2
  · simp
theorem getS_length (s : List UInt8) : (getS s).1.length ≤ 8 := finS_length _ _
theorem wb (x : Int) (h : 0 ≤ x ∧ x < 256) : ((UInt8.ofNat (IntKind.u8.wrap x).toNat).toNat : Int) = x := by rw [byte_val]; omega
theorem par_bounds {t : List Nod} (h : mayT t = true) {i : Nat} (hi : i < t.length) : -1 ≤ t[i].parent ∧ t[i].parent ≤ 7 ∧ 0 ≤ t[i].kind ∧ t[i].kind ≤ 4 := by
  have hl := mayT_length h
  have hst := (mayT_stands h).up hi
  have hk := (((mayT_iff t).1 h).2.1 i hi).1
  rw [← par_get hi] at hst
  unfold kindB at hk
  rw [← knd_get hi] at hk
  simp only [Bool.and_eq_true, decide_eq_true_eq] at hk
  omega
theorem parse_body : ∀ (l : List Nod) (f : Nat), l.length ≤ f → (∀ n ∈ l, -1 ≤ n.parent ∧ n.parent ≤ 7 ∧ 0 ≤ n.kind ∧ n.kind ≤ 4) → parse f (strOfBytes (bodyT l)) = l
  | [], 0, _, _ => rfl
  | [], f + 1, _, _ => rfl
  | n :: l, 0, h, _ => by simp at h
  | n :: l, f + 1, h, hb => by
    obtain ⟨b1, b2, b3, b4⟩ := hb n List.mem_cons_self
    have e : strOfBytes (bodyT (n :: l)) = UInt8.ofNat (IntKind.u8.wrap n.kind).toNat :: UInt8.ofNat (IntKind.u8.wrap (IntKind.i64.wrap (n.parent + 1))).toNat :: UInt8.ofNat (if n.null then (1 : Int) else 0).toNat :: strOfBytes (bodyT l) := by
      rw [bodyT_cons, strOfBytes_append]; rfl
    rw [e]
    simp only [parse]
    rw [parse_body l f (by simpa using h) (fun m hm => hb m (List.mem_cons_of_mem _ hm))]
    congr 1
    unfold pn
    have e1 := wb n.kind (by omega)
    have e2 : ((UInt8.ofNat (IntKind.u8.wrap (IntKind.i64.wrap (n.parent + 1))).toNat).toNat : Int) = n.parent + 1 := by
      rw [wi64 _ (by omega)]; exact wb _ (by omega)
    rw [e1, e2]
    obtain ⟨x, y, z⟩ := n
    cases z with
    | true => simp
    | false => simp
theorem getS_text {t : List Nod} (h : mayT t = true) : getS (textT t) = (t, 0) := by
  have hl := mayT_length h
  unfold getS
  have e : parse 9 (textT t).tail = t := by
    rw [textT_cons, List.tail_cons]
    refine parse_body t 9 (by omega) fun n hn => ?_
    obtain ⟨i, hi, rfl⟩ := List.mem_iff_getElem.1 hn
    exact par_bounds h hi
  rw [e]
  unfold finS
  rw [if_pos ⟨h, rfl⟩]
theorem getS_spec (s : List UInt8) : (∃ t, getS s = (t, 0) ∧ mayT t = true ∧ textT t = s) ∨ getS s = ([], 600) := by
  unfold getS finS
  split
  · rename_i h; exact .inl ⟨_, rfl, h.1, h.2⟩
  · exact .inr rfl
theorem u64_mod (x : Int) (m : Nat) (h0 : 0 < m) (hm : m ≤ 1000) : IntKind.u64.wrap (m : Int) = (m : Int) ∧ 0 ≤ IntKind.i64.wrap (Int.tmod (IntKind.u64.wrap x) (m : Int)) ∧ IntKind.i64.wrap (Int.tmod (IntKind.u64.wrap x) (m : Int)) < (m : Int) := by
  have e1 : IntKind.u64.wrap (m : Int) = (m : Int) := wu64 _ (by omega)
  have hx : 0 ≤ IntKind.u64.wrap x := by
    have : IntKind.u64.wrap x = x % 18446744073709551616 := by simp [IntKind.wrap, IntKind.bits, IntKind.signed]
    omega
  have h1 : Int.tmod (IntKind.u64.wrap x) (m : Int) = IntKind.u64.wrap x % (m : Int) := Int.tmod_eq_emod_of_nonneg hx
  have h2 : 0 ≤ IntKind.u64.wrap x % (m : Int) := Int.emod_nonneg _ (by omega)
  have h3 : IntKind.u64.wrap x % (m : Int) < (m : Int) := Int.emod_lt_of_pos _ (by omega)
  rw [h1, wi64 _ (by omega)]
  exact ⟨e1, h2, h3⟩
/-- A type with another truth in one node. -/
def flip (t : List Nod) (i : Nat) : List Nod := match t[i]? with | some n => t.set i ⟨n.kind, n.parent, !n.null⟩ | none => t
theorem flip_par (t : List Nod) (i j : Nat) : par (flip t i) j = par t j ∧ knd (flip t i) j = knd t j := by
  unfold flip
  cases h : t[i]? with
  | none => exact ⟨rfl, rfl⟩
  | some n =>
    have hi := (List.getElem?_eq_some_iff.mp h).1
    by_cases e : i = j
    · subst e
      simp [par, knd, List.getElem?_set_self hi, h]
    · simp [par, knd, List.getElem?_set_ne e]
theorem flip_length (t : List Nod) (i : Nat) : (flip t i).length = t.length := by
  unfold flip
  cases t[i]? <;> simp
theorem kidsU_congr {t u : List Nod} (h : ∀ j, par u j = par t j) (a : Int) (i : Nat) : kidsU u a i = kidsU t a i := by
  unfold kidsU
  simp only [h]
theorem wayF_congr {t u : List Nod} (h : ∀ j, par u j = par t j) : ∀ (f : Nat) (a : Int), wayF u f a = wayF t f a
  | 0, _ => rfl
  | f + 1, a => by simp only [wayF, h, wayF_congr h f]
theorem mayT_congr {t u : List Nod} (hl : u.length = t.length) (h : ∀ j, par u j = par t j ∧ knd u j = knd t j) : mayT u = mayT t := by
  have hp : ∀ j, par u j = par t j := fun j => (h j).1
  have hk : ∀ j, knd u j = knd t j := fun j => (h j).2
  unfold mayT kidsB kindB standsB kidsL wayL
  simp only [hl, hp, hk, kidsU_congr hp, wayF_congr hp]
theorem body_at {l : List Nod} {i : Nat} {n : Nod} (h : l[i]? = some n) : (bodyT l)[3 * i + 2]? = some (if n.null then 1 else 0) := by
  induction l generalizing i with
  | nil => simp at h
  | cons m l ih =>
    rw [bodyT_cons]
    cases i with
    | zero =>
      simp only [List.getElem?_cons_zero, Option.some.injEq] at h
      subst h
      rfl
    | succ i =>
      rw [List.getElem?_append_right (by simp [nb]; omega), show 3 * (i + 1) + 2 - (nb m).length = 3 * i + 2 by simp [nb]; omega]
      exact ih (by simpa using h)
theorem flip_text {t : List Nod} {i : Nat} (hi : i < t.length) : textT t ≠ textT (flip t i) := by
  intro e
  rw [textT_cons, textT_cons] at e
  have e2 := (List.cons.inj e).2
  have h1 := body_at (List.getElem?_eq_getElem hi)
  have h2 : (flip t i)[i]? = some ⟨t[i].kind, t[i].parent, !t[i].null⟩ := by
    unfold flip
    rw [List.getElem?_eq_getElem hi]
    simp [List.getElem?_set_self hi]
  have h3 := body_at h2
  have q := congrArg (fun l : List UInt8 => l[3 * i + 2]?) e2
  simp only [strOfBytes, List.getElem?_map, h1, h3, Option.map_some, Option.some.injEq] at q
  cases hz : t[i].null <;> rw [hz] at q <;> simp at q
theorem getS_not (s : List UInt8) (h : ∀ t, mayT t = true → textT t ≠ s) : getS s = ([], 600) := by
  rcases getS_spec s with ⟨t, _, hm, he⟩ | h'
  · exact absurd he (h t hm)
  · exact h'
theorem cond_pos' {α : Type} {b : Bool} (h : b = true) (x y : α) : (bif b then x else y) = x := by subst h; rfl
theorem dist_of (a1 : Int) : ∃ d : Int, IntKind.i64.wrap (1 + (bitsOp .and .i64 a1 1023)) = d ∧ 1 ≤ d ∧ d ≤ 1024 := by
  have h := and_mask a1 10 (by omega)
  rw [show (2 : Int) ^ 10 - 1 = 1023 by decide, show (2 : Int) ^ 10 = 1024 by decide] at h
  rw [h, wi64 _ (by omega)]
  exact ⟨_, rfl, by omega, by omega⟩
theorem mayT_bad {t : List Nod} {i : Nat} (hi : i < t.length) (h : kindB t i = false ∨ standsB t i = false) : mayT t = false := by
  cases hm : mayT t with
  | false => rfl
  | true =>
    obtain ⟨h1, h2⟩ := ((mayT_iff t).1 hm).2.1 i hi
    rcases h with h | h
    · rw [h] at h1; exact absurd h1 (by decide)
    · rw [h] at h2; exact absurd h2 (by decide)
def nodeB (t : List Nod) (a : Int) : Bool := mayT t && (decide (0 ≤ a) && decide (a < (t.length : Int)))
theorem types_Node_ok {k : Nat} (hk : 30 ≤ k) (t : List Nod) (a : Int) : types_Node.f idb k t a = some (nodeB t a) := by
  obtain ⟨k, rfl⟩ : ∃ m, k = m + 1 := ⟨k - 1, by omega⟩
  rw [types_Node.f_eq, types_May_ok (by omega)]
  unfold nodeB
  cases hm : mayT t with
  | false => simp
  | true =>
    by_cases h0 : 0 ≤ a
    · have h0' : a ≥ 0 := h0
      simp [h0]
    · have h0' : ¬ a ≥ 0 := h0
      simp [h0]
theorem ref_NodeMay_ok {k : Nat} (hk : 30 ≤ k) (t : List Nod) (a : Int) : quiverref1_NodeMay.f idb k t a = some (nodeB t a) := by
  obtain ⟨k, rfl⟩ : ∃ m, k = m + 1 := ⟨k - 1, by omega⟩
  rw [quiverref1_NodeMay.f_eq, ref_TypeMay_ok (by omega)]
  unfold nodeB
  cases hm : mayT t with
  | false => simp
  | true =>
    by_cases h0 : 0 ≤ a
    · have h0' : a ≥ 0 := h0
      simp [h0]
    · have h0' : ¬ a ≥ 0 := h0
      simp [h0]
theorem nodeB_may {t : List Nod} {a : Int} (h : nodeB t a = true) : mayT t = true ∧ ∃ i : Nat, i < t.length ∧ a = (i : Int) := by
  unfold nodeB at h
  simp only [Bool.and_eq_true, decide_eq_true_eq] at h
  exact ⟨h.1, a.toNat, by omega, by omega⟩
theorem nodeB_of {t : List Nod} (h : mayT t = true) {i : Nat} (hi : i < t.length) : nodeB t (i : Int) = true := by
  unfold nodeB
  simp [h, hi]
def kidsT (t : List Nod) (a : Int) : List Int × Int := if nodeB t a then (kidsL t a, 0) else ([], 500)
theorem types_Kids_ok {k : Nat} (hk : 40 ≤ k) (t : List Nod) (a : Int) : types_Kids.f idb k t a = some (kidsT t a) := by
  obtain ⟨k, rfl⟩ : ∃ m, k = m + 1 := ⟨k - 1, by omega⟩
  rw [types_Kids.f_eq, types_Node_ok (by omega)]
  unfold kidsT
  cases hn : nodeB t a with
  | false => simp
  | true =>
    have hl := mayT_length (nodeB_may hn).1
    simp [types_kids_ok t a (show t.length ≤ 17592186044415 by omega) (show t.length + 2 ≤ k by omega)]
theorem ref_Kids_ok {k : Nat} (hk : 40 ≤ k) (t : List Nod) (a : Int) : quiverref1_Kids.f idb k t a = some (kidsT t a) := by
  obtain ⟨k, rfl⟩ : ∃ m, k = m + 1 := ⟨k - 1, by omega⟩
  rw [quiverref1_Kids.f_eq, ref_NodeMay_ok (by omega)]
  unfold kidsT
  cases hn : nodeB t a with
  | false => simp
  | true =>
    have hl := mayT_length (nodeB_may hn).1
    simp [ref_kids_ok t a (show t.length ≤ 17592186044415 by omega) (show t.length + 2 ≤ k by omega)]
def leavesU (t : List Nod) (i : Nat) : List Int := ((List.range i).filter fun j => !inner (knd t j)).map fun j => ((j : Nat) : Int)
def leavesT (t : List Nod) : List Int × Int := if mayT t then (leavesU t t.length, 0) else ([], 500)
theorem leavesU_succ (t : List Nod) (i : Nat) : leavesU t (i + 1) = if inner (knd t i) then leavesU t i else leavesU t i ++ [(i : Int)] := by
  unfold leavesU
  rw [List.range_succ, List.filter_append, List.map_append]
  cases h : inner (knd t i) <;> simp [h]
theorem leavesU_length (t : List Nod) : ∀ i, (leavesU t i).length ≤ i
  | 0 => by simp [leavesU]
  | i + 1 => by
    have := leavesU_length t i
    rw [leavesU_succ]
    split <;> simp <;> omega
def b1 (b : Bool) : Int := if b then 1 else 0
theorem b1_range (b : Bool) : 0 ≤ b1 b ∧ b1 b ≤ 1 := by cases b <;> decide
def repW (t : List Nod) : List Int → Int
  | [] => 0
  | a :: ws => repW t ws + b1 (knd t a.toNat == 3)
def defW (t : List Nod) : List Int → Int
  | [] => 0
  | a :: ws => defW t ws + b1 (knd t a.toNat == 3) + b1 (nul t a.toNat)
theorem repW_range (t : List Nod) : ∀ ws, 0 ≤ repW t ws ∧ repW t ws ≤ (ws.length : Int)
  | [] => by simp [repW]
  | a :: ws => by
    have := repW_range t ws
    have := b1_range (knd t a.toNat == 3)
    simp only [repW, List.length_cons]; omega
theorem defW_range (t : List Nod) : ∀ ws, 0 ≤ defW t ws ∧ defW t ws ≤ 2 * (ws.length : Int)
  | [] => by simp [defW]
  | a :: ws => by
    have := defW_range t ws
    have := b1_range (knd t a.toNat == 3)
    have := b1_range (nul t a.toNat)
    simp only [defW, List.length_cons]; omega
def levT (t : List Nod) (a : Int) : Int × Int × Int := if nodeB t a then (repW t (wayL t a), defW t (wayL t a), 0) else (0, 0, 500)
theorem wayL_mem {t : List Nod} (h : Stands t) : ∀ i : Nat, i < t.length → ∀ x ∈ wayL t (i : Int), ∃ j : Nat, j < t.length ∧ x = (j : Int) := by
  intro i
  induction i using Nat.strongRecOn with
  | _ i ih =>
    intro hi x hx
    rw [wayL_up h hi] at hx
    rcases List.mem_cons.1 hx with rfl | hx
    · exact ⟨i, hi, rfl⟩
    · have hup := h.up hi
      by_cases hp : par t i < 0
      · rw [wayL_neg hp] at hx; exact absurd hx (by simp)
      · have e : par t i = (((par t i).toNat : Nat) : Int) := by omega
        rw [e] at hx
        exact ih (par t i).toNat (by omega) (by omega) x hx
theorem kidsT_length (t : List Nod) (a : Int) : (kidsT t a).1.length ≤ 8 := by
  unfold kidsT
  split
  · rename_i h
    have hl := mayT_length (nodeB_may h).1
    have := kidsU_length t a t.length
    exact Nat.le_trans this hl.2
  · simp
theorem leavesT_length (t : List Nod) : (leavesT t).1.length ≤ 8 := by
  unfold leavesT
  split
  · rename_i h
    have hl := mayT_length h
    have := leavesU_length t t.length
    exact Nat.le_trans this hl.2
  · simp
theorem cT {α : Type} (x y : α) : (bif true then x else y) = x := cond_pos' rfl x y
theorem cF' {α : Type} {b : Bool} (h : b = false) (x y : α) : (bif b then x else y) = y := by subst h; rfl
theorem cF {α : Type} (x y : α) : (bif false then x else y) = y := cF' rfl x y
theorem bS' {α β : Type} {o : Option α} {a : α} (h : o = some a) (f : α → Option β) : o.bind f = f a := by subst h; rfl
theorem bS {α β : Type} (a : α) (f : α → Option β) : (some a).bind f = f a := bS' rfl f
theorem levT_no {t : List Nod} {a : Int} (h : nodeB t a = false) : levT t a = (0, 0, 500) := by unfold levT; rw [h]; rfl
theorem nodeB_bad {t : List Nod} (h : mayT t = false) (a : Int) : nodeB t a = false := by unfold nodeB; rw [h]; rfl
theorem levT_at {t : List Nod} (h : mayT t = true) {i : Nat} (hi : i < t.length) : levT t (i : Int) = (repW t (wayL t (i : Int)), defW t (wayL t (i : Int)), 0) := by unfold levT; rw [nodeB_of h hi]; rfl
def good5 : List Nod := [(Nod.mk 4 (-1) false), (Nod.mk 3 0 false), (Nod.mk 0 1 false), (Nod.mk 2 0 false)]
theorem kindB_no {t : List Nod} {i : Nat} (h : knd t i < 0 ∨ 4 < knd t i) : kindB t i = false := by
  unfold kindB
  by_cases h0 : 0 ≤ knd t i
  · have : ¬ knd t i ≤ 4 := by omega
    simp [this]
  · simp [h0]
def preT (null : Bool) (k : Nat) : List Nod := (List.range k).map fun i : Nat => Nod.mk 3 ((i : Int) - 1) null
def deepT (null : Bool) (k : Nat) : List Nod := preT null k ++ [Nod.mk 0 ((k : Int) - 1) null]
theorem deep_fact : ∀ (null : Bool) (d : Fin 8), if 4 < d.val then mayT (deepT null d.val) = false else mayT (deepT null d.val) = true ∧ levT (deepT null d.val) (d.val : Int) = ((d.val : Int), (if null then 2 * (d.val : Int) + 1 else (d.val : Int)), 0) := by decide +kernel
theorem preT_succ (null : Bool) (i : Nat) : preT null (i + 1) = preT null i ++ [Nod.mk 3 ((i : Int) - 1) null] := by simp [preT, List.range_succ]
theorem mayT_kids {t : List Nod} (hm : mayT t = true) {i : Nat} (hi : i < t.length) : (kidsL t (i : Int) = []) ↔ inner (knd t i) = false := by
  have hst := mayT_stands hm
  have hkb := (((mayT_iff t).1 hm).2.2 i hi).1
  constructor
  · intro h
    unfold kidsB at hkb
    rw [h] at hkb
    unfold inner
    rw [show ([] : List Int).length = 0 from rfl] at hkb
    generalize (knd t i == 3) = p at hkb ⊢
    generalize (knd t i == 4) = q at hkb ⊢
    revert hkb; revert p q; decide
  · intro h
    cases hc : kidsL t (i : Int) with
    | nil => rfl
    | cons x l =>
      obtain ⟨j, hj, hj0, hp, _⟩ := mem_kidsL.1 (show x ∈ kidsL t (i : Int) by rw [hc]; exact List.mem_cons_self)
      have hs := hst j hj
      unfold standsB at hs
      rw [if_neg (by omega), hp, Int.toNat_natCast] at hs
      simp only [Bool.and_eq_true] at hs
      rw [h] at hs
      exact absurd hs.2 (by decide)
/-- Who has been seen. -/
def Seen (t : List Nod) (S : List Int) (P : Nat → Prop) : Prop := S.length = t.length ∧ ∀ x, x < t.length → (P x → S[x]? = some 1) ∧ (¬ P x → S[x]? = some 0)
theorem kids_sorted (t : List Nod) (a : Int) : (kidsL t a).Pairwise (· < ·) := by
  unfold kidsL kidsU
  rw [List.pairwise_map]
  refine List.Pairwise.imp (R := fun a b : Nat => a < b) (fun h => by omega) (List.Pairwise.filter _ List.pairwise_lt_range)
theorem leavesU_get (t : List Nod) : ∀ m i, i < m → inner (knd t i) = false → (leavesU t m)[(leavesU t i).length]? = some (i : Int)
  | 0, i, h, _ => absurd h (by omega)
  | m + 1, i, h, hi => by
    by_cases e : i = m
    · subst e
      rw [leavesU_succ, hi, if_neg (by decide)]
      simp
    · have ih := leavesU_get t m i (by omega) hi
      rw [leavesU_succ]
      split
      · exact ih
      · rw [List.getElem?_append_left (List.getElem?_eq_some_iff.mp ih).1]; exact ih

end Go.Proofs.YtppmpfddcohkjaaGreatDoorP
