/- What the functions below the laws answer, in plain lists and numbers; no condition but the sizes that a machine has. -/
import Derived.Test.YtppmpfddcohkjaaPLoop
import Derived.Laws.BitsLemmas
import Derived.KernelRfl
namespace Go.Proofs.YtppmpfddcohkjaaP
open Go Go.Proofs.YtppmpfddcohkjaaA

def bitB (n : Int) : Int := (n + 7) / 8
theorem bitB_eq {n : Int} (h0 : 0 ≤ n) (h1 : n ≤ 1000000) : IntKind.i64.wrap (Int.tdiv (IntKind.i64.wrap (n + 7)) 8) = bitB n := by
  unfold bitB
  rw [wi64 (n + 7) (by omega), Int.tdiv_eq_ediv_of_nonneg (by omega), wi64 _ (by omega)]
theorem bits_Bytes_ok {k : Nat} (hk : 1 ≤ k) {n : Int} (h0 : 0 ≤ n) (h1 : n ≤ 1000000) : bits_Bytes.f idb k n = some (bitB n) := by
  obtain ⟨k, rfl⟩ : ∃ m, k = m + 1 := ⟨k - 1, by omega⟩
  rw [bits_Bytes.f_eq, bitB_eq h0 h1]
def onB (s : List UInt8) (i : Nat) : Bool :=
  match s[i / 8]? with
  | some b => (bitsOp .and .u8 (Int.fdiv (b.toNat : Int) (2 ^ (min (i % 8) IntKind.u8.bits))) 1) == 1
  | none => false
theorem bit_eq {s : List UInt8} {i : Nat} (h : i / 8 < s.length) (hi : i ≤ 1000000) :
    ((rd s (IntKind.i64.wrap (Int.tdiv (i : Int) 8))).bind fun b_1 =>
     bif decide (Int.tmod (i : Int) 8 < 0) then none else
      some ((bitsOp .and .u8 (Int.fdiv (b_1.toNat : Int) (2 ^ (min (Int.tmod (i : Int) 8).toNat IntKind.u8.bits))) 1) == 1)) = some (onB s i) := by
  have e1 : Int.tdiv (i : Int) 8 = ((i / 8 : Nat) : Int) := by rw [Int.tdiv_eq_ediv_of_nonneg (by omega)]; omega
  have e2 : Int.tmod (i : Int) 8 = ((i % 8 : Nat) : Int) := by rw [Int.tmod_eq_emod_of_nonneg (by omega)]; omega
  have h3 : ¬ (((i % 8 : Nat) : Int) < 0) := by omega
  rw [e1, e2, wi64 _ (by omega), rd_get h, bS, decide_eq_false h3, cF, Int.toNat_natCast]
  unfold onB
  rw [List.getElem?_eq_getElem h]
theorem bits_On_ok {k : Nat} (hk : 1 ≤ k) {s : List UInt8} {i : Nat} (h : i / 8 < s.length) (hi : i ≤ 1000000) : bits_On.f idb k s (i : Int) = some (onB s i) := by
  obtain ⟨k, rfl⟩ : ∃ m, k = m + 1 := ⟨k - 1, by omega⟩
  rw [bits_On.f_eq]; exact bit_eq h hi
theorem and1_u8' {x : Int} : bitsOp .and .u8 x 1 = x % 2 := by
  rw [bitsOp_and, wu8]
  have e1 : (1 % (2 ^ IntKind.u8.bits : Int)).toNat = 1 := by decide
  rw [e1, Nat.and_one_is_mod]
  simp only [IntKind.bits]
  omega
theorem fdiv_pow' (x : Int) (n : Nat) : Int.fdiv x (2 ^ n) = x / 2 ^ n := Int.fdiv_eq_ediv_of_nonneg _ (Int.le_of_lt (Int.pow_pos (by omega)))
/-- The first so many bits of a byte of truths. -/
def byteN (xs : List Bool) (q : Nat) : Nat → Nat
  | 0 => 0
  | n + 1 => byteN xs q n + (if xs[8 * q + n]? = some true then 2 ^ n else 0)
theorem byteN_lt (xs : List Bool) (q : Nat) : ∀ n, byteN xs q n < 2 ^ n
  | 0 => Nat.one_pos
  | n + 1 => by
    have := byteN_lt xs q n
    rw [byteN, Nat.pow_succ]
    split <;> omega
theorem byteN_bit (xs : List Bool) (q : Nat) : ∀ n r, byteN xs q n / 2 ^ r % 2 = if r < n ∧ xs[8 * q + r]? = some true then 1 else 0
  | 0, r => by rw [byteN, Nat.zero_div, if_neg (by omega)]
  | n + 1, r => by
    have hlt := byteN_lt xs q n
    have ih := byteN_bit xs q n r
    rw [byteN]
    by_cases hr : r < n
    · obtain ⟨d, hd⟩ : ∃ d, n = r + 1 + d := ⟨n - (r + 1), by omega⟩
      have e : ∀ z : Nat, (byteN xs q n + 2 ^ n * z) / 2 ^ r % 2 = byteN xs q n / 2 ^ r % 2 := by
        intro z
        have : 2 ^ n * z = 2 ^ r * (2 * (2 ^ d * z)) := by rw [hd, Nat.pow_add, Nat.pow_succ]; simp only [Nat.mul_assoc]
        rw [this, Nat.add_mul_div_left _ _ (Nat.two_pow_pos r), Nat.add_mul_mod_self_left]
      have h2 : (r < n + 1 ∧ xs[8 * q + r]? = some true) ↔ (r < n ∧ xs[8 * q + r]? = some true) := by constructor <;> rintro ⟨_, h⟩ <;> exact ⟨by omega, h⟩
      have goal : byteN xs q n / 2 ^ r % 2 = if r < n + 1 ∧ xs[8 * q + r]? = some true then 1 else 0 := by
        rw [ih]
        by_cases hx : xs[8 * q + r]? = some true
        · rw [if_pos ⟨hr, hx⟩, if_pos ⟨by omega, hx⟩]
        · rw [if_neg (fun h => hx h.2), if_neg (fun h => hx h.2)]
      split
      · have := e 1; rw [Nat.mul_one] at this; rw [this]; exact goal
      · rw [Nat.add_zero]; exact goal
    · by_cases hrn : r = n
      · subst hrn
        by_cases hx : xs[8 * q + r]? = some true
        · rw [if_pos hx, if_pos ⟨by omega, hx⟩, Nat.add_div_right _ (Nat.two_pow_pos r), Nat.div_eq_of_lt hlt]
        · rw [if_neg hx, if_neg (fun h => hx h.2), Nat.add_zero, Nat.div_eq_of_lt hlt]
      · have hlt2 : byteN xs q n + (if xs[8 * q + n]? = some true then 2 ^ n else 0) < 2 ^ r := by
          have : 2 ^ (n + 1) ≤ 2 ^ r := Nat.pow_le_pow_right (by omega) (by omega)
          rw [Nat.pow_succ] at this
          split <;> omega
        rw [Nat.div_eq_of_lt hlt2, if_neg (by omega)]
/-- Truths as bits. -/
def bitsT (xs : List Bool) : List UInt8 := (List.range ((xs.length + 7) / 8)).map fun q => UInt8.ofNat (byteN xs q 8)
theorem bitsT_len (xs : List Bool) : (bitsT xs).length = (xs.length + 7) / 8 := by unfold bitsT; rw [List.length_map, List.length_range]
theorem bitsT_on (xs : List Bool) {i : Nat} (h : i < xs.length) : onB (bitsT xs) i = xs[i] := by
  have hl := bitsT_len xs
  have hq : i / 8 < (bitsT xs).length := by omega
  have hb : (bitsT xs)[i / 8] = UInt8.ofNat (byteN xs (i / 8) 8) := by simp [bitsT]
  have hlt : byteN xs (i / 8) 8 < 256 := byteN_lt xs (i / 8) 8
  unfold onB
  rw [List.getElem?_eq_getElem hq, hb]
  simp only
  have e : (UInt8.ofNat (byteN xs (i / 8) 8)).toNat = byteN xs (i / 8) 8 := by rw [UInt8.toNat_ofNat']; omega
  have hm : min (i % 8) IntKind.u8.bits = i % 8 := by simp only [IntKind.bits]; omega
  rw [e, hm, and1_u8', fdiv_pow']
  have e2 : ((byteN xs (i / 8) 8 : Nat) : Int) / 2 ^ (i % 8) % 2 = ((byteN xs (i / 8) 8 / 2 ^ (i % 8) % 2 : Nat) : Int) := by push_cast; rfl
  rw [e2, byteN_bit, show 8 * (i / 8) + i % 8 = i by omega, List.getElem?_eq_getElem h]
  cases xs[i] with
  | true => rw [if_pos ⟨by omega, rfl⟩]; rfl
  | false => rw [if_neg (by simp)]; rfl
def bits_at (xs : List Bool) (i : Nat) : List Int := (List.range ((xs.length + 7) / 8)).map fun q => ((byteN xs q (min 8 (i - 8 * q)) : Nat) : Int)
theorem strOf_bits (xs : List Bool) : strOfBytes (bits_at xs xs.length) = bitsT xs := by
  unfold strOfBytes bits_at bitsT
  rw [List.map_map]
  refine List.map_congr_left fun q hq => ?_
  have hq := List.mem_range.1 hq
  show UInt8.ofNat (((byteN xs q (min 8 (xs.length - 8 * q)) : Nat) : Int)).toNat = _
  rw [Int.toNat_natCast]
  congr 1
  by_cases h : 8 ≤ xs.length - 8 * q
  · rw [Nat.min_eq_left h]
  · have key : ∀ d n, n + d = 8 → xs.length - 8 * q ≤ n → byteN xs q n = byteN xs q 8 := by
      intro d
      induction d with
      | zero => intro n h1 _; rw [show n = 8 by omega]
      | succ d ih =>
        intro n h1 h2
        rw [← ih (n + 1) (by omega) (by omega), byteN, if_neg (by rw [List.getElem?_eq_none (by omega)]; simp), Nat.add_zero]
    rw [Nat.min_eq_right (by omega)]
    exact key (8 - (xs.length - 8 * q)) _ (by omega) (Nat.le_refl _)
theorem or_u8_disj (e r : Nat) (hr : r < 8) (he : e < 2 ^ r) : bitsOp .or .u8 (e : Int) (IntKind.u8.wrap (1 * 2 ^ (min r IntKind.u8.bits))) = ((e + 2 ^ r : Nat) : Int) := by
  have h2 : 2 ^ r ≤ 128 := by
    have : 2 ^ r ≤ 2 ^ 7 := Nat.pow_le_pow_right (by omega) (by omega)
    omega
  have hm : min r IntKind.u8.bits = r := by simp only [IntKind.bits]; omega
  have hp : ((2 : Int) ^ r) = ((2 ^ r : Nat) : Int) := by push_cast; rfl
  rw [hm, Int.one_mul, hp, wu8, bitsOp_or]
  have e1 : ((e : Int) % (2 ^ IntKind.u8.bits : Int)).toNat = e := by simp only [IntKind.bits]; omega
  have e2 : ((((2 ^ r : Nat) : Int) % 256) % (2 ^ IntKind.u8.bits : Int)).toNat = 1 * 2 ^ r := by simp only [IntKind.bits]; omega
  rw [e1, e2, or_shift e 1 r he, wu8]
  omega
theorem bits_at_get {xs : List Bool} {i q : Nat} (hq : q < (xs.length + 7) / 8) : (bits_at xs i)[q]? = some ((byteN xs q (min 8 (i - 8 * q)) : Nat) : Int) := by
  unfold bits_at
  rw [List.getElem?_map, List.getElem?_range hq]; rfl
theorem bits_at_on {xs : List Bool} {i : Nat} (h : i < xs.length) (hx : xs[i] = true) : (bits_at xs i).set (i / 8) (((byteN xs (i / 8) (i % 8) + 2 ^ (i % 8) : Nat)) : Int) = bits_at xs (i + 1) := by
  refine List.ext_getElem? fun q => ?_
  by_cases hq : q < (xs.length + 7) / 8
  · rw [List.getElem?_set]
    have hl : i / 8 < (bits_at xs i).length := by unfold bits_at; rw [List.length_map, List.length_range]; omega
    by_cases hiq : i / 8 = q
    · rw [if_pos hiq, if_pos hl, bits_at_get hq, ← hiq, show min 8 (i + 1 - 8 * (i / 8)) = i % 8 + 1 by omega, byteN, show 8 * (i / 8) + i % 8 = i by omega, List.getElem?_eq_getElem h, hx, if_pos rfl]
    · rw [if_neg hiq, bits_at_get hq, bits_at_get hq]
      congr 3
      omega
  · rw [List.getElem?_eq_none (by rw [List.length_set]; unfold bits_at; rw [List.length_map, List.length_range]; omega), List.getElem?_eq_none (by unfold bits_at; rw [List.length_map, List.length_range]; omega)]
theorem bits_at_off {xs : List Bool} {i : Nat} (h : i < xs.length) (hx : xs[i] = false) : bits_at xs i = bits_at xs (i + 1) := by
  unfold bits_at
  refine List.map_congr_left fun q _ => ?_
  congr 1
  by_cases hiq : i / 8 = q
  · rw [← hiq, show min 8 (i + 1 - 8 * (i / 8)) = i % 8 + 1 by omega, show min 8 (i - 8 * (i / 8)) = i % 8 by omega, byteN, show 8 * (i / 8) + i % 8 = i by omega, List.getElem?_eq_getElem h, hx, if_neg (by simp), Nat.add_zero]
  · rw [show min 8 (i + 1 - 8 * q) = min 8 (i - 8 * q) by omega]
end Go.Proofs.YtppmpfddcohkjaaP
