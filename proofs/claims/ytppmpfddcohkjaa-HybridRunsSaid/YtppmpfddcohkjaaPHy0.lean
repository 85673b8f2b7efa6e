/- What the functions below the laws answer, in plain lists and numbers; no condition but the sizes that a machine has. -/
import Derived.Test.YtppmpfddcohkjaaPLoop
import Derived.Laws.BitsLemmas
import Derived.KernelRfl
namespace Go.Proofs.YtppmpfddcohkjaaP
open Go Go.Proofs.YtppmpfddcohkjaaA

def bitB (n : Int) : Int := (n + 7) / 8
theorem bitB_eq {n : Int} (h0 : 0 ≤ n) (h1 : n ≤ 1000000) : IntKind.i64.wrap (Int.tdiv (IntKind.i64.wrap (n + 7)) 8) = bitB n := by
  unfold bitB
  rw [wi64 (n + 7) (by omega), Int.tdiv_eq_ediv_of_nonneg (by omega), wi64 _ (by omega)]
theorem bits_Bytes_ok {k : Nat} (hk : 1 ≤ k) {n : Int} (h0 : 0 ≤ n) (h1 : n ≤ 1000000) : bits_Bytes.f idb k n = some (bitB n) := by
  obtain ⟨k, rfl⟩ : ∃ m, k = m + 1 := ⟨k - 1, by omega⟩
  rw [bits_Bytes.f_eq, bitB_eq h0 h1]
theorem fdiv_pow' (x : Int) (n : Nat) : Int.fdiv x (2 ^ n) = x / 2 ^ n := Int.fdiv_eq_ediv_of_nonneg _ (Int.le_of_lt (Int.pow_pos (by omega)))
/-- The first so many bits of a byte of truths. -/
def byteN (xs : List Bool) (q : Nat) : Nat → Nat
  | 0 => 0
  | n + 1 => byteN xs q n + (if xs[8 * q + n]? = some true then 2 ^ n else 0)
theorem byteN_lt (xs : List Bool) (q : Nat) : ∀ n, byteN xs q n < 2 ^ n
  | 0 => Nat.one_pos
  | n + 1 => by
    have := byteN_lt xs q n
    rw [byteN, Nat.pow_succ]
    split <;> omega
/-- Truths as bits. -/
def bitsT (xs : List Bool) : List UInt8 := (List.range ((xs.length + 7) / 8)).map fun q => UInt8.ofNat (byteN xs q 8)
theorem bitsT_len (xs : List Bool) : (bitsT xs).length = (xs.length + 7) / 8 := by unfold bitsT; rw [List.length_map, List.length_range]
def bits_at (xs : List Bool) (i : Nat) : List Int := (List.range ((xs.length + 7) / 8)).map fun q => ((byteN xs q (min 8 (i - 8 * q)) : Nat) : Int)
theorem strOf_bits (xs : List Bool) : strOfBytes (bits_at xs xs.length) = bitsT xs := by
  unfold strOfBytes bits_at bitsT
  rw [List.map_map]
  refine List.map_congr_left fun q hq => ?_
  have hq := List.mem_range.1 hq
  show UInt8.ofNat (((byteN xs q (min 8 (xs.length - 8 * q)) : Nat) : Int)).toNat = _
  rw [Int.toNat_natCast]
  congr 1
  by_cases h : 8 ≤ xs.length - 8 * q
  · rw [Nat.min_eq_left h]
  · have key : ∀ d n, n + d = 8 → xs.length - 8 * q ≤ n → byteN xs q n = byteN xs q 8 := by
      intro d
      induction d with
      | zero => intro n h1 _; rw [show n = 8 by omega]
      | succ d ih =>
        intro n h1 h2
        rw [← ih (n + 1) (by omega) (by omega), byteN, if_neg (by rw [List.getElem?_eq_none (by omega)]; simp), Nat.add_zero]
    rw [Nat.min_eq_right (by omega)]
    exact key (8 - (xs.length - 8 * q)) _ (by omega) (Nat.le_refl _)
theorem or_u8_disj (e r : Nat) (hr : r < 8) (he : e < 2 ^ r) : bitsOp .or .u8 (e : Int) (IntKind.u8.wrap (1 * 2 ^ (min r IntKind.u8.bits))) = ((e + 2 ^ r : Nat) : Int) := by
  have h2 : 2 ^ r ≤ 128 := by
    have : 2 ^ r ≤ 2 ^ 7 := Nat.pow_le_pow_right (by omega) (by omega)
    omega
  have hm : min r IntKind.u8.bits = r := by simp only [IntKind.bits]; omega
  have hp : ((2 : Int) ^ r) = ((2 ^ r : Nat) : Int) := by push_cast; rfl
  rw [hm, Int.one_mul, hp, wu8, bitsOp_or]
  have e1 : ((e : Int) % (2 ^ IntKind.u8.bits : Int)).toNat = e := by simp only [IntKind.bits]; omega
  have e2 : ((((2 ^ r : Nat) : Int) % 256) % (2 ^ IntKind.u8.bits : Int)).toNat = 1 * 2 ^ r := by simp only [IntKind.bits]; omega
  rw [e1, e2, or_shift e 1 r he, wu8]
  omega
theorem bits_at_get {xs : List Bool} {i q : Nat} (hq : q < (xs.length + 7) / 8) : (bits_at xs i)[q]? = some ((byteN xs q (min 8 (i - 8 * q)) : Nat) : Int) := by
  unfold bits_at
  rw [List.getElem?_map, List.getElem?_range hq]; rfl
theorem bits_at_on {xs : List Bool} {i : Nat} (h : i < xs.length) (hx : xs[i] = true) : (bits_at xs i).set (i / 8) (((byteN xs (i / 8) (i % 8) + 2 ^ (i % 8) : Nat)) : Int) = bits_at xs (i + 1) := by
  refine List.ext_getElem? fun q => ?_
  by_cases hq : q < (xs.length + 7) / 8
  · rw [List.getElem?_set]
    have hl : i / 8 < (bits_at xs i).length := by unfold bits_at; rw [List.length_map, List.length_range]; omega
    by_cases hiq : i / 8 = q
    · rw [if_pos hiq, if_pos hl, bits_at_get hq, ← hiq, show min 8 (i + 1 - 8 * (i / 8)) = i % 8 + 1 by omega, byteN, show 8 * (i / 8) + i % 8 = i by omega, List.getElem?_eq_getElem h, hx, if_pos rfl]
    · rw [if_neg hiq, bits_at_get hq, bits_at_get hq]
      congr 3
      omega
  · rw [List.getElem?_eq_none (by rw [List.length_set]; unfold bits_at; rw [List.length_map, List.length_range]; omega), List.getElem?_eq_none (by unfold bits_at; rw [List.length_map, List.length_range]; omega)]
theorem bits_at_off {xs : List Bool} {i : Nat} (h : i < xs.length) (hx : xs[i] = false) : bits_at xs i = bits_at xs (i + 1) := by
  unfold bits_at
  refine List.map_congr_left fun q _ => ?_
  congr 1
  by_cases hiq : i / 8 = q
  · rw [← hiq, show min 8 (i + 1 - 8 * (i / 8)) = i % 8 + 1 by omega, show min 8 (i - 8 * (i / 8)) = i % 8 by omega, byteN, show 8 * (i / 8) + i % 8 = i by omega, List.getElem?_eq_getElem h, hx, if_neg (by simp), Nat.add_zero]
  · rw [show min 8 (i + 1 - 8 * q) = min 8 (i - 8 * q) by omega]
end Go.Proofs.YtppmpfddcohkjaaP
