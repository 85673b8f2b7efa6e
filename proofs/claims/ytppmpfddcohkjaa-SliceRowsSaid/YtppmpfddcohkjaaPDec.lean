/- Whole numbers in digits; no condition but the sizes that a machine has. -/
import Derived.Test.YtppmpfddcohkjaaPArr6
namespace Go.Proofs.YtppmpfddcohkjaaP
open Go Go.Proofs.YtppmpfddcohkjaaA

/-- A number's digits, so many at most. -/
def decI : Nat → Nat → List Int
  | 0, _ => []
  | f + 1, n => if n < 10 then [48 + (n : Int)] else decI f (n / 10) ++ [48 + ((n % 10 : Nat) : Int)]
theorem decI_len : ∀ f n, (decI f n).length ≤ f
  | 0, _ => Nat.le_refl _
  | f + 1, n => by
    unfold decI
    split
    · simp
    · have := decI_len f (n / 10)
      simp; omega
theorem decI_same : ∀ (f g n : Nat), n < 10 ^ f → n < 10 ^ g → 0 < f → 0 < g → decI f n = decI g n
  | 0, _, _, _, _, h, _ => by omega
  | _, 0, _, _, _, _, h => by omega
  | f + 1, g + 1, n, hf, hg, _, _ => by
    unfold decI
    by_cases h : n < 10
    · rw [if_pos h, if_pos h]
    · rw [if_neg h, if_neg h]
      have f0 : 0 < f := by
        rcases Nat.eq_zero_or_pos f with e | e
        · subst e; omega
        · exact e
      have g0 : 0 < g := by
        rcases Nat.eq_zero_or_pos g with e | e
        · subst e; omega
        · exact e
      rw [decI_same f g (n / 10) (by rw [Nat.pow_succ] at hf; omega) (by rw [Nat.pow_succ] at hg; omega) f0 g0]
def dec (n : Nat) : List UInt8 := strOfBytes (decI 20 n)
theorem dec_len (n : Nat) : (dec n).length ≤ 20 := by unfold dec; rw [strOfBytes_length]; exact decI_len 20 n
def fin10 (x : Int) (l : List Int) : List UInt8 := strOfBytes (if x < 0 then 45 :: l else l)
theorem digit_ok (n : Nat) : IntKind.u8.wrap (IntKind.u64.wrap (48 + (Int.tmod (n : Int) 10))) = 48 + ((n % 10 : Nat) : Int) := by
  rw [Int.tmod_eq_emod_of_nonneg (by omega), wu64 _ (by omega), wu8]; omega
theorem div10_ok {n : Nat} (h : n ≤ 18446744073709551615) : IntKind.u64.wrap (Int.tdiv (n : Int) 10) = ((n / 10 : Nat) : Int) := by
  rw [Int.tdiv_eq_ediv_of_nonneg (by omega), wu64 _ (by omega)]; omega
theorem Decimal_end {k n : Nat} (x : Int) {out : List Int} (h0 : out ≠ []) (hl : out.length ≤ 1000) : quiverref0_Decimal.l0 idb k (n + 1) x 0 out = some (fin10 x out) := by
  have e1 : (((out.length : Nat) : Int) == 0) = false := by
    rw [beq_eq_false_iff_ne]; intro h; exact h0 (List.length_eq_zero_iff.1 (by omega))
  rw [quiverref0_Decimal.l0_eq, dF (by omega), Bool.not_false, cT, e1, cF]
  unfold fin10
  by_cases h : x < 0
  · rw [dT h, cT, if_pos h, dT (by simp; omega), cT]; rfl
  · rw [dF h, cF, if_neg h]
theorem Decimal_l0 (k : Nat) (x : Int) : ∀ (f m : Nat) (out : List Int) (n : Nat), 0 < m → m < 10 ^ f → m ≤ 18446744073709551615 → f + 1 ≤ n → out.length + f ≤ 900 → quiverref0_Decimal.l0 idb k n x (m : Int) out = some (fin10 x (decI f m ++ out))
  | 0, m, _, _, h0, h1, _, _, _ => by simp at h1; omega
  | f + 1, m, out, n, h0, h1, h2, h3, h4 => by
    obtain ⟨n, rfl⟩ : ∃ q, n = q + 1 := ⟨n - 1, by omega⟩
    rw [quiverref0_Decimal.l0_eq, dT (show (m : Int) > 0 by omega), Bool.not_true, cF, digit_ok, div10_ok h2, dT (by simp; omega), cT]
    by_cases h : m < 10
    · have e : m / 10 = 0 := by omega
      obtain ⟨n, rfl⟩ : ∃ q, n = q + 1 := ⟨n - 1, by omega⟩
      rw [e, show ((0 : Nat) : Int) = 0 from rfl, Decimal_end x (by simp) (by simp; omega)]
      unfold decI
      rw [if_pos h, show m % 10 = m by omega]
    · rw [Decimal_l0 k x f (m / 10) _ n (by omega) (by rw [Nat.pow_succ] at h1; omega) (by omega) (by omega) (by simp; omega)]
      conv => rhs; unfold decI
      rw [if_neg h, List.append_assoc]
theorem Decimal_j4 {k : Nat} (hk : 100 ≤ k) (x : Int) {m : Nat} (hm : m ≤ 18446744073709551615) : quiverref0_Decimal.j4 idb k x (m : Int) = some (fin10 x (decI 20 m)) := by
  rw [quiverref0_Decimal.j4_eq]
  by_cases h : 0 < m
  · rw [Decimal_l0 k x 20 m [] k h (by omega) hm (by omega) (by simp), List.append_nil]
  · obtain rfl : m = 0 := by omega
    obtain ⟨q, rfl⟩ : ∃ q, k = q + 2 := ⟨k - 2, by omega⟩
    rw [show ((0 : Nat) : Int) = 0 from rfl]
    conv => lhs; rw [quiverref0_Decimal.l0_eq]
    rw [dF (by omega), Bool.not_false, cT, show ((([] : List Int).length : Int) == 0) = true from rfl, cT, dT (by simp), cT]
    have e : IntKind.u64.wrap (Int.tdiv 0 10) = 0 := by decide
    have e2 : IntKind.u8.wrap (IntKind.u64.wrap (48 + (Int.tmod 0 10))) = 48 := by decide
    rw [e, e2, Decimal_end x (by simp) (by simp)]
    rfl
/-- A whole number as it is written. -/
def digT (x : Int) : List UInt8 := if x < 0 then 45 :: dec x.natAbs else dec x.toNat
theorem digT_len (x : Int) : (digT x).length ≤ 21 := by
  unfold digT
  split
  · have := dec_len x.natAbs; simp; omega
  · have := dec_len x.toNat; omega
theorem Decimal_ok {k : Nat} (hk : 101 ≤ k) {x : Int} (h0 : -9223372036854775808 ≤ x) (h1 : x ≤ 9223372036854775807) : quiverref0_Decimal.f idb k x = some (digT x) := by
  obtain ⟨k, rfl⟩ : ∃ m, k = m + 1 := ⟨k - 1, by omega⟩
  rw [quiverref0_Decimal.f_eq]
  unfold digT
  by_cases h : x < 0
  · rw [dT h, cT, if_pos h]
    have e1 : IntKind.u64.wrap ((IntKind.u64.wrap (IntKind.i64.wrap (0 - (IntKind.i64.wrap (x + 1))))) + 1) = ((x.natAbs : Nat) : Int) := by
      rw [wi64 (x + 1) (by omega), wi64 (0 - (x + 1)) (by omega), wu64 (0 - (x + 1)) (by omega), wu64 _ (by omega)]; omega
    rw [idb_eq, e1, Decimal_j4 (by omega) x (by omega)]
    unfold fin10 dec
    rw [if_pos h]
    rfl
  · rw [dF h, cF, if_neg h]
    have e1 : IntKind.u64.wrap x = ((x.toNat : Nat) : Int) := by rw [wu64 _ (by omega)]; omega
    rw [idb_eq, e1, Decimal_j4 (by omega) x (by omega)]
    unfold fin10 dec
    rw [if_neg h]
theorem neg_digit {m : Nat} : IntKind.u8.wrap (IntKind.i64.wrap (48 - (Int.tmod (-(m : Int)) 10))) = 48 + ((m % 10 : Nat) : Int) := by
  have e : Int.tmod (-(m : Int)) 10 = -(((m % 10 : Nat) : Int)) := by
    rw [Int.neg_tmod, Int.tmod_eq_emod_of_nonneg (by omega)]; omega
  rw [e, wi64 _ (by omega), wu8]; omega
theorem neg_div {m : Nat} (h : m ≤ 9223372036854775808) : IntKind.i64.wrap (Int.tdiv (-(m : Int)) 10) = -((m / 10 : Nat) : Int) := by
  rw [Int.neg_tdiv, Int.tdiv_eq_ediv_of_nonneg (by omega), wi64 _ (by omega)]; omega
theorem digits_l0 (k : Nat) : ∀ (f m : Nat) (s : List UInt8) (n : Nat), 0 < m → m < 10 ^ f → m ≤ 9223372036854775808 → f + 1 ≤ n → s.length + f ≤ 900 → quiverref7_digits.l0 idb k n (-(m : Int)) s = some (45 :: (strOfBytes (decI f m) ++ s))
  | 0, m, _, _, h0, h1, _, _, _ => by simp at h1; omega
  | f + 1, m, s, n, h0, h1, h2, h3, h4 => by
    obtain ⟨n, rfl⟩ : ∃ q, n = q + 1 := ⟨n - 1, by omega⟩
    rw [quiverref7_digits.l0_eq, dT (show -(m : Int) < 0 by omega), cT, neg_digit, neg_div h2, dT (by simp [strOfBytes]; omega), cT]
    by_cases h : m < 10
    · have e : m / 10 = 0 := by omega
      obtain ⟨n, rfl⟩ : ∃ q, n = q + 1 := ⟨n - 1, by omega⟩
      rw [e, show -((0 : Nat) : Int) = 0 from rfl, quiverref7_digits.l0_eq, dF (by omega), cF, dT (by simp [strOfBytes]; omega), cT]
      unfold decI
      rw [if_pos h, show m % 10 = m by omega]
      rfl
    · rw [digits_l0 k f (m / 10) _ n (by omega) (by rw [Nat.pow_succ] at h1; omega) (by omega) (by omega) (by simp [strOfBytes]; omega)]
      conv => rhs; unfold decI
      rw [if_neg h, strOfBytes_append, List.append_assoc]
theorem digits_ok {k : Nat} (hk : 110 ≤ k) {x : Int} (h0 : -9223372036854775808 ≤ x) (h1 : x ≤ 9223372036854775807) : quiverref7_digits.f idb k x = some (digT x) := by
  obtain ⟨k, rfl⟩ : ∃ m, k = m + 1 := ⟨k - 1, by omega⟩
  rw [quiverref7_digits.f_eq]
  by_cases h : 0 ≤ x
  · rw [dT h, cT, Decimal_ok (by omega) h0 h1, bS]
  · rw [dF h, cF]
    have e : x = -((x.natAbs : Nat) : Int) := by omega
    have := digits_l0 k 20 x.natAbs [] k (by omega) (by omega) (by omega) (by omega) (by simp)
    rw [← e] at this
    rw [this]
    unfold digT dec
    rw [if_pos (by omega), List.append_nil]

/-! ### Values as texts -/
def intT (x : Int) : List UInt8 := [105] ++ digT x ++ [59]
def boolT (b : Bool) : List UInt8 := if b then [116] else [102]
def bytesT (s : List UInt8) : List UInt8 := [115] ++ dec s.length ++ [58] ++ s
def listT (vs : List (List UInt8)) : List UInt8 := [91] ++ vs.flatten ++ [93]
def structT (vs : List (List UInt8)) : List UInt8 := [123] ++ vs.flatten ++ [125]
theorem Int_ok {k : Nat} (hk : 111 ≤ k) {x : Int} (h0 : -9223372036854775808 ≤ x) (h1 : x ≤ 9223372036854775807) : quiverref7_Int.f idb k x = some (intT x) := by
  obtain ⟨k, rfl⟩ : ∃ m, k = m + 1 := ⟨k - 1, by omega⟩
  have hl := digT_len x
  rw [quiverref7_Int.f_eq, digits_ok (by omega) h0 h1, bS, dT (by simp; omega), cT, dT (by simp; omega), cT]
  rfl
theorem Bool_ok {k : Nat} (hk : 1 ≤ k) (b : Bool) : quiverref7_Bool.f idb k b = some (boolT b) := by
  obtain ⟨k, rfl⟩ : ∃ m, k = m + 1 := ⟨k - 1, by omega⟩
  rw [quiverref7_Bool.f_eq]; cases b <;> rfl
theorem Bytes_ok {k : Nat} (hk : 111 ≤ k) {s : List UInt8} (hs : s.length ≤ 1000000000000) : quiverref7_Bytes.f idb k s = some (bytesT s) := by
  obtain ⟨k, rfl⟩ : ∃ m, k = m + 1 := ⟨k - 1, by omega⟩
  have hl := dec_len s.length
  have e : digT (s.length : Int) = dec s.length := by unfold digT; rw [if_neg (by omega), Int.toNat_natCast]
  rw [quiverref7_Bytes.f_eq, Decimal_ok (by omega) (by omega) (by omega), bS, e, dT (by simp; omega), cT, dT (by simp; omega), cT, dT (by simp; omega), cT]
  rfl
theorem all_ok {k : Nat} {vs : List (List UInt8)} (hk : vs.length + 3 ≤ k) (hs : vs.flatten.length ≤ 9223372036854775807) (hl : vs.length ≤ 4611686018427387904) : quiverref7_all.f idb k vs = some vs.flatten := by
  obtain ⟨k, rfl⟩ : ∃ m, k = m + 1 := ⟨k - 1, by omega⟩
  rw [quiverref7_all.f_eq]
  have key := loop_up (F := fun n i => quiverref7_all.l0 idb k n vs (vs.take i).flatten (i : Int)) (N := vs.length) (r := some vs.flatten) ?_ ?_ k 0 (by omega) (by omega)
  · exact key
  · intro n i hi
    have e : (vs.take (i + 1)).flatten = (vs.take i).flatten ++ vs[i] := by rw [List.take_succ_eq_append_getElem hi, List.flatten_append, List.flatten_cons, List.flatten_nil, List.append_nil]
    have hlen : (vs.take (i + 1)).flatten.length ≤ vs.flatten.length := by
      have : vs.flatten = (vs.take (i + 1)).flatten ++ (vs.drop (i + 1)).flatten := by rw [← List.flatten_append, List.take_append_drop]
      rw [this, List.length_append]; omega
    rw [e, List.length_append] at hlen
    rw [quiverref7_all.l0_eq, dT (by omega), cT, rd_get hi, bS, dT (by omega), cT, wsucc (by omega), e]
  · intro n
    rw [quiverref7_all.l0_eq, dF (by omega), cF, List.take_of_length_le (Nat.le_refl _)]
theorem List_ok {k : Nat} {vs : List (List UInt8)} (hk : vs.length + 4 ≤ k) (hs : vs.flatten.length ≤ 9223372036854775000) (hl : vs.length ≤ 4611686018427387904) : quiverref7_List.f idb k vs = some (listT vs) := by
  obtain ⟨k, rfl⟩ : ∃ m, k = m + 1 := ⟨k - 1, by omega⟩
  rw [quiverref7_List.f_eq, all_ok (by omega) (by omega) hl, bS, dT (by simp only [List.length_cons, List.length_nil]; omega), cT, dT (by simp only [List.length_append, List.length_cons, List.length_nil]; omega), cT]
  rfl
theorem Struct_ok {k : Nat} {vs : List (List UInt8)} (hk : vs.length + 4 ≤ k) (hs : vs.flatten.length ≤ 9223372036854775000) (hl : vs.length ≤ 4611686018427387904) : quiverref7_Struct.f idb k vs = some (structT vs) := by
  obtain ⟨k, rfl⟩ : ∃ m, k = m + 1 := ⟨k - 1, by omega⟩
  rw [quiverref7_Struct.f_eq, all_ok (by omega) (by omega) hl, bS, dT (by simp only [List.length_cons, List.length_nil]; omega), cT, dT (by simp only [List.length_append, List.length_cons, List.length_nil]; omega), cT]
  rfl

end Go.Proofs.YtppmpfddcohkjaaP
