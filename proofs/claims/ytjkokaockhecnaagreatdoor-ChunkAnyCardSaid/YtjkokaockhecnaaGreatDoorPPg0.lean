/- What the functions below the laws answer, in plain lists and numbers; no condition but the sizes that a machine has. -/
import Derived.Test.YtjkokaockhecnaaGreatDoorPLoop
import Derived.Laws.BitsLemmas
import Derived.KernelRfl
import Derived.Lib.ItoaNum
import Derived.Lib.Join
import Derived.Test.YtjkokaockhecnaaGreatDoorRoom
namespace Go.Proofs.YtjkokaockhecnaaGreatDoorP
open Go Go.Proofs.YtjkokaockhecnaaGreatDoorA

/-- So deep, and so many kids at most, is an array. -/
def fits : Nat → Arr → Prop
  | 0, _ => False
  | d + 1, a => a.kids.length ≤ d ∧ ∀ k ∈ a.kids, fits d k
theorem _root_.Go.Proofs.YtjkokaockhecnaaGreatDoorA.RoomyA.kid {a k : Arr} (h : RoomyA a) (hk : k ∈ a.kids) : RoomyA k := fun d => (h (d + 1)).2.2.2.2.2.2 k hk
theorem _root_.Go.Proofs.YtjkokaockhecnaaGreatDoorA.RoomyA.kids {a : Arr} (h : RoomyA a) : a.kids.length * 96 ≤ 140737488351232 := (h 1).2.2.2.2.2.1
def bitB (n : Int) : Int := (n + 7) / 8
theorem bitB_eq {n : Int} (h0 : 0 ≤ n) (h1 : n ≤ 1000000) : IntKind.i64.wrap (Int.tdiv (IntKind.i64.wrap (n + 7)) 8) = bitB n := by
  unfold bitB
  rw [wi64 (n + 7) (by omega), Int.tdiv_eq_ediv_of_nonneg (by omega), wi64 _ (by omega)]
theorem bits_Bytes_ok {k : Nat} (hk : 1 ≤ k) {n : Int} (h0 : 0 ≤ n) (h1 : n ≤ 1000000) : bits_Bytes.f idb k n = some (bitB n) := by
  obtain ⟨k, rfl⟩ : ∃ m, k = m + 1 := ⟨k - 1, by omega⟩
  rw [bits_Bytes.f_eq, bitB_eq h0 h1]
def onB (s : List UInt8) (i : Nat) : Bool :=
  match s[i / 8]? with
  | some b => (bitsOp .and .u8 (Int.fdiv (b.toNat : Int) (2 ^ (min (i % 8) IntKind.u8.bits))) 1) == 1
  | none => false
theorem bit_eq {s : List UInt8} {i : Nat} (h : i / 8 < s.length) (hi : i ≤ 1000000) :
    ((rd s (IntKind.i64.wrap (Int.tdiv (i : Int) 8))).bind fun b_1 =>
     bif decide (Int.tmod (i : Int) 8 < 0) then none else
      some ((bitsOp .and .u8 (Int.fdiv (b_1.toNat : Int) (2 ^ (min (Int.tmod (i : Int) 8).toNat IntKind.u8.bits))) 1) == 1)) = some (onB s i) := by
  have e1 : Int.tdiv (i : Int) 8 = ((i / 8 : Nat) : Int) := by rw [Int.tdiv_eq_ediv_of_nonneg (by omega)]; omega
  have e2 : Int.tmod (i : Int) 8 = ((i % 8 : Nat) : Int) := by rw [Int.tmod_eq_emod_of_nonneg (by omega)]; omega
  have h3 : ¬ (((i % 8 : Nat) : Int) < 0) := by omega
  rw [e1, e2, wi64 _ (by omega), rd_get h, bS, decide_eq_false h3, cF, Int.toNat_natCast]
  unfold onB
  rw [List.getElem?_eq_getElem h]
theorem bits_On_ok {k : Nat} (hk : 1 ≤ k) {s : List UInt8} {i : Nat} (h : i / 8 < s.length) (hi : i ≤ 1000000) : bits_On.f idb k s (i : Int) = some (onB s i) := by
  obtain ⟨k, rfl⟩ : ∃ m, k = m + 1 := ⟨k - 1, by omega⟩
  rw [bits_On.f_eq]; exact bit_eq h hi
def thereB (v : List UInt8) (i : Nat) : Bool := v == [] || onB v i
/-- The number at a place in a row of numbers. -/
def numA (s : List UInt8) (i : Nat) : Int × Int := get s (4 * (i : Int)) 4
def okN (s : List UInt8) (i : Nat) : Bool := (numA s i).2 == 0
def eN (s : List UInt8) (i : Nat) : Int := (numA s i).1
def endOK (s : List UInt8) (most from_ apart : Int) (i : Nat) : Bool :=
  okN s i && (decide (eN s i ≤ most) && (decide (i = 0) || (decide (eN s (i - 1) ≤ eN s i) && (decide ((i : Int) ≤ from_) || decide (eN s i - eN s (i - 1) ≤ apart)))))
def endsB (s : List UInt8) (rows : Nat) (most from_ apart : Int) : Bool := (List.range (rows + 1)).all (endOK s most from_ apart)
def lastE (s : List UInt8) (i : Nat) : Int := if i = 0 then 0 else eN s (i - 1)
structure Room1 (x : Arr) : Prop where
  off : -9223372036854775808 ≤ x.offset ∧ x.offset ≤ 9223372036854775807
  len : -9223372036854775808 ≤ x.length ∧ x.length ≤ 9223372036854775807
  valid : (x.valid.length : Int) ≤ 140737488351232
  ends : (x.ends.length : Int) ≤ 140737488351232
  data : (x.data.length : Int) ≤ 140737488351232
  kids : x.kids.length * 96 ≤ 140737488351232
theorem _root_.Go.Proofs.YtjkokaockhecnaaGreatDoorA.RoomyA.one {x : Arr} (h : RoomyA x) : Room1 x := let ⟨a, b, c, d, e, f, _⟩ := h 1; ⟨a, b, c, d, e, f⟩
def rowsN (x : Arr) : Nat := (x.offset + x.length).toNat
/-- An array's numbers, its buffers. -/
def bufB (null : Bool) (x : Arr) : Bool :=
  decide (0 ≤ x.offset) && (decide (0 ≤ x.length) && (decide (x.offset + x.length ≤ 64) && (decide (x.valid.length ≤ 4096) && (decide (x.ends.length ≤ 4096) && (decide (x.data.length ≤ 4096) &&
    (x.valid == [] || (null && decide (bitB (x.offset + x.length) ≤ (x.valid.length : Int)))))))))
def dictB (x kid : Arr) : Bool :=
  kid.valid == [] && (decide (4 * rowsN x ≤ x.data.length) &&
    (List.range (rowsN x)).all fun i => decide ((i : Int) < x.offset) || (!thereB x.valid i || (okN x.data i && decide (eN x.data i < kid.length))))
def runB (x kid : Arr) : Bool :=
  x.valid == [] && (((x.data.length : Int) == 4 * kid.length) &&
    ((List.range kid.length.toNat).all (fun i => okN x.data i && decide (lastE x.data i < eN x.data i)) && decide (x.offset + x.length ≤ lastE x.data kid.length.toNat)))
theorem getD_get {α : Type} {l : List α} {j : Nat} {d : α} (h : j < l.length) : l.getD j d = l[j] := by simp [List.getD, h]
def kidA (x : Arr) (j : Nat) : Arr := x.kids.getD j x
def ksT (t : List Nod) (a : Int) (j : Nat) : Int := (kidsL t a).getD j 0
/-- What an array of LayoutPlain has of its kind. -/
def kindM (t : List Nod) (i : Nat) (x : Arr) : Bool :=
  if knd t i = 0 then x.ends == [] && decide (8 * rowsN x ≤ x.data.length)
  else if knd t i = 1 then x.ends == [] && decide (bitB (x.offset + x.length) ≤ (x.data.length : Int))
  else if knd t i = 2 then endsB x.ends (rowsN x) (x.data.length : Int) x.offset 16
  else if knd t i = 3 then x.data == [] && endsB x.ends (rowsN x) (kidA x 0).length 0 64
  else x.ends == [] && (x.data == [] && !x.kids.any fun c => decide (c.length < x.offset + x.length))
/-- May an array of a node be? -/
def mayA : Nat → List Nod → Int → Arr → Bool
  | 0, _, _, _ => false
  | f + 1, t, a, x => nodeB t a && (bufB (nul t a.toNat) x &&
      if x.layout = 0 then decide (x.kids.length = (kidsL t a).length) && ((List.range x.kids.length).all (fun j => mayA f t (ksT t a j) (kidA x j)) && kindM t a.toNat x)
      else !inner (knd t a.toNat) && (x.ends == [] && (decide (x.kids.length = 1) && ((kidA x 0).layout == 0 && (mayA f t a (kidA x 0) &&
        if x.layout = 1 then dictB x (kidA x 0) else if x.layout = 2 then runB x (kidA x 0) else false)))))
def arrB (t : List Nod) (a : Int) (x : Arr) : Bool := mayA 20 t a x
theorem Num_ok {k : Nat} (hk : 1 ≤ k) (x : Int) : quiverlaw0_Num.f idb k x = some x := by
  obtain ⟨k, rfl⟩ : ∃ m, k = m + 1 := ⟨k - 1, by omega⟩
  rw [quiverlaw0_Num.f_eq]
/-- A number's digits, so many at most. -/
def decI : Nat → Nat → List Int
  | 0, _ => []
  | f + 1, n => if n < 10 then [48 + (n : Int)] else decI f (n / 10) ++ [48 + ((n % 10 : Nat) : Int)]
theorem decI_len : ∀ f n, (decI f n).length ≤ f
  | 0, _ => Nat.le_refl _
  | f + 1, n => by
    unfold decI
    split
    · simp
    · have := decI_len f (n / 10)
      simp; omega
theorem decI_same : ∀ (f g n : Nat), n < 10 ^ f → n < 10 ^ g → 0 < f → 0 < g → decI f n = decI g n
  | 0, _, _, _, _, h, _ => by omega
  | _, 0, _, _, _, _, h => by omega
  | f + 1, g + 1, n, hf, hg, _, _ => by
    unfold decI
    by_cases h : n < 10
    · rw [if_pos h, if_pos h]
    · rw [if_neg h, if_neg h]
      have f0 : 0 < f := by
        rcases Nat.eq_zero_or_pos f with e | e
        · subst e; omega
        · exact e
      have g0 : 0 < g := by
        rcases Nat.eq_zero_or_pos g with e | e
        · subst e; omega
        · exact e
      rw [decI_same f g (n / 10) (by rw [Nat.pow_succ] at hf; omega) (by rw [Nat.pow_succ] at hg; omega) f0 g0]
def dec (n : Nat) : List UInt8 := strOfBytes (decI 20 n)
theorem dec_len (n : Nat) : (dec n).length ≤ 20 := by unfold dec; rw [strOfBytes_length]; exact decI_len 20 n
def fin10 (x : Int) (l : List Int) : List UInt8 := strOfBytes (if x < 0 then 45 :: l else l)
theorem digit_ok (n : Nat) : IntKind.u8.wrap (IntKind.u64.wrap (48 + (Int.tmod (n : Int) 10))) = 48 + ((n % 10 : Nat) : Int) := by
  rw [Int.tmod_eq_emod_of_nonneg (by omega), wu64 _ (by omega), wu8]; omega
theorem div10_ok {n : Nat} (h : n ≤ 18446744073709551615) : IntKind.u64.wrap (Int.tdiv (n : Int) 10) = ((n / 10 : Nat) : Int) := by
  rw [Int.tdiv_eq_ediv_of_nonneg (by omega), wu64 _ (by omega)]; omega
theorem Decimal_end {k n : Nat} (x : Int) {out : List Int} (h0 : out ≠ []) (hl : out.length ≤ 1000) : quiverref0_Decimal.l0 idb k (n + 1) x 0 out = some (fin10 x out) := by
  have e1 : (((out.length : Nat) : Int) == 0) = false := by
    rw [beq_eq_false_iff_ne]; intro h; exact h0 (List.length_eq_zero_iff.1 (by omega))
  rw [quiverref0_Decimal.l0_eq, dF (by omega), Bool.not_false, cT, e1, cF]
  unfold fin10
  by_cases h : x < 0
  · rw [dT h, cT, if_pos h, dT (by simp; omega), cT]; rfl
  · rw [dF h, cF, if_neg h]
theorem Decimal_l0 (k : Nat) (x : Int) : ∀ (f m : Nat) (out : List Int) (n : Nat), 0 < m → m < 10 ^ f → m ≤ 18446744073709551615 → f + 1 ≤ n → out.length + f ≤ 900 → quiverref0_Decimal.l0 idb k n x (m : Int) out = some (fin10 x (decI f m ++ out))
  | 0, m, _, _, h0, h1, _, _, _ => by simp at h1; omega
  | f + 1, m, out, n, h0, h1, h2, h3, h4 => by
    obtain ⟨n, rfl⟩ : ∃ q, n = q + 1 := ⟨n - 1, by omega⟩
    rw [quiverref0_Decimal.l0_eq, dT (show (m : Int) > 0 by omega), Bool.not_true, cF, digit_ok, div10_ok h2, dT (by simp; omega), cT]
    by_cases h : m < 10
    · have e : m / 10 = 0 := by omega
      obtain ⟨n, rfl⟩ : ∃ q, n = q + 1 := ⟨n - 1, by omega⟩
      rw [e, show ((0 : Nat) : Int) = 0 from rfl, Decimal_end x (by simp) (by simp; omega)]
      unfold decI
      rw [if_pos h, show m % 10 = m by omega]
    · rw [Decimal_l0 k x f (m / 10) _ n (by omega) (by rw [Nat.pow_succ] at h1; omega) (by omega) (by omega) (by simp; omega)]
      conv => rhs; unfold decI
      rw [if_neg h, List.append_assoc]
theorem Decimal_j4 {k : Nat} (hk : 100 ≤ k) (x : Int) {m : Nat} (hm : m ≤ 18446744073709551615) : quiverref0_Decimal.j4 idb k x (m : Int) = some (fin10 x (decI 20 m)) := by
  rw [quiverref0_Decimal.j4_eq]
  by_cases h : 0 < m
  · rw [Decimal_l0 k x 20 m [] k h (by omega) hm (by omega) (by simp), List.append_nil]
  · obtain rfl : m = 0 := by omega
    obtain ⟨q, rfl⟩ : ∃ q, k = q + 2 := ⟨k - 2, by omega⟩
    rw [show ((0 : Nat) : Int) = 0 from rfl]
    conv => lhs; rw [quiverref0_Decimal.l0_eq]
    rw [dF (by omega), Bool.not_false, cT, show ((([] : List Int).length : Int) == 0) = true from rfl, cT, dT (by simp), cT]
    have e : IntKind.u64.wrap (Int.tdiv 0 10) = 0 := by decide
    have e2 : IntKind.u8.wrap (IntKind.u64.wrap (48 + (Int.tmod 0 10))) = 48 := by decide
    rw [e, e2, Decimal_end x (by simp) (by simp)]
    rfl
/-- A whole number as it is written. -/
def digT (x : Int) : List UInt8 := if x < 0 then 45 :: dec x.natAbs else dec x.toNat
theorem digT_len (x : Int) : (digT x).length ≤ 21 := by
  unfold digT
  split
  · have := dec_len x.natAbs; simp; omega
  · have := dec_len x.toNat; omega
theorem Decimal_ok {k : Nat} (hk : 101 ≤ k) {x : Int} (h0 : -9223372036854775808 ≤ x) (h1 : x ≤ 9223372036854775807) : quiverref0_Decimal.f idb k x = some (digT x) := by
  obtain ⟨k, rfl⟩ : ∃ m, k = m + 1 := ⟨k - 1, by omega⟩
  rw [quiverref0_Decimal.f_eq]
  unfold digT
  by_cases h : x < 0
  · rw [dT h, cT, if_pos h]
    have e1 : IntKind.u64.wrap ((IntKind.u64.wrap (IntKind.i64.wrap (0 - (IntKind.i64.wrap (x + 1))))) + 1) = ((x.natAbs : Nat) : Int) := by
      rw [wi64 (x + 1) (by omega), wi64 (0 - (x + 1)) (by omega), wu64 (0 - (x + 1)) (by omega), wu64 _ (by omega)]; omega
    rw [idb_eq, e1, Decimal_j4 (by omega) x (by omega)]
    unfold fin10 dec
    rw [if_pos h]
    rfl
  · rw [dF h, cF, if_neg h]
    have e1 : IntKind.u64.wrap x = ((x.toNat : Nat) : Int) := by rw [wu64 _ (by omega)]; omega
    rw [idb_eq, e1, Decimal_j4 (by omega) x (by omega)]
    unfold fin10 dec
    rw [if_neg h]
theorem neg_digit {m : Nat} : IntKind.u8.wrap (IntKind.i64.wrap (48 - (Int.tmod (-(m : Int)) 10))) = 48 + ((m % 10 : Nat) : Int) := by
  have e : Int.tmod (-(m : Int)) 10 = -(((m % 10 : Nat) : Int)) := by
    rw [Int.neg_tmod, Int.tmod_eq_emod_of_nonneg (by omega)]; omega
  rw [e, wi64 _ (by omega), wu8]; omega
theorem neg_div {m : Nat} (h : m ≤ 9223372036854775808) : IntKind.i64.wrap (Int.tdiv (-(m : Int)) 10) = -((m / 10 : Nat) : Int) := by
  rw [Int.neg_tdiv, Int.tdiv_eq_ediv_of_nonneg (by omega), wi64 _ (by omega)]; omega
theorem digits_l0 (k : Nat) : ∀ (f m : Nat) (s : List UInt8) (n : Nat), 0 < m → m < 10 ^ f → m ≤ 9223372036854775808 → f + 1 ≤ n → s.length + f ≤ 900 → quiverref7_digits.l0 idb k n (-(m : Int)) s = some (45 :: (strOfBytes (decI f m) ++ s))
  | 0, m, _, _, h0, h1, _, _, _ => by simp at h1; omega
  | f + 1, m, s, n, h0, h1, h2, h3, h4 => by
    obtain ⟨n, rfl⟩ : ∃ q, n = q + 1 := ⟨n - 1, by omega⟩
    rw [quiverref7_digits.l0_eq, dT (show -(m : Int) < 0 by omega), cT, neg_digit, neg_div h2, dT (by simp [strOfBytes]; omega), cT]
    by_cases h : m < 10
    · have e : m / 10 = 0 := by omega
      obtain ⟨n, rfl⟩ : ∃ q, n = q + 1 := ⟨n - 1, by omega⟩
      rw [e, show -((0 : Nat) : Int) = 0 from rfl, quiverref7_digits.l0_eq, dF (by omega), cF, dT (by simp [strOfBytes]; omega), cT]
      unfold decI
      rw [if_pos h, show m % 10 = m by omega]
      rfl
    · rw [digits_l0 k f (m / 10) _ n (by omega) (by rw [Nat.pow_succ] at h1; omega) (by omega) (by omega) (by simp [strOfBytes]; omega)]
      conv => rhs; unfold decI
      rw [if_neg h, strOfBytes_append, List.append_assoc]
theorem digits_ok {k : Nat} (hk : 110 ≤ k) {x : Int} (h0 : -9223372036854775808 ≤ x) (h1 : x ≤ 9223372036854775807) : quiverref7_digits.f idb k x = some (digT x) := by
  obtain ⟨k, rfl⟩ : ∃ m, k = m + 1 := ⟨k - 1, by omega⟩
  rw [quiverref7_digits.f_eq]
  by_cases h : 0 ≤ x
  · rw [dT h, cT, Decimal_ok (by omega) h0 h1, bS]
  · rw [dF h, cF]
    have e : x = -((x.natAbs : Nat) : Int) := by omega
    have := digits_l0 k 20 x.natAbs [] k (by omega) (by omega) (by omega) (by omega) (by simp)
    rw [← e] at this
    rw [this]
    unfold digT dec
    rw [if_pos (by omega), List.append_nil]
def intT (x : Int) : List UInt8 := [105] ++ digT x ++ [59]
def boolT (b : Bool) : List UInt8 := if b then [116] else [102]
def bytesT (s : List UInt8) : List UInt8 := [115] ++ dec s.length ++ [58] ++ s
def listT (vs : List (List UInt8)) : List UInt8 := [91] ++ vs.flatten ++ [93]
def structT (vs : List (List UInt8)) : List UInt8 := [123] ++ vs.flatten ++ [125]
structure One (t : List Nod) (i : Nat) (x : Arr) : Prop where
  leaf : inner (knd t i) = false
  ends : x.ends = []
  kids : x.kids.length = 1
  flat : (kidA x 0).layout = 0
  may : arrB t (i : Int) (kidA x 0) = true
theorem dec_eq : ∀ (f n : Nat), n < 10 ^ f → 0 < f → strOfBytes (decI f n) = Lib.decDigits n
  | 0, _, _, h => by omega
  | f + 1, n, hf, _ => by
    rw [Lib.decDigits]
    unfold decI
    by_cases h : n < 10
    · rw [if_pos h, dif_pos h]
      unfold strOfBytes
      simp only [List.map_cons, List.map_nil, List.cons.injEq, and_true]
      congr 1
    · rw [if_neg h, dif_neg h]
      have f0 : 0 < f := by
        rcases Nat.eq_zero_or_pos f with e | e
        · subst e; omega
        · exact e
      rw [strOfBytes_append, dec_eq f (n / 10) (by rw [Nat.pow_succ] at hf; omega) f0]
      congr 1
theorem itoa_eq {x : Int} (h0 : -9223372036854775808 ≤ x) (h1 : x ≤ 9223372036854775807) : Lib.itoa x = digT x := by
  unfold Lib.itoa digT dec
  have e : (10 : Nat) ^ 20 = 100000000000000000000 := by decide
  split
  · rw [dec_eq 20 _ (by omega) (by omega)]
  · rw [dec_eq 20 _ (by omega) (by omega)]
theorem digT_nat (n : Nat) : digT (n : Int) = dec n := by
  unfold digT
  rw [if_neg (by omega), Int.toNat_natCast]
/-- A number's digits, as numbers. -/
def digs : Nat → Nat → List Nat
  | 0, _ => []
  | f + 1, n => if n < 10 then [n] else digs f (n / 10) ++ [n % 10]
def horner (l : List Nat) : Nat := l.foldl (fun a d => 10 * a + d) 0
theorem horner_snoc (l : List Nat) (d : Nat) : horner (l ++ [d]) = 10 * horner l + d := by unfold horner; rw [List.foldl_append]; rfl
theorem decI_digs : ∀ f n, decI f n = List.map (fun (d : Nat) => (48 : Int) + (d : Int)) (digs f n)
  | 0, _ => rfl
  | f + 1, n => by
    unfold decI digs
    split
    · rfl
    · rw [decI_digs f (n / 10), List.map_append]; rfl
theorem digs_val : ∀ f n, n < 10 ^ f → 0 < f → horner (digs f n) = n ∧ (∀ d ∈ digs f n, d < 10) ∧ digs f n ≠ []
  | 0, _, _, h => by omega
  | f + 1, n, hf, _ => by
    unfold digs
    by_cases h : n < 10
    · rw [if_pos h]
      refine ⟨by simp [horner], fun d hd => ?_, by simp⟩
      rw [List.mem_singleton.1 hd]; exact h
    · rw [if_neg h]
      have f0 : 0 < f := by
        rcases Nat.eq_zero_or_pos f with e | e
        · subst e; omega
        · exact e
      obtain ⟨h1, h2, h3⟩ := digs_val f (n / 10) (by rw [Nat.pow_succ] at hf; omega) f0
      refine ⟨by rw [horner_snoc, h1]; omega, fun d hd => ?_, by simp⟩
      rcases List.mem_append.1 hd with hd | hd
      · exact h2 d hd
      · rw [List.mem_singleton.1 hd]; omega
theorem digs_len : ∀ f n, (digs f n).length ≤ f
  | 0, _ => Nat.le_refl _
  | f + 1, n => by
    unfold digs
    split
    · simp
    · have := digs_len f (n / 10)
      simp; omega
/-- The digits' bytes. -/
def dbytes (l : List Nat) : List UInt8 := l.map fun d => UInt8.ofNat (48 + d)
theorem dec_dbytes {n : Nat} (h : n < 10 ^ 19) : dec n = dbytes (digs 19 n) := by
  unfold dec dbytes strOfBytes
  rw [decI_same 20 19 n (by omega) h (by omega) (by omega), decI_digs, List.map_map]
  refine List.map_congr_left fun d _ => ?_
  simp only [Function.comp_apply]
  congr 1
theorem dbytes_get {l : List Nat} (hd : ∀ d ∈ l, d < 10) {j : Nat} (hj : j < l.length) : ((dbytes l)[j]'(by unfold dbytes; simpa using hj)).toNat = 48 + l[j] := by
  unfold dbytes
  have := hd l[j] (List.getElem_mem hj)
  rw [List.getElem_map, UInt8.toNat_ofNat']
  omega
theorem horner_take (l : List Nat) : ∀ j, j ≤ l.length → horner (l.take j) ≤ horner l := by
  have snoc : ∀ (m l : List Nat), horner l ≤ horner (l ++ m) := by
    intro m
    induction m with
    | nil => intro l; simp
    | cons d m ih =>
      intro l
      have := ih (l ++ [d])
      rw [List.append_assoc, List.singleton_append, horner_snoc] at this
      omega
  intro j _
  have := snoc (l.drop j) (l.take j)
  rw [List.take_append_drop] at this
  exact this
theorem horner_take_succ {l : List Nat} {j : Nat} (h : j < l.length) : horner (l.take (j + 1)) = 10 * horner (l.take j) + l[j] := by
  rw [List.take_succ_eq_append_getElem h, horner_snoc]
/-- Digits ahead of which there is no sign. -/
theorem whole_pos {k : Nat} (hk : 130 ≤ k) {l : List Nat} (hd : ∀ d ∈ l, d < 10) (hn : l ≠ []) (hl : l.length ≤ 19) (hv : horner l ≤ 9223372036854775807) (he : digT ((horner l : Nat) : Int) = dbytes l) :
    quiverref7_whole.f idb k (dbytes l) = some (((horner l : Nat) : Int), true) := by
  obtain ⟨k, rfl⟩ : ∃ m, k = m + 1 := ⟨k - 1, by omega⟩
  have hlen : (dbytes l).length = l.length := by unfold dbytes; simp
  have hpos : 0 < l.length := List.length_pos_iff.2 hn
  rw [quiverref7_whole.f_eq]
  refine loop_up (F := fun n j => quiverref7_whole.l0 idb k n (dbytes l) ((horner (l.take j) : Nat) : Int) (j : Int)) (N := l.length) ?_ ?_ k 0 (by omega) (by omega)
  · intro n j hj
    have hb := rd_get (l := dbytes l) (i := j) (by omega)
    have hb0 := rd_get (l := dbytes l) (i := 0) (by omega)
    have e1 := dbytes_get hd hj
    have e0 := dbytes_get hd hpos
    have hdj := hd l[j] (List.getElem_mem hj)
    have hd0 := hd l[0] (List.getElem_mem hpos)
    have ht := horner_take_succ hj
    have hm := horner_take l (j + 1) (by omega)
    rw [show ((0 : Nat) : Int) = 0 from rfl] at hb0
    rw [quiverref7_whole.l0_eq, dT (by omega), cT, dT (by omega), cT, hb, bS, e1, show ((((48 + l[j] : Nat)) : Int) == 45) = false by rw [beq_eq_false_iff_ne]; omega, cF, bS, e1, dF (by omega), Bool.not_false, cT, bS, e1, dF (by omega), cF, hb0, bS, e0,
      show ((((48 + l[0] : Nat)) : Int) == 45) = false by rw [beq_eq_false_iff_ne]; omega, cF, bS, e1, wu8, wi64 (10 * _) (by omega), show (((48 + l[j] : Nat) : Int) - 48) % 256 = (l[j] : Int) by omega, wi64 (l[j] : Int) (by omega), wi64 _ (by omega), wsucc (by omega), ht]
    congr 1
  · intro n
    rw [quiverref7_whole.l0_eq, dF (by omega), cF, List.take_length, digits_ok (by omega) (by omega) (by omega), bS, he, BEq.rfl]
theorem whole_neg {k : Nat} (hk : 130 ≤ k) {l : List Nat} (hd : ∀ d ∈ l, d < 10) (hl : l.length ≤ 19) (hv : horner l ≤ 9223372036854775808) (he : digT (-((horner l : Nat) : Int)) = 45 :: dbytes l) :
    quiverref7_whole.f idb k (45 :: dbytes l) = some (-((horner l : Nat) : Int), true) := by
  obtain ⟨k, rfl⟩ : ∃ m, k = m + 1 := ⟨k - 1, by omega⟩
  have hlen : (dbytes l).length = l.length := by unfold dbytes; simp
  have hb0 := rd_get (l := 45 :: dbytes l) (i := 0) (by simp)
  rw [show ((0 : Nat) : Int) = 0 from rfl] at hb0
  have b0 : (((45 :: dbytes l)[0]'(by simp)).toNat : Int) = 45 := rfl
  obtain ⟨k, rfl⟩ : ∃ m, k = m + 1 := ⟨k - 1, by omega⟩
  rw [quiverref7_whole.f_eq, quiverref7_whole.l0_eq, dT (by simp only [List.length_cons]; omega), cT, dT (by simp only [List.length_cons]; omega), cT, hb0, bS, b0, BEq.rfl, cT, BEq.rfl, cT, wi64 (0 + 1) (by omega)]
  refine loop_up (F := fun n j => quiverref7_whole.l0 idb (k + 1) n (45 :: dbytes l) (-((horner (l.take j) : Nat) : Int)) ((j : Int) + 1)) (N := l.length) ?_ ?_ k 0 (by omega) (by omega)
  · intro n j hj
    have hb := rd_get (l := 45 :: dbytes l) (i := j + 1) (by simp only [List.length_cons]; omega)
    rw [show ((j + 1 : Nat) : Int) = (j : Int) + 1 by omega] at hb
    have e1 := dbytes_get hd hj
    have hdj := hd l[j] (List.getElem_mem hj)
    have ht := horner_take_succ hj
    have hm := horner_take l (j + 1) (by omega)
    simp only [List.getElem_cons_succ] at hb
    rw [quiverref7_whole.l0_eq, dT (by simp only [List.length_cons]; omega), cT, dT (by simp only [List.length_cons]; omega), cT, hb, bS, e1, show ((((48 + l[j] : Nat)) : Int) == 45) = false by rw [beq_eq_false_iff_ne]; omega, cF, bS, e1, dF (by omega), Bool.not_false, cT, bS, e1, dF (by omega), cF, hb0, bS, b0,
      BEq.rfl, cT, bS, e1, wu8, wi64 (10 * _) (by omega), show (((48 + l[j] : Nat) : Int) - 48) % 256 = (l[j] : Int) by omega, wi64 (l[j] : Int) (by omega), wi64 _ (by omega), wi64 _ (by omega), ht]
    congr 1
    omega
  · intro n
    rw [quiverref7_whole.l0_eq, dF (by simp only [List.length_cons]; omega), cF, List.take_length, digits_ok (by omega) (by omega) (by omega), bS, he, BEq.rfl]
theorem whole_ok {k : Nat} (hk : 130 ≤ k) {x : Int} (h0 : -9223372036854775808 ≤ x) (h1 : x ≤ 9223372036854775807) : quiverref7_whole.f idb k (digT x) = some (x, true) := by
  have p19 : (10 : Nat) ^ 19 = 10000000000000000000 := by decide
  by_cases h : x < 0
  · obtain ⟨v1, v2, v3⟩ := digs_val 19 x.natAbs (by omega) (by omega)
    have e : digT x = 45 :: dbytes (digs 19 x.natAbs) := by unfold digT; rw [if_pos h, dec_dbytes (by omega)]
    have hx : -((horner (digs 19 x.natAbs) : Nat) : Int) = x := by rw [v1]; omega
    have := whole_neg hk v2 (digs_len _ _) (by rw [v1]; omega) (by rw [hx]; exact e)
    rw [hx] at this
    rw [e]; exact this
  · obtain ⟨v1, v2, v3⟩ := digs_val 19 x.toNat (by omega) (by omega)
    have e : digT x = dbytes (digs 19 x.toNat) := by unfold digT; rw [if_neg h, dec_dbytes (by omega)]
    have hx : ((horner (digs 19 x.toNat) : Nat) : Int) = x := by rw [v1]; omega
    have := whole_pos hk v2 v3 (digs_len _ _) (by rw [v1]; omega) (by rw [hx]; exact e)
    rw [hx] at this
    rw [e]; exact this
def At (s : List UInt8) (p : Nat) (v : List UInt8) : Prop := ∃ pre post, s = pre ++ v ++ post ∧ pre.length = p
theorem At.left {s a b : List UInt8} {p : Nat} (h : At s p (a ++ b)) : At s p a := by
  obtain ⟨pre, post, rfl, e⟩ := h
  exact ⟨pre, b ++ post, by simp [List.append_assoc], e⟩
theorem At.right {s a b : List UInt8} {p : Nat} (h : At s p (a ++ b)) : At s (p + a.length) b := by
  obtain ⟨pre, post, rfl, e⟩ := h
  exact ⟨pre ++ a, post, by simp [List.append_assoc], by simp [e]⟩
theorem At.le {s v : List UInt8} {p : Nat} (h : At s p v) : p + v.length ≤ s.length := by
  obtain ⟨pre, post, rfl, e⟩ := h
  simp only [List.length_append]; omega
theorem At.get {s v : List UInt8} {p : Nat} (h : At s p v) {j : Nat} (hj : j < v.length) : s[p + j]? = v[j]? := by
  obtain ⟨pre, post, rfl, e⟩ := h
  rw [List.append_assoc, List.getElem?_append_right (by omega), List.getElem?_append_left (by omega)]
  congr 1; omega
theorem At.head {s r : List UInt8} {b : UInt8} {p : Nat} (h : At s p (b :: r)) : rd s (p : Int) = some b := by
  have := h.get (j := 0) (by simp)
  have hl := h.le
  rw [List.length_cons] at hl
  rw [rd_get (by omega)]
  rw [Nat.add_zero, List.getElem?_eq_getElem (by omega)] at this
  exact this
theorem At.slice {s v : List UInt8} {p : Nat} (h : At s p v) : (s.take (p + v.length)).drop p = v := by
  obtain ⟨pre, post, rfl, e⟩ := h
  subst e
  rw [show pre.length + v.length = (pre ++ v).length by simp, List.take_left', List.drop_left']
  · rfl
  · rfl
/-- A sign's place. -/
theorem upto_ok {k : Nat} (hk : 40 ≤ k) {s m : List UInt8} {c : UInt8} {p : Nat} (h : At s p (m ++ [c])) (hm : m.length ≤ 21) (hn : ∀ b ∈ m, b ≠ c) (hp : p ≤ 1000000) : quiverref7_upto.f idb k s (p : Int) (c.toNat : Int) = some ((p + m.length : Nat) : Int) := by
  obtain ⟨k, rfl⟩ : ∃ q, k = q + 1 := ⟨k - 1, by omega⟩
  have hl := h.le
  rw [List.length_append, List.length_singleton] at hl
  rw [quiverref7_upto.f_eq]
  refine loop_up (F := fun n j => quiverref7_upto.l0 idb k n s (p : Int) (c.toNat : Int) ((p + j : Nat) : Int)) (N := m.length) ?_ ?_ k 0 (by omega) (by omega)
  · intro n j hj
    have hb := rd_get (l := s) (i := p + j) (by omega)
    have e := h.get (j := j) (by simp; omega)
    rw [List.getElem?_append_left hj, List.getElem?_eq_getElem (by omega), List.getElem?_eq_getElem hj, Option.some.injEq] at e
    have hne : (((m[j]).toNat : Int) == (c.toNat : Int)) = false := by
      rw [beq_eq_false_iff_ne]
      intro e'
      exact hn _ (List.getElem_mem hj) (UInt8.toNat_inj.1 (by omega))
    rw [quiverref7_upto.l0_eq, dT (by omega), cT, wi64 ((p : Int) + 22) (by omega), dT (by omega), cT, hb, bS, e, hne, cF, wsucc (by omega)]
    rfl
  · intro n
    have hb := rd_get (l := s) (i := p + m.length) (by omega)
    have e := h.get (j := m.length) (by simp)
    rw [List.getElem?_append_right (Nat.le_refl _), List.getElem?_eq_getElem (by omega), Nat.sub_self, List.getElem?_cons_zero, Option.some.injEq] at e
    rw [quiverref7_upto.l0_eq, dT (by omega), cT, wi64 ((p : Int) + 22) (by omega), dT (by omega), cT, hb, bS, e, BEq.rfl, cT]
inductive Leafy : List UInt8 → Prop
  | n : Leafy [110]
  | t : Leafy [116]
  | f : Leafy [102]
  | i (x : Int) (h0 : -9223372036854775808 ≤ x) (h1 : x ≤ 9223372036854775807) : Leafy (intT x)
  | s (l : List UInt8) (h : l.length ≤ 100000) : Leafy (bytesT l)
def Tx : Nat → List UInt8 → Prop
  | 0, v => Leafy v ∨ v = listT [] ∨ v = structT []
  | d + 1, v => Leafy v ∨ ∃ vs, (∀ w ∈ vs, Tx d w) ∧ (v = listT vs ∨ v = structT vs)
theorem Leafy.tx {v : List UInt8} (h : Leafy v) (d : Nat) : Tx d v := by
  cases d with
  | zero => exact .inl h
  | succ d => exact .inl h
theorem Leafy.head {v : List UInt8} (h : Leafy v) : ∃ b r, v = b :: r ∧ b ≠ 93 ∧ b ≠ 125 := by
  cases h with
  | n => exact ⟨_, _, rfl, by decide, by decide⟩
  | t => exact ⟨_, _, rfl, by decide, by decide⟩
  | f => exact ⟨_, _, rfl, by decide, by decide⟩
  | i x => exact ⟨105, _, rfl, by decide, by decide⟩
  | s l => exact ⟨115, _, rfl, by decide, by decide⟩
theorem Tx.head {d : Nat} {v : List UInt8} (h : Tx d v) : ∃ b r, v = b :: r ∧ b ≠ 93 ∧ b ≠ 125 := by
  cases d with
  | zero =>
    rcases h with h | rfl | rfl
    · exact h.head
    · exact ⟨91, _, rfl, by decide, by decide⟩
    · exact ⟨123, _, rfl, by decide, by decide⟩
  | succ d =>
    rcases h with h | ⟨vs, _, rfl | rfl⟩
    · exact h.head
    · exact ⟨91, _, rfl, by decide, by decide⟩
    · exact ⟨123, _, rfl, by decide, by decide⟩
theorem digT_chars {x : Int} (h0 : -9223372036854775808 ≤ x) (h1 : x ≤ 9223372036854775807) : (digT x).length ≤ 20 ∧ ∀ b ∈ digT x, b ≠ 58 ∧ b ≠ 59 := by
  have p19 : (10 : Nat) ^ 19 = 10000000000000000000 := by decide
  have key : ∀ n : Nat, n < 10 ^ 19 → (dec n).length ≤ 19 ∧ ∀ b ∈ dec n, b ≠ 58 ∧ b ≠ 59 := by
    intro n hn
    obtain ⟨_, hd, _⟩ := digs_val 19 n hn (by omega)
    rw [dec_dbytes hn]
    refine ⟨by unfold dbytes; rw [List.length_map]; exact digs_len 19 n, fun b hb => ?_⟩
    unfold dbytes at hb
    obtain ⟨d, hd', rfl⟩ := List.mem_map.1 hb
    have hlt := hd d hd'
    have e : (UInt8.ofNat (48 + d)).toNat = 48 + d := by rw [UInt8.toNat_ofNat']; omega
    constructor <;> (intro e'; rw [e'] at e; simp at e; omega)
  unfold digT
  split
  · obtain ⟨k1, k2⟩ := key x.natAbs (by omega)
    refine ⟨by simp only [List.length_cons]; omega, fun b hb => ?_⟩
    rcases List.mem_cons.1 hb with rfl | hb
    · exact ⟨by decide, by decide⟩
    · exact k2 b hb
  · obtain ⟨k1, k2⟩ := key x.toNat (by omega)
    exact ⟨by omega, k2⟩
theorem end_leaf {k : Nat} (hk : 200 ≤ k) {s v : List UInt8} (hv : Leafy v) {p : Nat} (h : At s p v) (hs : s.length ≤ 1000000) (D : Int) : quiverref7_end.f idb k s (p : Int) D = some ((p + v.length : Nat) : Int) := by
  obtain ⟨k, rfl⟩ : ∃ q, k = q + 1 := ⟨k - 1, by omega⟩
  have hl := h.le
  cases hv with
  | n =>
    simp only [List.length_cons, List.length_nil] at hl ⊢
    rw [quiverref7_end.f_eq, dF (by omega), cF, h.head, bS, show (((110 : UInt8).toNat : Int)) = 110 from rfl]
    simp only [BEq.rfl, cT]
    rw [wsucc (by omega)]
  | t =>
    simp only [List.length_cons, List.length_nil] at hl ⊢
    rw [quiverref7_end.f_eq, dF (by omega), cF, h.head, bS, show (((116 : UInt8).toNat : Int)) = 116 from rfl]
    simp only [show ((116 : Int) == 110) = false from by decide, BEq.rfl, cT, cF]
    rw [wsucc (by omega)]
  | f =>
    simp only [List.length_cons, List.length_nil] at hl ⊢
    rw [quiverref7_end.f_eq, dF (by omega), cF, h.head, bS, show (((102 : UInt8).toNat : Int)) = 102 from rfl]
    simp only [show ((102 : Int) == 110) = false from by decide, show ((102 : Int) == 116) = false from by decide, BEq.rfl, cT, cF]
    rw [wsucc (by omega)]
  | i x h0 h1 =>
    obtain ⟨c1, c2⟩ := digT_chars h0 h1
    have hu := upto_ok (k := k) (by omega) (s := s) (m := [105] ++ digT x) (c := 59) (p := p) h (by simp; omega) (fun b hb => by
      rcases List.mem_append.1 hb with hb | hb
      · rw [List.mem_singleton.1 hb]; decide
      · exact (c2 b hb).2) (by omega)
    have hh : At s p (105 :: (digT x ++ [59])) := h
    have hsl : At s (p + 1) (digT x) := by
      have h' : At s p ([105] ++ (digT x ++ [59])) := h
      exact h'.right.left
    have hslice := hsl.slice
    unfold intT at hl ⊢
    simp only [List.length_append, List.length_cons, List.length_nil] at hl ⊢
    rw [List.length_append, List.length_singleton, show (((59 : UInt8).toNat : Int)) = 59 from rfl] at hu
    rw [quiverref7_end.f_eq, dF (by omega), cF, hh.head, bS, show (((105 : UInt8).toNat : Int)) = 105 from rfl]
    simp only [show ((105 : Int) == 110) = false from by decide, show ((105 : Int) == 116) = false from by decide, show ((105 : Int) == 102) = false from by decide, BEq.rfl, cT, cF]
    rw [hu, bS, dF (by omega), cF, dT (by omega), dT (by omega), wi64 ((p : Int) + 1) (by omega), dT (by omega), dT (by omega)]
    simp only [Bool.and_self, cT, Int.toNat_natCast]
    rw [show ((p : Int) + 1).toNat = p + 1 by omega, show p + (1 + (digT x).length) = p + 1 + (digT x).length by omega, hslice, whole_ok (by omega) h0 h1, bS]
    simp only [Bool.not_true, cF]
    rw [wi64 _ (by omega)]
    congr 1; omega
  | s l hl4 =>
    have hx : digT ((l.length : Nat) : Int) = dec l.length := digT_nat _
    obtain ⟨c1, c2⟩ := digT_chars (x := ((l.length : Nat) : Int)) (by omega) (by omega)
    rw [hx] at c1 c2
    have hb1 : At s p (([115] ++ dec l.length) ++ [58]) := At.left (b := l) h
    have hu := upto_ok (k := k) (by omega) (s := s) (m := [115] ++ dec l.length) (c := 58) (p := p) hb1 (by simp; omega) (fun b hb => by
      rcases List.mem_append.1 hb with hb | hb
      · rw [List.mem_singleton.1 hb]; decide
      · exact (c2 b hb).1) (by omega)
    have hh : At s p (115 :: (dec l.length ++ [58])) := hb1
    have hsl : At s (p + 1) (dec l.length) := by
      have h' : At s p ([115] ++ (dec l.length ++ [58])) := hb1
      exact h'.right.left
    have hslice := hsl.slice
    unfold bytesT at hl ⊢
    simp only [List.length_append, List.length_cons, List.length_nil] at hl ⊢
    rw [List.length_append, List.length_singleton, show (((58 : UInt8).toNat : Int)) = 58 from rfl] at hu
    have hw := whole_ok (k := k) (by omega) (x := ((l.length : Nat) : Int)) (by omega) (by omega)
    rw [hx] at hw
    rw [quiverref7_end.f_eq, dF (by omega), cF, hh.head, bS, show (((115 : UInt8).toNat : Int)) = 115 from rfl]
    simp only [show ((115 : Int) == 110) = false from by decide, show ((115 : Int) == 116) = false from by decide, show ((115 : Int) == 102) = false from by decide, show ((115 : Int) == 105) = false from by decide, BEq.rfl, cT, cF]
    rw [hu, bS, dF (by omega), cF, dT (by omega), dT (by omega), wi64 ((p : Int) + 1) (by omega), dT (by omega), dT (by omega)]
    simp only [Bool.and_self, cT, Int.toNat_natCast]
    rw [show ((p : Int) + 1).toNat = p + 1 by omega, show p + (1 + (dec l.length).length) = p + 1 + (dec l.length).length by omega, hslice, hw, bS]
    simp only [Bool.not_true, Bool.not_false, cT]
    rw [dF (by omega), Bool.not_false, cT, wi64 ((s.length : Int) - _) (by omega), wi64 (_ - 1) (by omega), dF (by omega), cF, wi64 (_ + 1) (by omega), wi64 _ (by omega)]
    congr 1; omega
/-- The first so many values of a row, one behind the other. -/
def cat (vs : List (List UInt8)) (j : Nat) : Nat := ((vs.take j).flatten).length
theorem cat_succ {vs : List (List UInt8)} {j : Nat} (h : j < vs.length) : cat vs (j + 1) = cat vs j + (vs[j]).length := by
  unfold cat
  rw [List.take_succ_eq_append_getElem h, List.flatten_append, List.length_append]
  simp
theorem cat_all (vs : List (List UInt8)) : cat vs vs.length = vs.flatten.length := by unfold cat; rw [List.take_length]
theorem At.cat {s : List UInt8} {p : Nat} {vs : List (List UInt8)} (h : At s p vs.flatten) {j : Nat} (hj : j < vs.length) : At s (p + cat vs j) vs[j] := by
  have e : vs.flatten = (vs.take j).flatten ++ (vs[j] ++ (vs.drop (j + 1)).flatten) := by
    have e : vs.take j ++ (vs[j] :: vs.drop (j + 1)) = vs := by rw [← List.drop_eq_getElem_cons hj, List.take_append_drop]
    exact (congrArg List.flatten e).symm.trans (by rw [List.flatten_append, List.flatten_cons])
  rw [e] at h
  exact h.right.left
theorem head_ne {s v : List UInt8} {d p : Nat} (hv : Tx d v) (h : At s p v) : ∃ b, rd s (p : Int) = some b ∧ b ≠ 93 ∧ b ≠ 125 := by
  obtain ⟨b, r, rfl, h1, h2⟩ := hv.head
  exact ⟨b, h.head, h1, h2⟩
theorem Tx.pos {d : Nat} {v : List UInt8} (h : Tx d v) : 0 < v.length := by
  obtain ⟨b, r, rfl, _⟩ := h.head
  simp
theorem flatten_ge : ∀ (vs : List (List UInt8)), (∀ w ∈ vs, 0 < w.length) → vs.length ≤ vs.flatten.length
  | [], _ => Nat.le_refl _
  | v :: vs, h => by
    have h1 := h v List.mem_cons_self
    have h2 := flatten_ge vs fun w hw => h w (List.mem_cons_of_mem _ hw)
    simp only [List.length_cons, List.flatten_cons, List.length_append]; omega
theorem take_flatten_le {vs : List (List UInt8)} (j : Nat) : cat vs j ≤ vs.flatten.length := by
  have e : vs.flatten = (vs.take j).flatten ++ (vs.drop j).flatten := by rw [← List.flatten_append, List.take_append_drop]
  unfold cat
  rw [e, List.length_append]; omega
theorem end_none {k : Nat} (hk : 200 ≤ k) {s v : List UInt8} (b : Bool) (hv : v = if b then listT [] else structT []) {p : Nat} (h : At s p v) (hs : s.length ≤ 100000) (D : Int) : quiverref7_end.f idb k s (p : Int) D = some ((p + v.length : Nat) : Int) := by
  obtain ⟨k, rfl⟩ : ∃ q, k = q + 1 := ⟨k - 1, by omega⟩
  obtain ⟨k, rfl⟩ : ∃ q, k = q + 1 := ⟨k - 1, by omega⟩
  have hl := h.le
  have row : ∀ c : UInt8, At s (p + 1) [c] → p + 1 < s.length → quiverref7_end.l1 idb (k + 1) (k + 1) s ((p + 1 : Nat) : Int) D (c.toNat : Int) = some ((p + 2 : Nat) : Int) := by
    intro c hc hlt
    have hh := At.head hc
    rw [quiverref7_end.l1_eq, dT (show ((p + 1 : Nat) : Int) < (s.length : Int) by omega), cT, hh, bS, bne_self_eq_false, cF, bS, BEq.rfl, cT, wsucc (by omega), cT]
    cases decide (D > 0) <;> rfl
  subst hv
  cases b with
  | true =>
    have hl' : p + 2 ≤ s.length := hl
    have hh : At s p (91 :: [93]) := h
    have hr : At s (p + 1) [93] := At.right (a := [91]) hh
    rw [quiverref7_end.f_eq, dF (by omega), cF, hh.head, bS, show (((91 : UInt8).toNat : Int)) = 91 from rfl]
    simp only [show ((91 : Int) == 110) = false from by decide, show ((91 : Int) == 116) = false from by decide, show ((91 : Int) == 102) = false from by decide, show ((91 : Int) == 105) = false from by decide, show ((91 : Int) == 115) = false from by decide, BEq.rfl, cT, cF]
    rw [bS, wsucc (by omega), show IntKind.u8.wrap (((91 : UInt8).toNat : Int) + 2) = (((93 : UInt8)).toNat : Int) from by decide]
    exact row 93 hr (by omega)
  | false =>
    have hl' : p + 2 ≤ s.length := hl
    have hh : At s p (123 :: [125]) := h
    have hr : At s (p + 1) [125] := At.right (a := [123]) hh
    rw [quiverref7_end.f_eq, dF (by omega), cF, hh.head, bS, show (((123 : UInt8).toNat : Int)) = 123 from rfl]
    simp only [show ((123 : Int) == 110) = false from by decide, show ((123 : Int) == 116) = false from by decide, show ((123 : Int) == 102) = false from by decide, show ((123 : Int) == 105) = false from by decide, show ((123 : Int) == 115) = false from by decide, show ((123 : Int) == 91) = false from by decide, BEq.rfl, cT, cF]
    rw [bS, wsucc (by omega), show IntKind.u8.wrap (((123 : UInt8).toNat : Int) + 2) = (((125 : UInt8)).toNat : Int) from by decide]
    exact row 125 hr (by omega)
theorem end_ok : ∀ (d : Nat) {k : Nat}, 100200 + d ≤ k → ∀ {s v : List UInt8}, Tx d v → ∀ {p : Nat}, At s p v → s.length ≤ 100000 → ∀ {D : Int}, (d : Int) ≤ D → D ≤ 100 → quiverref7_end.f idb k s (p : Int) D = some ((p + v.length : Nat) : Int)
  | 0, k, hk, s, v, hv, p, h, hs, D, _, _ => by
    rcases hv with hv | hv | hv
    · exact end_leaf (by omega) hv h (by omega) D
    · exact end_none (by omega) true hv h hs D
    · exact end_none (by omega) false hv h hs D
  | d + 1, k, hk, s, v, hv, p, h, hs, D, hD, hD2 => by
    rcases hv with hv | ⟨vs, hvs, hv⟩
    · exact end_leaf (by omega) hv h (by omega) D
    obtain ⟨k, rfl⟩ : ∃ q, k = q + 1 := ⟨k - 1, by omega⟩
    have hl := h.le
    have hvl : v.length = vs.flatten.length + 2 := by
      rcases hv with rfl | rfl
      · unfold listT; simp only [List.length_append, List.length_cons, List.length_nil]; omega
      · unfold structT; simp only [List.length_append, List.length_cons, List.length_nil]; omega
    have hn := flatten_ge vs fun w hw => (hvs w hw).pos
    -- the row
    have row : ∀ c : UInt8, (c = 93 ∨ c = 125) → At s (p + 1) (vs.flatten ++ [c]) → quiverref7_end.l1 idb k k s ((p + 1 : Nat) : Int) D (c.toNat : Int) = some ((p + v.length : Nat) : Int) := by
      intro c hc hrow
      have hfl := hrow.left
      have hlast := hrow.right
      have key := loop_up (F := fun n j => quiverref7_end.l1 idb k n s ((p + 1 + cat vs j : Nat) : Int) D (c.toNat : Int)) (N := vs.length) (r := some ((p + v.length : Nat) : Int)) ?_ ?_ k 0 (by omega) (by omega)
      · exact key
      · intro n j hj
        have hw := hvs _ (List.getElem_mem hj)
        have hat := hfl.cat hj
        obtain ⟨b, hb, n1, n2⟩ := head_ne hw hat
        have hle := hat.le
        have hp := hw.pos
        have hne : ((b.toNat : Int) != (c.toNat : Int)) = true := by
          rw [bne_iff_ne]
          intro e
          have : b = c := UInt8.toNat_inj.1 (by omega)
          rcases hc with rfl | rfl
          · exact n1 this
          · exact n2 this
        rw [quiverref7_end.l1_eq, dT (by omega), cT, dT (by omega), cT, hb, bS, hne, cT, wi64 (D - 1) (by omega), end_ok d (k := k) (by omega) hw hat hs (by omega) (by omega), bS, dF (by omega), cF, cat_succ hj, Nat.add_assoc (p + 1)]
      · intro n
        have hh : rd s ((p + 1 + cat vs vs.length : Nat) : Int) = some c := by rw [cat_all]; exact At.head hlast
        have hle := hlast.le
        rw [List.length_singleton] at hle
        have e := cat_all vs
        have hne : ((c.toNat : Int) != (c.toNat : Int)) = false := by simp
        rw [quiverref7_end.l1_eq, dT (by omega), cT, dT (by omega), cT, hh, bS, hne, cF, bS, BEq.rfl, cT, cT, wsucc (by omega), show p + 1 + cat vs vs.length + 1 = p + v.length by omega]
    rcases hv with rfl | rfl
    · have hh : At s p (91 :: (vs.flatten ++ [93])) := by have := h; unfold listT at this; simpa using this
      have hr : At s (p + 1) (vs.flatten ++ [93]) := At.right (a := [91]) hh
      rw [quiverref7_end.f_eq, dF (by omega), cF, hh.head, bS, show (((91 : UInt8).toNat : Int)) = 91 from rfl]
      simp only [show ((91 : Int) == 110) = false from by decide, show ((91 : Int) == 116) = false from by decide, show ((91 : Int) == 102) = false from by decide, show ((91 : Int) == 105) = false from by decide, show ((91 : Int) == 115) = false from by decide, BEq.rfl, cT, cF]
      rw [bS, wsucc (by omega), show IntKind.u8.wrap (((91 : UInt8).toNat : Int) + 2) = (((93 : UInt8)).toNat : Int) from by decide]
      exact row 93 (.inl rfl) hr
    · have hh : At s p (123 :: (vs.flatten ++ [125])) := by have := h; unfold structT at this; simpa using this
      have hr : At s (p + 1) (vs.flatten ++ [125]) := At.right (a := [123]) hh
      rw [quiverref7_end.f_eq, dF (by omega), cF, hh.head, bS, show (((123 : UInt8).toNat : Int)) = 123 from rfl]
      simp only [show ((123 : Int) == 110) = false from by decide, show ((123 : Int) == 116) = false from by decide, show ((123 : Int) == 102) = false from by decide, show ((123 : Int) == 105) = false from by decide, show ((123 : Int) == 115) = false from by decide, show ((123 : Int) == 91) = false from by decide, BEq.rfl, cT, cF]
      rw [bS, wsucc (by omega), show IntKind.u8.wrap (((123 : UInt8).toNat : Int) + 2) = (((125 : UInt8)).toNat : Int) from by decide]
      exact row 125 (.inr rfl) hr
theorem At.whole (v : List UInt8) : At v 0 v := ⟨[], [], by simp, rfl⟩
theorem Tx.mono : ∀ (d : Nat) {v : List UInt8}, Tx d v → Tx (d + 1) v
  | 0, _, h => by
    rcases h with h | rfl | rfl
    · exact .inl h
    · exact .inr ⟨[], (fun w hw => by cases hw), .inl rfl⟩
    · exact .inr ⟨[], (fun w hw => by cases hw), .inr rfl⟩
  | d + 1, _, h => by
    rcases h with h | ⟨vs, hvs, hv⟩
    · exact .inl h
    · exact .inr ⟨vs, fun w hw => Tx.mono d (hvs w hw), hv⟩
theorem Tx.up {d e : Nat} {v : List UInt8} (h : Tx d v) (hde : d ≤ e) : Tx e v := by
  induction e with
  | zero => rw [show d = 0 by omega] at h; exact h
  | succ e ih =>
    by_cases hd : d ≤ e
    · exact (ih hd).mono
    · rw [show d = e + 1 by omega] at h; exact h
theorem end_whole {k : Nat} (hk : 100300 ≤ k) {v : List UInt8} (hv : Tx 4 v) (hl : v.length ≤ 65536) : quiverref7_end.f idb k v 0 4 = some ((v.length : Nat) : Int) := by
  have := end_ok 4 (k := k) (by omega) hv (At.whole v) (by omega) (D := 4) (by omega) (by omega)
  rw [show ((0 : Nat) : Int) = 0 from rfl, Nat.zero_add] at this
  exact this
theorem Parts_nil {k : Nat} (hk : 100301 ≤ k) : quiverref7_Parts.f idb k [110] = some (-1, [], 0) := by
  obtain ⟨k, rfl⟩ : ∃ q, k = q + 1 := ⟨k - 1, by omega⟩
  have := end_whole (k := k) (by omega) (Leafy.n.tx 4) (by decide)
  rw [quiverref7_Parts.f_eq, dF (by decide), Bool.not_false, cT, this, bS]
  rfl
theorem Parts_bool {k : Nat} (hk : 100301 ≤ k) (b : Bool) : quiverref7_Parts.f idb k (boolT b) = some (1, [boolT b], 0) := by
  obtain ⟨k, rfl⟩ : ∃ q, k = q + 1 := ⟨k - 1, by omega⟩
  cases b with
  | true =>
    have := end_whole (k := k) (by omega) (Leafy.t.tx 4) (by decide)
    show quiverref7_Parts.f idb (k + 1) [116] = _
    rw [quiverref7_Parts.f_eq, dF (by decide), Bool.not_false, cT, this, bS]
    rfl
  | false =>
    have := end_whole (k := k) (by omega) (Leafy.f.tx 4) (by decide)
    show quiverref7_Parts.f idb (k + 1) [102] = _
    rw [quiverref7_Parts.f_eq, dF (by decide), Bool.not_false, cT, this, bS]
    rfl
theorem Parts_bytes' {k : Nat} (hk : 100301 ≤ k) {l : List UInt8} (hl : (bytesT l).length ≤ 65536) : quiverref7_Parts.f idb k (bytesT l) = some (2, [l], 0) := by
  obtain ⟨k, rfl⟩ : ∃ q, k = q + 1 := ⟨k - 1, by omega⟩
  have hx : digT ((l.length : Nat) : Int) = dec l.length := digT_nat _
  have hlen : (bytesT l).length = (dec l.length).length + 2 + l.length := by unfold bytesT; simp only [List.length_append, List.length_cons, List.length_nil]; omega
  obtain ⟨c1, c2⟩ := digT_chars (x := ((l.length : Nat) : Int)) (by omega) (by omega)
  rw [hx] at c1 c2
  have := end_whole (k := k) (by omega) ((Leafy.s l (by omega)).tx 4) (by omega)
  have hh : At (bytesT l) 0 (115 :: (dec l.length ++ [58] ++ l)) := by have := At.whole (bytesT l); unfold bytesT at this ⊢; simpa using this
  have hd := hh.head
  rw [show ((0 : Nat) : Int) = 0 from rfl] at hd
  have hb1 : At (bytesT l) 0 (([115] ++ dec l.length) ++ [58]) := At.left (b := l) (At.whole _)
  have hu := upto_ok (k := k) (by omega) (m := [115] ++ dec l.length) (c := 58) (p := 0) hb1 (by simp; omega) (fun b hb => by
    rcases List.mem_append.1 hb with hb | hb
    · rw [List.mem_singleton.1 hb]; decide
    · exact (c2 b hb).1) (by omega)
  rw [List.length_append, List.length_singleton, show (((58 : UInt8).toNat : Int)) = 58 from rfl, show ((0 : Nat) : Int) = 0 from rfl] at hu
  rw [quiverref7_Parts.f_eq, dF (by omega), Bool.not_false, cT, this, bS, show (((bytesT l).length : Int) != ((bytesT l).length : Int)) = false by simp, cF, hd, bS, show (((115 : UInt8).toNat : Int)) = 115 from rfl]
  simp only [show ((115 : Int) == 110) = false from by decide, show ((115 : Int) == 105) = false from by decide, show ((115 : Int) == 116) = false from by decide, show ((115 : Int) == 102) = false from by decide, BEq.rfl, cT, cF]
  rw [hu, bS, wsucc (by omega), dT (by omega), dT (by omega)]
  simp only [Bool.and_self, cT, Int.toNat_natCast]
  have e : (bytesT l).drop (0 + (1 + (dec l.length).length) + 1) = l := by
    unfold bytesT
    rw [List.drop_left']
    simp only [List.length_append, List.length_cons, List.length_nil]; omega
  rw [List.take_length, e]
theorem Parts_row {k : Nat} (hk : 100301 ≤ k) {d : Nat} (hd : d + 1 ≤ 4) {vs : List (List UInt8)} (hvs : ∀ w ∈ vs, Tx d w) (b : Bool) (hl : vs.flatten.length ≤ 65534) :
    quiverref7_Parts.f idb k (if b then listT vs else structT vs) = some (if b then 3 else 4, vs, 0) := by
  obtain ⟨k, rfl⟩ : ∃ q, k = q + 1 := ⟨k - 1, by omega⟩
  generalize hv : (if b then listT vs else structT vs) = v
  have hvl : v.length = vs.flatten.length + 2 := by
    rw [← hv]
    cases b
    · simp only [Bool.false_eq_true, if_false]; unfold structT; simp only [List.length_append, List.length_cons, List.length_nil]; omega
    · simp only [if_true]; unfold listT; simp only [List.length_append, List.length_cons, List.length_nil]; omega
  have htx : Tx (d + 1) v := .inr ⟨vs, hvs, by rw [← hv]; cases b <;> simp⟩
  have hen := end_whole (k := k) (by omega) (htx.up hd) (by omega)
  have hn := flatten_ge vs fun w hw => (hvs w hw).pos
  have hfl : At v 1 vs.flatten := by
    rw [← hv]
    cases b
    · simp only [Bool.false_eq_true, if_false]; unfold structT; exact ⟨[123], [125], by simp, rfl⟩
    · simp only [if_true]; unfold listT; exact ⟨[91], [93], by simp, rfl⟩
  have hd0 : rd v 0 = some (if b then 91 else 123) := by
    have hh : At v 0 ((if b then 91 else 123) :: (vs.flatten ++ [if b then 93 else 125])) := by
      rw [← hv]
      cases b
      · exact ⟨[], [], by simp [structT], rfl⟩
      · exact ⟨[], [], by simp [listT], rfl⟩
    exact hh.head
  have row : quiverref7_Parts.l1 idb k k v 1 [] = some (if b then 3 else 4, vs, 0) := by
    have key := loop_up (F := fun n j => quiverref7_Parts.l1 idb k n v ((1 + cat vs j : Nat) : Int) (vs.take j)) (N := vs.length) (r := some (if b then 3 else 4, vs, 0)) ?_ ?_ k 0 (by omega) (by omega)
    · exact key
    · intro n j hj
      have hw := hvs _ (List.getElem_mem hj)
      have hat := hfl.cat hj
      have hle := hat.le
      have hp := hw.pos
      have hsl := hat.slice
      have hc := take_flatten_le (vs := vs) (j + 1)
      rw [cat_succ hj] at hc
      have hend := end_ok d (k := k) (by omega) hw hat (by omega) (D := 4) (by omega) (by omega)
      rw [quiverref7_Parts.l1_eq, wi64 ((v.length : Int) - 1) (by omega), dT (by omega), cT, hend, bS, dT (by omega), dT (by omega), dT (by omega), dT (by omega)]
      simp only [Bool.and_self, cT, Int.toNat_natCast]
      rw [hsl, dT (by simp only [List.length_take, List.length_cons, List.length_nil]; omega), cT, cat_succ hj, ← List.take_succ_eq_append_getElem hj, Nat.add_assoc 1]
    · intro n
      have e := cat_all vs
      rw [quiverref7_Parts.l1_eq, wi64 ((v.length : Int) - 1) (by omega), dF (by omega), cF, hd0, bS, List.take_length]
      cases b <;> rfl
  rw [quiverref7_Parts.f_eq, dF (by omega), Bool.not_false, cT, hen, bS, show ((v.length : Int) != (v.length : Int)) = false by simp, cF, hd0, bS]
  have q1 : ((((if b then 91 else 123 : UInt8)).toNat : Int) == 110) = false := by cases b <;> rfl
  have q2 : ((((if b then 91 else 123 : UInt8)).toNat : Int) == 105) = false := by cases b <;> rfl
  have q3 : ((((if b then 91 else 123 : UInt8)).toNat : Int) == 116) = false := by cases b <;> rfl
  have q4 : ((((if b then 91 else 123 : UInt8)).toNat : Int) == 102) = false := by cases b <;> rfl
  have q5 : ((((if b then 91 else 123 : UInt8)).toNat : Int) == 115) = false := by cases b <;> rfl
  simp only [q1, q2, q3, q4, q5, cF]
  show quiverref7_Parts.j13 idb k v = _
  rw [quiverref7_Parts.j13_eq]
  exact row
/-- How deep a node's texts may be. -/
def dp (t : List Nod) (a : Int) : Nat := 5 - (wayL t a).length
theorem dp_kid {t : List Nod} (hm : mayT t = true) {i j : Nat} (hj : j < (kidsL t (i : Int)).length) : dp t (i : Int) = dp t (ksT t (i : Int) j) + 1 := by
  have hmem : ksT t (i : Int) j ∈ kidsL t (i : Int) := by unfold ksT; rw [getD_get hj]; exact List.getElem_mem hj
  obtain ⟨q, h1, _, h3, h4⟩ := mem_kidsL.1 hmem
  have hs := mayT_stands hm
  have hw := wayL_up hs h1
  have h5 := (((mayT_iff t).1 hm).2.2 q h1).2
  unfold dp
  rw [h4, hw, h3]
  rw [hw, h3] at h5
  simp only [List.length_cons] at h5 ⊢
  omega
theorem dp_le {t : List Nod} (hm : mayT t = true) {i : Nat} (hi : i < t.length) : dp t (i : Int) ≤ 4 := by
  have := wayL_length (mayT_stands hm) i hi
  unfold dp; omega
def In64 (x : Int) : Prop := -9223372036854775808 ≤ x ∧ x ≤ 9223372036854775807
theorem In64.wrap (x : Int) : In64 (IntKind.i64.wrap x) := by unfold In64; rw [IntKind.wrap_i64]; omega
theorem At.eq {s v : List UInt8} {p : Nat} (h : At s p v) : (s.drop p).take v.length = v := by
  obtain ⟨pre, post, rfl, rfl⟩ := h
  rw [List.append_assoc, List.drop_left, List.take_left]
theorem At.one {s : List UInt8} {p : Nat} (h : p < s.length) : At s p [s[p]] := by
  refine ⟨s.take p, s.drop (p + 1), ?_, by rw [List.length_take]; omega⟩
  rw [List.append_assoc, List.singleton_append, ← List.drop_eq_getElem_cons h, List.take_append_drop]
def Rows : Nat → List (List UInt8) → Prop
  | 0, us => us = []
  | d + 1, us => ∀ w ∈ us, Tx d w
/-- What a text's parts are. -/
inductive Shape : List UInt8 → Int → List (List UInt8) → Prop
  | n : Shape [110] (-1) []
  | i (x : Int) (h : In64 x) : Shape (intT x) 0 [digT x]
  | b (b : Bool) : Shape (boolT b) 1 [boolT b]
  | s (l : List UInt8) : Shape (bytesT l) 2 [l]
  | l (vs : List (List UInt8)) (h : ∀ w ∈ vs, Tx 3 w) : Shape (listT vs) 3 vs
  | r (vs : List (List UInt8)) (h : ∀ w ∈ vs, Tx 3 w) : Shape (structT vs) 4 vs
theorem Parts_int' {k : Nat} (hk : 100301 ≤ k) {x : Int} (h : In64 x) : quiverref7_Parts.f idb k (intT x) = some (0, [digT x], 0) := by
  obtain ⟨h0, h1⟩ := h
  obtain ⟨k, rfl⟩ : ∃ q, k = q + 1 := ⟨k - 1, by omega⟩
  obtain ⟨c1, _⟩ := digT_chars h0 h1
  have hlen : (intT x).length = (digT x).length + 2 := by unfold intT; simp only [List.length_append, List.length_cons, List.length_nil]; omega
  have := end_whole (k := k) (by omega) ((Leafy.i x h0 h1).tx 4) (by omega)
  have hh : At (intT x) 0 (105 :: (digT x ++ [59])) := At.whole _
  have hd := hh.head
  rw [show ((0 : Nat) : Int) = 0 from rfl] at hd
  have hs : At (intT x) 1 (digT x ++ [59]) := At.right (a := [105]) hh
  have hsl := hs.left.slice
  rw [quiverref7_Parts.f_eq, dF (by omega), Bool.not_false, cT, this, bS, show (((intT x).length : Int) != ((intT x).length : Int)) = false by simp, cF, hd, bS, show (((105 : UInt8).toNat : Int)) = 105 from rfl]
  simp only [show ((105 : Int) == 110) = false from by decide, BEq.rfl, cT, cF]
  rw [wi64 _ (by omega), dT (by omega), dT (by omega), dT (show (0 : Nat) ≤ 1 by omega), dT (by omega)]
  simp only [Bool.and_self, cT]
  rw [show ((((intT x).length : Nat) : Int) - 1).toNat = 1 + (digT x).length by omega, hsl]
theorem Parts_shape {k : Nat} (hk : 100301 ≤ k) {v : List UInt8} {kd : Int} {ps : List (List UInt8)} (h : Shape v kd ps) (hl : v.length ≤ 65536) : quiverref7_Parts.f idb k v = some (kd, ps, 0) := by
  cases h with
  | n => exact Parts_nil hk
  | i x h => exact Parts_int' hk h
  | b b => exact Parts_bool hk b
  | s l => exact Parts_bytes' hk hl
  | l vs h =>
    have := Parts_row hk (d := 3) (by omega) h true (by unfold listT at hl; simp only [List.length_append, List.length_cons, List.length_nil] at hl; omega)
    simpa using this
  | r vs h =>
    have := Parts_row hk (d := 3) (by omega) h false (by unfold structT at hl; simp only [List.length_append, List.length_cons, List.length_nil] at hl; omega)
    simpa using this
theorem Tx.shape {v : List UInt8} (h : Tx 4 v) : ∃ kd ps, Shape v kd ps := by
  rcases h with h | ⟨vs, hvs, rfl | rfl⟩
  · cases h with
    | n => exact ⟨_, _, .n⟩
    | t => exact ⟨_, _, .b true⟩
    | f => exact ⟨_, _, .b false⟩
    | i x h0 h1 => exact ⟨_, _, .i x ⟨h0, h1⟩⟩
    | s l => exact ⟨_, _, .s l⟩
  · exact ⟨_, _, .l vs hvs⟩
  · exact ⟨_, _, .r vs hvs⟩
inductive Vl where
  | n
  | i (x : Int)
  | b (b : Bool)
  | s (l : List UInt8)
  | l (vs : List Vl)
  | r (vs : List Vl)
mutual
def Vl.txt : Vl → List UInt8
  | .n => [110]
  | .i x => intT x
  | .b c => boolT c
  | .s y => bytesT y
  | .l vs => [91] ++ Vl.txts vs ++ [93]
  | .r vs => [123] ++ Vl.txts vs ++ [125]
def Vl.txts : List Vl → List UInt8
  | [] => []
  | v :: vs => v.txt ++ Vl.txts vs
end
theorem txts_map : ∀ vs : List Vl, Vl.txts vs = (vs.map Vl.txt).flatten
  | [] => by simp [Vl.txts]
  | v :: vs => by rw [Vl.txts, txts_map vs]; rfl
theorem txt_l (vs : List Vl) : (Vl.l vs).txt = listT (vs.map Vl.txt) := by rw [Vl.txt, txts_map]; rfl
theorem txt_r (vs : List Vl) : (Vl.r vs).txt = structT (vs.map Vl.txt) := by rw [Vl.txt, txts_map]; rfl
/-- May a value be a node's? -/
def Typed : Nat → List Nod → Int → Vl → Prop
  | 0, _, _, _ => False
  | f + 1, t, a, v => nodeB t a = true ∧ match v with
    | .n => nul t a.toNat = true
    | .i x => knd t a.toNat = 0 ∧ In64 x
    | .b _ => knd t a.toNat = 1
    | .s l => knd t a.toNat = 2 ∧ l.length ≤ 16
    | .l vs => knd t a.toNat = 3 ∧ vs.length ≤ 64 ∧ ∀ w ∈ vs, Typed f t (ksT t a 0) w
    | .r vs => knd t a.toNat = 4 ∧ vs.length = (kidsL t a).length ∧ ∀ j (h : j < vs.length), Typed f t (ksT t a j) vs[j]
theorem kid1 {t : List Nod} (hm : mayT t = true) {i : Nat} (hi : i < t.length) (h : knd t i = 3) : (kidsL t (i : Int)).length = 1 := by
  have := (((mayT_iff t).1 hm).2.2 i hi).1
  unfold kidsB at this
  rw [h] at this
  simp only [Bool.and_eq_true, Bool.or_eq_true, Bool.not_eq_true', beq_eq_false_iff_ne, beq_iff_eq] at this
  rcases this.1 with h | h
  · exact absurd rfl h
  · exact h
theorem kid4 {t : List Nod} (hm : mayT t = true) {i : Nat} (hi : i < t.length) (h : knd t i = 4) : 0 < (kidsL t (i : Int)).length := by
  have := (((mayT_iff t).1 hm).2.2 i hi).1
  unfold kidsB at this
  rw [h] at this
  simp only [Bool.and_eq_true, Bool.or_eq_true, Bool.not_eq_true', beq_eq_false_iff_ne] at this
  rcases this.2 with h | h
  · simp at h
  · omega
theorem Typed.tx : ∀ (f : Nat) {t : List Nod} {a : Int} {v : Vl}, Typed f t a v → Tx (dp t a) v.txt
  | 0, _, _, _, h => h.elim
  | f + 1, t, a, v, h => by
    obtain ⟨hn, h⟩ := h
    obtain ⟨hm, i, hi, rfl⟩ := nodeB_may hn
    rw [Int.toNat_natCast] at h
    cases v with
    | n => rw [Vl.txt]; exact Leafy.n.tx _
    | i x => rw [Vl.txt]; exact (Leafy.i x h.2.1 h.2.2).tx _
    | b b =>
      rw [Vl.txt]
      cases b with
      | false => exact Leafy.f.tx _
      | true => exact Leafy.t.tx _
    | s l => rw [Vl.txt]; exact (Leafy.s l (by have := h.2; omega)).tx _
    | l vs =>
      obtain ⟨h3, h64, h⟩ := h
      rw [txt_l, dp_kid hm (i := i) (j := 0) (by rw [kid1 hm hi h3]; omega)]
      refine .inr ⟨_, fun w hw => ?_, .inl rfl⟩
      obtain ⟨u, hu, rfl⟩ := List.mem_map.1 hw
      exact (h u hu).tx f
    | r vs =>
      obtain ⟨h4, hl, h⟩ := h
      have hk := kid4 hm hi h4
      rw [txt_r, dp_kid hm (i := i) (j := 0) hk]
      refine .inr ⟨_, fun w hw => ?_, .inr rfl⟩
      obtain ⟨u, hu, rfl⟩ := List.mem_map.1 hw
      obtain ⟨j, hj, rfl⟩ := List.mem_iff_getElem.1 hu
      have := (h j hj).tx f
      have e1 := dp_kid hm (i := i) (j := 0) hk
      have e2 := dp_kid hm (i := i) (j := j) (by omega)
      rw [show dp t (ksT t (i : Int) 0) = dp t (ksT t (i : Int) j) by omega]
      exact this
/-- The parts of a node's value. -/
def Vl.kd : Vl → Int
  | .n => -1 | .i _ => 0 | .b _ => 1 | .s _ => 2 | .l _ => 3 | .r _ => 4
def Vl.ps : Vl → List (List UInt8)
  | .n => [] | .i x => [digT x] | .b c => [boolT c] | .s y => [y] | .l vs => vs.map Vl.txt | .r vs => vs.map Vl.txt
theorem Typed.shape {f : Nat} {t : List Nod} {a : Int} {v : Vl} (h : Typed f t a v) : Shape v.txt v.kd v.ps := by
  have htx := h.tx f
  cases f with
  | zero => exact h.elim
  | succ f =>
    obtain ⟨hn, h⟩ := h
    obtain ⟨hm, i, hi, rfl⟩ := nodeB_may hn
    have hd := dp_le hm hi
    rw [Int.toNat_natCast] at h
    cases v with
    | n => rw [Vl.txt]; exact .n
    | i x => rw [Vl.txt]; exact .i x h.2
    | b b => rw [Vl.txt]; exact .b b
    | s l => rw [Vl.txt]; exact .s l
    | l vs =>
      rw [txt_l]
      refine Shape.l (vs.map Vl.txt) fun w hw => ?_
      obtain ⟨u, hu, rfl⟩ := List.mem_map.1 hw
      have e := dp_kid hm (i := i) (j := 0) (by rw [kid1 hm hi h.1]; omega)
      exact ((h.2.2 u hu).tx f).up (by omega)
    | r vs =>
      rw [txt_r]
      refine Shape.r (vs.map Vl.txt) fun w hw => ?_
      obtain ⟨u, hu, rfl⟩ := List.mem_map.1 hw
      obtain ⟨j, hj, rfl⟩ := List.mem_iff_getElem.1 hu
      have e := dp_kid hm (i := i) (j := j) (by have := h.2.1; omega)
      exact ((h.2.2 j hj).tx f).up (by omega)
theorem Typed.parts {f k : Nat} (hk : 100301 ≤ k) {t : List Nod} {a : Int} {v : Vl} (h : Typed f t a v) (hl : v.txt.length ≤ 65536) : quiverref7_Parts.f idb k v.txt = some (v.kd, v.ps, 0) :=
  Parts_shape hk h.shape hl
theorem and1_u8' {x : Int} : bitsOp .and .u8 x 1 = x % 2 := by
  rw [bitsOp_and, wu8]
  have e1 : (1 % (2 ^ IntKind.u8.bits : Int)).toNat = 1 := by decide
  rw [e1, Nat.and_one_is_mod]
  simp only [IntKind.bits]
  omega
theorem fdiv_pow' (x : Int) (n : Nat) : Int.fdiv x (2 ^ n) = x / 2 ^ n := Int.fdiv_eq_ediv_of_nonneg _ (Int.le_of_lt (Int.pow_pos (by omega)))
/-- The first so many bits of a byte of truths. -/
def byteN (xs : List Bool) (q : Nat) : Nat → Nat
  | 0 => 0
  | n + 1 => byteN xs q n + (if xs[8 * q + n]? = some true then 2 ^ n else 0)
theorem byteN_lt (xs : List Bool) (q : Nat) : ∀ n, byteN xs q n < 2 ^ n
  | 0 => Nat.one_pos
  | n + 1 => by
    have := byteN_lt xs q n
    rw [byteN, Nat.pow_succ]
    split <;> omega
theorem byteN_bit (xs : List Bool) (q : Nat) : ∀ n r, byteN xs q n / 2 ^ r % 2 = if r < n ∧ xs[8 * q + r]? = some true then 1 else 0
  | 0, r => by rw [byteN, Nat.zero_div, if_neg (by omega)]
  | n + 1, r => by
    have hlt := byteN_lt xs q n
    have ih := byteN_bit xs q n r
    rw [byteN]
    by_cases hr : r < n
    · obtain ⟨d, hd⟩ : ∃ d, n = r + 1 + d := ⟨n - (r + 1), by omega⟩
      have e : ∀ z : Nat, (byteN xs q n + 2 ^ n * z) / 2 ^ r % 2 = byteN xs q n / 2 ^ r % 2 := by
        intro z
        have : 2 ^ n * z = 2 ^ r * (2 * (2 ^ d * z)) := by rw [hd, Nat.pow_add, Nat.pow_succ]; simp only [Nat.mul_assoc]
        rw [this, Nat.add_mul_div_left _ _ (Nat.two_pow_pos r), Nat.add_mul_mod_self_left]
      have h2 : (r < n + 1 ∧ xs[8 * q + r]? = some true) ↔ (r < n ∧ xs[8 * q + r]? = some true) := by constructor <;> rintro ⟨_, h⟩ <;> exact ⟨by omega, h⟩
      have goal : byteN xs q n / 2 ^ r % 2 = if r < n + 1 ∧ xs[8 * q + r]? = some true then 1 else 0 := by
        rw [ih]
        by_cases hx : xs[8 * q + r]? = some true
        · rw [if_pos ⟨hr, hx⟩, if_pos ⟨by omega, hx⟩]
        · rw [if_neg (fun h => hx h.2), if_neg (fun h => hx h.2)]
      split
      · have := e 1; rw [Nat.mul_one] at this; rw [this]; exact goal
      · rw [Nat.add_zero]; exact goal
    · by_cases hrn : r = n
      · subst hrn
        by_cases hx : xs[8 * q + r]? = some true
        · rw [if_pos hx, if_pos ⟨by omega, hx⟩, Nat.add_div_right _ (Nat.two_pow_pos r), Nat.div_eq_of_lt hlt]
        · rw [if_neg hx, if_neg (fun h => hx h.2), Nat.add_zero, Nat.div_eq_of_lt hlt]
      · have hlt2 : byteN xs q n + (if xs[8 * q + n]? = some true then 2 ^ n else 0) < 2 ^ r := by
          have : 2 ^ (n + 1) ≤ 2 ^ r := Nat.pow_le_pow_right (by omega) (by omega)
          rw [Nat.pow_succ] at this
          split <;> omega
        rw [Nat.div_eq_of_lt hlt2, if_neg (by omega)]
/-- Truths as bits. -/
def bitsT (xs : List Bool) : List UInt8 := (List.range ((xs.length + 7) / 8)).map fun q => UInt8.ofNat (byteN xs q 8)
theorem bitsT_len (xs : List Bool) : (bitsT xs).length = (xs.length + 7) / 8 := by unfold bitsT; rw [List.length_map, List.length_range]
theorem bitsT_on (xs : List Bool) {i : Nat} (h : i < xs.length) : onB (bitsT xs) i = xs[i] := by
  have hl := bitsT_len xs
  have hq : i / 8 < (bitsT xs).length := by omega
  have hb : (bitsT xs)[i / 8] = UInt8.ofNat (byteN xs (i / 8) 8) := by simp [bitsT]
  have hlt : byteN xs (i / 8) 8 < 256 := byteN_lt xs (i / 8) 8
  unfold onB
  rw [List.getElem?_eq_getElem hq, hb]
  simp only
  have e : (UInt8.ofNat (byteN xs (i / 8) 8)).toNat = byteN xs (i / 8) 8 := by rw [UInt8.toNat_ofNat']; omega
  have hm : min (i % 8) IntKind.u8.bits = i % 8 := by simp only [IntKind.bits]; omega
  rw [e, hm, and1_u8', fdiv_pow']
  have e2 : ((byteN xs (i / 8) 8 : Nat) : Int) / 2 ^ (i % 8) % 2 = ((byteN xs (i / 8) 8 / 2 ^ (i % 8) % 2 : Nat) : Int) := by push_cast; rfl
  rw [e2, byteN_bit, show 8 * (i / 8) + i % 8 = i by omega, List.getElem?_eq_getElem h]
  cases xs[i] with
  | true => rw [if_pos ⟨by omega, rfl⟩]; rfl
  | false => rw [if_neg (by simp)]; rfl
def bits_at (xs : List Bool) (i : Nat) : List Int := (List.range ((xs.length + 7) / 8)).map fun q => ((byteN xs q (min 8 (i - 8 * q)) : Nat) : Int)
theorem strOf_bits (xs : List Bool) : strOfBytes (bits_at xs xs.length) = bitsT xs := by
  unfold strOfBytes bits_at bitsT
  rw [List.map_map]
  refine List.map_congr_left fun q hq => ?_
  have hq := List.mem_range.1 hq
  show UInt8.ofNat (((byteN xs q (min 8 (xs.length - 8 * q)) : Nat) : Int)).toNat = _
  rw [Int.toNat_natCast]
  congr 1
  by_cases h : 8 ≤ xs.length - 8 * q
  · rw [Nat.min_eq_left h]
  · have key : ∀ d n, n + d = 8 → xs.length - 8 * q ≤ n → byteN xs q n = byteN xs q 8 := by
      intro d
      induction d with
      | zero => intro n h1 _; rw [show n = 8 by omega]
      | succ d ih =>
        intro n h1 h2
        rw [← ih (n + 1) (by omega) (by omega), byteN, if_neg (by rw [List.getElem?_eq_none (by omega)]; simp), Nat.add_zero]
    rw [Nat.min_eq_right (by omega)]
    exact key (8 - (xs.length - 8 * q)) _ (by omega) (Nat.le_refl _)
theorem or_u8_disj (e r : Nat) (hr : r < 8) (he : e < 2 ^ r) : bitsOp .or .u8 (e : Int) (IntKind.u8.wrap (1 * 2 ^ (min r IntKind.u8.bits))) = ((e + 2 ^ r : Nat) : Int) := by
  have h2 : 2 ^ r ≤ 128 := by
    have : 2 ^ r ≤ 2 ^ 7 := Nat.pow_le_pow_right (by omega) (by omega)
    omega
  have hm : min r IntKind.u8.bits = r := by simp only [IntKind.bits]; omega
  have hp : ((2 : Int) ^ r) = ((2 ^ r : Nat) : Int) := by push_cast; rfl
  rw [hm, Int.one_mul, hp, wu8, bitsOp_or]
  have e1 : ((e : Int) % (2 ^ IntKind.u8.bits : Int)).toNat = e := by simp only [IntKind.bits]; omega
  have e2 : ((((2 ^ r : Nat) : Int) % 256) % (2 ^ IntKind.u8.bits : Int)).toNat = 1 * 2 ^ r := by simp only [IntKind.bits]; omega
  rw [e1, e2, or_shift e 1 r he, wu8]
  omega
theorem bits_at_get {xs : List Bool} {i q : Nat} (hq : q < (xs.length + 7) / 8) : (bits_at xs i)[q]? = some ((byteN xs q (min 8 (i - 8 * q)) : Nat) : Int) := by
  unfold bits_at
  rw [List.getElem?_map, List.getElem?_range hq]; rfl
theorem bits_at_on {xs : List Bool} {i : Nat} (h : i < xs.length) (hx : xs[i] = true) : (bits_at xs i).set (i / 8) (((byteN xs (i / 8) (i % 8) + 2 ^ (i % 8) : Nat)) : Int) = bits_at xs (i + 1) := by
  refine List.ext_getElem? fun q => ?_
  by_cases hq : q < (xs.length + 7) / 8
  · rw [List.getElem?_set]
    have hl : i / 8 < (bits_at xs i).length := by unfold bits_at; rw [List.length_map, List.length_range]; omega
    by_cases hiq : i / 8 = q
    · rw [if_pos hiq, if_pos hl, bits_at_get hq, ← hiq, show min 8 (i + 1 - 8 * (i / 8)) = i % 8 + 1 by omega, byteN, show 8 * (i / 8) + i % 8 = i by omega, List.getElem?_eq_getElem h, hx, if_pos rfl]
    · rw [if_neg hiq, bits_at_get hq, bits_at_get hq]
      congr 3
      omega
  · rw [List.getElem?_eq_none (by rw [List.length_set]; unfold bits_at; rw [List.length_map, List.length_range]; omega), List.getElem?_eq_none (by unfold bits_at; rw [List.length_map, List.length_range]; omega)]
theorem bits_at_off {xs : List Bool} {i : Nat} (h : i < xs.length) (hx : xs[i] = false) : bits_at xs i = bits_at xs (i + 1) := by
  unfold bits_at
  refine List.map_congr_left fun q _ => ?_
  congr 1
  by_cases hiq : i / 8 = q
  · rw [← hiq, show min 8 (i + 1 - 8 * (i / 8)) = i % 8 + 1 by omega, show min 8 (i - 8 * (i / 8)) = i % 8 by omega, byteN, show 8 * (i / 8) + i % 8 = i by omega, List.getElem?_eq_getElem h, hx, if_neg (by simp), Nat.add_zero]
  · rw [show min 8 (i + 1 - 8 * q) = min 8 (i - 8 * q) by omega]

end Go.Proofs.YtjkokaockhecnaaGreatDoorP
