/- What the functions below the laws answer, in plain lists and numbers; no condition but the sizes that a machine has. -/
import Derived.Test.YtppmpfddcohkjaaGreatDoorPArr5
import Derived.Laws.BitsLemmas
import Derived.KernelRfl
namespace Go.Proofs.YtppmpfddcohkjaaGreatDoorP
open Go Go.Proofs.YtppmpfddcohkjaaGreatDoorA

theorem arrB_buf {t : List Nod} {a : Int} {x : Arr} (h : arrB t a x = true) : nodeB t a = true ∧ Buf (nul t a.toNat) x := by
  rw [arrB_eq] at h
  simp only [Bool.and_eq_true] at h
  exact ⟨h.1, bufB_iff.1 h.2.1⟩
theorem Num_ok {k : Nat} (hk : 1 ≤ k) (x : Int) : quiverlaw0_Num.f idb k x = some x := by
  obtain ⟨k, rfl⟩ : ∃ m, k = m + 1 := ⟨k - 1, by omega⟩
  rw [quiverlaw0_Num.f_eq]
/-- A number's digits, so many at most. -/
def decI : Nat → Nat → List Int
  | 0, _ => []
  | f + 1, n => if n < 10 then [48 + (n : Int)] else decI f (n / 10) ++ [48 + ((n % 10 : Nat) : Int)]
theorem decI_len : ∀ f n, (decI f n).length ≤ f
  | 0, _ => Nat.le_refl _
  | f + 1, n => by
    unfold decI
    split
    · simp
    · have := decI_len f (n / 10)
      simp; omega
theorem decI_same : ∀ (f g n : Nat), n < 10 ^ f → n < 10 ^ g → 0 < f → 0 < g → decI f n = decI g n
  | 0, _, _, _, _, h, _ => by omega
  | _, 0, _, _, _, _, h => by omega
  | f + 1, g + 1, n, hf, hg, _, _ => by
    unfold decI
    by_cases h : n < 10
    · rw [if_pos h, if_pos h]
    · rw [if_neg h, if_neg h]
      have f0 : 0 < f := by
        rcases Nat.eq_zero_or_pos f with e | e
        · subst e; omega
        · exact e
      have g0 : 0 < g := by
        rcases Nat.eq_zero_or_pos g with e | e
        · subst e; omega
        · exact e
      rw [decI_same f g (n / 10) (by rw [Nat.pow_succ] at hf; omega) (by rw [Nat.pow_succ] at hg; omega) f0 g0]
def dec (n : Nat) : List UInt8 := strOfBytes (decI 20 n)
theorem dec_len (n : Nat) : (dec n).length ≤ 20 := by unfold dec; rw [strOfBytes_length]; exact decI_len 20 n
def fin10 (x : Int) (l : List Int) : List UInt8 := strOfBytes (if x < 0 then 45 :: l else l)
theorem digit_ok (n : Nat) : IntKind.u8.wrap (IntKind.u64.wrap (48 + (Int.tmod (n : Int) 10))) = 48 + ((n % 10 : Nat) : Int) := by
  rw [Int.tmod_eq_emod_of_nonneg (by omega), wu64 _ (by omega), wu8]; omega
theorem div10_ok {n : Nat} (h : n ≤ 18446744073709551615) : IntKind.u64.wrap (Int.tdiv (n : Int) 10) = ((n / 10 : Nat) : Int) := by
  rw [Int.tdiv_eq_ediv_of_nonneg (by omega), wu64 _ (by omega)]; omega
theorem Decimal_end {k n : Nat} (x : Int) {out : List Int} (h0 : out ≠ []) (hl : out.length ≤ 1000) : quiverref0_Decimal.l0 idb k (n + 1) x 0 out = some (fin10 x out) := by
  have e1 : (((out.length : Nat) : Int) == 0) = false := by
    rw [beq_eq_false_iff_ne]; intro h; exact h0 (List.length_eq_zero_iff.1 (by omega))
  rw [quiverref0_Decimal.l0_eq, dF (by omega), Bool.not_false, cT, e1, cF]
  unfold fin10
  by_cases h : x < 0
  · rw [dT h, cT, if_pos h, dT (by simp; omega), cT]; rfl
  · rw [dF h, cF, if_neg h]
theorem Decimal_l0 (k : Nat) (x : Int) : ∀ (f m : Nat) (out : List Int) (n : Nat), 0 < m → m < 10 ^ f → m ≤ 18446744073709551615 → f + 1 ≤ n → out.length + f ≤ 900 → quiverref0_Decimal.l0 idb k n x (m : Int) out = some (fin10 x (decI f m ++ out))
  | 0, m, _, _, h0, h1, _, _, _ => by simp at h1; omega
  | f + 1, m, out, n, h0, h1, h2, h3, h4 => by
    obtain ⟨n, rfl⟩ : ∃ q, n = q + 1 := ⟨n - 1, by omega⟩
    rw [quiverref0_Decimal.l0_eq, dT (show (m : Int) > 0 by omega), Bool.not_true, cF, digit_ok, div10_ok h2, dT (by simp; omega), cT]
    by_cases h : m < 10
    · have e : m / 10 = 0 := by omega
      obtain ⟨n, rfl⟩ : ∃ q, n = q + 1 := ⟨n - 1, by omega⟩
      rw [e, show ((0 : Nat) : Int) = 0 from rfl, Decimal_end x (by simp) (by simp; omega)]
      unfold decI
      rw [if_pos h, show m % 10 = m by omega]
    · rw [Decimal_l0 k x f (m / 10) _ n (by omega) (by rw [Nat.pow_succ] at h1; omega) (by omega) (by omega) (by simp; omega)]
      conv => rhs; unfold decI
      rw [if_neg h, List.append_assoc]
theorem Decimal_j4 {k : Nat} (hk : 100 ≤ k) (x : Int) {m : Nat} (hm : m ≤ 18446744073709551615) : quiverref0_Decimal.j4 idb k x (m : Int) = some (fin10 x (decI 20 m)) := by
  rw [quiverref0_Decimal.j4_eq]
  by_cases h : 0 < m
  · rw [Decimal_l0 k x 20 m [] k h (by omega) hm (by omega) (by simp), List.append_nil]
  · obtain rfl : m = 0 := by omega
    obtain ⟨q, rfl⟩ : ∃ q, k = q + 2 := ⟨k - 2, by omega⟩
    rw [show ((0 : Nat) : Int) = 0 from rfl]
    conv => lhs; rw [quiverref0_Decimal.l0_eq]
    rw [dF (by omega), Bool.not_false, cT, show ((([] : List Int).length : Int) == 0) = true from rfl, cT, dT (by simp), cT]
    have e : IntKind.u64.wrap (Int.tdiv 0 10) = 0 := by decide
    have e2 : IntKind.u8.wrap (IntKind.u64.wrap (48 + (Int.tmod 0 10))) = 48 := by decide
    rw [e, e2, Decimal_end x (by simp) (by simp)]
    rfl
/-- A whole number as it is written. -/
def digT (x : Int) : List UInt8 := if x < 0 then 45 :: dec x.natAbs else dec x.toNat
theorem digT_len (x : Int) : (digT x).length ≤ 21 := by
  unfold digT
  split
  · have := dec_len x.natAbs; simp; omega
  · have := dec_len x.toNat; omega
theorem Decimal_ok {k : Nat} (hk : 101 ≤ k) {x : Int} (h0 : -9223372036854775808 ≤ x) (h1 : x ≤ 9223372036854775807) : quiverref0_Decimal.f idb k x = some (digT x) := by
  obtain ⟨k, rfl⟩ : ∃ m, k = m + 1 := ⟨k - 1, by omega⟩
  rw [quiverref0_Decimal.f_eq]
  unfold digT
  by_cases h : x < 0
  · rw [dT h, cT, if_pos h]
    have e1 : IntKind.u64.wrap ((IntKind.u64.wrap (IntKind.i64.wrap (0 - (IntKind.i64.wrap (x + 1))))) + 1) = ((x.natAbs : Nat) : Int) := by
      rw [wi64 (x + 1) (by omega), wi64 (0 - (x + 1)) (by omega), wu64 (0 - (x + 1)) (by omega), wu64 _ (by omega)]; omega
    rw [idb_eq, e1, Decimal_j4 (by omega) x (by omega)]
    unfold fin10 dec
    rw [if_pos h]
    rfl
  · rw [dF h, cF, if_neg h]
    have e1 : IntKind.u64.wrap x = ((x.toNat : Nat) : Int) := by rw [wu64 _ (by omega)]; omega
    rw [idb_eq, e1, Decimal_j4 (by omega) x (by omega)]
    unfold fin10 dec
    rw [if_neg h]
theorem neg_digit {m : Nat} : IntKind.u8.wrap (IntKind.i64.wrap (48 - (Int.tmod (-(m : Int)) 10))) = 48 + ((m % 10 : Nat) : Int) := by
  have e : Int.tmod (-(m : Int)) 10 = -(((m % 10 : Nat) : Int)) := by
    rw [Int.neg_tmod, Int.tmod_eq_emod_of_nonneg (by omega)]; omega
  rw [e, wi64 _ (by omega), wu8]; omega
theorem neg_div {m : Nat} (h : m ≤ 9223372036854775808) : IntKind.i64.wrap (Int.tdiv (-(m : Int)) 10) = -((m / 10 : Nat) : Int) := by
  rw [Int.neg_tdiv, Int.tdiv_eq_ediv_of_nonneg (by omega), wi64 _ (by omega)]; omega
theorem digits_l0 (k : Nat) : ∀ (f m : Nat) (s : List UInt8) (n : Nat), 0 < m → m < 10 ^ f → m ≤ 9223372036854775808 → f + 1 ≤ n → s.length + f ≤ 900 → quiverref7_digits.l0 idb k n (-(m : Int)) s = some (45 :: (strOfBytes (decI f m) ++ s))
  | 0, m, _, _, h0, h1, _, _, _ => by simp at h1; omega
  | f + 1, m, s, n, h0, h1, h2, h3, h4 => by
    obtain ⟨n, rfl⟩ : ∃ q, n = q + 1 := ⟨n - 1, by omega⟩
    rw [quiverref7_digits.l0_eq, dT (show -(m : Int) < 0 by omega), cT, neg_digit, neg_div h2, dT (by simp [strOfBytes]; omega), cT]
    by_cases h : m < 10
    · have e : m / 10 = 0 := by omega
      obtain ⟨n, rfl⟩ : ∃ q, n = q + 1 := ⟨n - 1, by omega⟩
      rw [e, show -((0 : Nat) : Int) = 0 from rfl, quiverref7_digits.l0_eq, dF (by omega), cF, dT (by simp [strOfBytes]; omega), cT]
      unfold decI
      rw [if_pos h, show m % 10 = m by omega]
      rfl
    · rw [digits_l0 k f (m / 10) _ n (by omega) (by rw [Nat.pow_succ] at h1; omega) (by omega) (by omega) (by simp [strOfBytes]; omega)]
      conv => rhs; unfold decI
      rw [if_neg h, strOfBytes_append, List.append_assoc]
theorem digits_ok {k : Nat} (hk : 110 ≤ k) {x : Int} (h0 : -9223372036854775808 ≤ x) (h1 : x ≤ 9223372036854775807) : quiverref7_digits.f idb k x = some (digT x) := by
  obtain ⟨k, rfl⟩ : ∃ m, k = m + 1 := ⟨k - 1, by omega⟩
  rw [quiverref7_digits.f_eq]
  by_cases h : 0 ≤ x
  · rw [dT h, cT, Decimal_ok (by omega) h0 h1, bS]
  · rw [dF h, cF]
    have e : x = -((x.natAbs : Nat) : Int) := by omega
    have := digits_l0 k 20 x.natAbs [] k (by omega) (by omega) (by omega) (by omega) (by simp)
    rw [← e] at this
    rw [this]
    unfold digT dec
    rw [if_pos (by omega), List.append_nil]
def intT (x : Int) : List UInt8 := [105] ++ digT x ++ [59]
def boolT (b : Bool) : List UInt8 := if b then [116] else [102]
def bytesT (s : List UInt8) : List UInt8 := [115] ++ dec s.length ++ [58] ++ s
def listT (vs : List (List UInt8)) : List UInt8 := [91] ++ vs.flatten ++ [93]
def structT (vs : List (List UInt8)) : List UInt8 := [123] ++ vs.flatten ++ [125]
theorem Int_ok {k : Nat} (hk : 111 ≤ k) {x : Int} (h0 : -9223372036854775808 ≤ x) (h1 : x ≤ 9223372036854775807) : quiverref7_Int.f idb k x = some (intT x) := by
  obtain ⟨k, rfl⟩ : ∃ m, k = m + 1 := ⟨k - 1, by omega⟩
  have hl := digT_len x
  rw [quiverref7_Int.f_eq, digits_ok (by omega) h0 h1, bS, dT (by simp; omega), cT, dT (by simp; omega), cT]
  rfl
theorem Bool_ok {k : Nat} (hk : 1 ≤ k) (b : Bool) : quiverref7_Bool.f idb k b = some (boolT b) := by
  obtain ⟨k, rfl⟩ : ∃ m, k = m + 1 := ⟨k - 1, by omega⟩
  rw [quiverref7_Bool.f_eq]; cases b <;> rfl
theorem Bytes_ok {k : Nat} (hk : 111 ≤ k) {s : List UInt8} (hs : s.length ≤ 1000000000000) : quiverref7_Bytes.f idb k s = some (bytesT s) := by
  obtain ⟨k, rfl⟩ : ∃ m, k = m + 1 := ⟨k - 1, by omega⟩
  have hl := dec_len s.length
  have e : digT (s.length : Int) = dec s.length := by unfold digT; rw [if_neg (by omega), Int.toNat_natCast]
  rw [quiverref7_Bytes.f_eq, Decimal_ok (by omega) (by omega) (by omega), bS, e, dT (by simp; omega), cT, dT (by simp; omega), cT, dT (by simp; omega), cT]
  rfl
theorem all_ok {k : Nat} {vs : List (List UInt8)} (hk : vs.length + 3 ≤ k) (hs : vs.flatten.length ≤ 9223372036854775807) (hl : vs.length ≤ 4611686018427387904) : quiverref7_all.f idb k vs = some vs.flatten := by
  obtain ⟨k, rfl⟩ : ∃ m, k = m + 1 := ⟨k - 1, by omega⟩
  rw [quiverref7_all.f_eq]
  have key := loop_up (F := fun n i => quiverref7_all.l0 idb k n vs (vs.take i).flatten (i : Int)) (N := vs.length) (r := some vs.flatten) ?_ ?_ k 0 (by omega) (by omega)
  · exact key
  · intro n i hi
    have e : (vs.take (i + 1)).flatten = (vs.take i).flatten ++ vs[i] := by rw [List.take_succ_eq_append_getElem hi, List.flatten_append, List.flatten_cons, List.flatten_nil, List.append_nil]
    have hlen : (vs.take (i + 1)).flatten.length ≤ vs.flatten.length := by
      have : vs.flatten = (vs.take (i + 1)).flatten ++ (vs.drop (i + 1)).flatten := by rw [← List.flatten_append, List.take_append_drop]
      rw [this, List.length_append]; omega
    rw [e, List.length_append] at hlen
    rw [quiverref7_all.l0_eq, dT (by omega), cT, rd_get hi, bS, dT (by omega), cT, wsucc (by omega), e]
  · intro n
    rw [quiverref7_all.l0_eq, dF (by omega), cF, List.take_of_length_le (Nat.le_refl _)]
theorem List_ok {k : Nat} {vs : List (List UInt8)} (hk : vs.length + 4 ≤ k) (hs : vs.flatten.length ≤ 9223372036854775000) (hl : vs.length ≤ 4611686018427387904) : quiverref7_List.f idb k vs = some (listT vs) := by
  obtain ⟨k, rfl⟩ : ∃ m, k = m + 1 := ⟨k - 1, by omega⟩
  rw [quiverref7_List.f_eq, all_ok (by omega) (by omega) hl, bS, dT (by simp only [List.length_cons, List.length_nil]; omega), cT, dT (by simp only [List.length_append, List.length_cons, List.length_nil]; omega), cT]
  rfl
theorem Struct_ok {k : Nat} {vs : List (List UInt8)} (hk : vs.length + 4 ≤ k) (hs : vs.flatten.length ≤ 9223372036854775000) (hl : vs.length ≤ 4611686018427387904) : quiverref7_Struct.f idb k vs = some (structT vs) := by
  obtain ⟨k, rfl⟩ : ∃ m, k = m + 1 := ⟨k - 1, by omega⟩
  rw [quiverref7_Struct.f_eq, all_ok (by omega) (by omega) hl, bS, dT (by simp only [List.length_cons, List.length_nil]; omega), cT, dT (by simp only [List.length_append, List.length_cons, List.length_nil]; omega), cT]
  rfl
/-- The number of the first run whose end is above a row. -/
def runFrom (s : List UInt8) (row : Nat) : Nat → Nat → Nat
  | 0, i => i
  | f + 1, i => if eN s i ≤ (row : Int) then runFrom s row f (i + 1) else i
def runIx (s : List UInt8) (row : Nat) : Nat := runFrom s row 65 0
/-- The value of a row, counted from the first one on. -/
def valA : Nat → List Nod → Int → Arr → Nat → List UInt8
  | 0, _, _, _, _ => []
  | f + 1, t, a, x, row =>
    if thereB x.valid row = false then [110]
    else if x.layout = 1 then valA f t a (kidA x 0) ((kidA x 0).offset + eN x.data row).toNat
    else if x.layout = 2 then valA f t a (kidA x 0) ((kidA x 0).offset.toNat + runIx x.data row)
    else if knd t a.toNat = 0 then intT (numOf ((x.data.take (8 * row + 8)).drop (8 * row)))
    else if knd t a.toNat = 1 then boolT (onB x.data row)
    else if knd t a.toNat = 2 then bytesT ((x.data.take (eN x.ends (row + 1)).toNat).drop (eN x.ends row).toNat)
    else if knd t a.toNat = 3 then listT ((List.range' (eN x.ends row).toNat ((eN x.ends (row + 1)).toNat - (eN x.ends row).toNat)).map fun j => valA f t (ksT t a 0) (kidA x 0) ((kidA x 0).offset.toNat + j))
    else structT ((List.range (kidsL t a).length).map fun j => valA f t (ksT t a j) (kidA x j) ((kidA x j).offset.toNat + row))
structure Plain (t : List Nod) (i : Nat) (x : Arr) : Prop where
  kids : x.kids.length = (kidsL t (i : Int)).length
  may : ∀ j, j < x.kids.length → arrB t (ksT t (i : Int) j) (kidA x j) = true
  kind : kindM t i x = true
structure One (t : List Nod) (i : Nat) (x : Arr) : Prop where
  leaf : inner (knd t i) = false
  ends : x.ends = []
  kids : x.kids.length = 1
  flat : (kidA x 0).layout = 0
  may : arrB t (i : Int) (kidA x 0) = true
theorem arrB_plain {t : List Nod} {i : Nat} {x : Arr} (h : arrB t (i : Int) x = true) (hl : x.layout = 0) : Plain t i x := by
  rw [arrB_eq, if_pos hl] at h
  simp only [Bool.and_eq_true, decide_eq_true_eq, range_all_iff, Int.toNat_natCast] at h
  exact ⟨h.2.2.1, h.2.2.2.1, h.2.2.2.2⟩
theorem arrB_one {t : List Nod} {i : Nat} {x : Arr} (h : arrB t (i : Int) x = true) (hl : x.layout ≠ 0) : One t i x ∧ ((x.layout = 1 ∧ dictB x (kidA x 0) = true) ∨ (x.layout = 2 ∧ runB x (kidA x 0) = true)) := by
  rw [arrB_eq, if_neg hl] at h
  simp only [Bool.and_eq_true, decide_eq_true_eq, Int.toNat_natCast, Bool.not_eq_true', beq_iff_eq] at h
  obtain ⟨_, _, h1, h2, h3, h4, h5, h6⟩ := h
  refine ⟨⟨h1, h2, h3, h4, h5⟩, ?_⟩
  split at h6
  · rename_i hl; exact .inl ⟨hl, h6⟩
  · split at h6
    · rename_i hl; exact .inr ⟨hl, h6⟩
    · cases h6
theorem arrB_len {t : List Nod} {a : Int} {x : Arr} (h : arrB t a x = true) : 0 ≤ x.offset ∧ 0 ≤ x.length ∧ x.offset + x.length ≤ 64 := by
  obtain ⟨_, hb⟩ := arrB_buf h
  exact ⟨hb.off, hb.len, hb.rows⟩
theorem endsB_at {s : List UInt8} {rows : Nat} {m f p : Int} (h : endsB s rows m f p = true) {i : Nat} (hi : i < rows) :
    okN s i = true ∧ okN s (i + 1) = true ∧ 0 ≤ eN s i ∧ eN s i ≤ eN s (i + 1) ∧ eN s (i + 1) ≤ m ∧ (f ≤ (i : Int) → eN s (i + 1) - eN s i ≤ p) := by
  unfold endsB at h
  rw [range_all_iff] at h
  have h0 := h i (by omega)
  have h1 := h (i + 1) (by omega)
  unfold endOK at h0 h1
  simp only [Bool.and_eq_true, Bool.or_eq_true, decide_eq_true_eq, Nat.add_sub_cancel] at h0 h1
  have g := okN_good h0.1
  rcases h1.2.2 with e | ⟨e1, e2⟩
  · omega
  · exact ⟨h0.1, h1.1, g.1, e1, h1.2.1, fun hf => by rcases e2 with e2 | e2 <;> omega⟩
theorem okN_fits {s : List UInt8} {i : Nat} (h : okN s i = true) : 4 * i + 4 ≤ s.length := by
  unfold okN numA get at h
  split at h
  · rename_i h1; omega
  · cases h
theorem okN_num {s : List UInt8} {i : Nat} (h : okN s i = true) : numOf ((s.take (4 * i + 4)).drop (4 * i)) = eN s i := by
  unfold okN numA get at h
  unfold eN numA get
  split at h
  · rename_i h1
    rw [if_pos h1]
    split at h
    · cases h
    · rename_i h2
      rw [if_neg h2]
      have e1 : (4 * (i : Int)).toNat = 4 * i := by omega
      have e2 : (4 * (i : Int) + 4).toNat = 4 * i + 4 := by omega
      rw [e1, e2]
  · cases h
theorem num_slice {k : Nat} (hk : 11 ≤ k) {s : List UInt8} {i w : Nat} (hw : w ≤ 8) (h : i + w ≤ s.length) : quiverref1_Num.f idb k ((s.take (i + w)).drop i) = some (numOf ((s.take (i + w)).drop i)) := by
  refine ref_Num_ok hk _ ?_
  rw [List.length_drop, List.length_take]; omega
theorem runFrom_spec {s : List UInt8} {row m : Nat} (hm : (row : Int) < eN s m) : ∀ f i, i ≤ m → m < i + f → runFrom s row f i ≤ m ∧ i ≤ runFrom s row f i ∧ (row : Int) < eN s (runFrom s row f i)
  | 0, i, h1, h2 => by omega
  | f + 1, i, h1, h2 => by
    unfold runFrom
    split
    · rename_i h
      have hne : i ≠ m := fun e => by subst e; omega
      have := runFrom_spec hm f (i + 1) (by omega) (by omega)
      exact ⟨this.1, by omega, this.2.2⟩
    · exact ⟨h1, Nat.le_refl _, by omega⟩
theorem runB_at {x kid : Arr} (h : runB x kid = true) (hl : 0 ≤ kid.length ∧ kid.length ≤ 64) {row : Nat} (hr : (row : Int) < x.offset + x.length) :
    ∃ m : Nat, (m : Int) + 1 = kid.length ∧ (row : Int) < eN x.data m ∧ (∀ i, i ≤ m → okN x.data i = true) ∧ x.data.length = 4 * (m + 1) ∧ x.valid = [] := by
  unfold runB at h
  simp only [Bool.and_eq_true, decide_eq_true_eq, range_all_iff, beq_iff_eq] at h
  obtain ⟨h0, h1, h2, h3⟩ := h
  have hpos : kid.length.toNat ≠ 0 := by
    intro e
    rw [e] at h3
    have : lastE x.data 0 = 0 := rfl
    omega
  refine ⟨kid.length.toNat - 1, by omega, ?_, fun i hi => (h2 i (by omega)).1, by omega, h0⟩
  unfold lastE at h3
  rw [if_neg hpos] at h3
  omega
theorem dictB_at {x kid : Arr} (h : dictB x kid = true) {row : Nat} (h0 : x.offset ≤ (row : Int)) (hr : row < rowsN x) (hth : thereB x.valid row = true) : okN x.data row = true ∧ 0 ≤ eN x.data row ∧ eN x.data row < kid.length ∧ kid.valid = [] := by
  unfold dictB at h
  simp only [Bool.and_eq_true, decide_eq_true_eq, range_all_iff, beq_iff_eq] at h
  have := h.2.2 row hr
  simp only [Bool.or_eq_true, decide_eq_true_eq, Bool.and_eq_true, Bool.not_eq_true'] at this
  rcases this with e | e | ⟨e1, e2⟩
  · omega
  · rw [hth] at e; cases e
  · exact ⟨e1, (okN_good e1).1, e2, h.1⟩
theorem flat_len {α : Type} {B : Nat} : ∀ (l : List α) (f : α → List UInt8), (∀ y ∈ l, (f y).length ≤ B) → (l.map f).flatten.length ≤ l.length * B
  | [], _, _ => by simp
  | y :: l, f, h => by
    have h1 := h y List.mem_cons_self
    have h2 := flat_len l f fun z hz => h z (List.mem_cons_of_mem _ hz)
    rw [List.map_cons, List.flatten_cons, List.length_append, List.length_cons, Nat.add_mul]
    omega
theorem pow_step (n m : Nat) (h : n < m) : 66 * 66 ^ n ≤ 66 ^ m := by
  obtain ⟨d, rfl⟩ : ∃ d, m = n + 1 + d := ⟨m - (n + 1), by omega⟩
  rw [Nat.pow_add, Nat.pow_succ, Nat.mul_comm 66]
  exact Nat.le_mul_of_pos_right _ (Nat.pow_pos (by omega))
theorem valA_len : ∀ (f : Nat) (t : List Nod) (a : Int) (x : Arr) (row : Nat), need t a x < f → arrB t a x = true → x.offset ≤ (row : Int) → row < rowsN x → (valA f t a x row).length ≤ 40 * 66 ^ (t.length - a.toNat)
  | 0, _, _, _, _, h, _, _, _ => absurd h (Nat.not_lt_zero _)
  | f + 1, t, a, x, row, hf, hb, h0, hr => by
    obtain ⟨hn, hB⟩ := arrB_buf hb
    obtain ⟨hm, i, hi, rfl⟩ := nodeB_may hn
    have hrw := hB.rowsEq
    have hrl := hB.rowsN_le
    have hp : 0 < 66 ^ (t.length - ((i : Nat) : Int).toNat) := Nat.pow_pos (by omega)
    have htl := mayT_length hm
    unfold valA
    split
    · simp only [List.length_cons, List.length_nil]; omega
    · rename_i hth
      have hth' : thereB x.valid row = true := by simpa using hth
      split
      · rename_i hl
        obtain ⟨ho, hd⟩ := arrB_one hb (by omega)
        rcases hd with ⟨_, hd⟩ | ⟨hl2, _⟩
        · obtain ⟨d1, d2, d3, d4⟩ := dictB_at hd h0 hr hth'
          have hk := arrB_len ho.may
          exact valA_len f t (i : Int) (kidA x 0) _ (by unfold need at hf ⊢; rw [if_neg (by omega)] at hf; rw [if_pos ho.flat]; omega) ho.may (by omega) (by unfold rowsN; omega)
        · omega
      · rename_i hl1
        split
        · rename_i hl
          obtain ⟨ho, hd⟩ := arrB_one hb (by omega)
          rcases hd with ⟨hl2, _⟩ | ⟨_, hd⟩
          · omega
          · have hk := arrB_len ho.may
            obtain ⟨m, m1, m2, m3, m4, m5⟩ := runB_at hd (by omega) (row := row) (by omega)
            have hx := runFrom_spec m2 65 0 (by omega) (by omega)
            have hix : runIx x.data row ≤ m := hx.1
            exact valA_len f t (i : Int) (kidA x 0) _ (by unfold need at hf ⊢; rw [if_neg (by omega)] at hf; rw [if_pos ho.flat]; omega) ho.may (by omega) (by unfold rowsN; omega)
        · rename_i hl2
          have hl0 : x.layout = 0 := by
            by_cases e : x.layout = 0
            · exact e
            · obtain ⟨_, hd⟩ := arrB_one hb e
              rcases hd with ⟨e, _⟩ | ⟨e, _⟩
              · exact absurd e hl1
              · exact absurd e hl2
          have hP := arrB_plain hb hl0
          split
          · have := digT_len (numOf ((x.data.take (8 * row + 8)).drop (8 * row)))
            unfold intT; simp only [List.length_append, List.length_cons, List.length_nil]; omega
          · rename_i hk00
            split
            · unfold boolT; split <;> (simp only [List.length_cons, List.length_nil]; omega)
            · rename_i hk1
              split
              · rename_i hk2
                have hkd := hP.kind
                unfold kindM at hkd
                rw [Int.toNat_natCast] at hk2
                rw [if_neg (by omega), if_neg (by omega), if_pos hk2] at hkd
                have := endsB_at hkd hr
                have h16 := this.2.2.2.2.2 h0
                unfold bytesT
                have hd := dec_len (List.drop (eN x.ends row).toNat (List.take (eN x.ends (row + 1)).toNat x.data)).length
                have hdl : (List.drop (eN x.ends row).toNat (List.take (eN x.ends (row + 1)).toNat x.data)).length ≤ 16 := by rw [List.length_drop, List.length_take]; omega
                simp only [List.length_append, List.length_cons, List.length_nil]; omega
              · rename_i hk2
                split
                · rename_i hk3
                  have hkd := hP.kind
                  unfold kindM at hkd
                  rw [Int.toNat_natCast] at hk1 hk2 hk3
                  rw [if_neg (by omega), if_neg (by omega), if_neg (by omega), if_pos hk3] at hkd
                  simp only [Bool.and_eq_true] at hkd
                  have he := endsB_at hkd.2 hr
                  have h1 : (kidsL t (i : Int)).length = 1 := by
                    have := (((mayT_iff t).1 hm).2.2 i hi).1
                    unfold kidsB at this
                    rw [hk3] at this
                    simpa using this
                  have hk0 : 0 < x.kids.length := by rw [hP.kids]; omega
                  have hmk := hP.may 0 hk0
                  have hkl := arrB_len hmk
                  obtain ⟨q, q1, q2, q3⟩ := ksT_gt hm (i := i) (j := 0) (by omega)
                  have hnk := need_kid hm (x := x) (kidA x 0) (i := i) (j := 0) (by omega)
                  have hfl := flat_len (B := 40 * 66 ^ (t.length - q)) (List.range' (eN x.ends row).toNat ((eN x.ends (row + 1)).toNat - (eN x.ends row).toNat)) (fun j => valA f t (ksT t (i : Int) 0) (kidA x 0) ((kidA x 0).offset.toNat + j)) (fun j hj => by
                    rw [List.mem_range'_1] at hj
                    have := valA_len f t (ksT t (i : Int) 0) (kidA x 0) ((kidA x 0).offset.toNat + j) (by omega) hmk (by omega) (by unfold rowsN; omega)
                    rw [q1, Int.toNat_natCast] at this
                    rw [q1]
                    exact this)
                  rw [List.length_range'] at hfl
                  have hps := pow_step (t.length - q) (t.length - ((i : Nat) : Int).toNat) (by omega)
                  have h64 : ((eN x.ends (row + 1)).toNat - (eN x.ends row).toNat) * (40 * 66 ^ (t.length - q)) ≤ 64 * (40 * 66 ^ (t.length - q)) := Nat.mul_le_mul_right _ (by omega)
                  have hp' : 0 < 66 ^ (t.length - q) := Nat.pow_pos (by omega)
                  unfold listT
                  simp only [List.length_append, List.length_cons, List.length_nil]; omega
                · rename_i hk3
                  rw [Int.toNat_natCast] at hk00 hk1 hk2 hk3
                  have hkl := kidsU_length t (i : Int) t.length
                  have hfl := flat_len (B := 40 * 66 ^ (t.length - (i + 1))) (List.range (kidsL t (i : Int)).length) (fun j => valA f t (ksT t (i : Int) j) (kidA x j) ((kidA x j).offset.toNat + row)) (fun j hj => by
                    rw [List.mem_range] at hj
                    have hj' : j < x.kids.length := by rw [hP.kids]; exact hj
                    have hmk := hP.may j hj'
                    have hkl := arrB_len hmk
                    have hnk := need_kid hm (x := x) (kidA x j) hj
                    obtain ⟨q, q1, q2, q3⟩ := ksT_gt hm hj
                    have hkd := hP.kind
                    unfold kindM at hkd
                    rw [if_neg hk00, if_neg hk1, if_neg hk2, if_neg hk3] at hkd
                    simp only [Bool.and_eq_true, Bool.not_eq_true', List.any_eq_false, decide_eq_true_eq] at hkd
                    have hlong := hkd.2.2 _ (kidA_mem hj')
                    have := valA_len f t (ksT t (i : Int) j) (kidA x j) ((kidA x j).offset.toNat + row) (by omega) hmk (by omega) (by unfold rowsN at hr ⊢; omega)
                    rw [q1, Int.toNat_natCast] at this
                    rw [q1]
                    exact Nat.le_trans this (Nat.mul_le_mul_left _ (Nat.pow_le_pow_right (by omega) (by omega))))
                  rw [List.length_range] at hfl
                  have hps := pow_step (t.length - (i + 1)) (t.length - ((i : Nat) : Int).toNat) (by omega)
                  have h64 : (kidsL t (i : Int)).length * (40 * 66 ^ (t.length - (i + 1))) ≤ 8 * (40 * 66 ^ (t.length - (i + 1))) := Nat.mul_le_mul_right _ (by unfold kidsL; omega)
                  have hp' : 0 < 66 ^ (t.length - (i + 1)) := Nat.pow_pos (by omega)
                  unfold structT
                  simp only [List.length_append, List.length_cons, List.length_nil]; omega
theorem small_pow {t : List Nod} (ht : t.length ≤ 8) (a : Int) : 40 * 66 ^ (t.length - a.toNat) ≤ 40 * 66 ^ 8 := Nat.mul_le_mul_left _ (Nat.pow_le_pow_right (by omega) (by omega))
theorem ends_ok {k : Nat} (hk : 12 ≤ k) {x : Arr} {row : Nat} (hr : row ≤ 64) (h0 : okN x.ends row = true) (h1 : okN x.ends (row + 1) = true) : quiverref7_ends.f idb k x (row : Int) = some (eN x.ends row, eN x.ends (row + 1)) := by
  obtain ⟨k, rfl⟩ : ∃ m, k = m + 1 := ⟨k - 1, by omega⟩
  have f0 := okN_fits h0
  have f1 := okN_fits h1
  have n0 := num_slice (k := k) (by omega) (s := x.ends) (i := 4 * row) (w := 4) (by omega) (by omega)
  have n1 := num_slice (k := k) (by omega) (s := x.ends) (i := 4 * (row + 1)) (w := 4) (by omega) (by omega)
  rw [okN_num h0] at n0
  rw [okN_num h1] at n1
  rw [quiverref7_ends.f_eq, wi64 (4 * (row : Int)) (by omega), wi64 (4 * (row : Int) + 4) (by omega), wi64 (4 * (row : Int) + 8) (by omega)]
  have t1 : (4 * (row : Int)).toNat = 4 * row := by omega
  have t2 : (4 * (row : Int) + 4).toNat = 4 * row + 4 := by omega
  have t3 : (4 * (row : Int) + 8).toNat = 4 * (row + 1) + 4 := by omega
  have t4 : 4 * row + 4 = 4 * (row + 1) := by omega
  rw [dT (show (0 : Int) ≤ 4 * (row : Int) + 4 by omega), dT (show (0 : Int) ≤ 4 * (row : Int) by omega), dT (show (0 : Int) ≤ 4 * (row : Int) + 8 by omega), dT (show 4 * (row : Int) + 4 ≤ ((x.ends.length : Nat) : Int) by omega), t1, t2, t3,
    dT (show 4 * (row : Int) ≤ ((4 * row + 4 : Nat) : Int) by omega), dT (show 4 * (row : Int) + 8 ≤ ((x.ends.length : Nat) : Int) by omega), dT (show 4 * (row : Int) + 4 ≤ ((4 * (row + 1) + 4 : Nat) : Int) by omega)]
  simp only [Bool.and_self, cT]
  rw [n0, bS, t4, n1, bS]
theorem append_room {α : Type} {l : List α} {y : α} (h : l.length ≤ 1000) : decide ((l.length + [y].length) * 16 ≤ 140737488355328) = true := dT (by simp only [List.length_cons, List.length_nil]; omega)
theorem ref_value_ok : ∀ (f : Nat) (t : List Nod) (a : Int) (x : Arr) (row : Nat), need t a x < f → arrB t a x = true → x.offset ≤ (row : Int) → row < rowsN x → ∀ k, 700 + 5 * f ≤ k →
    quiverref7_value.f idb k t a x ((row : Int) - x.offset) = some (valA f t a x row)
  | 0, _, _, _, _, h, _, _, _, _, _ => absurd h (Nat.not_lt_zero _)
  | f + 1, t, a, x, row, hf, hb, h0, hr, k, hk => by
    obtain ⟨k, rfl⟩ : ∃ m, k = m + 1 := ⟨k - 1, by omega⟩
    obtain ⟨hn, hB⟩ := arrB_buf hb
    obtain ⟨hm, i, hi, rfl⟩ := nodeB_may hn
    have hrw := hB.rowsEq
    have hrl := hB.rowsN_le
    have htl := mayT_length hm
    have ho := hB.off
    have hd := hB.data
    have big : 40 * 66 ^ 8 ≤ 9223372036854770000 := by decide
    rw [quiverref7_value.f_eq, wi64 _ (by omega), show (row : Int) - x.offset + x.offset = (row : Int) by omega, there_ok (by omega) (hB.inV (by omega)) (by omega), bS]
    unfold valA
    cases hth : thereB x.valid row with
    | false => rw [Bool.not_false, cT, if_pos rfl]
    | true =>
      rw [Bool.not_true, cF, if_neg (by simp)]
      by_cases hl1 : x.layout = 1
      · obtain ⟨hO, hd'⟩ := arrB_one hb (by omega)
        rcases hd' with ⟨_, hd'⟩ | ⟨e, _⟩
        · obtain ⟨d1, d2, d3, d4⟩ := dictB_at hd' h0 hr hth
          have hkl := arrB_len hO.may
          have ff := okN_fits d1
          have hr0 := rd_get (show 0 < x.kids.length by rw [hO.kids]; omega)
          rw [kidA_get (by rw [hO.kids]; omega), show ((0 : Nat) : Int) = 0 from rfl] at hr0
          have n0 := num_slice (k := k) (by omega) (s := x.data) (i := 4 * row) (w := 4) (by omega) (by omega)
          rw [okN_num d1] at n0
          have t1 : (4 * (row : Int)).toNat = 4 * row := by omega
          have t2 : (4 * (row : Int) + 4).toNat = 4 * row + 4 := by omega
          rw [if_pos hl1, show (x.layout == 1) = true by simpa using hl1, cT, hr0, bS, wi64 (4 * (row : Int)) (by omega), wi64 (4 * (row : Int) + 4) (by omega), dT (show (0 : Int) ≤ 4 * (row : Int) + 4 by omega), dT (show (0 : Int) ≤ 4 * (row : Int) by omega),
            dT (show 4 * (row : Int) + 4 ≤ ((x.data.length : Nat) : Int) by omega), t1, t2, dT (show 4 * (row : Int) ≤ ((4 * row + 4 : Nat) : Int) by omega)]
          simp only [Bool.and_self, cT]
          rw [n0, bS]
          have ih := ref_value_ok f t (i : Int) (kidA x 0) ((kidA x 0).offset + eN x.data row).toNat (by unfold need at hf ⊢; rw [if_neg (by omega)] at hf; rw [if_pos hO.flat]; omega) hO.may (by omega) (by unfold rowsN; omega) k (by omega)
          rw [show ((((kidA x 0).offset + eN x.data row).toNat : Nat) : Int) - (kidA x 0).offset = eN x.data row by omega] at ih
          rw [ih, bS]
        · omega
      · rw [if_neg hl1, show (x.layout == 1) = false by simpa using hl1, cF]
        by_cases hl2 : x.layout = 2
        · obtain ⟨hO, hd'⟩ := arrB_one hb (by omega)
          rcases hd' with ⟨e, _⟩ | ⟨_, hd'⟩
          · omega
          · have hkl := arrB_len hO.may
            obtain ⟨m, m1, m2, m3, m4, m5⟩ := runB_at hd' (by omega) (row := row) (by omega)
            rw [if_pos hl2, show (x.layout == 2) = true by simpa using hl2, cT]
            have key : ∀ (g j n : Nat), j ≤ m → m < j + g → g < n → quiverref7_value.l0 idb k n (i : Int) (row : Int) (j : Int) t x.layout x.offset x.length x.valid x.ends x.data x.kids = quiverref7_value.f idb k t (i : Int) (kidA x 0) ((runFrom x.data row g j : Nat) : Int) := by
              intro g
              induction g with
              | zero => intro j n h1 h2; omega
              | succ g ih =>
                intro j n h1 h2 h3
                obtain ⟨n, rfl⟩ : ∃ q, n = q + 1 := ⟨n - 1, by omega⟩
                have ff := okN_fits (m3 j h1)
                have n0 := num_slice (k := k) (by omega) (s := x.data) (i := 4 * j) (w := 4) (by omega) (by omega)
                rw [okN_num (m3 j h1)] at n0
                have t1 : (4 * (j : Int)).toNat = 4 * j := by omega
                have t2 : (4 * (j : Int) + 4).toNat = 4 * j + 4 := by omega
                rw [quiverref7_value.l0_eq, wi64 (4 * (j : Int)) (by omega), wi64 (4 * (j : Int) + 4) (by omega), dT (show (0 : Int) ≤ 4 * (j : Int) + 4 by omega), dT (show (0 : Int) ≤ 4 * (j : Int) by omega),
                  dT (show 4 * (j : Int) + 4 ≤ ((x.data.length : Nat) : Int) by omega), t1, t2, dT (show 4 * (j : Int) ≤ ((4 * j + 4 : Nat) : Int) by omega)]
                simp only [Bool.and_self, cT]
                rw [n0, bS]
                unfold runFrom
                by_cases hle : eN x.data j ≤ (row : Int)
                · rw [dT hle, cT, if_pos hle, wsucc (by omega)]
                  have hne : j ≠ m := fun e => by subst e; omega
                  exact ih (j + 1) n (by omega) (by omega) (by omega)
                · have hr0 := rd_get (show 0 < x.kids.length by rw [hO.kids]; omega)
                  rw [kidA_get (by rw [hO.kids]; omega), show ((0 : Nat) : Int) = 0 from rfl] at hr0
                  rw [dF hle, cF, if_neg hle, hr0, bS]
                  cases quiverref7_value.f idb k t (i : Int) (kidA x 0) (j : Int) <;> rfl
            have hx := runFrom_spec m2 65 0 (by omega) (by omega)
            have hix : runIx x.data row ≤ m := hx.1
            rw [show (0 : Int) = ((0 : Nat) : Int) from rfl, key 65 0 k (by omega) (by omega) (by omega)]
            have ih := ref_value_ok f t (i : Int) (kidA x 0) ((kidA x 0).offset.toNat + runIx x.data row) (by unfold need at hf ⊢; rw [if_neg (by omega)] at hf; rw [if_pos hO.flat]; omega) hO.may (by omega) (by unfold rowsN; omega) k (by omega)
            rw [show ((((kidA x 0).offset.toNat + runIx x.data row : Nat)) : Int) - (kidA x 0).offset = ((runIx x.data row : Nat) : Int) by omega] at ih
            exact ih
        · have hl0 : x.layout = 0 := by
            by_cases e : x.layout = 0
            · exact e
            · obtain ⟨_, hd⟩ := arrB_one hb e
              rcases hd with ⟨e, _⟩ | ⟨e, _⟩
              · exact absurd e hl1
              · exact absurd e hl2
          have hP := arrB_plain hb hl0
          have hkd := hP.kind
          unfold kindM at hkd
          have hkl8 := kidsU_length t (i : Int) t.length
          rw [if_neg hl2, show (x.layout == 2) = false by simpa using hl2, cF, ref_Kids_ok (by omega), bS, rd_get hi, bS, knd_get hi]
          unfold kidsT
          rw [if_pos hn, Int.toNat_natCast]
          simp only
          by_cases k0 : knd t i = 0
          · rw [if_pos k0] at hkd ⊢
            simp only [Bool.and_eq_true, decide_eq_true_eq] at hkd
            have n0 := num_slice (k := k) (by omega) (s := x.data) (i := 8 * row) (w := 8) (by omega) (by omega)
            have t1 : (8 * (row : Int)).toNat = 8 * row := by omega
            have t2 : (8 * (row : Int) + 8).toNat = 8 * row + 8 := by omega
            rw [show (knd t i == 0) = true by simpa using k0, cT, wi64 (8 * (row : Int)) (by omega), wi64 (8 * (row : Int) + 8) (by omega), dT (show (0 : Int) ≤ 8 * (row : Int) + 8 by omega), dT (show (0 : Int) ≤ 8 * (row : Int) by omega),
              dT (show 8 * (row : Int) + 8 ≤ ((x.data.length : Nat) : Int) by omega), t1, t2, dT (show 8 * (row : Int) ≤ ((8 * row + 8 : Nat) : Int) by omega)]
            simp only [Bool.and_self, cT]
            have hw : -9223372036854775808 ≤ numOf ((x.data.take (8 * row + 8)).drop (8 * row)) ∧ numOf ((x.data.take (8 * row + 8)).drop (8 * row)) ≤ 9223372036854775807 := by
              unfold numOf; rw [IntKind.wrap_i64]; omega
            rw [n0, bS, Int_ok (by omega) hw.1 hw.2, bS]
          · rw [if_neg k0] at hkd ⊢
            rw [show (knd t i == 0) = false by simpa using k0, cF]
            by_cases k1 : knd t i = 1
            · rw [if_pos k1] at hkd ⊢
              simp only [Bool.and_eq_true, decide_eq_true_eq] at hkd
              have hbb : row / 8 < x.data.length := by
                have := hkd.2
                rw [← hrw] at this
                unfold bitB at this
                omega
              rw [show (knd t i == 1) = true by simpa using k1, cT, Bit_ok (by omega) hbb (by omega), bS, Bool_ok (by omega), bS]
            · rw [if_neg k1] at hkd ⊢
              rw [show (knd t i == 1) = false by simpa using k1, cF]
              by_cases k2 : knd t i = 2
              · rw [if_pos k2] at hkd ⊢
                have he := endsB_at hkd hr
                rw [show (knd t i == 2) = true by simpa using k2, cT, ends_ok (by omega) (by omega) he.1 he.2.1, bS]
                simp only
                rw [dT (show 0 ≤ eN x.ends (row + 1) by omega), dT (show eN x.ends (row + 1) ≤ ((x.data.length : Nat) : Int) by omega), dT (show 0 ≤ eN x.ends row by omega), dT (show eN x.ends row ≤ (((eN x.ends (row + 1)).toNat : Nat) : Int) by omega)]
                simp only [Bool.and_self, cT]
                rw [Bytes_ok (by omega) (by rw [List.length_drop, List.length_take]; omega), bS]
              · rw [if_neg k2] at hkd ⊢
                rw [show (knd t i == 2) = false by simpa using k2, cF]
                by_cases k3 : knd t i = 3
                · rw [if_pos k3] at hkd ⊢
                  simp only [Bool.and_eq_true] at hkd
                  have he := endsB_at hkd.2 hr
                  have h1 : (kidsL t (i : Int)).length = 1 := by
                    have := (((mayT_iff t).1 hm).2.2 i hi).1
                    unfold kidsB at this
                    rw [k3] at this
                    simpa using this
                  have hk0 : 0 < x.kids.length := by rw [hP.kids]; omega
                  have hmk := hP.may 0 hk0
                  have hkl := arrB_len hmk
                  obtain ⟨q, q1, q2, q3⟩ := ksT_gt hm (i := i) (j := 0) (by omega)
                  have hnk := need_kid hm (x := x) (kidA x 0) (i := i) (j := 0) (by omega)
                  rw [show (knd t i == 3) = true by simpa using k3, cT, ends_ok (by omega) (by omega) he.1 he.2.1, bS]
                  simp only
                  have hr0 := rd_get hk0
                  rw [kidA_get hk0, show ((0 : Nat) : Int) = 0 from rfl] at hr0
                  have hks0 := ksT_get (t := t) (a := (i : Int)) (j := 0) (by omega)
                  generalize hfr : (eN x.ends row).toNat = fr
                  have efr : eN x.ends row = (fr : Int) := by omega
                  generalize hcn : (eN x.ends (row + 1)).toNat - fr = cn
                  have ecn : eN x.ends (row + 1) = ((fr + cn : Nat) : Int) := by omega
                  rw [efr, ecn]
                  -- each of the list's values
                  have each : ∀ j, fr ≤ j → j < fr + cn → quiverref7_value.f idb k t (ksT t (i : Int) 0) (kidA x 0) (j : Int) = some (valA f t (ksT t (i : Int) 0) (kidA x 0) ((kidA x 0).offset.toNat + j)) := by
                    intro j hj1 hj2
                    have ih := ref_value_ok f t (ksT t (i : Int) 0) (kidA x 0) ((kidA x 0).offset.toNat + j) (by omega) hmk (by omega) (by unfold rowsN; omega) k (by omega)
                    rw [show ((((kidA x 0).offset.toNat + j : Nat)) : Int) - (kidA x 0).offset = (j : Int) by omega] at ih
                    exact ih
                  have hlen : ∀ n', n' ≤ cn → ((List.range' fr n').map fun j => valA f t (ksT t (i : Int) 0) (kidA x 0) ((kidA x 0).offset.toNat + j)).flatten.length ≤ n' * (40 * 66 ^ 8) := by
                    intro n' hn'
                    have := flat_len (B := 40 * 66 ^ 8) (List.range' fr n') (fun j => valA f t (ksT t (i : Int) 0) (kidA x 0) ((kidA x 0).offset.toNat + j)) (fun j hj => by
                      rw [List.mem_range'_1] at hj
                      exact Nat.le_trans (valA_len f t (ksT t (i : Int) 0) (kidA x 0) ((kidA x 0).offset.toNat + j) (by omega) hmk (by omega) (by unfold rowsN; omega)) (small_pow (by omega) _))
                    rw [List.length_range'] at this
                    exact this
                  have key := loop_up (F := fun n j => quiverref7_value.l3 idb k n ((fr + cn : Nat) : Int) ((fr + j : Nat) : Int) t x.layout x.offset x.length x.valid x.ends x.data x.kids (kidsL t (i : Int)) ((List.range' fr j).map fun j => valA f t (ksT t (i : Int) 0) (kidA x 0) ((kidA x 0).offset.toNat + j)))
                    (N := cn) (r := some (listT ((List.range' fr cn).map fun j => valA f t (ksT t (i : Int) 0) (kidA x 0) ((kidA x 0).offset.toNat + j)))) ?_ ?_ k 0 (by omega) (by omega)
                  · exact key
                  · intro n j hj
                    rw [quiverref7_value.l3_eq, dT (by omega), cT]
                    have e1 : (decide ((0 : Nat) ≤ 0) && decide ((0 : Int) < ((kidsL t (i : Int)).length : Int))) = true := by rw [h1]; decide
                    rw [e1, cT, hks0, bS, hr0, bS, each (fr + j) (by omega) (by omega), bS, append_room (by simp; omega), cT, wsucc (by omega), List.range'_concat, List.map_append, Nat.one_mul]
                    rfl
                  · intro n
                    have := hlen cn (Nat.le_refl _)
                    rw [quiverref7_value.l3_eq, dF (by omega), cF, List_ok (by simp; omega) (by omega) (by simp; omega), bS]
                · rw [if_neg k3] at hkd ⊢
                  rw [show (knd t i == 3) = false by simpa using k3, cF]
                  simp only [Bool.and_eq_true, Bool.not_eq_true', List.any_eq_false, decide_eq_true_eq] at hkd
                  have each : ∀ j, j < (kidsL t (i : Int)).length → quiverref7_value.f idb k t (ksT t (i : Int) j) (kidA x j) (row : Int) = some (valA f t (ksT t (i : Int) j) (kidA x j) ((kidA x j).offset.toNat + row)) ∧
                      (valA f t (ksT t (i : Int) j) (kidA x j) ((kidA x j).offset.toNat + row)).length ≤ 40 * 66 ^ 8 := by
                    intro j hj
                    have hj' : j < x.kids.length := by rw [hP.kids]; exact hj
                    have hmk := hP.may j hj'
                    have hkl := arrB_len hmk
                    have hnk := need_kid hm (x := x) (kidA x j) hj
                    have hlong := hkd.2.2 _ (kidA_mem hj')
                    have ih := ref_value_ok f t (ksT t (i : Int) j) (kidA x j) ((kidA x j).offset.toNat + row) (by omega) hmk (by omega) (by unfold rowsN at hr ⊢; omega) k (by omega)
                    rw [show ((((kidA x j).offset.toNat + row : Nat)) : Int) - (kidA x j).offset = (row : Int) by omega] at ih
                    exact ⟨ih, Nat.le_trans (valA_len f t (ksT t (i : Int) j) (kidA x j) ((kidA x j).offset.toNat + row) (by omega) hmk (by omega) (by unfold rowsN at hr ⊢; omega)) (small_pow (by omega) _)⟩
                  have hlen : ((List.range (kidsL t (i : Int)).length).map fun j => valA f t (ksT t (i : Int) j) (kidA x j) ((kidA x j).offset.toNat + row)).flatten.length ≤ (kidsL t (i : Int)).length * (40 * 66 ^ 8) := by
                    have := flat_len (B := 40 * 66 ^ 8) (List.range (kidsL t (i : Int)).length) (fun j => valA f t (ksT t (i : Int) j) (kidA x j) ((kidA x j).offset.toNat + row)) (fun j hj => (each j (List.mem_range.1 hj)).2)
                    rw [List.length_range] at this
                    exact this
                  have hkk : (kidsL t (i : Int)).length ≤ 8 := by unfold kidsL; omega
                  have h88 : (kidsL t (i : Int)).length * (40 * 66 ^ 8) ≤ 8 * (40 * 66 ^ 8) := Nat.mul_le_mul_right _ hkk
                  have key := loop_up (F := fun n j => quiverref7_value.l5 idb k n (row : Int) (j : Int) t x.layout x.offset x.length x.valid x.ends x.data x.kids (kidsL t (i : Int)) ((List.range j).map fun j => valA f t (ksT t (i : Int) j) (kidA x j) ((kidA x j).offset.toNat + row)))
                    (N := (kidsL t (i : Int)).length) (r := some (structT ((List.range (kidsL t (i : Int)).length).map fun j => valA f t (ksT t (i : Int) j) (kidA x j) ((kidA x j).offset.toNat + row)))) ?_ ?_ k 0 (by omega) (by omega)
                  · exact key
                  · intro n j hj
                    have hj' : j < x.kids.length := by rw [hP.kids]; exact hj
                    have e1 : (decide ((0 : Int) ≤ (j : Int)) && decide ((j : Int) < ((kidsL t (i : Int)).length : Int))) = true := by rw [dT (by omega), dT (by omega)]; rfl
                    rw [quiverref7_value.l5_eq, dT (by omega), cT]
                    rw [show (decide ((0 : Int) ≤ (j : Int))) = true from dT (by omega)]
                    simp only [Bool.and_self, cT, Int.toNat_natCast]
                    rw [ksT_get hj, bS, rd_get hj', bS, kidA_get hj', (each j hj).1, bS, append_room (by simp; omega), cT, wsucc (by omega), List.range_succ, List.map_append]
                    rfl
                  · intro n
                    rw [quiverref7_value.l5_eq, dF (by omega), cF, Struct_ok (by simp; omega) (by omega) (by simp; omega), bS]
/-- The values of all rows. -/
def valsA (t : List Nod) (a : Int) (x : Arr) : List (List UInt8) := (List.range x.length.toNat).map fun i => valA 20 t a x (x.offset.toNat + i)
def valsT (t : List Nod) (a : Int) (x : Arr) : List (List UInt8) × Int := if arrB t a x then (valsA t a x, 0) else ([], 900)
theorem ref_Values_ok {t : List Nod} {a : Int} {x : Arr} (hx : RoomyA x) {k : Nat} (hk : 1001 ≤ k) : quiverref7_Values.f idb k t a x = some (valsT t a x) := by
  obtain ⟨k, rfl⟩ : ∃ m, k = m + 1 := ⟨k - 1, by omega⟩
  rw [quiverref7_Values.f_eq, ref_May_ok' hx (by omega), bS]
  unfold valsT
  cases hb : arrB t a x with
  | false => rfl
  | true =>
    rw [Bool.not_true, cF, if_pos rfl]
    have hl := arrB_len hb
    obtain ⟨hn, _⟩ := arrB_buf hb
    have hnd := need_lt (x := x) hn
    have key := loop_up (F := fun n i => quiverref7_Values.l0 idb k n a (i : Int) t x.layout x.offset x.length x.valid x.ends x.data x.kids ((List.range i).map fun i => valA 20 t a x (x.offset.toNat + i))) (N := x.length.toNat) (r := some (valsA t a x, 0)) ?_ ?_ k 0 (by omega) (by omega)
    · exact key
    · intro n i hi
      have hv := ref_value_ok 20 t a x (x.offset.toNat + i) (by omega) hb (by omega) (by unfold rowsN; omega) k (by omega)
      rw [show (((x.offset.toNat + i : Nat)) : Int) - x.offset = (i : Int) by omega] at hv
      rw [quiverref7_Values.l0_eq, dT (by omega), cT, Arr.eta, hv, bS, append_room (by simp; omega), cT, wsucc (by omega), List.range_succ, List.map_append]
      rfl
    · intro n
      rw [quiverref7_Values.l0_eq, dF (by omega), cF]
      rfl
theorem SameTexts_refl {k : Nat} (vs : List (List UInt8)) (hk : vs.length + 3 ≤ k) (hl : vs.length ≤ 4611686018427387904) : quiverlaw0_SameTexts.f idb k vs vs = some true := by
  obtain ⟨k, rfl⟩ : ∃ m, k = m + 1 := ⟨k - 1, by omega⟩
  rw [quiverlaw0_SameTexts.f_eq, show (((vs.length : Nat) : Int) != ((vs.length : Nat) : Int)) = false by simp, cF]
  refine loop_up (F := fun n i => quiverlaw0_SameTexts.l0 idb k n vs vs (i : Int)) (N := vs.length) (r := some true) ?_ ?_ k 0 (by omega) (by omega)
  · intro n i hi
    rw [quiverlaw0_SameTexts.l0_eq, dT (by omega), cT, rd_get hi, bS, bS, show (vs[i] != vs[i]) = false by simp, cF, wsucc (by omega)]
  · intro n
    rw [quiverlaw0_SameTexts.l0_eq, dF (by omega), cF]

end Go.Proofs.YtppmpfddcohkjaaGreatDoorP
