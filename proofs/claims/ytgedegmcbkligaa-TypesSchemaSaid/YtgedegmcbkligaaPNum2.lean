/- Numbers: words and varying lengths, there and back. -/
import Derived.Test.YtgedegmcbkligaaPNum
namespace Go.Proofs.YtgedegmcbkligaaP
open Go Go.Proofs.YtgedegmcbkligaaA

/-! ### A word at a place -/
def get (s : List UInt8) (at_ w : Int) : Int × Int :=
  if (w = 4 ∨ w = 8) ∧ 0 ≤ at_ ∧ at_ + w ≤ (s.length : Int) then
    if w = 4 ∧ may (numOf ((s.take (at_ + w).toNat).drop at_.toNat)) = false then (0, 300) else (numOf ((s.take (at_ + w).toNat).drop at_.toNat), 0)
  else (0, 300)
theorem slice_length (s : List UInt8) (a w : Int) (h0 : 0 ≤ a) (hw : 0 ≤ w) (hl : a + w ≤ (s.length : Int)) : ((s.take (a + w).toNat).drop a.toNat).length = w.toNat := by
  simp only [List.length_drop, List.length_take]; omega
theorem num_Get_ok {k : Nat} (hk : 13 ≤ k) (s : List UInt8) (hs : (s.length : Int) ≤ 9223372036854775000) (a w : Int) (ha : -9223372036854775808 ≤ a ∧ a ≤ 9223372036854775807) : num_Get.f idb k s a w = some (get s a w) := by
  obtain ⟨k, rfl⟩ : ∃ m, k = m + 1 := ⟨k - 1, by omega⟩
  rw [num_Get.f_eq]
  have body : ∀ v : Int, v = 4 ∨ v = 8 →
      (bif (!(decide (a < 0))) then
        bif (!(decide (a > (s.length : Int)))) then
         bif decide ((IntKind.i64.wrap ((s.length : Int) - a)) < v) then
          some ((0 : Int), (300 : Int))
         else
          bif decide (0 ≤ IntKind.i64.wrap (a + v)) && decide (IntKind.i64.wrap (a + v) ≤ ((s.length : Nat) : Int)) then
           bif decide (0 ≤ a) && decide (a ≤ (((IntKind.i64.wrap (a + v)).toNat : Nat) : Int)) then
            (num_Of.f idb k (List.drop (a.toNat) (List.take ((IntKind.i64.wrap (a + v)).toNat) s))).bind fun r_1 =>
            bif (v == 4) then
             (pad_May.f idb k r_1).bind fun r_2 =>
             bif (!r_2) then
              some (0, 300)
             else
              some (r_1, 0)
            else
             some (r_1, 0)
           else
            none
          else
           none
        else
         some (0, 300)
       else
        some (0, 300)) = some (get s a v) := by
    intro v hv
    unfold get
    by_cases h0 : a < 0
    · have : ¬ ((v = 4 ∨ v = 8) ∧ 0 ≤ a ∧ a + v ≤ (s.length : Int)) := by omega
      simp [h0, this]
    · by_cases h1 : a > (s.length : Int)
      · have : ¬ ((v = 4 ∨ v = 8) ∧ 0 ≤ a ∧ a + v ≤ (s.length : Int)) := by omega
        simp [h0, h1, this]
      · rw [wi64 ((s.length : Int) - a) (by omega)]
        by_cases h2 : (s.length : Int) - a < v
        · have : ¬ ((v = 4 ∨ v = 8) ∧ 0 ≤ a ∧ a + v ≤ (s.length : Int)) := by omega
          simp [h0, h1, h2, this]
        · have h3 : (v = 4 ∨ v = 8) ∧ 0 ≤ a ∧ a + v ≤ (s.length : Int) := by omega
          have h3' := h3.2
          have hv8 : v ≤ 8 := by omega
          rw [wi64 (a + v) (by omega)]
          have h4 : 0 ≤ a + v := by omega
          have h5 : a ≤ (((a + v).toNat : Nat) : Int) := by omega
          rw [num_Of_ok (by omega) _ (by rw [slice_length s a v (by omega) (by omega) (by omega)]; omega), if_pos h3]
          simp only [h0, h1, h2, h3'.1, h3'.2, h4, h5, decide_true, decide_false, Bool.not_false, Bool.and_self, cond, Option.bind_some, pad_May_ok (k := k) (by omega)]
          by_cases h6 : v = 4
          · subst h6
            cases hm : may (numOf ((s.take (a + 4).toNat).drop a.toNat)) <;> simp [hm]
          · have : (v == 4) = false := by simpa using h6
            simp [h6, this]
  by_cases h4 : w = 4
  · subst h4
    simpa using body 4 (.inl rfl)
  · by_cases h8 : w = 8
    · subst h8
      simpa using body 8 (.inr rfl)
    · have b8 : (w != 8) = true := by simpa using h8
      have b4 : (w != 4) = true := by simpa using h4
      simp [b4, b8, get, h4, h8]
theorem ref_Get_ok {k : Nat} (hk : 13 ≤ k) (s : List UInt8) (hs : (s.length : Int) ≤ 9223372036854775000) (a w : Int) (ha : -9223372036854775808 ≤ a ∧ a ≤ 9223372036854775807) : quiverref1_GetNum.f idb k s a w = some (get s a w) := by
  obtain ⟨k, rfl⟩ : ∃ m, k = m + 1 := ⟨k - 1, by omega⟩
  rw [quiverref1_GetNum.f_eq]
  have body : ∀ v : Int, v = 4 ∨ v = 8 →
      (bif (!(decide (a < 0))) then
       bif decide (a > (IntKind.i64.wrap ((s.length : Int) - v))) then
        some ((0 : Int), (300 : Int))
       else
        bif decide (0 ≤ IntKind.i64.wrap (a + v)) && decide (IntKind.i64.wrap (a + v) ≤ ((s.length : Nat) : Int)) then
         bif decide (0 ≤ a) && decide (a ≤ (((IntKind.i64.wrap (a + v)).toNat : Nat) : Int)) then
          (quiverref1_Num.f idb k (List.drop (a.toNat) (List.take ((IntKind.i64.wrap (a + v)).toNat) s))).bind fun r_1 =>
          bif (v == 4) then
           (quiverref1_in.f idb k r_1).bind fun r_2 =>
           bif (!r_2) then
            some (0, 300)
           else
            some (r_1, 0)
          else
           some (r_1, 0)
         else
          none
        else
         none
      else
       some (0, 300)) = some (get s a v) := by
    intro v hv
    unfold get
    by_cases h0 : a < 0
    · have : ¬ ((v = 4 ∨ v = 8) ∧ 0 ≤ a ∧ a + v ≤ (s.length : Int)) := by omega
      simp [h0, this]
    · rw [wi64 ((s.length : Int) - v) (by omega)]
      by_cases h2 : a > (s.length : Int) - v
      · have : ¬ ((v = 4 ∨ v = 8) ∧ 0 ≤ a ∧ a + v ≤ (s.length : Int)) := by omega
        simp [h0, h2, this]
      · have h3 : (v = 4 ∨ v = 8) ∧ 0 ≤ a ∧ a + v ≤ (s.length : Int) := by omega
        have h3' := h3.2
        have hv8 : v ≤ 8 := by omega
        rw [wi64 (a + v) (by omega)]
        have h4 : 0 ≤ a + v := by omega
        have h5 : a ≤ (((a + v).toNat : Nat) : Int) := by omega
        rw [ref_Num_ok (by omega) _ (by rw [slice_length s a v (by omega) (by omega) (by omega)]; omega), if_pos h3]
        simp only [h0, h2, h3'.1, h3'.2, h4, h5, decide_true, decide_false, Bool.not_false, Bool.and_self, cond, Option.bind_some, in_ok (k := k) (by omega)]
        by_cases h6 : v = 4
        · subst h6
          cases hm : may (numOf ((s.take (a + 4).toNat).drop a.toNat)) <;> simp [hm]
        · have : (v == 4) = false := by simpa using h6
          simp [h6, this]
  by_cases h4 : w = 4
  · subst h4
    simpa using body 4 (.inl rfl)
  · by_cases h8 : w = 8
    · subst h8
      simpa using body 8 (.inr rfl)
    · have b8 : (w != 8) = true := by simpa using h8
      have b4 : (w != 4) = true := by simpa using h4
      simp [b4, b8, get, h4, h8]

/-! ### Of a varying length -/
def pvL : Nat → Int → List Int
  | 0, x => [x]
  | f + 1, x => if 128 ≤ x then (x % 128 + 128) :: pvL f (x / 128) else [x]
def putVar (x : Int) : List UInt8 × Int := if may x = true then (strOfBytes (pvL 4 x), 0) else ([], 300)
theorem or128 : ∀ n : Nat, n < 256 → n ||| 128 = n % 128 + 128 := by decide +kernel
theorem and127 : ∀ n : Nat, n < 256 → n &&& 127 = n % 128 := by decide +kernel
theorem or_u8 (x : Int) (hx : 0 ≤ x) : bitsOp .or .u8 (IntKind.u8.wrap x) 128 = x % 128 + 128 := by
  rw [bitsOp_or, wu8 x]
  have e1 : (x % 256) % (2 ^ IntKind.u8.bits : Int) = x % 256 := Int.emod_emod_of_dvd _ ⟨1, rfl⟩
  have e2 : ((128 : Int) % (2 ^ IntKind.u8.bits : Int)).toNat = 128 := rfl
  rw [e1, e2, or128 _ (by omega), wu8]
  omega
theorem ref_byte (x : Int) (hx : 0 ≤ x) : IntKind.u8.wrap (bitsOp .or .i64 (bitsOp .and .i64 x 127) 128) = x % 128 + 128 := by
  have e0 : bitsOp .and .i64 x 127 = x % 128 := and_mask x 7 (by omega)
  rw [e0]
  have e3 : (x % 128).toNat % 128 = (x % 128).toNat := by omega
  have e4 : bitsOp .or .i64 (x % 128) 128 = x % 128 + 128 := by
    have := or_disj64 (x % 128) 1 7 (by omega) (by omega) (by omega) (by omega)
    simpa using this
  rw [e4, wu8]
  omega
theorem fdiv128 (x : Int) : Int.fdiv x (2 ^ (min 7 IntKind.i64.bits)) = x / 128 := by
  show Int.fdiv x (2 ^ 7) = x / 128
  rw [Int.fdiv_eq_ediv_of_nonneg _ (by decide)]
  rfl
theorem pvL_length : ∀ (f : Nat) (x : Int), 1 ≤ (pvL f x).length ∧ (pvL f x).length ≤ f + 1
  | 0, x => by simp [pvL]
  | f + 1, x => by
    unfold pvL
    split
    · have := pvL_length f (x / 128); simp; omega
    · simp
theorem num_PutVar_l0 : ∀ (f : Nat) (x : Int) (out : List Int) (k n : Nat), 0 ≤ x → x < 128 ^ (f + 1) → f + 1 ≤ n → out.length + f + 1 ≤ 140737488355328 → num_PutVar.l0 idb k n x out = some (strOfBytes (out ++ pvL f x), 0)
  | 0, x, out, k, n, hx, hx2, hn, hl => by
    obtain ⟨n, rfl⟩ : ∃ m, n = m + 1 := ⟨n - 1, by omega⟩
    rw [num_PutVar.l0_eq]
    have h1 : ¬ (x ≥ 128) := by simp at hx2; omega
    have h2 : ∀ y : Int, decide ((out.length + [y].length) * 1 ≤ 140737488355328) = true := fun y => by simp; omega
    have h3 : IntKind.u8.wrap x = x := by rw [wu8]; omega
    simp only [h1, h2, h3, decide_true, decide_false, cond, pvL]
  | f + 1, x, out, k, n, hx, hx2, hn, hl => by
    obtain ⟨n, rfl⟩ : ∃ m, n = m + 1 := ⟨n - 1, by omega⟩
    rw [num_PutVar.l0_eq]
    by_cases h1 : 128 ≤ x
    · have h1' : x ≥ 128 := h1
      have h2 : ∀ y : Int, decide ((out.length + [y].length) * 1 ≤ 140737488355328) = true := fun y => by simp; omega
      simp only [h1', h2, decide_true, cond, fdiv128, or_u8 x hx]
      rw [num_PutVar_l0 f (x / 128) _ k n (by omega) (by rw [Int.pow_succ] at hx2; exact Int.ediv_lt_of_lt_mul (by omega) hx2) (by omega) (by simp; omega)]
      simp [pvL, h1]
    · have h1' : ¬ (x ≥ 128) := h1
      have h2 : ∀ y : Int, decide ((out.length + [y].length) * 1 ≤ 140737488355328) = true := fun y => by simp; omega
      have h3 : IntKind.u8.wrap x = x := by rw [wu8]; omega
      simp only [h1', h2, h3, decide_true, decide_false, cond, pvL, h1, if_false]
theorem ref_PutVar_l0 : ∀ (f : Nat) (x : Int) (out : List Int) (k n : Nat), 0 ≤ x → x < 128 ^ (f + 1) → f + 1 ≤ n → out.length + f + 1 ≤ 140737488355328 → quiverref1_PutVar.l0 idb k n x out = some (strOfBytes (out ++ pvL f x), 0)
  | 0, x, out, k, n, hx, hx2, hn, hl => by
    obtain ⟨n, rfl⟩ : ∃ m, n = m + 1 := ⟨n - 1, by omega⟩
    rw [quiverref1_PutVar.l0_eq]
    have h1 : ¬ (x > 127) := by simp at hx2; omega
    have h2 : ∀ y : Int, decide ((out.length + [y].length) * 1 ≤ 140737488355328) = true := fun y => by simp; omega
    have h3 : IntKind.u8.wrap x = x := by rw [wu8]; omega
    simp only [h1, h2, h3, decide_true, decide_false, cond, pvL]
  | f + 1, x, out, k, n, hx, hx2, hn, hl => by
    obtain ⟨n, rfl⟩ : ∃ m, n = m + 1 := ⟨n - 1, by omega⟩
    rw [quiverref1_PutVar.l0_eq]
    by_cases h1 : 128 ≤ x
    · have h1' : x > 127 := by omega
      have h2 : ∀ y : Int, decide ((out.length + [y].length) * 1 ≤ 140737488355328) = true := fun y => by simp; omega
      simp only [h1', h2, decide_true, cond, fdiv128, ref_byte x hx]
      rw [ref_PutVar_l0 f (x / 128) _ k n (by omega) (by rw [Int.pow_succ] at hx2; exact Int.ediv_lt_of_lt_mul (by omega) hx2) (by omega) (by simp; omega)]
      simp [pvL, h1]
    · have h1' : ¬ (x > 127) := by omega
      have h2 : ∀ y : Int, decide ((out.length + [y].length) * 1 ≤ 140737488355328) = true := fun y => by simp; omega
      have h3 : IntKind.u8.wrap x = x := by rw [wu8]; omega
      simp only [h1', h2, h3, decide_true, decide_false, cond, pvL, h1, if_false]
theorem may_iff {x : Int} : may x = true ↔ 0 ≤ x ∧ x ≤ 2147483647 := by simp [may]
theorem num_PutVar_ok {k : Nat} (hk : 7 ≤ k) (x : Int) : num_PutVar.f idb k x = some (putVar x) := by
  obtain ⟨k, rfl⟩ : ∃ m, k = m + 1 := ⟨k - 1, by omega⟩
  rw [num_PutVar.f_eq, pad_May_ok (by omega)]
  unfold putVar
  cases hm : may x with
  | false => simp
  | true =>
    obtain ⟨h1, h2⟩ := may_iff.1 hm
    have := num_PutVar_l0 4 x [] k k h1 (by have : (128 : Int) ^ (4 + 1) = 34359738368 := by decide
                                            omega) (by omega) (by simp)
    simp only [Option.bind_some, Bool.not_true, cond, this, List.nil_append, if_true]
theorem ref_PutVar_ok {k : Nat} (hk : 7 ≤ k) (x : Int) : quiverref1_PutVar.f idb k x = some (putVar x) := by
  obtain ⟨k, rfl⟩ : ∃ m, k = m + 1 := ⟨k - 1, by omega⟩
  rw [quiverref1_PutVar.f_eq, in_ok (by omega)]
  unfold putVar
  cases hm : may x with
  | false => simp
  | true =>
    obtain ⟨h1, h2⟩ := may_iff.1 hm
    have := ref_PutVar_l0 4 x [] k k h1 (by have : (128 : Int) ^ (4 + 1) = 34359738368 := by decide
                                            omega) (by omega) (by simp)
    simp only [Option.bind_some, Bool.not_true, cond, this, List.nil_append, if_true]

/-- What GetVar's loop answers. -/
def gvL (s : List UInt8) (a : Nat) : Nat → Int → Nat → Int × Int × Int
  | 0, _, _ => (0, 0, 300)
  | f + 1, x, i =>
    match s[a + i]? with
    | none => (0, 0, 300)
    | some b =>
      if 128 ≤ b.toNat then gvL s a f (x + ((b.toNat : Int) % 128) * 2 ^ (7 * i)) (i + 1)
      else if may (x + ((b.toNat : Int) % 128) * 2 ^ (7 * i)) = true ∧ strOfBytes (pvL 4 (x + ((b.toNat : Int) % 128) * 2 ^ (7 * i))) = (s.take (a + i + 1)).drop a then
        (x + ((b.toNat : Int) % 128) * 2 ^ (7 * i), ((a + i + 1 : Nat) : Int), 0)
      else (0, 0, 300)
def getVar (s : List UInt8) (a : Int) : Int × Int × Int := if 0 ≤ a ∧ a ≤ (s.length : Int) then gvL s a.toNat 5 0 0 else (0, 0, 300)

theorem rd_none {α : Type} {l : List α} {i : Nat} (h : l.length ≤ i) : l[i]? = none := List.getElem?_eq_none h
theorem step_val (x : Int) (b : UInt8) (i : Nat) (hi : i ≤ 4) (hx : 0 ≤ x) (hx2 : x < 2 ^ (7 * i)) :
    bitsOp .or .i64 x (IntKind.i64.wrap ((IntKind.i64.wrap (Int.tmod (b.toNat : Int) 128)) * 2 ^ (min (IntKind.i64.wrap (7 * (i : Int))).toNat IntKind.i64.bits))) = x + ((b.toNat : Int) % 128) * 2 ^ (7 * i) ∧
    0 ≤ x + ((b.toNat : Int) % 128) * 2 ^ (7 * i) ∧ x + ((b.toNat : Int) % 128) * 2 ^ (7 * i) < 2 ^ (7 * (i + 1)) := by
  have hb : b.toNat < 256 := b.toNat_lt
  have e1 : Int.tmod (b.toNat : Int) 128 = (b.toNat : Int) % 128 := Int.tmod_eq_emod_of_nonneg (by omega)
  have e2 : IntKind.i64.wrap ((b.toNat : Int) % 128) = (b.toNat : Int) % 128 := wi64 _ (by omega)
  have e3 : (IntKind.i64.wrap (7 * (i : Int))).toNat = 7 * i := by rw [wi64 _ (by omega)]; omega
  have e4 : min (7 * i) IntKind.i64.bits = 7 * i := Nat.min_eq_left (by show 7 * i ≤ 64; omega)
  rw [e1, e2, e3, e4]
  have hp : (2 : Int) ^ (7 * i) ≤ 268435456 := by
    have h28 : (2 : Nat) ^ 28 = 268435456 := by decide
    have : (2 : Nat) ^ (7 * i) ≤ 2 ^ 28 := Nat.pow_le_pow_right (by omega) (by omega)
    rw [h28] at this
    have c : ((2 ^ (7 * i) : Nat) : Int) = 2 ^ (7 * i) := Int.natCast_pow 2 (7 * i)
    omega
  have hp0 : (0 : Int) < 2 ^ (7 * i) := Int.pow_pos (by omega)
  have hm0 : 0 ≤ (b.toNat : Int) % 128 := by omega
  have hm1 : (b.toNat : Int) % 128 ≤ 127 := by omega
  have hmul0 : 0 ≤ ((b.toNat : Int) % 128) * 2 ^ (7 * i) := Int.mul_nonneg hm0 (by omega)
  have hmul1 : ((b.toNat : Int) % 128) * 2 ^ (7 * i) ≤ 127 * 2 ^ (7 * i) := Int.mul_le_mul_of_nonneg_right hm1 (by omega)
  have e5 : IntKind.i64.wrap (((b.toNat : Int) % 128) * 2 ^ (7 * i)) = ((b.toNat : Int) % 128) * 2 ^ (7 * i) := wi64 _ (by omega)
  rw [e5, or_disj64 x _ _ hx hx2 hm0 (by omega)]
  refine ⟨rfl, by omega, ?_⟩
  have : (2 : Int) ^ (7 * (i + 1)) = 128 * 2 ^ (7 * i) := by rw [show 7 * (i + 1) = 7 + 7 * i by omega, Int.pow_add]; rfl
  omega
theorem and_u8 (b : UInt8) : bitsOp .and .u8 (b.toNat : Int) 127 = (b.toNat : Int) % 128 := by
  have hb : b.toNat < 256 := b.toNat_lt
  rw [bitsOp_and]
  have e1 : ((b.toNat : Int) % (2 ^ IntKind.u8.bits : Int)).toNat = b.toNat := by show ((b.toNat : Int) % 256).toNat = _; omega
  have e2 : ((127 : Int) % (2 ^ IntKind.u8.bits : Int)).toNat = 127 := rfl
  rw [e1, e2, and127 _ hb, wu8]
  omega

theorem num_GetVar_l0 (s : List UInt8) (hs : (s.length : Int) ≤ 9223372036854775000) (a : Nat) (ha : a ≤ s.length) : ∀ (f i : Nat) (x : Int) (k n : Nat), i + f = 5 → 0 ≤ x → x < 2 ^ (7 * i) → f + 1 ≤ n → 7 ≤ k →
    num_GetVar.l0 idb k n s (a : Int) x (i : Int) = some (gvL s a f x i)
  | 0, i, x, k, n, hi, hx, hx2, hn, hk => by
    obtain ⟨n, rfl⟩ : ∃ m, n = m + 1 := ⟨n - 1, by omega⟩
    rw [num_GetVar.l0_eq]
    have h1 : ¬ ((i : Int) < 5) := by omega
    simp only [h1, decide_false, cond, gvL]
  | f + 1, i, x, k, n, hi, hx, hx2, hn, hk => by
    obtain ⟨n, rfl⟩ : ∃ m, n = m + 1 := ⟨n - 1, by omega⟩
    rw [num_GetVar.l0_eq]
    have h1 : ((i : Int) < 5) := by omega
    have e1 : IntKind.i64.wrap ((a : Int) + (i : Int)) = ((a + i : Nat) : Int) := by rw [wi64 _ (by omega)]; push_cast; rfl
    simp only [h1, decide_true, cond, e1, gvL]
    by_cases hlt : a + i < s.length
    · have h2 : (((a + i : Nat) : Int) < (s.length : Int)) := by omega
      have h3 : ¬ (IntKind.i64.wrap (7 * (i : Int)) < 0) := by rw [wi64 _ (by omega)]; omega
      obtain ⟨v1, v2, v3⟩ := step_val x s[a + i] i (by omega) hx hx2
      have e2 : IntKind.i64.wrap ((i : Int) + 1) = ((i + 1 : Nat) : Int) := by rw [wi64 _ (by omega)]; push_cast; rfl
      have e3 : IntKind.i64.wrap (((a + i : Nat) : Int) + 1) = ((a + i + 1 : Nat) : Int) := by rw [wi64 _ (by omega)]; push_cast; rfl
      simp only [h2, h3, decide_true, decide_false, rd_get hlt, Option.bind_some, v1, e2, e3, num_PutVar_ok hk, List.getElem?_eq_getElem hlt]
      by_cases hb : 128 ≤ s[a + i].toNat
      · have hb' : ((s[a + i].toNat : Int) ≥ 128) := by omega
        simp only [hb', decide_true, hb, if_true]
        exact num_GetVar_l0 s hs a ha f (i + 1) _ k n (by omega) v2 v3 (by omega) hk
      · have hb' : ¬ ((s[a + i].toNat : Int) ≥ 128) := by omega
        simp only [hb', decide_false, hb, if_false]
        unfold putVar
        cases hm : may (x + ((s[a + i].toNat : Int) % 128) * 2 ^ (7 * i)) with
        | false => simp
        | true =>
          have h4 : (0 : Int) ≤ ((a + i + 1 : Nat) : Int) := by omega
          have h5 : (((a + i + 1 : Nat) : Int) ≤ ((s.length : Nat) : Int)) := by omega
          have h6 : (0 : Int) ≤ (a : Int) := by omega
          have h7 : (a : Int) ≤ ((a + i + 1 : Nat) : Int) := by omega
          simp only [if_true, h4, h5, h6, h7, decide_true, Bool.and_self, Int.toNat_natCast, true_and]
          by_cases he : strOfBytes (pvL 4 (x + ((s[a + i].toNat : Int) % 128) * 2 ^ (7 * i))) = (s.take (a + i + 1)).drop a
          · simp [he]
          · have he' : (strOfBytes (pvL 4 (x + ((s[a + i].toNat : Int) % 128) * 2 ^ (7 * i))) != (s.take (a + i + 1)).drop a) = true := by simpa using he
            simp [he, he']
    · have h2 : ¬ (((a + i : Nat) : Int) < (s.length : Int)) := by omega
      simp only [h2, decide_false, rd_none (l := s) (i := a + i) (by omega)]
theorem num_GetVar_ok {k : Nat} (hk : 8 ≤ k) (s : List UInt8) (hs : (s.length : Int) ≤ 9223372036854775000) (a : Int) : num_GetVar.f idb k s a = some (getVar s a) := by
  obtain ⟨k, rfl⟩ : ∃ m, k = m + 1 := ⟨k - 1, by omega⟩
  rw [num_GetVar.f_eq]
  unfold getVar
  by_cases h0 : a < 0
  · have : ¬ (0 ≤ a ∧ a ≤ (s.length : Int)) := by omega
    simp [h0, this]
  · by_cases h1 : a > (s.length : Int)
    · have : ¬ (0 ≤ a ∧ a ≤ (s.length : Int)) := by omega
      simp [h0, h1, this]
    · have h2 : 0 ≤ a ∧ a ≤ (s.length : Int) := by omega
      have := num_GetVar_l0 s hs a.toNat (by omega) 5 0 0 k k (by omega) (by omega) (by decide) (by omega) (by omega)
      have ea : ((a.toNat : Nat) : Int) = a := by omega
      rw [ea] at this
      simp only [h0, h1, decide_false, Bool.not_false, cond, if_pos h2]
      exact this
theorem ref_GetVar_l0 (s : List UInt8) (hs : (s.length : Int) ≤ 9223372036854775000) (a : Nat) (ha : a ≤ s.length) : ∀ (f i : Nat) (x : Int) (k n : Nat), i + f = 5 → 0 ≤ x → x < 2 ^ (7 * i) → f + 1 ≤ n → 7 ≤ k →
    quiverref1_GetVar.l0 idb k n s (a : Int) x ((a + i : Nat) : Int) = some (gvL s a f x i)
  | 0, i, x, k, n, hi, hx, hx2, hn, hk => by
    obtain ⟨n, rfl⟩ : ∃ m, n = m + 1 := ⟨n - 1, by omega⟩
    rw [quiverref1_GetVar.l0_eq]
    have h0 : ((a + i : Nat) : Int) ≥ 0 := by omega
    have h1 : ¬ (((a + i : Nat) : Int) < (IntKind.i64.wrap ((a : Int) + 5))) := by rw [wi64 _ (by omega)]; omega
    simp only [h0, h1, decide_true, decide_false, cond, gvL]
    cases decide (((a + i : Nat) : Int) < (s.length : Int)) <;> rfl
  | f + 1, i, x, k, n, hi, hx, hx2, hn, hk => by
    obtain ⟨n, rfl⟩ : ∃ m, n = m + 1 := ⟨n - 1, by omega⟩
    rw [quiverref1_GetVar.l0_eq]
    have h0 : ((a + i : Nat) : Int) ≥ 0 := by omega
    have h1 : (((a + i : Nat) : Int) < (IntKind.i64.wrap ((a : Int) + 5))) := by rw [wi64 _ (by omega)]; omega
    simp only [h0, h1, decide_true, cond, gvL]
    by_cases hlt : a + i < s.length
    · have h2 : (((a + i : Nat) : Int) < (s.length : Int)) := by omega
      have e0 : IntKind.i64.wrap (((a + i : Nat) : Int) - (a : Int)) = (i : Int) := by rw [wi64 _ (by omega)]; omega
      have h3 : ¬ (IntKind.i64.wrap (7 * (i : Int)) < 0) := by rw [wi64 _ (by omega)]; omega
      obtain ⟨v1, v2, v3⟩ := step_val x s[a + i] i (by omega) hx hx2
      have hbb : s[a + i].toNat < 256 := s[a + i].toNat_lt
      have et : Int.tmod (s[a + i].toNat : Int) 128 = (s[a + i].toNat : Int) % 128 := Int.tmod_eq_emod_of_nonneg (by omega)
      rw [et] at v1
      have e3 : IntKind.i64.wrap (((a + i : Nat) : Int) + 1) = ((a + (i + 1) : Nat) : Int) := by rw [wi64 _ (by omega)]; push_cast; omega
      simp only [h2, h3, decide_true, decide_false, rd_get hlt, Option.bind_some, e0, and_u8, v1, e3, ref_PutVar_ok hk, List.getElem?_eq_getElem hlt]
      by_cases hb : 128 ≤ s[a + i].toNat
      · have hb' : ¬ ((s[a + i].toNat : Int) < 128) := by omega
        simp only [hb', decide_false, hb, if_true]
        exact ref_GetVar_l0 s hs a ha f (i + 1) _ k n (by omega) v2 v3 (by omega) hk
      · have hb' : ((s[a + i].toNat : Int) < 128) := by omega
        simp only [hb', decide_true, hb, if_false]
        unfold putVar
        cases hm : may (x + ((s[a + i].toNat : Int) % 128) * 2 ^ (7 * i)) with
        | false => simp
        | true =>
          have h4 : (0 : Int) ≤ ((a + (i + 1) : Nat) : Int) := by omega
          have h5 : (((a + (i + 1) : Nat) : Int) ≤ ((s.length : Nat) : Int)) := by omega
          have h6 : (0 : Int) ≤ (a : Int) := by omega
          have h7 : (a : Int) ≤ ((a + (i + 1) : Nat) : Int) := by omega
          simp only [if_true, h4, h5, h6, h7, decide_true, Bool.and_self, Int.toNat_natCast, true_and]
          rw [show a + (i + 1) = a + i + 1 by omega]
          by_cases he : strOfBytes (pvL 4 (x + ((s[a + i].toNat : Int) % 128) * 2 ^ (7 * i))) = (s.take (a + i + 1)).drop a
          · simp [he]
          · have he' : (strOfBytes (pvL 4 (x + ((s[a + i].toNat : Int) % 128) * 2 ^ (7 * i))) != (s.take (a + i + 1)).drop a) = true := by simpa using he
            simp [he, he']
    · have h2 : ¬ (((a + i : Nat) : Int) < (s.length : Int)) := by omega
      simp only [h2, decide_false, rd_none (l := s) (i := a + i) (by omega)]
theorem ref_GetVar_ok {k : Nat} (hk : 8 ≤ k) (s : List UInt8) (hs : (s.length : Int) ≤ 9223372036854775000) (a : Int) : quiverref1_GetVar.f idb k s a = some (getVar s a) := by
  obtain ⟨k, rfl⟩ : ∃ m, k = m + 2 := ⟨k - 2, by omega⟩
  rw [quiverref1_GetVar.f_eq]
  unfold getVar
  by_cases h0 : a < 0
  · have : ¬ (0 ≤ a ∧ a ≤ (s.length : Int)) := by omega
    have h0' : ¬ (a ≥ 0) := by omega
    rw [quiverref1_GetVar.l0_eq]
    simp [h0', this]
  · by_cases h1 : a > (s.length : Int)
    · have : ¬ (0 ≤ a ∧ a ≤ (s.length : Int)) := by omega
      have h1' : ¬ (a < (s.length : Int)) := by omega
      rw [quiverref1_GetVar.l0_eq]
      simp only [h1', decide_false, cond, if_neg this]
      cases decide (a ≥ 0) <;> rfl
    · have h2 : 0 ≤ a ∧ a ≤ (s.length : Int) := by omega
      have := ref_GetVar_l0 s hs a.toNat (by omega) 5 0 0 (k + 1) (k + 1) (by omega) (by omega) (by decide) (by omega) (by omega)
      have ea : ((a.toNat : Nat) : Int) = a := by omega
      simp only [Nat.add_zero, ea] at this
      rw [if_pos h2]
      exact this

end Go.Proofs.YtgedegmcbkligaaP
