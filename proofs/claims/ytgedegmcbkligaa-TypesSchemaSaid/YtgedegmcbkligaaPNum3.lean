/- Numbers: what is put down is read again; the laws NumBack, NumUnlike, NumForms and NumRow, as the machine answers them; no condition but the sizes that a machine has. -/
import Derived.Test.YtgedegmcbkligaaPNums
namespace Go.Proofs.YtgedegmcbkligaaP
open Go Go.Proofs.YtgedegmcbkligaaA

theorem ofNat_toNat {n : Nat} (h : n < 256) : (UInt8.ofNat n).toNat = n := by simp [UInt8.toNat_ofNat]; omega
theorem byte_val (x : Int) : ((UInt8.ofNat (IntKind.u8.wrap x).toNat).toNat : Int) = x % 256 := by
  rw [wu8, ofNat_toNat (by omega)]; omega
theorem fdiv_pos (x y : Int) (h : 0 ≤ y) : Int.fdiv x y = x / y := Int.fdiv_eq_ediv_of_nonneg _ h
theorem w4_length (x : Int) : (w4 x).length = 4 := rfl
theorem w8_length (x : Int) : (w8 x).length = 8 := rfl
theorem val_w4 (x : Int) (h : 0 ≤ x ∧ x < 4294967296) : (val (w4 x) : Int) = x := by
  have e : (val (w4 x) : Int) = ((UInt8.ofNat (IntKind.u8.wrap (Int.fdiv x 1)).toNat).toNat : Int) + 256 * (((UInt8.ofNat (IntKind.u8.wrap (Int.fdiv x (2 ^ 8))).toNat).toNat : Int) + 256 * (((UInt8.ofNat (IntKind.u8.wrap (Int.fdiv x (2 ^ 16))).toNat).toNat : Int) +
      256 * (((UInt8.ofNat (IntKind.u8.wrap (Int.fdiv x (2 ^ 24))).toNat).toNat : Int) + 256 * 0))) := by
    simp only [w4, strOfBytes, List.map_cons, List.map_nil, val, Int.natCast_add, Int.natCast_mul]; rfl
  rw [e]
  simp only [byte_val, fdiv_pos _ _ (show (0 : Int) ≤ 1 by decide), fdiv_pos _ _ (show (0 : Int) ≤ 2 ^ 8 by decide), fdiv_pos _ _ (show (0 : Int) ≤ 2 ^ 16 by decide), fdiv_pos _ _ (show (0 : Int) ≤ 2 ^ 24 by decide)]
  have p8 : (2 : Int) ^ 8 = 256 := by decide
  have p16 : (2 : Int) ^ 16 = 65536 := by decide
  have p24 : (2 : Int) ^ 24 = 16777216 := by decide
  rw [p8, p16, p24]
  omega
theorem val_w8 (x : Int) : (val (w8 x) : Int) = x % 18446744073709551616 := by
  have e : (val (w8 x) : Int) = ((UInt8.ofNat (IntKind.u8.wrap (Int.fdiv x 1)).toNat).toNat : Int) + 256 * (((UInt8.ofNat (IntKind.u8.wrap (Int.fdiv x (2 ^ 8))).toNat).toNat : Int) + 256 * (((UInt8.ofNat (IntKind.u8.wrap (Int.fdiv x (2 ^ 16))).toNat).toNat : Int) +
      256 * (((UInt8.ofNat (IntKind.u8.wrap (Int.fdiv x (2 ^ 24))).toNat).toNat : Int) + 256 * (((UInt8.ofNat (IntKind.u8.wrap (Int.fdiv x (2 ^ 32))).toNat).toNat : Int) + 256 * (((UInt8.ofNat (IntKind.u8.wrap (Int.fdiv x (2 ^ 40))).toNat).toNat : Int) +
      256 * (((UInt8.ofNat (IntKind.u8.wrap (Int.fdiv x (2 ^ 48))).toNat).toNat : Int) + 256 * (((UInt8.ofNat (IntKind.u8.wrap (Int.fdiv x (2 ^ 56))).toNat).toNat : Int) + 256 * 0))))))) := by
    simp only [w8, strOfBytes, List.map_cons, List.map_nil, val, Int.natCast_add, Int.natCast_mul]; rfl
  rw [e]
  simp only [byte_val, fdiv_pos _ _ (show (0 : Int) ≤ 1 by decide), fdiv_pos _ _ (show (0 : Int) ≤ 2 ^ 8 by decide), fdiv_pos _ _ (show (0 : Int) ≤ 2 ^ 16 by decide), fdiv_pos _ _ (show (0 : Int) ≤ 2 ^ 24 by decide),
    fdiv_pos _ _ (show (0 : Int) ≤ 2 ^ 32 by decide), fdiv_pos _ _ (show (0 : Int) ≤ 2 ^ 40 by decide), fdiv_pos _ _ (show (0 : Int) ≤ 2 ^ 48 by decide), fdiv_pos _ _ (show (0 : Int) ≤ 2 ^ 56 by decide)]
  have p8 : (2 : Int) ^ 8 = 256 := by decide
  have p16 : (2 : Int) ^ 16 = 65536 := by decide
  have p24 : (2 : Int) ^ 24 = 16777216 := by decide
  have p32 : (2 : Int) ^ 32 = 4294967296 := by decide
  have p40 : (2 : Int) ^ 40 = 1099511627776 := by decide
  have p48 : (2 : Int) ^ 48 = 281474976710656 := by decide
  have p56 : (2 : Int) ^ 56 = 72057594037927936 := by decide
  rw [p8, p16, p24, p32, p40, p48, p56]
  omega
theorem numOf_w4 (x : Int) (h : may x = true) : numOf (w4 x) = x := by
  obtain ⟨h1, h2⟩ := may_iff.1 h
  unfold numOf
  rw [val_w4 x ⟨h1, by omega⟩, wi64 _ (by omega)]
theorem numOf_w8 (x : Int) (h : -9223372036854775808 ≤ x ∧ x ≤ 9223372036854775807) : numOf (w8 x) = x := by
  unfold numOf
  rw [val_w8, IntKind.wrap_i64]; omega
theorem slice_mid (a b c : List UInt8) (n : Nat) (hn : n = b.length) : ((a ++ b ++ c).take (a.length + n)).drop a.length = b := by
  subst hn
  rw [List.append_assoc, List.take_length_add_append, List.drop_left, List.take_left]
theorem get_w4 (a c : List UInt8) (x : Int) (h : may x = true) : get (a ++ w4 x ++ c) (a.length : Int) 4 = (x, 0) := by
  unfold get
  have e : (((a ++ w4 x ++ c).take ((a.length : Int) + 4).toNat).drop (a.length : Int).toNat) = w4 x := by
    have e1 : ((a.length : Int) + 4).toNat = a.length + 4 := by omega
    have e2 : (a.length : Int).toNat = a.length := by omega
    rw [e1, e2]; exact slice_mid a (w4 x) c 4 rfl
  rw [if_pos ⟨.inl rfl, by omega, by simp [w4_length]; omega⟩, e, numOf_w4 x h, h]
  simp
theorem get_w8 (a c : List UInt8) (x : Int) (h : -9223372036854775808 ≤ x ∧ x ≤ 9223372036854775807) : get (a ++ w8 x ++ c) (a.length : Int) 8 = (x, 0) := by
  unfold get
  have e : (((a ++ w8 x ++ c).take ((a.length : Int) + 8).toNat).drop (a.length : Int).toNat) = w8 x := by
    have e1 : ((a.length : Int) + 8).toNat = a.length + 8 := by omega
    have e2 : (a.length : Int).toNat = a.length := by omega
    rw [e1, e2]; exact slice_mid a (w8 x) c 8 rfl
  rw [if_pos ⟨.inr rfl, by omega, by simp [w8_length]; omega⟩, e, numOf_w8 x h]
  simp

/-! ### Varying lengths, read again -/
theorem strOfBytes_append (l m : List Int) : strOfBytes (l ++ m) = strOfBytes l ++ strOfBytes m := by simp [strOfBytes]
theorem strOfBytes_length (l : List Int) : (strOfBytes l).length = l.length := by simp [strOfBytes]
theorem byte_of {n : Int} (h0 : 0 ≤ n) (h1 : n < 256) : ((UInt8.ofNat n.toNat).toNat : Int) = n := by rw [ofNat_toNat (by omega)]; omega
theorem gvL_put (a c d : List UInt8) (x : Int) (hx : may x = true) : ∀ (f i : Nat) (acc y : Int), f + i = 4 → 0 ≤ y → y < 128 ^ (f + 1) → x = acc + y * 2 ^ (7 * i) → strOfBytes (pvL 4 x) = c ++ strOfBytes (pvL f y) → c.length = i →
    gvL (a ++ strOfBytes (pvL 4 x) ++ d) a.length (f + 1) acc i = (x, ((a.length + (strOfBytes (pvL 4 x)).length : Nat) : Int), 0) := by
  intro f
  induction f generalizing c with
  | zero =>
    intro i acc y hfi hy hy2 hxe hc hcl
    have hy3 : y < 128 := by simpa using hy2
    have hby : (a ++ strOfBytes (pvL 4 x) ++ d)[a.length + i]? = some (UInt8.ofNat y.toNat) := by
      rw [List.append_assoc, List.getElem?_append_right (by omega), hc]
      simp only [pvL, strOfBytes, List.map_cons, List.map_nil]
      rw [show a.length + i - a.length = c.length by omega, List.append_assoc, List.getElem?_append_right (by omega)]
      simp
    have hbv := byte_of hy (by omega : y < 256)
    have hlen : (strOfBytes (pvL 4 x)).length = i + 1 := by rw [hc]; simp [pvL, strOfBytes, hcl]
    rw [gvL, hby]
    have h1 : ¬ (128 ≤ (UInt8.ofNat y.toNat).toNat) := by omega
    have h2 : ((UInt8.ofNat y.toNat).toNat : Int) % 128 = y := by omega
    simp only [h1, if_false, h2, ← hxe, hx, true_and]
    have h3 : strOfBytes (pvL 4 x) = ((a ++ strOfBytes (pvL 4 x) ++ d).take (a.length + i + 1)).drop a.length := by
      rw [Nat.add_assoc]; exact (slice_mid a _ d (i + 1) hlen.symm).symm
    rw [if_pos h3, hlen, Nat.add_assoc]
  | succ f ih =>
    intro i acc y hfi hy hy2 hxe hc hcl
    by_cases hb : 128 ≤ y
    · have hby : (a ++ strOfBytes (pvL 4 x) ++ d)[a.length + i]? = some (UInt8.ofNat (y % 128 + 128).toNat) := by
        rw [List.append_assoc, List.getElem?_append_right (by omega), hc]
        simp only [pvL, hb, if_true, strOfBytes, List.map_cons]
        rw [show a.length + i - a.length = c.length by omega, List.append_assoc, List.getElem?_append_right (by omega)]
        simp
      have hbv := byte_of (n := y % 128 + 128) (by omega) (by omega)
      rw [gvL, hby]
      have h1 : 128 ≤ (UInt8.ofNat (y % 128 + 128).toNat).toNat := by omega
      have h2 : ((UInt8.ofNat (y % 128 + 128).toNat).toNat : Int) % 128 = y % 128 := by omega
      simp only [h1, if_true, h2]
      refine ih (c ++ [UInt8.ofNat (y % 128 + 128).toNat]) (i + 1) _ (y / 128) (by omega) (by omega) (by rw [Int.pow_succ] at hy2; exact Int.ediv_lt_of_lt_mul (by omega) hy2) ?_ ?_ (by simp [hcl])
      · rw [hxe]
        have e : (2 : Int) ^ (7 * (i + 1)) = 128 * 2 ^ (7 * i) := by rw [show 7 * (i + 1) = 7 + 7 * i by omega, Int.pow_add]; rfl
        rw [e, ← Int.mul_assoc, Int.add_assoc, ← Int.add_mul]
        congr 2
        omega
      · rw [hc]
        simp [pvL, hb, strOfBytes]
    · have hby : (a ++ strOfBytes (pvL 4 x) ++ d)[a.length + i]? = some (UInt8.ofNat y.toNat) := by
        rw [List.append_assoc, List.getElem?_append_right (by omega), hc]
        simp only [pvL, hb, if_false, strOfBytes, List.map_cons, List.map_nil]
        rw [show a.length + i - a.length = c.length by omega, List.append_assoc, List.getElem?_append_right (by omega)]
        simp
      have hbv := byte_of hy (by omega : y < 256)
      have hlen : (strOfBytes (pvL 4 x)).length = i + 1 := by rw [hc]; simp [pvL, hb, strOfBytes, hcl]
      rw [gvL, hby]
      have h1 : ¬ (128 ≤ (UInt8.ofNat y.toNat).toNat) := by omega
      have h2 : ((UInt8.ofNat y.toNat).toNat : Int) % 128 = y := by omega
      simp only [h1, if_false, h2, ← hxe, hx, true_and]
      have h3 : strOfBytes (pvL 4 x) = ((a ++ strOfBytes (pvL 4 x) ++ d).take (a.length + i + 1)).drop a.length := by
        rw [Nat.add_assoc]; exact (slice_mid a _ d (i + 1) hlen.symm).symm
      rw [if_pos h3, hlen, Nat.add_assoc]
def pv (x : Int) : List UInt8 := strOfBytes (pvL 4 x)
theorem putVar_may {x : Int} (h : may x = true) : putVar x = (pv x, 0) := by simp [putVar, h, pv]
theorem pv_length (x : Int) : 1 ≤ (pv x).length ∧ (pv x).length ≤ 5 := by unfold pv; rw [strOfBytes_length]; exact pvL_length 4 x
theorem getVar_put (a d : List UInt8) (x : Int) (h : may x = true) : getVar (a ++ pv x ++ d) (a.length : Int) = (x, (a.length : Int) + ((pv x).length : Int), 0) := by
  obtain ⟨h1, h2⟩ := may_iff.1 h
  unfold getVar
  rw [if_pos ⟨by omega, by simp; omega⟩]
  have := gvL_put a [] d x h 4 0 0 x (by omega) h1 (by have : (128 : Int) ^ (4 + 1) = 34359738368 := by decide
                                                       omega) (by simp) (by simp) rfl
  have e : (a.length : Int).toNat = a.length := by omega
  rw [e]
  unfold pv at *
  rw [this]
  simp
theorem mask_may (x : Int) : may (bitsOp .and .i64 x 2147483647) = true := by
  have e : bitsOp .and .i64 x 2147483647 = x % 2147483648 := and_mask x 31 (by omega)
  rw [e]
  exact may_iff.2 ⟨by omega, by omega⟩

theorem pure_NumBack (a0 : Int) (s : List UInt8) (h0 : -9223372036854775808 ≤ a0 ∧ a0 ≤ 9223372036854775807) (hs : (s.length : Int) ≤ 140737488351232) : ∃ k, quiverlaw3_NumBack.f idb k a0 s = some true := by
  refine ⟨100 + 1, ?_⟩
  have hm := mask_may a0
  generalize hx : bitsOp .and .i64 a0 2147483647 = x at hm
  have hl := pv_length x
  rw [quiverlaw3_NumBack.f_eq, awake3 60]
  simp only [Option.bind_some, Bool.not_true, cond, hx, num_Put_ok (show 13 ≤ 100 by omega), num_PutVar_ok (show 7 ≤ 100 by omega), putVar_may hm, put, hm, if_true, and_self]
  have e4 : ¬ ((4 : Int) = 8) := by decide
  have d1 : s.length + (w4 x).length ≤ 9223372036854775807 := by rw [w4_length]; omega
  have d2 : s.length + (w8 a0).length ≤ 9223372036854775807 := by rw [w8_length]; omega
  have d3 : (s ++ w8 a0).length + ([120] : List UInt8).length ≤ 9223372036854775807 := by simp [w8_length]; omega
  have d4 : s.length + (pv x).length ≤ 9223372036854775807 := by omega
  have d5 : (s ++ pv x).length + ([120] : List UInt8).length ≤ 9223372036854775807 := by simp; omega
  have g1 : num_Get.f idb 100 (s ++ w4 x) (s.length : Int) 4 = some (x, 0) := by
    rw [num_Get_ok (by omega) _ (by simp [w4_length]; omega) _ _ (by omega)]
    have := get_w4 s [] x hm
    simp only [List.append_nil] at this
    rw [this]
  have g2 : num_Get.f idb 100 ((s ++ w8 a0) ++ [120]) (s.length : Int) 8 = some (a0, 0) := by
    rw [num_Get_ok (by omega) _ (by simp [w8_length]; omega) _ _ (by omega), get_w8 s [120] a0 h0]
  have g3 : num_GetVar.f idb 100 ((s ++ pv x) ++ [120]) (s.length : Int) = some (x, (s.length : Int) + ((pv x).length : Int), 0) := by
    rw [num_GetVar_ok (by omega) _ (by simp; omega), getVar_put s [120] x hm]
  have e5 : IntKind.i64.wrap ((s.length : Int) + ((pv x).length : Int)) = (s.length : Int) + ((pv x).length : Int) := wi64 _ (by omega)
  have e6 : (((pv x).length : Int) ≥ 1) := by omega
  have e7 : (((pv x).length : Int) ≤ 5) := by omega
  simp only [e4, if_false, d1, d2, d3, d4, d5, decide_true, g1, g2, g3, Option.bind_some, law0_Num (show 1 ≤ 100 by omega), beq_self_eq_true, e5, e6, e7]

theorem pv_inj {x y : Int} (hx : may x = true) (hy : may y = true) (h : pv x = pv y) : x = y := by
  have h1 := getVar_put [] [] x hx
  have h2 := getVar_put [] [] y hy
  rw [h, h2] at h1
  exact (Prod.mk.inj h1).1.symm
theorem w4_inj {x y : Int} (hx : may x = true) (hy : may y = true) (h : w4 x = w4 y) : x = y := by
  rw [← numOf_w4 x hx, ← numOf_w4 y hy, h]
theorem pure_NumUnlike (a0 a1 : Int) : ∃ k, quiverlaw3_NumUnlike.f idb k a0 a1 = some true := by
  refine ⟨100 + 1, ?_⟩
  have hm := mask_may a0
  have hm1 := mask_may a1
  generalize hx : bitsOp .and .i64 a0 2147483647 = x at hm
  generalize hy : bitsOp .and .i64 a1 2147483647 = y at hm1
  rw [quiverlaw3_NumUnlike.f_eq, awake3 60]
  have e4 : ¬ ((4 : Int) = 8) := by decide
  simp only [Option.bind_some, Bool.not_true, cond, hx, hy, num_Put_ok (show 13 ≤ 100 by omega), num_PutVar_ok (show 7 ≤ 100 by omega), putVar_may hm, putVar_may hm1, put, hm, hm1, if_true, and_self, e4, if_false, law0_Num (show 1 ≤ 100 by omega), beq_self_eq_true]
  have q1 : (w4 x == w4 y) = (x == y) := by
    by_cases h : x = y
    · subst h; simp
    · have : ¬ w4 x = w4 y := fun e => h (w4_inj hm hm1 e)
      exact (beq_eq_false_iff_ne.2 this).trans (beq_eq_false_iff_ne.2 h).symm
  have q2 : (pv x == pv y) = (x == y) := by
    by_cases h : x = y
    · subst h; simp
    · have : ¬ pv x = pv y := fun e => h (pv_inj hm hm1 e)
      exact (beq_eq_false_iff_ne.2 this).trans (beq_eq_false_iff_ne.2 h).symm
  rw [q1, q2]
  simp [w4_length]

end Go.Proofs.YtgedegmcbkligaaP
