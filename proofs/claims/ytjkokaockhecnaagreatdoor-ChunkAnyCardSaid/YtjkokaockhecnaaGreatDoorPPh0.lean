/- What the functions below the laws answer, in plain lists and numbers; no condition but the sizes that a machine has. -/
import Derived.Test.YtjkokaockhecnaaGreatDoorPPg0
import Derived.Laws.BitsLemmas
import Derived.KernelRfl
namespace Go.Proofs.YtjkokaockhecnaaGreatDoorP
open Go Go.Proofs.YtjkokaockhecnaaGreatDoorA

/-- How many are the same, from the first one on. -/
def same : List Int → Nat
  | [] => 0
  | x :: l => 1 + (l.takeWhile (· == x)).length
theorem same_le : ∀ xs : List Int, same xs ≤ xs.length
  | [] => Nat.le_refl _
  | x :: l => by
    have : (l.takeWhile (· == x)).length ≤ l.length := (List.takeWhile_prefix _).length_le
    simp only [same, List.length_cons]; omega
theorem same_pos {xs : List Int} (h : xs ≠ []) : 1 ≤ same xs := by
  cases xs with
  | nil => exact absurd rfl h
  | cons x l => simp only [same]; omega
/-- All before are as the first. -/
theorem takeWhile_get (x : Int) : ∀ (l : List Int) (i : Nat), i < (l.takeWhile (· == x)).length → l[i]? = some x
  | [], i, h => by simp at h
  | y :: l, i, h => by
    rw [List.takeWhile_cons] at h
    cases e : (y == x) with
    | false => rw [e] at h; simp at h
    | true =>
      rw [e] at h
      have e' : y = x := by simpa using e
      subst e'
      cases i with
      | zero => rfl
      | succ i => exact takeWhile_get y l i (by simpa using h)
theorem takeWhile_next (x : Int) : ∀ (l : List Int), (l.takeWhile (· == x)).length < l.length → ∃ y, l[(l.takeWhile (· == x)).length]? = some y ∧ y ≠ x
  | [], h => by simp at h
  | y :: l, h => by
    rw [List.takeWhile_cons] at h ⊢
    cases e : (y == x) with
    | false => exact ⟨y, by simp, by simpa using e⟩
    | true =>
      rw [e] at h
      obtain ⟨z, h1, h2⟩ := takeWhile_next x l (by simpa using h)
      exact ⟨z, by simpa using h1, h2⟩
theorem same_get {xs : List Int} {i : Nat} (h : i < same xs) : ∃ x, xs[0]? = some x ∧ xs[i]? = some x := by
  cases xs with
  | nil => simp [same] at h
  | cons x l =>
    refine ⟨x, rfl, ?_⟩
    cases i with
    | zero => rfl
    | succ i => exact takeWhile_get x l i (by simp only [same] at h; omega)
theorem same_next {xs : List Int} (h : same xs < xs.length) : ∃ x y, xs[0]? = some x ∧ xs[same xs]? = some y ∧ y ≠ x := by
  cases xs with
  | nil => simp [same] at h
  | cons x l =>
    simp only [same, List.length_cons] at h ⊢
    obtain ⟨y, h1, h2⟩ := takeWhile_next x l (by omega)
    refine ⟨x, y, rfl, ?_, h2⟩
    rw [Nat.add_comm, List.getElem?_cons_succ]; exact h1
theorem rd_some {α : Type} {l : List α} {i : Nat} {x : α} (h : l[i]? = some x) : rd l (i : Int) = some x := by
  obtain ⟨hl, rfl⟩ := List.getElem?_eq_some_iff.mp h
  exact rd_get hl
theorem ne_beq {x y : Int} (h : x ≠ y) : (x != y) = true := by simpa using h
theorem same_ok {k : Nat} {xs : List Int} (hk : xs.length + 3 ≤ k) (hl : xs.length ≤ 1000000000) : hybrid_same.f idb k xs = some (same xs : Int) := by
  obtain ⟨k, rfl⟩ : ∃ q, k = q + 1 := ⟨k - 1, by omega⟩
  rw [hybrid_same.f_eq]
  by_cases hz : xs = []
  · subst hz
    obtain ⟨k, rfl⟩ : ∃ q, k = q + 1 := ⟨k - 1, by simp at hk; omega⟩
    rw [hybrid_same.l0_eq, dF (by simp), cF]; rfl
  · have hle := same_le xs
    refine loop_fun (F := fun n i => hybrid_same.l0 idb k n xs (xs.length : Int) (i : Int)) (G := fun _ => some (same xs : Int)) (N := same xs) ?_ ?_ k 0 (by omega) (by omega)
    · intro n i hi
      obtain ⟨x, h0, h1⟩ := same_get hi
      refine .inl ⟨?_, rfl⟩
      rw [hybrid_same.l0_eq, dT (by omega), cT, rd_some h1, bS, show (0 : Int) = ((0 : Nat) : Int) from rfl, rd_some h0, bS]
      simp only [bne_self_eq_false, cF]
      rw [wsucc (by omega)]
    · intro n
      by_cases e : same xs = xs.length
      · rw [hybrid_same.l0_eq, dF (by omega), cF, e]
      · obtain ⟨x, y, h0, h1, h2⟩ := same_next (xs := xs) (by omega)
        rw [hybrid_same.l0_eq, dT (by omega), cT, rd_some h1, bS, show (0 : Int) = ((0 : Nat) : Int) from rfl, rd_some h0, bS, ne_beq h2, cT]
/-- Bit j of a number. -/
def tb (x : Int) (j : Nat) : Bool := (bitsOp .and .i64 (Int.fdiv x (2 ^ (min j IntKind.i64.bits))) 1) == 1
def bitX (xs : List Int) (i j : Nat) : Bool := match xs[i]? with | some x => tb x j | none => false
def rowsTo (xs : List Int) (w i : Nat) : List Bool := (List.range i).flatMap fun i => (List.range w).map fun j => bitX xs i j
theorem rowsTo_succ (xs : List Int) (w i : Nat) : rowsTo xs w (i + 1) = rowsTo xs w i ++ (List.range w).map fun j => bitX xs i j := by
  simp [rowsTo, List.range_succ]
theorem rowsTo_length (xs : List Int) (w : Nat) : ∀ i, (rowsTo xs w i).length = i * w
  | 0 => by simp [rowsTo]
  | i + 1 => by rw [rowsTo_succ, List.length_append, rowsTo_length xs w i, List.length_map, List.length_range, Nat.add_mul, Nat.one_mul]
/-- How many numbers the groups hold. -/
def pad8 (n : Nat) : Nat := 8 * ((n + 7) / 8)
theorem pad8_le (n : Nat) : n ≤ pad8 n ∧ pad8 n ≤ n + 7 := by unfold pad8; omega
def rows (xs : List Int) (w : Nat) : List Bool := rowsTo xs w (pad8 xs.length)
theorem rows_length (xs : List Int) (w : Nat) : (rows xs w).length = pad8 xs.length * w := rowsTo_length xs w _
def at2 (xs : List Int) (w i j : Nat) : List Bool := rowsTo xs w i ++ (List.range j).map fun j => bitX xs i j
theorem at2_length (xs : List Int) (w i j : Nat) : (at2 xs w i j).length = i * w + j := by
  unfold at2; rw [List.length_append, rowsTo_length, List.length_map, List.length_range]
theorem at2_succ (xs : List Int) (w i j : Nat) : at2 xs w i (j + 1) = at2 xs w i j ++ [bitX xs i j] := by
  unfold at2; rw [List.range_succ, List.map_append, List.append_assoc]; rfl
theorem at2_full (xs : List Int) (w i : Nat) : at2 xs w i w = at2 xs w (i + 1) 0 := by
  unfold at2; rw [rowsTo_succ]; simp
theorem at2_zero (xs : List Int) (w i : Nat) : at2 xs w i 0 = rowsTo xs w i := by unfold at2; simp
theorem bitX_some {xs : List Int} {i : Nat} (h : i < xs.length) (j : Nat) : bitX xs i j = tb xs[i] j := by unfold bitX; rw [List.getElem?_eq_getElem h]
theorem bitX_none {xs : List Int} {i : Nat} (h : xs.length ≤ i) (j : Nat) : bitX xs i j = false := by unfold bitX; rw [List.getElem?_eq_none h]
theorem mulB {i w a : Nat} (h1 : i ≤ a) (h2 : w ≤ 16) : i * w ≤ a * 16 := Nat.mul_le_mul h1 h2
theorem wmul {i w : Nat} (h1 : i ≤ 10000) (h2 : w ≤ 16) : IntKind.i64.wrap ((i : Int) * (w : Int)) = ((i * w : Nat) : Int) := by
  have := mulB h1 h2
  rw [show ((i : Int) * (w : Int)) = ((i * w : Nat) : Int) by push_cast; rfl]
  exact wi64 _ (by omega)
theorem pad8_wrap {n : Nat} (h : n ≤ 10000) : IntKind.i64.wrap ((IntKind.i64.wrap (Int.tdiv (IntKind.i64.wrap ((n : Int) + 7)) 8)) * 8) = (pad8 n : Int) := by
  rw [wi64 ((n : Int) + 7) (by omega), Int.tdiv_eq_ediv_of_nonneg (by omega), wi64 (((n : Int) + 7) / 8) (by omega), wi64 _ (by omega)]
  unfold pad8; omega
theorem bitsOf_ok {k : Nat} {xs : List Bool} (hk : xs.length + 3 ≤ k) (hl : xs.length ≤ 900000) : bits_Of.f idb k xs = some (bitsT xs) := by
  obtain ⟨k, rfl⟩ : ∃ q, k = q + 1 := ⟨k - 1, by omega⟩
  have hb : bits_Bytes.f idb k ((xs.length : Nat) : Int) = some (bitB (xs.length : Int)) := bits_Bytes_ok (by omega) (by omega) (by omega)
  have hbb : bitB (xs.length : Int) = (((xs.length + 7) / 8 : Nat) : Int) := by unfold bitB; omega
  rw [bits_Of.f_eq, hb, bS, BEq.rfl, hbb, dT (by omega), dT (by omega)]
  simp only [Bool.and_self, cT, Int.toNat_natCast]
  have h0 : (List.replicate ((xs.length + 7) / 8) (0 : Int)) = bits_at xs 0 := by
    unfold bits_at
    refine List.ext_getElem (by simp) fun q h1 h2 => ?_
    simp [byteN]
  rw [h0, ← strOf_bits]
  refine loop_up (F := fun n i => bits_Of.l0 idb k n xs (xs.length : Int) (i : Int) (bits_at xs i)) (N := xs.length) ?_ ?_ k 0 (by omega) (by omega)
  · intro n i hi
    have hq : i / 8 < (xs.length + 7) / 8 := by omega
    have hlen : (bits_at xs i).length = (xs.length + 7) / 8 := by unfold bits_at; rw [List.length_map, List.length_range]
    have e1 : Int.tdiv (i : Int) 8 = ((i / 8 : Nat) : Int) := by rw [Int.tdiv_eq_ediv_of_nonneg (by omega)]; omega
    have e2 : Int.tmod (i : Int) 8 = ((i % 8 : Nat) : Int) := by rw [Int.tmod_eq_emod_of_nonneg (by omega)]; omega
    rw [bits_Of.l0_eq, dT (by omega), cT, rd_get hi, bS, wsucc (by omega)]
    cases hx : xs[i] with
    | false => rw [cF, bits_at_off hi hx]
    | true =>
      rw [cT, e1, e2, wi64 ((i / 8 : Nat) : Int) (by omega), dT (show (0 : Int) ≤ ((i / 8 : Nat) : Int) by omega), dT (show ((i / 8 : Nat) : Int) < ((bits_at xs i).length : Int) by omega), dF (show ¬ (((i % 8 : Nat) : Int) < 0) by omega)]
      simp only [Bool.and_self, cT, cF, Int.toNat_natCast]
      rw [bits_at_get hq, show min 8 (i - 8 * (i / 8)) = i % 8 by omega]
      simp only [bS]
      rw [or_u8_disj _ _ (by omega) (byteN_lt xs (i / 8) (i % 8)), bits_at_on hi hx]
  · intro n
    rw [bits_Of.l0_eq, dF (by omega), cF]
theorem set_app {α : Type} (p : List α) (m : Nat) (a v : α) : (p ++ List.replicate (m + 1) a).set p.length v = (p ++ [v]) ++ List.replicate m a := by
  rw [List.replicate_succ, List.set_append_right _ _ (Nat.le_refl _), Nat.sub_self, List.set_cons_zero, List.append_assoc]; rfl
theorem rows_tail (xs : List Int) (w : Nat) : ∀ m, rowsTo xs w (xs.length + m) = rowsTo xs w xs.length ++ List.replicate (m * w) false
  | 0 => by simp
  | m + 1 => by
    have e : ((List.range w).map fun j => bitX xs (xs.length + m) j) = List.replicate w false := by
      refine List.ext_getElem (by simp) fun q h1 h2 => ?_
      simp [bitX_none]
    rw [← Nat.add_assoc, rowsTo_succ, rows_tail xs w m, e, List.append_assoc, List.replicate_append_replicate, Nat.add_mul, Nat.one_mul]
theorem wide_ok {k w : Nat} {xs : List Int} (hk : 170000 ≤ k) (hl : xs.length ≤ 4096) (hw : w ≤ 16) : hybrid_wide.f idb k xs (w : Int) = some (bitsT (rows xs w)) := by
  obtain ⟨k, rfl⟩ : ∃ q, k = q + 1 := ⟨k - 1, by omega⟩
  have hp := pad8_le xs.length
  have hb := mulB (show pad8 xs.length ≤ 4104 by omega) hw
  have hlw : xs.length * w ≤ pad8 xs.length * w := Nat.mul_le_mul_right w hp.1
  have e8 : IntKind.i64.wrap ((IntKind.i64.wrap (((xs.length : Nat) : Int) + 8)) - 1) = IntKind.i64.wrap (((xs.length : Nat) : Int) + 7) := by
    rw [wi64 (((xs.length : Nat) : Int) + 8) (by omega)]; congr 1; omega
  rw [hybrid_wide.f_eq, e8, pad8_wrap (by omega), wmul (by omega) hw, BEq.rfl, dT (by omega), dT (by omega)]
  simp only [Bool.and_self, cT, Int.toNat_natCast]
  have h0 : List.replicate (pad8 xs.length * w) false = at2 xs w 0 0 ++ List.replicate (pad8 xs.length * w - (0 * w + 0)) false := by simp [at2, rowsTo]
  rw [h0]
  refine loop_up (F := fun n i => hybrid_wide.l0 idb k n (w : Int) xs (xs.length : Int) (i : Int) (at2 xs w i 0 ++ List.replicate (pad8 xs.length * w - (i * w + 0)) false)) (N := xs.length) ?_ ?_ k 0 (by omega) (by omega)
  · intro n i hi
    have hiw : (i + 1) * w ≤ xs.length * w := Nat.mul_le_mul_right w hi
    rw [Nat.add_mul, Nat.one_mul] at hiw
    rw [hybrid_wide.l0_eq, dT (by omega), cT, rd_get hi, bS]
    refine loop_up (F := fun m j => hybrid_wide.l2 idb k n m (w : Int) (i : Int) xs[i] xs (xs.length : Int) (j : Int) (at2 xs w i j ++ List.replicate (pad8 xs.length * w - (i * w + j)) false)) (N := w) ?_ ?_ k 0 (by omega) (by omega)
    · intro m j hj
      have hlen := at2_length xs w i j
      have hadd : IntKind.i64.wrap (((i * w : Nat) : Int) + (j : Int)) = ((i * w + j : Nat) : Int) := by rw [wi64 _ (by omega)]; push_cast; rfl
      obtain ⟨q, hq⟩ : ∃ q, pad8 xs.length * w - (i * w + j) = q + 1 := ⟨pad8 xs.length * w - (i * w + j) - 1, by omega⟩
      have hq2 : pad8 xs.length * w - (i * w + (j + 1)) = q := by omega
      have hll : (at2 xs w i j ++ List.replicate (q + 1) false).length = i * w + j + (q + 1) := by rw [List.length_append, hlen, List.length_replicate]
      have hget : (at2 xs w i j ++ List.replicate (q + 1) false)[i * w + j]? = some false := by
        rw [List.getElem?_append_right (by omega), hlen, Nat.sub_self]; simp
      rw [hybrid_wide.l2_eq, dT (by omega), cT, dF (show ¬ ((j : Int) < 0) by omega), cF, wmul (by omega) hw, hadd, hq, dT (show (0 : Int) ≤ ((i * w + j : Nat) : Int) by omega), dT (by rw [hll]; omega)]
      simp only [Bool.and_self, cT, Int.toNat_natCast]
      rw [hget]
      simp only [bS]
      have hs := set_app (at2 xs w i j) q false (bitX xs i j)
      rw [hlen] at hs
      rw [hq2, at2_succ, wsucc (by omega), ← hs, bitX_some hi]
      rfl
    · intro m
      have e : (i + 1) * w + 0 = i * w + w := by rw [Nat.add_mul, Nat.one_mul]; rfl
      rw [hybrid_wide.l2_eq, dF (by omega), cF, wsucc (by omega), at2_full, e]
  · intro n
    have hz : pad8 xs.length * w - (xs.length * w + 0) = (pad8 xs.length - xs.length) * w := by rw [Nat.sub_mul]; rfl
    have hr : at2 xs w xs.length 0 ++ List.replicate (pad8 xs.length * w - (xs.length * w + 0)) false = rows xs w := by
      rw [hz, at2_zero, ← rows_tail]
      unfold rows
      congr 1; omega
    rw [hybrid_wide.l0_eq, dF (by omega), cF, hr]
    have := bitsOf_ok (k := k) (xs := rows xs w) (by rw [rows_length]; omega) (by rw [rows_length]; omega)
    rw [this, bS]
def wd1 (x : Int) : List UInt8 := strOfBytes [IntKind.u8.wrap (Int.fdiv x 1)]
def wd2 (x : Int) : List UInt8 := strOfBytes [IntKind.u8.wrap (Int.fdiv x 1), IntKind.u8.wrap (Int.fdiv x (2 ^ 8))]
def wd (x : Int) (w : Nat) : List UInt8 := if w = 0 then [] else if w ≤ 8 then wd1 x else wd2 x
theorem word0 (m : Nat) (x : Int) : num_Word.f idb (m + 12) x 0 = some [] := by kernel_rfl
theorem word1 (m : Nat) (x : Int) : num_Word.f idb (m + 12) x 1 = some (wd1 x) := by kernel_rfl
theorem word2 (m : Nat) (x : Int) : num_Word.f idb (m + 12) x 2 = some (wd2 x) := by kernel_rfl
theorem bitB_w {w : Nat} (hw : w ≤ 16) : bitB (w : Int) = if w = 0 then 0 else if w ≤ 8 then 1 else 2 := by
  unfold bitB
  split
  · omega
  · split <;> omega
theorem word_ok {k w : Nat} (hk : 12 ≤ k) (hw : w ≤ 16) (x : Int) : num_Word.f idb k x (bitB (w : Int)) = some (wd x w) := by
  obtain ⟨m, rfl⟩ : ∃ m, k = m + 12 := ⟨k - 12, by omega⟩
  rw [bitB_w hw]; unfold wd
  split
  · exact word0 m x
  · split
    · exact word1 m x
    · exact word2 m x
theorem wd_length (x : Int) (w : Nat) : (wd x w).length ≤ 2 := by
  unfold wd
  split
  · simp
  · split
    · exact Nat.le_succ 1
    · exact Nat.le_refl 2
def grpF : Nat → List Int → Nat
  | 0, l => l.length
  | f + 1, l => if 8 ≤ same l then 0 else if l.length ≤ 8 then l.length else 8 + grpF f (l.drop 8)
theorem grpF_le : ∀ (f : Nat) (l : List Int), grpF f l ≤ l.length
  | 0, l => Nat.le_refl _
  | f + 1, l => by
    unfold grpF
    split
    · exact Nat.zero_le _
    · split
      · exact Nat.le_refl _
      · have := grpF_le f (l.drop 8)
        rw [List.length_drop] at this
        omega
theorem grpF_more : ∀ (f g : Nat) (l : List Int), l.length ≤ f → l.length ≤ g → grpF f l = grpF g l
  | 0, 0, l, _, _ => rfl
  | 0, g + 1, l, h, _ => by
    have : l = [] := List.eq_nil_of_length_eq_zero (by omega)
    subst this; simp [grpF, same]
  | f + 1, 0, l, _, h => by
    have : l = [] := List.eq_nil_of_length_eq_zero (by omega)
    subst this; simp [grpF, same]
  | f + 1, g + 1, l, h1, h2 => by
    unfold grpF
    rw [grpF_more f g (l.drop 8) (by rw [List.length_drop]; omega) (by rw [List.length_drop]; omega)]
def grp (l : List Int) : Nat := grpF l.length l
theorem grp_le (l : List Int) : grp l ≤ l.length := grpF_le _ _
theorem grp_eq (l : List Int) : grp l = if 8 ≤ same l then 0 else if l.length ≤ 8 then l.length else 8 + grp (l.drop 8) := by
  cases l with
  | nil => rfl
  | cons x l =>
    show grpF (l.length + 1) (x :: l) = _
    rw [grpF, grp, grpF_more l.length ((x :: l).drop 8).length _ (by rw [List.length_drop, List.length_cons]; omega) (Nat.le_refl _)]
theorem grp_pos {l : List Int} (h : l ≠ []) (h8 : same l < 8) : 1 ≤ grp l := by
  rw [grp_eq, if_neg (by omega)]
  have : l.length ≠ 0 := fun e => h (List.eq_nil_of_length_eq_zero e)
  split <;> omega
theorem groups_l0 {k : Nat} {xs : List Int} (hk : xs.length + 3 ≤ k) (hl : xs.length ≤ 1000000) : ∀ (d a n : Nat), xs.length ≤ a + d → a ≤ xs.length + 8 → d < n →
    hybrid_groups.l0 idb k n xs (a : Int) = some ((if a < xs.length then a + grp (xs.drop a) else xs.length : Nat) : Int) := by
  intro d
  induction d using Nat.strongRecOn with
  | _ d ih =>
    intro a n h1 h2 h3
    obtain ⟨n, rfl⟩ : ∃ m, n = m + 1 := ⟨n - 1, by omega⟩
    by_cases ha : a < xs.length
    · have hlen : (xs.drop a).length = xs.length - a := List.length_drop
      rw [hybrid_groups.l0_eq, dT (by omega), cT, dT (by omega), dT (by omega)]
      simp only [Bool.and_self, cT, Int.toNat_natCast, List.take_length]
      rw [same_ok (by rw [hlen]; omega) (by rw [hlen]; omega), bS, if_pos ha, grp_eq (xs.drop a), hlen]
      by_cases h8 : 8 ≤ same (xs.drop a)
      · rw [dT (by omega), cT, if_pos h8]; rfl
      · rw [dF (by omega), cF, if_neg h8, wi64 ((a : Int) + 8) (by omega), show ((a : Int) + 8) = ((a + 8 : Nat) : Int) by push_cast; rfl, ih (d - 8) (by omega) (a + 8) n (by omega) (by omega) (by omega)]
        by_cases hz : a + 8 < xs.length
        · rw [if_pos hz, if_neg (by omega), List.drop_drop, Nat.add_assoc]
        · rw [if_neg hz, if_pos (by omega)]
          congr 2; omega
    · rw [hybrid_groups.l0_eq, dF (by omega), cF, if_neg ha]
theorem groups_ok {k : Nat} {xs : List Int} (hk : xs.length + 12 ≤ k) (hl : xs.length ≤ 1000000) (hx : xs ≠ []) : hybrid_groups.f idb k xs = some (grp xs : Int) := by
  obtain ⟨k, rfl⟩ : ∃ q, k = q + 1 := ⟨k - 1, by omega⟩
  have : xs.length ≠ 0 := fun e => hx (List.eq_nil_of_length_eq_zero e)
  have h := groups_l0 (k := k) (xs := xs) (by omega) hl xs.length 0 k (by omega) (by omega) (by omega)
  rw [if_pos (by omega), List.drop_zero, Nat.zero_add] at h
  rw [hybrid_groups.f_eq]; exact h
def putHF : Nat → Nat → List Int → List UInt8
  | 0, _, _ => []
  | f + 1, w, xs =>
    if xs = [] then []
    else if 8 ≤ same xs then (pv (2 * (same xs : Int)) ++ wd (xs.headD 0) w) ++ putHF f w (xs.drop (same xs))
    else (pv (2 * (((grp xs + 7) / 8 : Nat) : Int) + 1) ++ bitsT (rows (xs.take (grp xs)) w)) ++ putHF f w (xs.drop (grp xs))
theorem putHF_more (w : Nat) : ∀ (f g : Nat) (xs : List Int), xs.length ≤ f → xs.length ≤ g → putHF f w xs = putHF g w xs
  | 0, 0, _, _, _ => rfl
  | 0, g + 1, xs, h, _ => by
    have : xs = [] := List.eq_nil_of_length_eq_zero (by omega)
    subst this; simp [putHF]
  | f + 1, 0, xs, _, h => by
    have : xs = [] := List.eq_nil_of_length_eq_zero (by omega)
    subst this; simp [putHF]
  | f + 1, g + 1, xs, h1, h2 => by
    unfold putHF
    split
    · rfl
    · rename_i hx
      have hx' : xs.length ≠ 0 := fun e => hx (List.eq_nil_of_length_eq_zero e)
      split
      · have := same_pos hx
        rw [putHF_more w f g _ (by rw [List.length_drop]; omega) (by rw [List.length_drop]; omega)]
      · rename_i h8
        have := grp_pos hx (by omega)
        rw [putHF_more w f g _ (by rw [List.length_drop]; omega) (by rw [List.length_drop]; omega)]
/-- Numbers' bytes. -/
def putH (w : Nat) (xs : List Int) : List UInt8 := putHF xs.length w xs
theorem putH_nil (w : Nat) : putH w [] = [] := rfl
theorem putH_run {w : Nat} {xs : List Int} (hx : xs ≠ []) (h8 : 8 ≤ same xs) : putH w xs = (pv (2 * (same xs : Int)) ++ wd (xs.headD 0) w) ++ putH w (xs.drop (same xs)) := by
  cases xs with
  | nil => exact absurd rfl hx
  | cons x l =>
    show putHF (l.length + 1) w (x :: l) = _
    have := same_pos hx
    rw [putHF, if_neg hx, if_pos h8, putH, putHF_more w l.length ((x :: l).drop (same (x :: l))).length _ (by rw [List.length_drop, List.length_cons]; omega) (Nat.le_refl _)]
theorem putH_grp {w : Nat} {xs : List Int} (hx : xs ≠ []) (h8 : same xs < 8) : putH w xs = (pv (2 * (((grp xs + 7) / 8 : Nat) : Int) + 1) ++ bitsT (rows (xs.take (grp xs)) w)) ++ putH w (xs.drop (grp xs)) := by
  cases xs with
  | nil => exact absurd rfl hx
  | cons x l =>
    show putHF (l.length + 1) w (x :: l) = _
    have := grp_pos hx h8
    rw [putHF, if_neg hx, if_neg (by omega), putH, putHF_more w l.length ((x :: l).drop (grp (x :: l))).length _ (by rw [List.length_drop, List.length_cons]; omega) (Nat.le_refl _)]
theorem rows_bytes {w : Nat} (hw : w ≤ 16) (xs : List Int) : (bitsT (rows xs w)).length ≤ 2 * xs.length + 15 := by
  have hp := pad8_le xs.length
  have := Nat.mul_le_mul_left (pad8 xs.length) hw
  rw [bitsT_len, rows_length]; omega
theorem bytesOf_back (s : List UInt8) : strOfBytes (bytesOfStr s) = s := by
  unfold strOfBytes bytesOfStr
  rw [List.map_map]
  refine (List.map_congr_left fun b _ => ?_).trans (List.map_id s)
  show UInt8.ofNat ((b.toNat : Int)).toNat = b
  simp
theorem bytesOfStr_length (s : List UInt8) : (bytesOfStr s).length = s.length := by simp [bytesOfStr]
theorem head_rd {xs : List Int} (h : xs ≠ []) : rd xs 0 = some (xs.headD 0) := by
  cases xs with
  | nil => exact absurd rfl h
  | cons x l => exact rd_some (i := 0) rfl
theorem gidx {g : Nat} (h : g ≤ 4096) : IntKind.i64.wrap ((IntKind.i64.wrap (2 * (IntKind.i64.wrap (Int.tdiv (IntKind.i64.wrap ((IntKind.i64.wrap ((g : Int) + 8)) - 1)) 8)))) + 1) = 2 * (((g + 7) / 8 : Nat) : Int) + 1 := by
  rw [wi64 ((g : Int) + 8) (by omega), wi64 ((g : Int) + 8 - 1) (by omega), Int.tdiv_eq_ediv_of_nonneg (by omega), wi64 (((g : Int) + 8 - 1) / 8) (by omega), wi64 (2 * (((g : Int) + 8 - 1) / 8)) (by omega), wi64 (2 * (((g : Int) + 8 - 1) / 8) + 1) (by omega)]
  omega
theorem put_l0 {k w : Nat} (hk : 200000 ≤ k) (hw : w ≤ 16) : ∀ (m : Nat) (xs : List Int) (out : List Int) (n : Nat), xs.length ≤ m → xs.length ≤ 4096 → m < n → out.length + 25 * xs.length ≤ 1000000 →
    hybrid_Put.l0 idb k n xs (w : Int) out = some (strOfBytes out ++ putH w xs, 0) := by
  intro m
  induction m with
  | zero =>
    intro xs out n h1 h2 h3 h4
    have : xs = [] := List.eq_nil_of_length_eq_zero (by omega)
    subst this
    obtain ⟨n, rfl⟩ : ∃ q, n = q + 1 := ⟨n - 1, by omega⟩
    rw [hybrid_Put.l0_eq, dF (by simp), cF, putH_nil, List.append_nil]
  | succ m ih =>
    intro xs out n h1 h2 h3 h4
    obtain ⟨n, rfl⟩ : ∃ q, n = q + 1 := ⟨n - 1, by omega⟩
    by_cases hx : xs = []
    · subst hx
      rw [hybrid_Put.l0_eq, dF (by simp), cF, putH_nil, List.append_nil]
    · have hx' : xs.length ≠ 0 := fun e => hx (List.eq_nil_of_length_eq_zero e)
      have hle := same_le xs
      rw [hybrid_Put.l0_eq, dT (by omega), cT, same_ok (by omega) (by omega), bS]
      by_cases h8 : 8 ≤ same xs
      · have hpl := pv_length (2 * (same xs : Int))
        have hwl := wd_length (xs.headD 0) w
        have hm : may (2 * (same xs : Int)) = true := may_iff.2 (by omega)
        have hdl : (xs.drop (same xs)).length = xs.length - same xs := List.length_drop
        rw [dT (by omega), cT, wi64 (2 * (same xs : Int)) (by omega), num_PutVar_ok (by omega), bS, putVar_may hm]
        dsimp only
        rw [head_rd hx, bS, bits_Bytes_ok (by omega) (by omega) (by omega), bS, word_ok (by omega) hw, bS, dT (by omega), cT, dT (by rw [List.length_append]; omega), cT, dT (by omega), dT (by omega)]
        simp only [Bool.and_self, cT, Int.toNat_natCast, List.take_length]
        rw [ih _ _ n (by rw [hdl]; omega) (by rw [hdl]; omega) (by omega) (by rw [List.length_append, bytesOfStr_length, List.length_append, hdl]; omega), strOfBytes_append, bytesOf_back, putH_run hx h8, List.append_assoc]
      · have hg := grp_le xs
        have hgp := grp_pos hx (by omega)
        have hgm : may (2 * (((grp xs + 7) / 8 : Nat) : Int) + 1) = true := may_iff.2 (by omega)
        have hpl := pv_length (2 * (((grp xs + 7) / 8 : Nat) : Int) + 1)
        have htl : (xs.take (grp xs)).length = grp xs := by rw [List.length_take]; omega
        have hrl := rows_bytes hw (xs.take (grp xs))
        rw [htl] at hrl
        have hdl : (xs.drop (grp xs)).length = xs.length - grp xs := List.length_drop
        rw [dF (by omega), cF, groups_ok (by omega) (by omega) hx, bS, gidx (by omega), num_PutVar_ok (by omega), bS, putVar_may hgm, dT (by omega), dT (by omega)]
        simp only [Bool.and_self, cT, Int.toNat_natCast, List.take_length, List.drop_zero]
        rw [wide_ok (by omega) (by rw [htl]; omega) hw, bS, dT (by omega), cT, dT (by rw [List.length_append]; omega), cT]
        rw [ih _ _ n (by rw [hdl]; omega) (by rw [hdl]; omega) (by omega) (by rw [List.length_append, bytesOfStr_length, List.length_append, hdl]; omega), strOfBytes_append, bytesOf_back, putH_grp hx (by omega), List.append_assoc]
theorem minI {a b : Int} : (bif decide (a < b) then a else b) = min b a := by
  by_cases h : a < b
  · rw [dT h, cT]; omega
  · rw [dF h, cF]; omega
def okX (w : Nat) (x : Int) : Bool := decide (0 ≤ x) && decide (x < 2 ^ w)
def okL (w : Nat) (xs : List Int) : Bool := xs.all (okX w)
theorem min64 {w : Nat} (hw : w ≤ 16) : min w IntKind.i64.bits = w := by simp only [IntKind.bits]; omega
theorem pow16 {w : Nat} (hw : w ≤ 16) : (1 : Int) ≤ 2 ^ w ∧ (2 : Int) ^ w ≤ 65536 := by
  have h1 : (2 : Nat) ^ w ≤ 2 ^ 16 := Nat.pow_le_pow_right (by omega) hw
  have h2 : 0 < (2 : Nat) ^ w := Nat.two_pow_pos w
  have e : ((2 : Int) ^ w) = ((2 ^ w : Nat) : Int) := by push_cast; rfl
  rw [e]; omega
theorem may1_ok {k w : Nat} (hk : 1 ≤ k) (hw : w ≤ 16) (x : Int) : hybrid_may_1.f idb k x (w : Int) = some (!okX w x) := by
  obtain ⟨k, rfl⟩ : ∃ q, k = q + 1 := ⟨k - 1, by omega⟩
  rw [hybrid_may_1.f_eq]
  have hp := pow16 hw
  unfold okX
  by_cases h0 : x < 0
  · rw [dT h0, dF (show ¬ (0 ≤ x) by omega)]; rfl
  · rw [dF h0, dT (show 0 ≤ x by omega), dF (show ¬ ((w : Int) < 0) by omega), Int.toNat_natCast, min64 hw, fdiv_pow']
    simp only [Bool.not_false, cT, cF, Bool.true_and]
    have hd : x / 2 ^ w > 0 ↔ ¬ x < 2 ^ w := by
      rw [Int.not_lt]
      constructor
      · intro h
        have := (Int.le_ediv_iff_mul_le (a := 1) (b := x) (c := 2 ^ w) (by omega)).1 (by omega)
        omega
      · intro h
        have := (Int.le_ediv_iff_mul_le (a := 1) (b := x) (c := 2 ^ w) (by omega)).2 (by omega)
        omega
    by_cases hx : x < 2 ^ w
    · rw [dT hx, dF (fun h => hd.1 h hx)]; rfl
    · rw [dF hx, dT (hd.2 hx)]; rfl
theorem index_l0 {k w : Nat} (hk : 1 ≤ k) (hw : w ≤ 16) {xs : List Int} (hl : xs.length ≤ 1000000) : ∀ (d i n : Nat), i + d = xs.length → d < n →
    ∃ r, slices_IndexFunc_int_int_hybrid_may_1.l0 idb k n xs (w : Int) (xs.length : Int) (i : Int) = some r ∧ decide (r ≥ 0) = !okL w (xs.drop i) := by
  intro d
  induction d with
  | zero =>
    intro i n h1 h2
    obtain ⟨n, rfl⟩ : ∃ q, n = q + 1 := ⟨n - 1, by omega⟩
    refine ⟨-1, by rw [slices_IndexFunc_int_int_hybrid_may_1.l0_eq, dF (by omega), cF], ?_⟩
    rw [show i = xs.length by omega, List.drop_length]; rfl
  | succ d ih =>
    intro i n h1 h2
    obtain ⟨n, rfl⟩ : ∃ q, n = q + 1 := ⟨n - 1, by omega⟩
    have hi : i < xs.length := by omega
    have hdr : okL w (xs.drop i) = (okX w xs[i] && okL w (xs.drop (i + 1))) := by
      rw [List.drop_eq_getElem_cons hi]; rfl
    rw [slices_IndexFunc_int_int_hybrid_may_1.l0_eq, dT (by omega), cT, rd_get hi, bS, may1_ok hk hw, bS, hdr]
    cases hx : okX w xs[i] with
    | false => exact ⟨(i : Int), rfl, by rw [dT (by omega)]; rfl⟩
    | true =>
      obtain ⟨r, e1, e2⟩ := ih (i + 1) n (by omega) (by omega)
      refine ⟨r, ?_, by rw [e2, Bool.true_and]⟩
      simp only [Bool.not_true, cF]
      rw [wsucc (by omega)]; exact e1
theorem hmay_ok {k : Nat} {xs : List Int} (hk : xs.length + 5 ≤ k) (hl : xs.length ≤ 1000000) (w : Int) :
    hybrid_may.f idb k xs w = some (decide (0 ≤ w) && (decide (w ≤ 16) && (decide ((xs.length : Int) ≤ 4096) && okL w.toNat xs))) := by
  obtain ⟨k, rfl⟩ : ∃ q, k = q + 1 := ⟨k - 1, by omega⟩
  rw [hybrid_may.f_eq]
  by_cases h0 : 0 ≤ w
  · by_cases h1 : w ≤ 16
    · by_cases h2 : (xs.length : Int) ≤ 4096
      · obtain ⟨w, rfl⟩ : ∃ q : Nat, w = (q : Int) := ⟨w.toNat, by omega⟩
        obtain ⟨k, rfl⟩ : ∃ q, k = q + 2 := ⟨k - 2, by omega⟩
        obtain ⟨r, e1, e2⟩ := index_l0 (k := k) (w := w) (by omega) (by omega) hl xs.length 0 k (by omega) (by omega)
        rw [dT (show (w : Int) ≥ 0 by omega), dT h1, dT h2]
        simp only [cT, Bool.true_and, Int.toNat_natCast]
        rw [slices_ContainsFunc_int_int_hybrid_may_1.f_eq, slices_IndexFunc_int_int_hybrid_may_1.f_eq]
        have e1' : slices_IndexFunc_int_int_hybrid_may_1.l0 idb k k xs (w : Int) (xs.length : Int) 0 = some r := e1
        rw [e1', bS, bS, e2, List.drop_zero, Bool.not_not]
      · rw [dT (show w ≥ 0 by omega), dT h1, dF h2]; rfl
    · rw [dT (show w ≥ 0 by omega), dF h1]; rfl
  · rw [dF (show ¬ w ≥ 0 by omega)]; rfl
/-- Numbers' bytes, and which error. -/
def mayH (w : Int) (xs : List Int) : Bool := decide (0 ≤ w) && (decide (w ≤ 16) && (decide ((xs.length : Int) ≤ 4096) && okL w.toNat xs))
def putT (w : Int) (xs : List Int) : List UInt8 × Int := if mayH w xs = true then (putH w.toNat xs, 0) else ([], 2100)
theorem mayH_iff {w : Int} {xs : List Int} : mayH w xs = true ↔ 0 ≤ w ∧ w ≤ 16 ∧ (xs.length : Int) ≤ 4096 ∧ okL w.toNat xs = true := by
  unfold mayH; simp only [Bool.and_eq_true, decide_eq_true_eq]
theorem Put_ok {k : Nat} {xs : List Int} (hk : 1200000 ≤ k) (hl : xs.length ≤ 1000000) (w : Int) : hybrid_Put.f idb k xs w = some (putT w xs) := by
  obtain ⟨k, rfl⟩ : ∃ q, k = q + 1 := ⟨k - 1, by omega⟩
  rw [hybrid_Put.f_eq, hmay_ok (by omega) hl, bS]
  unfold putT
  show (bif !(mayH w xs) then _ else _) = _
  cases hm : mayH w xs with
  | false => rfl
  | true =>
    obtain ⟨h0, h1, h2, _⟩ := mayH_iff.1 hm
    obtain ⟨w, rfl⟩ : ∃ q : Nat, w = (q : Int) := ⟨w.toNat, by omega⟩
    simp only [Bool.not_true, cF, if_true, Int.toNat_natCast]
    rw [put_l0 (by omega) (by omega) xs.length xs [] k (Nat.le_refl _) (by omega) (by omega) (by simp; omega)]; rfl
theorem and_u64 {c : Int} (h0 : 0 ≤ c) (h1 : c < 4294967296) : bitsOp .and .u64 c 4294967295 = c := by
  rw [bitsOp_and]
  have e1 : (4294967295 % (2 ^ IntKind.u64.bits : Int)).toNat = 2 ^ 32 - 1 := by decide
  have e2 : (c % (2 ^ IntKind.u64.bits : Int)).toNat = c.toNat := by simp only [IntKind.bits]; omega
  rw [e1, e2, Nat.and_two_pow_sub_one_eq_mod, wu64 _ (by omega)]
  omega
theorem mul1 {k : Nat} (hk : 2 ≤ k) {c : Int} (h0 : 0 ≤ c) (h1 : c < 4294967296) : math_bits_Mul.f idb k 1 c = some (0, c) := by
  obtain ⟨k, rfl⟩ : ∃ q, k = q + 2 := ⟨k - 2, by omega⟩
  have m32 : min 32 IntKind.u64.bits = 32 := rfl
  have f1 : Int.fdiv 1 (2 ^ 32) = 0 := by decide
  have f0 : Int.fdiv 0 (2 ^ 32) = 0 := by decide
  have fc : Int.fdiv c (2 ^ 32) = 0 := by rw [fdiv_pow']; omega
  have a1 : bitsOp .and .u64 1 4294967295 = 1 := by decide
  have a0 : bitsOp .and .u64 0 4294967295 = 0 := by decide
  have w0 : IntKind.u64.wrap 0 = 0 := by decide
  rw [math_bits_Mul.f_eq, math_bits_Mul64.f_eq, m32, f1, fc, a1, and_u64 h0 h1]
  simp only [Int.zero_mul, Int.mul_zero, Int.one_mul, w0, wu64 c (by omega), fc, Int.add_zero, a0, f0, bS]
theorem rep_l0 {k : Nat} (x : Int) {c : Nat} (hc : c ≤ 1000000) : ∀ (d n q : Nat), c ≤ n + d → n ≤ c → (1 ≤ n ∨ c = 0) → d < q →
    slices_Repeat_int_int.l0 idb k q (n : Int) (List.replicate n x ++ List.replicate (c - n) 0) = some (List.replicate c x) := by
  intro d
  induction d using Nat.strongRecOn with
  | _ d ih =>
    intro n q h1 h2 h3 h4
    obtain ⟨q, rfl⟩ : ∃ z, q = z + 1 := ⟨q - 1, by omega⟩
    have hlen : (List.replicate n x ++ List.replicate (c - n) (0 : Int)).length = c := by rw [List.length_append, List.length_replicate, List.length_replicate]; omega
    rw [slices_Repeat_int_int.l0_eq, hlen]
    by_cases hn : n < c
    · rw [dT (by omega), cT, dT (show 0 ≤ (n : Int) by omega), dT (by omega)]
      simp only [Bool.and_self, cT, Int.toNat_natCast, List.drop_zero, Nat.zero_add]
      have b1 : Nat.ble (n + (c - n)) c = true := Nat.ble_eq_true_of_le (by omega)
      have b2 : Nat.ble n c = true := Nat.ble_eq_true_of_le (by omega)
      have tk : List.take n (List.replicate n x ++ List.replicate (c - n) (0 : Int)) = List.replicate n x := by
        rw [List.take_append_of_le_length (by simp)]; simp
      rw [b1, b2, cT, cT, tk, bS, List.length_replicate]
      have hm : min n (c - n) ≤ c - n := Nat.min_le_right _ _
      have t2 : List.take (c - n) (List.replicate n x) = List.replicate (min n (c - n)) x := by rw [List.take_replicate, Nat.min_comm]
      have dr : List.drop (n + min n (c - n)) (List.replicate n x ++ List.replicate (c - n) (0 : Int)) = List.replicate (c - (n + min n (c - n))) 0 := by
        rw [List.drop_append, List.length_replicate, List.drop_of_length_le (by simp), List.nil_append, Nat.add_sub_cancel_left, List.drop_replicate]
        congr 1; omega
      rw [t2, dr, List.replicate_append_replicate, wi64 _ (by omega), show ((n : Int) + ((min n (c - n) : Nat) : Int)) = ((n + min n (c - n) : Nat) : Int) by push_cast; rfl]
      exact ih (d - min n (c - n)) (by omega) _ q (by omega) (by omega) (.inl (by omega)) (by omega)
    · have e : n = c := by omega
      subst e
      rw [dF (by omega), cF, Nat.sub_self]
      simp
theorem Repeat_ok {k c : Nat} (hk : c + 10 ≤ k) (hc : c ≤ 1000000) (x : Int) : slices_Repeat_int_int.f idb k [x] (c : Int) = some (List.replicate c x) := by
  obtain ⟨k, rfl⟩ : ∃ q, k = q + 1 := ⟨k - 1, by omega⟩
  have hl1 : IntKind.u64.wrap ((([x] : List Int)).length : Int) = 1 := rfl
  rw [slices_Repeat_int_int.f_eq, dF (by omega), cF, bar_eq, slices_Repeat_int_int.j3_eq, hl1, wu64 (c : Int) (by omega), mul1 (by omega) (by omega) (by omega), bS]
  dsimp only
  rw [dF (show ¬ ((0 : Int) > 0) by omega), dF (show ¬ ((c : Int) > 9223372036854775807) by omega)]
  simp only [Bool.not_false, cT, cF]
  rw [bar_eq, slices_Repeat_int_int.j6_eq, wi64 (c : Int) (by omega), BEq.rfl, dT (show 0 ≤ (c : Int) by omega), dT (show (c : Int) * 8 ≤ 140737488355328 by omega)]
  simp only [Bool.and_self, cT, Int.toNat_natCast, List.length_replicate, Nat.zero_add, List.take_zero, List.nil_append]
  have b1 : Nat.ble c c = true := Nat.ble_eq_true_of_le (Nat.le_refl _)
  have hL : List.take c [x] ++ List.drop (min ([x] : List Int).length c) (List.replicate c (0 : Int)) = List.replicate (min 1 c) x ++ List.replicate (c - min 1 c) 0 := by
    rw [List.drop_replicate]
    cases c with
    | zero => rfl
    | succ c => simp
  rw [b1, cT, hL]
  exact rep_l0 x hc c (min 1 c) k (by omega) (by omega) (by omega) (by omega)
theorem getVar_spec (s : List UInt8) (a : Nat) : getVar s (a : Int) = (0, 0, 300) ∨ ∃ (h : Int) (e : Nat), getVar s (a : Int) = (h, (e : Int), 0) ∧ may h = true ∧ a < e ∧ e ≤ s.length ∧ pv h = (s.take e).drop a := by
  have key : ∀ (f : Nat) (x : Int) (i : Nat), gvL s a f x i = (0, 0, 300) ∨ ∃ (h : Int) (e : Nat), gvL s a f x i = (h, (e : Int), 0) ∧ may h = true ∧ a < e ∧ e ≤ s.length ∧ pv h = (s.take e).drop a := by
    intro f
    induction f with
    | zero => intro x i; exact .inl rfl
    | succ f ih =>
      intro x i
      rw [gvL]
      split
      · exact .inl rfl
      · rename_i b hb
        have hlt := (List.getElem?_eq_some_iff.mp hb).1
        split
        · exact ih _ _
        · split
          · rename_i h
            exact .inr ⟨_, a + i + 1, rfl, h.1, by omega, by omega, h.2⟩
          · exact .inl rfl
  unfold getVar
  split
  · rw [Int.toNat_natCast]; exact key 5 0 0
  · exact .inl rfl
theorem bytes_bad {k : Nat} (hk : 1 ≤ k) (r : List UInt8) (w : Int) (out : List Int) (n : Int) : hybrid_taker_bytes.f idb k r w out true n = some ([], (r, w, out, true)) := by
  obtain ⟨k, rfl⟩ : ∃ q, k = q + 1 := ⟨k - 1, by omega⟩
  rw [hybrid_taker_bytes.f_eq]; rfl
theorem bytes_ok {k : Nat} (hk : 1 ≤ k) (r : List UInt8) (w : Int) (out : List Int) (n : Nat) : hybrid_taker_bytes.f idb k r w out false (n : Int) =
    some (if n ≤ r.length then (r.take n, (r.drop n, w, out, false)) else ([], (r, w, out, true))) := by
  obtain ⟨k, rfl⟩ : ∃ q, k = q + 1 := ⟨k - 1, by omega⟩
  rw [hybrid_taker_bytes.f_eq]
  by_cases h : n ≤ r.length
  · rw [dF (show ¬ ((n : Int) > (r.length : Int)) by omega), dT (show 0 ≤ (n : Int) by omega), dT (show (n : Int) ≤ ((r.length : Nat) : Int) by omega), if_pos h]
    simp only [Bool.not_false, cT, cF, Bool.and_self, Int.toNat_natCast, List.drop_zero, List.take_length]
  · rw [dT (show (n : Int) > (r.length : Int) by omega), if_neg h]; rfl
/-- What 'run' leaves: the rest, what is out, whether there is not what there should be. -/
def runT (w : Nat) (r : List UInt8) (out : List Int) (bad : Bool) (many left : Nat) : List UInt8 × List Int × Bool :=
  if bad = true ∨ r.length < (bitB w).toNat then (r, out, true)
  else if left < many then (r.drop (bitB w).toNat, out, true)
  else (r.drop (bitB w).toNat, out ++ List.replicate many (numOf (r.take (bitB w).toNat)), false)
theorem run_taker {k w : Nat} (hk : 1000100 ≤ k) (hw : w ≤ 16) (r : List UInt8) (out : List Int) (bad : Bool) {many left : Nat} (hl : left ≤ 1000000) (ho : out.length ≤ 1000000) :
    hybrid_taker_run.f idb k r (w : Int) out bad (many : Int) (left : Int) = some ((runT w r out bad many left).1, (w : Int), (runT w r out bad many left).2.1, (runT w r out bad many left).2.2) := by
  obtain ⟨k, rfl⟩ : ∃ q, k = q + 1 := ⟨k - 1, by omega⟩
  have hbb : bitB (w : Int) = ((bitB (w : Int)).toNat : Int) := by unfold bitB; omega
  have hb2 : (bitB (w : Int)).toNat ≤ 2 := by unfold bitB; omega
  rw [hybrid_taker_run.f_eq, bits_Bytes_ok (by omega) (by omega) (by omega), bS]
  unfold runT
  cases bad with
  | true =>
    rw [bytes_bad (by omega), bS]
    dsimp only
    rw [num_Of_ok (by omega) _ (by simp), bS, if_pos (.inl rfl)]; rfl
  | false =>
    rw [hbb, bytes_ok (by omega), bS, Int.toNat_natCast]
    by_cases h : (bitB (w : Int)).toNat ≤ r.length
    · rw [if_pos h, if_neg (by simp; omega)]
      dsimp only
      rw [num_Of_ok (by omega) _ (by rw [List.length_take]; omega), bS]
      by_cases hm : left < many
      · rw [dT (show (many : Int) > (left : Int) by omega), if_pos hm]; rfl
      · rw [dF (show ¬ ((many : Int) > (left : Int)) by omega), if_neg hm]
        simp only [Bool.not_false, cT]
        rw [Repeat_ok (by omega) (by omega), bS, dT (by rw [List.length_replicate]; omega), cT]
    · rw [if_neg h, if_pos (.inr (by omega))]
      dsimp only
      rw [num_Of_ok (by omega) _ (by simp), bS]; rfl
/-- A number's first bits, out of a text's. -/
def valB (s : List UInt8) (w i : Nat) : Nat → Int
  | 0 => 0
  | j + 1 => valB s w i j + (if onB s (i * w + j) = true then 2 ^ j else 0)
theorem valB_range (s : List UInt8) (w i : Nat) : ∀ j, 0 ≤ valB s w i j ∧ valB s w i j < 2 ^ j
  | 0 => by simp [valB]
  | j + 1 => by
    have h := valB_range s w i j
    have e : (2 : Int) ^ (j + 1) = 2 ^ j * 2 := Int.pow_succ 2 j
    rw [valB, e]
    split <;> omega
/-- Number i of some groups. -/
def valG (bad : Bool) (s : List UInt8) (w i j : Nat) : Int := if bad = true then 0 else valB s w i j
theorem or_bit {x : Int} {j : Nat} (hj : j < 16) (h0 : 0 ≤ x) (h1 : x < 2 ^ j) : bitsOp .or .i64 x (IntKind.i64.wrap (1 * 2 ^ (min j IntKind.i64.bits))) = x + 2 ^ j := by
  have hp := pow16 (w := j) (by omega)
  rw [min64 (by omega), wi64 (1 * 2 ^ j) (by omega), or_disj64 x 1 j h0 h1 (by omega) (by omega)]
  omega
theorem groups_l2 {k w : Nat} (hw : w ≤ 16) (hk : 100 ≤ k) (bad : Bool) (s rest : List UInt8) (out : List Int) {i many : Nat} (hm : many ≤ 600) (hi : i < 8 * many) (hs : bad = false → s.length = many * w) (lim : Int) (m1 : Nat) (ho : out.length ≤ 1000000) :
    hybrid_taker_groups.l2 idb k m1 k s (i : Int) 0 lim (w : Int) 0 rest out bad = hybrid_taker_groups.l0 idb k m1 s lim ((i + 1 : Nat) : Int) rest (w : Int) (out ++ [valG bad s w i w]) bad := by
  have h0 : (0 : Int) = valG bad s w i 0 := by unfold valG; split <;> rfl
  have hb := mulB (show i ≤ 4800 by omega) hw
  have hiw : (i + 1) * w ≤ 8 * many * w := Nat.mul_le_mul_right w hi
  rw [Nat.add_mul, Nat.one_mul, Nat.mul_assoc] at hiw
  refine Eq.trans (congrArg (fun z => hybrid_taker_groups.l2 idb k m1 k s (i : Int) z lim (w : Int) 0 rest out bad) h0) ?_
  refine loop_up (F := fun n j => hybrid_taker_groups.l2 idb k m1 n s (i : Int) (valG bad s w i j) lim (w : Int) (j : Int) rest out bad) (N := w) ?_ ?_ k 0 (by omega) (by omega)
  · intro n j hj
    rw [hybrid_taker_groups.l2_eq, dT (by omega), cT]
    cases bad with
    | true => rw [wsucc (by omega)]; rfl
    | false =>
      have hsl := hs rfl
      have hadd : IntKind.i64.wrap (((i * w : Nat) : Int) + (j : Int)) = ((i * w + j : Nat) : Int) := by rw [wi64 _ (by omega)]; push_cast; rfl
      have hv := valB_range s w i j
      simp only [Bool.not_false, cT]
      rw [wmul (by omega) hw, hadd, bits_On_ok (by omega) (by omega) (by omega), bS, wsucc (by omega)]
      unfold valG
      simp only [Bool.false_eq_true, if_false]
      cases hon : onB s (i * w + j) with
      | true =>
        rw [cT, dF (show ¬ ((j : Int) < 0) by omega), cF, Int.toNat_natCast, or_bit (by omega) hv.1 hv.2, valB, hon, if_pos rfl]
      | false => rw [cF, valB, hon, if_neg (by simp), Int.add_zero]
  · intro n
    rw [hybrid_taker_groups.l2_eq, dF (by omega), cF, dT (by simp only [List.length_cons, List.length_nil]; omega), cT, wsucc (by omega)]
def grpT (w : Nat) (r : List UInt8) (out : List Int) (bad : Bool) (many left : Nat) : List UInt8 × List Int × Bool :=
  if (left + 7) / 8 < many then (r, out, true)
  else if bad = true ∨ r.length < many * w then (r, out ++ (List.range (min (8 * many) left)).map (fun i => valG true [] w i w), true)
  else (r.drop (many * w), out ++ (List.range (min (8 * many) left)).map (fun i => valG false (r.take (many * w)) w i w), false)
theorem groups_out {k w : Nat} (hw : w ≤ 16) (hk : 100000 ≤ k) (bad : Bool) (s rest : List UInt8) (out : List Int) {many lim : Nat} (hm : many ≤ 600) (hi : lim ≤ 8 * many) (hs : bad = false → s.length = many * w) (ho : out.length ≤ 900000) :
    hybrid_taker_groups.l0 idb k k s (lim : Int) 0 rest (w : Int) out bad = some (rest, (w : Int), out ++ (List.range lim).map (fun i => valG bad s w i w), bad) := by
  have h0 : out = out ++ (List.range 0).map (fun i => valG bad s w i w) := by simp
  refine Eq.trans (congrArg (fun z => hybrid_taker_groups.l0 idb k k s (lim : Int) 0 rest (w : Int) z bad) h0) ?_
  refine loop_up (F := fun n i => hybrid_taker_groups.l0 idb k n s (lim : Int) (i : Int) rest (w : Int) (out ++ (List.range i).map (fun i => valG bad s w i w)) bad) (N := lim) ?_ ?_ k 0 (by omega) (by omega)
  · intro n i hl
    rw [hybrid_taker_groups.l0_eq, dT (by omega), cT, groups_l2 hw (by omega) bad s rest _ hm (by omega) hs (lim : Int) n (by rw [List.length_append, List.length_map, List.length_range]; omega), List.range_succ, List.map_append, List.append_assoc]
    rfl
  · intro n
    rw [hybrid_taker_groups.l0_eq, dF (by omega), cF]
theorem grp_taker {k w : Nat} (hk : 100100 ≤ k) (hw : w ≤ 16) (r : List UInt8) (out : List Int) (bad : Bool) {many left : Nat} (hl : left ≤ 4096) (hm : many ≤ 2000000000) (ho : out.length ≤ 900000) :
    hybrid_taker_groups.f idb k r (w : Int) out bad (many : Int) (left : Int) = some ((grpT w r out bad many left).1, (w : Int), (grpT w r out bad many left).2.1, (grpT w r out bad many left).2.2) := by
  obtain ⟨k, rfl⟩ : ∃ q, k = q + 1 := ⟨k - 1, by omega⟩
  have e8 : IntKind.i64.wrap (Int.tdiv (IntKind.i64.wrap ((IntKind.i64.wrap ((left : Int) + 8)) - 1)) 8) = (((left + 7) / 8 : Nat) : Int) := by
    rw [wi64 ((left : Int) + 8) (by omega), wi64 ((left : Int) + 8 - 1) (by omega), Int.tdiv_eq_ediv_of_nonneg (by omega), wi64 (((left : Int) + 8 - 1) / 8) (by omega)]
    omega
  rw [hybrid_taker_groups.f_eq, e8]
  unfold grpT
  by_cases h1 : (left + 7) / 8 < many
  · rw [dT (by omega), if_pos h1]; rfl
  · have hmany : many ≤ 600 := by omega
    have hmw := mulB (show many ≤ 600 from hmany) hw
    rw [dF (by omega), cF, if_neg h1, wmul (by omega) hw, wi64 ((many : Int) * 8) (by omega), minI, show min ((many : Int) * 8) (left : Int) = ((min (8 * many) left : Nat) : Int) by omega]
    have hlim : min (8 * many) left ≤ 8 * many := Nat.min_le_left _ _
    cases bad with
    | true =>
      rw [bytes_bad (by omega), bS, if_pos (.inl rfl)]
      dsimp only
      exact groups_out hw (by omega) true [] r out hmany hlim (fun h => by cases h) ho
    | false =>
      rw [bytes_ok (by omega), bS]
      by_cases h2 : many * w ≤ r.length
      · rw [if_pos h2, if_neg (by simp; omega)]
        dsimp only
        exact groups_out hw (by omega) false _ _ out hmany hlim (fun _ => by rw [List.length_take]; omega) ho
      · rw [if_neg h2, if_pos (.inr (by omega))]
        dsimp only
        exact groups_out hw (by omega) true [] r out hmany hlim (fun h => by cases h) ho
/-- What the end of Get answers. -/
def finG (w : Int) (s : List UInt8) (count : Int) (out : List Int) (bad : Bool) : List Int × Int :=
  if bad = false ∧ putT w out = (s, 0) ∧ (out.length : Int) = count then (out, 0) else ([], 2100)
theorem fin_eq (w : Int) (s : List UInt8) (count : Int) (out : List Int) :
    (bif (!((putT w out).2 != 0)) then
      bif (!((putT w out).1 != s)) then
        bif (((out).length : Int) != count) then some (([] : List Int), (2100 : Int)) else some (out, 0)
      else some (([] : List Int), 2100)
    else some (([] : List Int), 2100)) = some (finG w s count out false) := by
  unfold finG
  rcases hp : putT w out with ⟨u, e⟩
  dsimp only
  by_cases h1 : e = 0
  · subst h1
    by_cases h2 : u = s
    · subst h2
      by_cases h3 : (out.length : Int) = count
      · rw [if_pos ⟨rfl, rfl, h3⟩, show ((out.length : Int) != count) = false by simpa using h3]
        simp only [bne_self_eq_false, Bool.not_false, cT, cF]
      · rw [if_neg (fun h => h3 h.2.2), show ((out.length : Int) != count) = true by simpa using h3]
        simp only [bne_self_eq_false, Bool.not_false, cT]
    · rw [if_neg (fun h => h2 (Prod.mk.inj h.2.1).1), show (u != s) = true by simpa using h2]
      simp only [bne_self_eq_false, Bool.not_false, Bool.not_true, cT, cF]
  · rw [if_neg (fun h => h1 (Prod.mk.inj h.2.1).2), show (e != 0) = true by simpa using h1]
    simp only [Bool.not_true, cF]
theorem get_stop {k : Nat} (hk : 1200000 ≤ k) (n : Nat) (s : List UInt8) (w : Int) (count : Int) (r : List UInt8) (w' : Int) (out : List Int) (bad : Bool) (ho : out.length ≤ 1000000) (h : bad = true ∨ ¬ (out.length : Int) < count) :
    hybrid_Get.l0 idb k (n + 1) s w count r w' out bad = some (finG w s count out bad) := by
  rw [hybrid_Get.l0_eq]
  cases bad with
  | true =>
    simp only [Bool.not_true, cF]
    rw [Put_ok hk ho, bS]
    unfold finG
    rw [if_neg (by simp)]
  | false =>
    simp only [Bool.not_false, cT]
    rw [dF (by simpa using h), cF, Put_ok hk ho, bS]
    exact fin_eq w s count out
/-- One round. -/
def stepG (w : Nat) (r : List UInt8) (out : List Int) (left : Nat) : List UInt8 × List Int × Bool :=
  let g := getVar r 0
  let t := if g.1 % 2 = 0 then runT w (r.drop g.2.1.toNat) out (g.2.2 != 0) (g.1 / 2).toNat left else grpT w (r.drop g.2.1.toNat) out (g.2.2 != 0) (g.1 / 2).toNat left
  (t.1, t.2.1, t.2.2 || decide (g.1 < 2))
theorem getVar0 (r : List UInt8) : ∃ (h : Int) (e : Nat) (c : Int), getVar r 0 = (h, (e : Int), c) ∧ 0 ≤ h ∧ h ≤ 2147483647 ∧ e ≤ r.length ∧ (h < 2 ∨ c = 0) := by
  rcases getVar_spec r 0 with e | ⟨h, e, h1, h2, h3, h4, h5⟩
  · exact ⟨0, 0, 300, e, by omega, by omega, Nat.zero_le _, .inl (by omega)⟩
  · obtain ⟨q1, q2⟩ := may_iff.1 h2
    exact ⟨h, e, 0, h1, q1, q2, h4, .inr rfl⟩
theorem get_step {k w : Nat} (hk : 1200000 ≤ k) (hw : w ≤ 16) (n : Nat) (s : List UInt8) {count : Nat} (hc : count ≤ 4096) (r : List UInt8) (out : List Int) (hr : (r.length : Int) ≤ 9223372036854775000) (h : out.length < count) :
    hybrid_Get.l0 idb k (n + 1) s (w : Int) (count : Int) r (w : Int) out false =
      hybrid_Get.l0 idb k n s (w : Int) (count : Int) (stepG w r out (count - out.length)).1 (w : Int) (stepG w r out (count - out.length)).2.1 (stepG w r out (count - out.length)).2.2 := by
  obtain ⟨g, e, c, hg, g0, g1, he, _⟩ := getVar0 r
  have hleft : IntKind.i64.wrap ((count : Int) - (out.length : Int)) = ((count - out.length : Nat) : Int) := by rw [wi64 _ (by omega)]; omega
  have hmany : IntKind.i64.wrap (Int.tdiv g 2) = (((g / 2).toNat : Nat) : Int) := by rw [Int.tdiv_eq_ediv_of_nonneg g0, wi64 _ (by omega)]; omega
  have hmod : Int.tmod g 2 = g % 2 := Int.tmod_eq_emod_of_nonneg g0
  have j12 : ∀ (t : List UInt8 × List Int × Bool), hybrid_Get.j12 idb k n s (w : Int) (count : Int) g t.1 (w : Int) t.2.1 t.2.2 = hybrid_Get.l0 idb k n s (w : Int) (count : Int) t.1 (w : Int) t.2.1 (t.2.2 || decide (g < 2)) := by
    rintro ⟨t1, t2, b⟩
    rw [hybrid_Get.j12_eq]
    cases b <;> rfl
  unfold stepG
  rw [hybrid_Get.l0_eq, hg]
  simp only [Bool.not_false, cT]
  rw [dT (by omega), cT, num_GetVar_ok (by omega) r hr, hg, bS]
  dsimp only
  rw [dT (by omega), dT (by omega)]
  simp only [Bool.and_self, cT, List.take_length, Int.toNat_natCast]
  rw [hmod, hleft, hmany]
  by_cases hm : g % 2 = 0
  · rw [if_pos hm, show (g % 2 == 0) = true by simpa using hm, cT, run_taker (by omega) hw _ _ _ (by omega) (by omega), bS]
    dsimp only
    rw [bar_eq, j12]
  · rw [if_neg hm, show (g % 2 == 0) = false by simpa using hm, cF, grp_taker (by omega) hw _ _ _ (by omega) (by omega) (by omega), bS]
    dsimp only
    rw [bar_eq, j12]
theorem stepG_out {w : Nat} (r : List UInt8) (out : List Int) {left : Nat} (hl : 1 ≤ left) : (stepG w r out left).2.1.length ≤ out.length + left ∧ ((stepG w r out left).2.2 = false → out.length < (stepG w r out left).2.1.length) ∧ (stepG w r out left).1.length ≤ r.length := by
  obtain ⟨g, e, c, hg, g0, g1, he, h2⟩ := getVar0 r
  unfold stepG
  rw [hg]
  dsimp only
  rw [Int.toNat_natCast]
  have hd : (r.drop e).length ≤ r.length := by rw [List.length_drop]; omega
  split
  · unfold runT
    split
    · exact ⟨by simp, fun h => by simp at h, hd⟩
    · split
      · exact ⟨by simp, fun h => by simp at h, by rw [List.length_drop]; omega⟩
      · rename_i hm
        refine ⟨by rw [List.length_append, List.length_replicate]; omega, fun h => ?_, by rw [List.length_drop]; omega⟩
        simp only [Bool.false_or, decide_eq_false_iff_not] at h
        rw [List.length_append, List.length_replicate]; omega
  · unfold grpT
    split
    · exact ⟨by simp, fun h => by simp at h, hd⟩
    · split
      · refine ⟨by rw [List.length_append, List.length_map, List.length_range]; omega, fun h => by simp at h, hd⟩
      · refine ⟨by rw [List.length_append, List.length_map, List.length_range]; omega, fun h => ?_, by rw [List.length_drop]; omega⟩
        simp only [Bool.false_or, decide_eq_false_iff_not] at h
        rw [List.length_append, List.length_map, List.length_range]; omega
theorem wd_len {w : Nat} (hw : w ≤ 16) (x : Int) : (wd x w).length = (bitB (w : Int)).toNat := by
  rw [bitB_w hw]; unfold wd
  split
  · rfl
  · split <;> rfl
theorem val_wd1 (x : Int) : (val (wd1 x) : Int) = x % 256 := by
  have e : (val (wd1 x) : Int) = ((UInt8.ofNat (IntKind.u8.wrap (Int.fdiv x 1)).toNat).toNat : Int) + 256 * 0 := by
    simp only [wd1, strOfBytes, List.map_cons, List.map_nil, val, Int.natCast_add, Int.natCast_mul]; rfl
  rw [e]
  simp only [byte_val, fdiv_pos _ _ (show (0 : Int) ≤ 1 by decide)]
  omega
theorem val_wd2 (x : Int) : (val (wd2 x) : Int) = x % 65536 := by
  have e : (val (wd2 x) : Int) = ((UInt8.ofNat (IntKind.u8.wrap (Int.fdiv x 1)).toNat).toNat : Int) + 256 * (((UInt8.ofNat (IntKind.u8.wrap (Int.fdiv x (2 ^ 8))).toNat).toNat : Int) + 256 * 0) := by
    simp only [wd2, strOfBytes, List.map_cons, List.map_nil, val, Int.natCast_add, Int.natCast_mul]; rfl
  rw [e]
  simp only [byte_val, fdiv_pos _ _ (show (0 : Int) ≤ 1 by decide), fdiv_pos _ _ (show (0 : Int) ≤ 2 ^ 8 by decide)]
  have p8 : (2 : Int) ^ 8 = 256 := by decide
  rw [p8]
  omega
theorem numOf_wd {w : Nat} (hw : w ≤ 16) {x : Int} (h : okX w x = true) : numOf (wd x w) = x := by
  unfold okX at h
  simp only [Bool.and_eq_true, decide_eq_true_eq] at h
  have hp := pow16 hw
  unfold numOf wd
  split
  · rename_i e; subst e
    have : x = 0 := by have := h.2; simp at this; omega
    subst this; rfl
  · split
    · rename_i h8
      have h2 : (2 : Int) ^ w ≤ 256 := by
        have h1 : (2 : Nat) ^ w ≤ 2 ^ 8 := Nat.pow_le_pow_right (by omega) h8
        have e : ((2 : Int) ^ w) = ((2 ^ w : Nat) : Int) := by push_cast; rfl
        rw [e]; omega
      rw [val_wd1, wi64 _ (by omega)]; omega
    · rw [val_wd2, wi64 _ (by omega)]; omega
theorem rowsTo_get (xs : List Int) (w : Nat) : ∀ (n i j : Nat), i < n → j < w → (rowsTo xs w n)[i * w + j]? = some (bitX xs i j)
  | n + 1, i, j, hi, hj => by
    have hl := rowsTo_length xs w n
    rw [rowsTo_succ]
    by_cases h : i < n
    · have h1 : (i + 1) * w ≤ n * w := Nat.mul_le_mul_right w h
      rw [Nat.add_mul, Nat.one_mul] at h1
      rw [List.getElem?_append_left (by rw [hl]; omega)]
      exact rowsTo_get xs w n i j h hj
    · have e : i = n := by omega
      subst e
      rw [List.getElem?_append_right (by rw [hl]; omega), hl, Nat.add_sub_cancel_left, List.getElem?_map, List.getElem?_range hj]; rfl
theorem tb_eq {x : Int} {j : Nat} (hj : j < 16) : tb x j = decide (x / 2 ^ j % 2 = 1) := by
  unfold tb
  have e := and_mask (Int.fdiv x (2 ^ (min j IntKind.i64.bits))) 1 (by omega)
  rw [show ((2 : Int) ^ 1 - 1) = 1 from rfl] at e
  rw [e, min64 (by omega), fdiv_pow']
  rw [show ((2 : Int) ^ 1) = 2 from rfl]
  by_cases h : x / 2 ^ j % 2 = 1
  · rw [dT h]; simpa using h
  · rw [dF h]; simpa using h
theorem emod_two (x : Int) {p : Int} (hp : 0 < p) : x % (p * 2) = x % p + p * (x / p % 2) := by
  have h1 : x % p + p * (x / p) = x := Int.emod_add_mul_ediv x p
  have h2 : x / p = x / p % 2 + 2 * (x / p / 2) := (Int.emod_add_mul_ediv (x / p) 2).symm
  have h3 : p * (x / p) = p * (x / p % 2) + p * 2 * (x / p / 2) := by
    calc p * (x / p) = p * (x / p % 2 + 2 * (x / p / 2)) := by rw [← h2]
      _ = _ := by rw [Int.mul_add, Int.mul_assoc]
  have h4 : x = (x % p + p * (x / p % 2)) + p * 2 * (x / p / 2) := by omega
  have r1 := Int.emod_nonneg x (show p ≠ 0 by omega)
  have r2 := Int.emod_lt_of_pos x hp
  have h5 : x / p % 2 = 0 ∨ x / p % 2 = 1 := by omega
  have h6 : 0 ≤ x % p + p * (x / p % 2) ∧ x % p + p * (x / p % 2) < p * 2 := by
    rcases h5 with e | e
    · rw [e, Int.mul_zero]; omega
    · rw [e, Int.mul_one]; omega
  calc x % (p * 2) = ((x % p + p * (x / p % 2)) + p * 2 * (x / p / 2)) % (p * 2) := by rw [← h4]
    _ = (x % p + p * (x / p % 2)) % (p * 2) := Int.add_mul_emod_self_left _ _ _
    _ = _ := Int.emod_eq_of_lt h6.1 h6.2
theorem valB_eq {s : List UInt8} {w i : Nat} {x : Int} (hx : 0 ≤ x) : ∀ j, j ≤ 16 → (∀ q, q < j → onB s (i * w + q) = tb x q) → valB s w i j = x % 2 ^ j
  | 0, _, _ => by simp [valB]
  | j + 1, hj, h => by
    rw [valB, valB_eq hx j (by omega) fun q hq => h q (by omega), h j (by omega), tb_eq (by omega)]
    have e : (2 : Int) ^ (j + 1) = 2 ^ j * 2 := Int.pow_succ 2 j
    have hp : (0 : Int) < 2 ^ j := Int.pow_pos (by omega)
    have hm : x % (2 ^ j * 2) = x % 2 ^ j + 2 ^ j * (x / 2 ^ j % 2) := emod_two x hp
    rw [e, hm]
    have h2 : x / 2 ^ j % 2 = 0 ∨ x / 2 ^ j % 2 = 1 := by omega
    rcases h2 with h2 | h2
    · rw [h2, Int.mul_zero]; simp
    · rw [h2, Int.mul_one]; simp
theorem valG_rows {w : Nat} (hw : w ≤ 16) {xs : List Int} (hok : okL w xs = true) {i : Nat} (hi : i < xs.length) : valG false (bitsT (rows xs w)) w i w = xs[i] := by
  have hx := List.all_eq_true.1 hok xs[i] (List.getElem_mem hi)
  unfold okX at hx
  simp only [Bool.and_eq_true, decide_eq_true_eq] at hx
  have hp := pad8_le xs.length
  unfold valG
  simp only [Bool.false_eq_true, if_false]
  rw [valB_eq hx.1 w hw fun q hq => ?_]
  · exact Int.emod_eq_of_lt hx.1 hx.2
  · have hg := rowsTo_get xs w (pad8 xs.length) i q (by omega) hq
    obtain ⟨hlt, hge⟩ := List.getElem?_eq_some_iff.mp hg
    rw [bitsT_on (rows xs w) hlt]
    rw [← bitX_some hi]; exact hge
theorem grp_mod : ∀ (m : Nat) (l : List Int), l.length ≤ m → grp l = l.length ∨ grp l % 8 = 0
  | 0, l, h => by
    have : l = [] := List.eq_nil_of_length_eq_zero (by omega)
    subst this; exact .inl rfl
  | m + 1, l, h => by
    rw [grp_eq]
    split
    · exact .inr rfl
    · split
      · exact .inl rfl
      · rcases grp_mod m (l.drop 8) (by rw [List.length_drop]; omega) with e | e
        · rw [List.length_drop] at e; left; omega
        · right; omega
theorem take_same {xs : List Int} : xs.take (same xs) = List.replicate (same xs) (xs.headD 0) := by
  refine List.ext_getElem? fun i => ?_
  by_cases h : i < same xs
  · obtain ⟨x, h0, h1⟩ := same_get h
    have e : xs.headD 0 = x := by
      cases xs with
      | nil => simp at h0
      | cons y l => simpa using h0
    rw [List.getElem?_take_of_lt h, h1, List.getElem?_replicate_of_lt h, e]
  · have hl := same_le xs
    rw [List.getElem?_eq_none (by rw [List.length_take]; omega), List.getElem?_eq_none (by rw [List.length_replicate]; omega)]
theorem getVar_head {x : Int} (h : may x = true) (d : List UInt8) : getVar (pv x ++ d) 0 = (x, ((pv x).length : Int), 0) := by
  have := getVar_put [] d x h
  simpa using this
/-- A run is read again. -/
theorem stepG_run {w : Nat} (hw : w ≤ 16) {ys : List Int} (hx : ys ≠ []) (hl : ys.length ≤ 4096) (hok : okL w ys = true) (h8 : 8 ≤ same ys) (t : List UInt8) (out : List Int) {left : Nat} (hleft : same ys ≤ left) :
    stepG w (putH w ys ++ t) out left = (putH w (ys.drop (same ys)) ++ t, out ++ ys.take (same ys), false) := by
  have hle := same_le ys
  have hm : may (2 * (same ys : Int)) = true := may_iff.2 (by omega)
  have hd : okX w (ys.headD 0) = true := by
    cases ys with
    | nil => exact absurd rfl hx
    | cons x l => exact List.all_eq_true.1 hok x List.mem_cons_self
  have hwl := wd_len hw (ys.headD 0)
  rw [putH_run hx h8]
  simp only [List.append_assoc]
  unfold stepG
  rw [getVar_head hm]
  dsimp only
  rw [if_pos (by omega), Int.toNat_natCast, List.drop_left, show (2 * (same ys : Int) / 2).toNat = same ys by omega]
  unfold runT
  rw [if_neg (by simp only [bne_self_eq_false, Bool.false_eq_true, false_or]; rw [List.length_append, hwl]; omega), if_neg (by omega), ← hwl, List.take_left, List.drop_left, numOf_wd hw hd, take_same]
  rw [dF (show ¬ (2 * (same ys : Int) < 2) by omega)]; rfl
/-- Groups are read again. -/
theorem stepG_grp {w : Nat} (hw : w ≤ 16) {ys : List Int} (hx : ys ≠ []) (hl : ys.length ≤ 4096) (hok : okL w ys = true) (h8 : same ys < 8) (t : List UInt8) (out : List Int) {left : Nat} (hleft : grp ys ≤ left) :
    stepG w (putH w ys ++ t) out left = (putH w (ys.drop (grp ys)) ++ t, out ++ (List.range (min (pad8 (grp ys)) left)).map (fun i => valG false (bitsT (rows (ys.take (grp ys)) w)) w i w), false) := by
  have hg := grp_le ys
  have hgp := grp_pos hx h8
  have hm : may (2 * (((grp ys + 7) / 8 : Nat) : Int) + 1) = true := may_iff.2 (by omega)
  have htl : (ys.take (grp ys)).length = grp ys := by rw [List.length_take]; omega
  have hrl : (bitsT (rows (ys.take (grp ys)) w)).length = (grp ys + 7) / 8 * w := by
    rw [bitsT_len, rows_length, htl]
    unfold pad8
    rw [Nat.mul_assoc]; omega
  rw [putH_grp hx h8]
  simp only [List.append_assoc]
  unfold stepG
  rw [getVar_head hm]
  dsimp only
  rw [if_neg (by omega), Int.toNat_natCast, List.drop_left, show ((2 * (((grp ys + 7) / 8 : Nat) : Int) + 1) / 2).toNat = (grp ys + 7) / 8 by omega]
  unfold grpT
  rw [if_neg (by omega), if_neg (by simp only [bne_self_eq_false, Bool.false_eq_true, false_or]; rw [List.length_append, hrl]; omega), ← hrl, List.take_left, List.drop_left]
  rw [dF (show ¬ (2 * (((grp ys + 7) / 8 : Nat) : Int) + 1 < 2) by omega)]; rfl
theorem grp_vals {w : Nat} (hw : w ≤ 16) {ys : List Int} (hok : okL w ys = true) {g : Nat} (hg : g ≤ ys.length) : (List.range g).map (fun i => valG false (bitsT (rows (ys.take g) w)) w i w) = ys.take g := by
  have htl : (ys.take g).length = g := by rw [List.length_take]; omega
  have hok2 : okL w (ys.take g) = true := by
    unfold okL
    rw [List.all_eq_true]
    intro x hx
    exact List.all_eq_true.1 hok x (List.mem_of_mem_take hx)
  refine List.ext_getElem (by simp [htl]) fun i h1 h2 => ?_
  rw [List.getElem_map, List.getElem_range]
  exact valG_rows hw hok2 (by simpa using h2)
/-- Rounds, until so many are out; none: there is not what there should be. -/
def decG (w count : Nat) : Nat → List UInt8 → List Int → Option (List UInt8 × List Int)
  | 0, _, _ => none
  | f + 1, r, out => if count ≤ out.length then some (r, out) else
    if (stepG w r out (count - out.length)).2.2 = true then none else decG w count f (stepG w r out (count - out.length)).1 (stepG w r out (count - out.length)).2.1
theorem okL_drop {w : Nat} {xs : List Int} (h : okL w xs = true) (n : Nat) : okL w (xs.drop n) = true := by
  unfold okL at *
  rw [List.all_eq_true] at *
  exact fun x hx => h x (List.mem_of_mem_drop hx)
theorem decG_put {w : Nat} (hw : w ≤ 16) (t : List UInt8) : ∀ (m : Nat) (ys out : List Int) (count f : Nat), ys.length ≤ m → ys.length ≤ 4096 → okL w ys = true → out.length + ys.length = count → m < f → decG w count f (putH w ys ++ t) out = some (t, out ++ ys) := by
  intro m
  induction m using Nat.strongRecOn with
  | _ m ih =>
    intro ys out count f h1 h2 h3 h4 h5
    obtain ⟨f, rfl⟩ : ∃ q, f = q + 1 := ⟨f - 1, by omega⟩
    by_cases hx : ys = []
    · subst hx
      rw [decG, if_pos (by simp at h4; omega), putH_nil, List.nil_append, List.append_nil]
    · have hl0 : ys.length ≠ 0 := fun e => hx (List.eq_nil_of_length_eq_zero e)
      rw [decG, if_neg (by omega), show count - out.length = ys.length by omega]
      by_cases h8 : 8 ≤ same ys
      · have hle := same_le ys
        have hdl : (ys.drop (same ys)).length = ys.length - same ys := List.length_drop
        rw [stepG_run hw hx h2 h3 h8 t out hle]
        dsimp only
        rw [if_neg (by simp), ih (m - same ys) (by omega) _ _ count f (by omega) (by omega) (okL_drop h3 _) (by rw [List.length_append, List.length_take, hdl]; omega) (by omega), List.append_assoc, List.take_append_drop]
      · have hg := grp_le ys
        have hgp := grp_pos hx (by omega)
        have hp8 := pad8_le (grp ys)
        have hdl : (ys.drop (grp ys)).length = ys.length - grp ys := List.length_drop
        have hmin : min (pad8 (grp ys)) ys.length = grp ys := by
          rcases grp_mod ys.length ys (Nat.le_refl _) with e | e
          · omega
          · have : pad8 (grp ys) = grp ys := by unfold pad8; omega
            omega
        rw [stepG_grp hw hx h2 h3 (by omega) t out hg]
        dsimp only
        rw [if_neg (by simp), hmin, grp_vals hw h3 hg, ih (m - grp ys) (by omega) _ _ count f (by omega) (by omega) (okL_drop h3 _) (by rw [List.length_append, List.length_take, hdl]; omega) (by omega), List.append_assoc, List.take_append_drop]
theorem get_dec {k w : Nat} (hk : 1200000 ≤ k) (hw : w ≤ 16) (s : List UInt8) {count : Nat} (hc : count ≤ 4096) : ∀ (f : Nat) (r : List UInt8) (out : List Int) (r' : List UInt8) (out' : List Int) (n : Nat), decG w count f r out = some (r', out') → f ≤ n → (r.length : Int) ≤ 9223372036854775000 → out.length ≤ 4096 →
    hybrid_Get.l0 idb k n s (w : Int) (count : Int) r (w : Int) out false = some (finG (w : Int) s (count : Int) out' false) := by
  intro f
  induction f with
  | zero => intro r out r' out' n h; cases h
  | succ f ih =>
    intro r out r' out' n h h1 h2 h3
    obtain ⟨n, rfl⟩ : ∃ q, n = q + 1 := ⟨n - 1, by omega⟩
    rw [decG] at h
    by_cases hs : count ≤ out.length
    · rw [if_pos hs] at h
      cases h
      exact get_stop hk n s w count r w out false (by omega) (.inr (by omega))
    · rw [if_neg hs] at h
      obtain ⟨q1, q2, q3⟩ := stepG_out (w := w) r out (left := count - out.length) (by omega)
      rw [get_step hk hw n s hc r out h2 (by omega)]
      cases hb : (stepG w r out (count - out.length)).2.2 with
      | true => rw [hb, if_pos rfl] at h; cases h
      | false =>
        rw [hb, if_neg (by simp)] at h
        exact ih _ _ r' out' n h (by omega) (by omega) (by omega)
/-- What has been written is read. -/
theorem Get_put {k : Nat} (hk : 1300000 ≤ k) {w : Int} {xs : List Int} {s : List UInt8} (h : putT w xs = (s, 0)) (hs : (s.length : Int) ≤ 9223372036854775000) : hybrid_Get.f idb k s w (xs.length : Int) = some (xs, 0) := by
  have hm : mayH w xs = true := by
    unfold putT at h
    split at h
    · assumption
    · cases h
  obtain ⟨h0, h1, h2, h3⟩ := mayH_iff.1 hm
  obtain ⟨w, rfl⟩ : ∃ q : Nat, w = (q : Int) := ⟨w.toNat, by omega⟩
  have he : putH w xs = s := by
    unfold putT at h
    rw [if_pos hm] at h
    exact (Prod.mk.inj h).1
  obtain ⟨k, rfl⟩ : ∃ q, k = q + 1 := ⟨k - 1, by omega⟩
  rw [hybrid_Get.f_eq, dF (show ¬ ((w : Int) < 0) by omega), dF (show ¬ ((w : Int) > 16) by omega), dF (show ¬ ((xs.length : Int) < 0) by omega), dF (show ¬ ((xs.length : Int) > 4096) by omega)]
  simp only [Bool.not_false, cT, cF]
  have hd := decG_put (w := w) (by omega) [] xs.length xs [] xs.length (xs.length + 1) (Nat.le_refl _) (by omega) h3 (by simp) (by omega)
  rw [List.append_nil, List.nil_append, he] at hd
  rw [get_dec (by omega) (by omega) s (by omega) _ _ _ _ _ k hd (by omega) hs (by simp)]
  unfold finG
  rw [if_pos ⟨rfl, h, rfl⟩]
theorem putT_long {w : Int} {xs : List Int} (h : 4096 < xs.length) : putT w xs = ([], 2100) := by
  unfold putT mayH
  rw [dF (show ¬ ((xs.length : Int) ≤ 4096) by omega)]
  simp
theorem Put_any {k : Nat} (hk : 1200010 ≤ k) (xs : List Int) (w : Int) : hybrid_Put.f idb k xs w = some (putT w xs) := by
  by_cases h : xs.length ≤ 4096
  · exact Put_ok (by omega) (by omega) w
  · rw [putT_long (by omega)]
    obtain ⟨k, rfl⟩ : ∃ q, k = q + 2 := ⟨k - 2, by omega⟩
    have : hybrid_may.f idb (k + 1) xs w = some false := by
      rw [hybrid_may.f_eq, dF (show ¬ ((xs.length : Int) ≤ 4096) by omega)]
      cases decide (w ≥ 0) <;> cases decide (w ≤ 16) <;> rfl
    rw [hybrid_Put.f_eq, this, bS]; rfl
theorem putH_length {w : Nat} (hw : w ≤ 16) : ∀ (m : Nat) (xs : List Int), xs.length ≤ m → xs.length ≤ 4096 → (putH w xs).length ≤ 25 * xs.length := by
  intro m
  induction m using Nat.strongRecOn with
  | _ m ih =>
    intro xs h1 h2
    by_cases hx : xs = []
    · subst hx; rw [putH_nil]; simp
    · have hl0 : xs.length ≠ 0 := fun e => hx (List.eq_nil_of_length_eq_zero e)
      by_cases h8 : 8 ≤ same xs
      · have hle := same_le xs
        have hpl := pv_length (2 * (same xs : Int))
        have hwl := wd_length (xs.headD 0) w
        have hdl : (xs.drop (same xs)).length = xs.length - same xs := List.length_drop
        have := ih (m - same xs) (by omega) (xs.drop (same xs)) (by omega) (by omega)
        rw [putH_run hx h8, List.length_append, List.length_append]; omega
      · have hg := grp_le xs
        have hgp := grp_pos hx (by omega)
        have hpl := pv_length (2 * (((grp xs + 7) / 8 : Nat) : Int) + 1)
        have hrl := rows_bytes hw (xs.take (grp xs))
        have htl : (xs.take (grp xs)).length = grp xs := by rw [List.length_take]; omega
        have hdl : (xs.drop (grp xs)).length = xs.length - grp xs := List.length_drop
        have := ih (m - grp xs) (by omega) (xs.drop (grp xs)) (by omega) (by omega)
        rw [putH_grp hx (by omega), List.length_append, List.length_append]; omega
/-- A number's low bits. -/
def mk (w : Nat) (x : Int) : Int := bitsOp .and .i64 x (2 ^ w - 1)
theorem putT_ok {w : Nat} (hw : w ≤ 16) {ys : List Int} (hl : ys.length ≤ 4096) (ho : okL w ys = true) : putT (w : Int) ys = (putH w ys, 0) := by
  have hm : mayH (w : Int) ys = true := mayH_iff.2 ⟨by omega, by omega, by omega, by rw [Int.toNat_natCast]; exact ho⟩
  unfold putT
  rw [if_pos hm, Int.toNat_natCast]
end Go.Proofs.YtjkokaockhecnaaGreatDoorP
