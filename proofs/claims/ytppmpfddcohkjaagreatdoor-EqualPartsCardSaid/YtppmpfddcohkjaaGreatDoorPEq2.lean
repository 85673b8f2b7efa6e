/- Equality by values: the law Equals, as the machine answers it; no condition but the sizes that a machine has. Equality by values: awake, the law Equals, as the machine answers them; no condition but the sizes that a machine has. -/
import Derived.Test.YtppmpfddcohkjaaGreatDoorPBase3
namespace Go.Proofs.YtppmpfddcohkjaaGreatDoorP
open Go Go.Proofs.YtppmpfddcohkjaaGreatDoorA

theorem drop_cons {xs : List (List UInt8)} {j : Nat} (h : j < xs.length) : xs.drop j = xs[j] :: xs.drop (j + 1) := List.drop_eq_getElem_cons h
theorem cons_beq (a b : List UInt8) (l m : List (List UInt8)) : ((a :: l) == (b :: m)) = ((a == b) && (l == m)) := rfl
theorem slices_l0 {k : Nat} (xs ys : List (List UInt8)) (hl : xs.length = ys.length) (hx : xs.length ≤ 1000) : ∀ (d j n : Nat), j + d = xs.length → d + 1 ≤ n → slices_Equal_string_string.l0 idb k n xs ys (xs.length : Int) (j : Int) = some (xs.drop j == ys.drop j)
  | 0, j, n, h, hn => by
    obtain ⟨n, rfl⟩ : ∃ q, n = q + 1 := ⟨n - 1, by omega⟩
    rw [slices_Equal_string_string.l0_eq, dF (by omega), cF, List.drop_eq_nil_of_le (by omega), List.drop_eq_nil_of_le (by omega)]
    rfl
  | d + 1, j, n, h, hn => by
    obtain ⟨n, rfl⟩ : ∃ q, n = q + 1 := ⟨n - 1, by omega⟩
    have h1 : j < xs.length := by omega
    have h2 : j < ys.length := by omega
    rw [slices_Equal_string_string.l0_eq, dT (by omega), cT, rd_get h1, bS, rd_get h2, bS, drop_cons h1, drop_cons h2, cons_beq, wsucc (by omega), slices_l0 xs ys hl hx d (j + 1) n (by omega) (by omega)]
    unfold bne
    cases (xs[j] == ys[j]) <;> rfl
theorem slices_ok {k : Nat} {xs ys : List (List UInt8)} (hx : xs.length ≤ 64) (hk : 70 ≤ k) : slices_Equal_string_string.f idb k xs ys = some (xs == ys) := by
  obtain ⟨k, rfl⟩ : ∃ q, k = q + 1 := ⟨k - 1, by omega⟩
  rw [slices_Equal_string_string.f_eq]
  by_cases hl : xs.length = ys.length
  · rw [show ((xs.length : Int) != (ys.length : Int)) = false by rw [hl]; simp, cF]
    exact slices_l0 xs ys hl (by omega) xs.length 0 k (by omega) (by omega)
  · rw [show ((xs.length : Int) != (ys.length : Int)) = true by rw [bne_iff_ne]; omega, cT]
    have : (xs == ys) = false := by rw [beq_eq_false_iff_ne]; intro e; exact hl (by rw [e])
    rw [this]
theorem ref_l0 {k : Nat} (xs ys : List (List UInt8)) (hx : xs.length ≤ 1000) : ∀ (d j n : Nat), j + d = xs.length → j ≤ ys.length → d + 1 ≤ n → quiverref11_Equal.l0 idb k n (j : Int) xs ys = some (xs.drop j == ys.drop j, 0)
  | 0, j, n, h, h2, hn => by
    obtain ⟨n, rfl⟩ : ∃ q, n = q + 1 := ⟨n - 1, by omega⟩
    rw [quiverref11_Equal.l0_eq, dF (by omega), cF, List.drop_eq_nil_of_le (show xs.length ≤ j by omega)]
    by_cases e : xs.length = ys.length
    · rw [List.drop_eq_nil_of_le (show ys.length ≤ j by omega), e, BEq.rfl]; rfl
    · rw [drop_cons (show j < ys.length by omega), show ((xs.length : Int) == (ys.length : Int)) = false by rw [beq_eq_false_iff_ne]; omega]; rfl
  | d + 1, j, n, h, h2, hn => by
    obtain ⟨n, rfl⟩ : ∃ q, n = q + 1 := ⟨n - 1, by omega⟩
    have h1 : j < xs.length := by omega
    by_cases h3 : j < ys.length
    · rw [quiverref11_Equal.l0_eq, dT (show (j : Int) < (xs.length : Int) by omega), cT, dT (show (j : Int) < (ys.length : Int) by omega), cT, dT (show (0 : Int) ≤ (j : Int) by omega)]
      simp only [Bool.and_self, cT, Int.toNat_natCast]
      rw [List.getElem?_eq_getElem h1, bS, List.getElem?_eq_getElem h3, bS, drop_cons h1, drop_cons h3, cons_beq, wsucc (by omega), ref_l0 xs ys hx d (j + 1) n (by omega) (by omega) (by omega)]
      unfold bne
      cases (xs[j] == ys[j]) <;> rfl
    · rw [quiverref11_Equal.l0_eq, dT (show (j : Int) < (xs.length : Int) by omega), cT, dF (by omega), cF, drop_cons h1, List.drop_eq_nil_of_le (show ys.length ≤ j by omega), show ((xs.length : Int) == (ys.length : Int)) = false by rw [beq_eq_false_iff_ne]; omega]
      rfl
/-- Are the values of two arrays the same? -/
def equalT (t : List Nod) (a : Int) (x y : Arr) : Bool × Int := if arrB t a x && arrB t a y then (valsA t a x == valsA t a y, 0) else (false, 1500)
theorem valsA_len {t : List Nod} {a : Int} {x : Arr} (hb : arrB t a x = true) : (valsA t a x).length ≤ 64 := by
  have := arrB_len hb
  unfold valsA
  rw [List.length_map, List.length_range]; omega
theorem equal_ok {t : List Nod} {a : Int} {x y : Arr} (hx : RoomyA x) (hy : RoomyA y) {k : Nat} (hk : 1002 ≤ k) : equal_Equal.f idb k t a x y = some (equalT t a x y) := by
  obtain ⟨k, rfl⟩ : ∃ q, k = q + 1 := ⟨k - 1, by omega⟩
  rw [equal_Equal.f_eq, read_Values_ok hx (by omega), bS, read_Values_ok hy (by omega), bS]
  unfold valsT equalT
  cases h1 : arrB t a x with
  | false => rfl
  | true =>
    cases h2 : arrB t a y with
    | false => rfl
    | true =>
      have := valsA_len h1
      simp only [if_true, Bool.and_self]
      rw [show (!((0 : Int) != 0)) = true from rfl, cT, show ((0 : Int) != 0) = false from rfl, cF, slices_ok this (by omega), bS]
theorem ref_Equal_ok {t : List Nod} {a : Int} {x y : Arr} (hx : RoomyA x) (hy : RoomyA y) {k : Nat} (hk : 1002 ≤ k) : quiverref11_Equal.f idb k t a x y = some (equalT t a x y) := by
  obtain ⟨k, rfl⟩ : ∃ q, k = q + 1 := ⟨k - 1, by omega⟩
  rw [quiverref11_Equal.f_eq, ref_Values_ok hx (by omega), bS, ref_Values_ok hy (by omega), bS]
  unfold valsT equalT
  cases h1 : arrB t a x with
  | false => rfl
  | true =>
    cases h2 : arrB t a y with
    | false => rfl
    | true =>
      have := valsA_len h1
      simp only [if_true, Bool.and_self]
      rw [show (!((0 : Int) != 0)) = true from rfl, cT, show ((0 : Int) != 0) = false from rfl, cF]
      exact ref_l0 _ _ (by omega) (valsA t a x).length 0 k (by omega) (by omega) (by omega)

end Go.Proofs.YtppmpfddcohkjaaGreatDoorP

namespace Go.Proofs.YtppmpfddcohkjaaGreatDoorP
open Go Go.Proofs.YtppmpfddcohkjaaGreatDoorA
theorem awake15 (m : Nat) : quiverlaw15_awake.f idb (m + 200) = some true := by kernel_rfl
theorem awake15' {k : Nat} (hk : 200 ≤ k) : quiverlaw15_awake.f idb k = some true := by
  obtain ⟨k, rfl⟩ : ∃ m, k = m + 200 := ⟨k - 200, by omega⟩
  exact awake15 k
theorem pure_Equals (t : List Nod) (a : Int) (x y : Arr) (hx : RoomyA x) (hy : RoomyA y) : ∃ k, quiverlaw15_Equals.f idb k t a x y = some true := by
  obtain ⟨d, hd⟩ := fits_ex x
  obtain ⟨e, he⟩ := fits_ex y
  refine ⟨d + e + 2000, ?_⟩
  rw [show d + e + 2000 = (d + e + 1999) + 1 from rfl, quiverlaw15_Equals.f_eq, CopyArray_ok d x hd hx _ (by omega), bS, CopyArray_ok e y he hy _ (by omega), bS, equal_ok hx hy (by omega), bS, ref_Equal_ok hx hy (by omega), bS]
  simp only [BEq.rfl, cT]
  rw [Num_ok (by omega), bS, BEq.rfl, cT, SameArray_ok d x hd hx _ (by omega), bS, cT, SameArray_ok e y he hy _ (by omega), bS, cT, awake15' (by omega), bS]

end Go.Proofs.YtppmpfddcohkjaaGreatDoorP
