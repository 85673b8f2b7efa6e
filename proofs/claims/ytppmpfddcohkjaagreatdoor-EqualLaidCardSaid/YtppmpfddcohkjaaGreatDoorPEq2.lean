/- Equality by values: the law Equals, as the machine answers it; no condition but the sizes that a machine has. Equality by values: awake, the law Equals, as the machine answers them; no condition but the sizes that a machine has. -/
import Derived.Test.YtppmpfddcohkjaaGreatDoorPBase3
namespace Go.Proofs.YtppmpfddcohkjaaGreatDoorP
open Go Go.Proofs.YtppmpfddcohkjaaGreatDoorA

theorem drop_cons {xs : List (List UInt8)} {j : Nat} (h : j < xs.length) : xs.drop j = xs[j] :: xs.drop (j + 1) := List.drop_eq_getElem_cons h
theorem cons_beq (a b : List UInt8) (l m : List (List UInt8)) : ((a :: l) == (b :: m)) = ((a == b) && (l == m)) := rfl
theorem slices_l0 {k : Nat} (xs ys : List (List UInt8)) (hl : xs.length = ys.length) (hx : xs.length ≤ 1000) : ∀ (d j n : Nat), j + d = xs.length → d + 1 ≤ n → slices_Equal_string_string.l0 idb k n xs ys (xs.length : Int) (j : Int) = some (xs.drop j == ys.drop j)
  | 0, j, n, h, hn => by
    obtain ⟨n, rfl⟩ : ∃ q, n = q + 1 := ⟨n - 1, by omega⟩
    rw [slices_Equal_string_string.l0_eq, dF (by omega), cF, List.drop_eq_nil_of_le (by omega), List.drop_eq_nil_of_le (by omega)]
    rfl
  | d + 1, j, n, h, hn => by
    obtain ⟨n, rfl⟩ : ∃ q, n = q + 1 := ⟨n - 1, by omega⟩
    have h1 : j < xs.length := by omega
    have h2 : j < ys.length := by omega
    rw [slices_Equal_string_string.l0_eq, dT (by omega), cT, rd_get h1, bS, rd_get h2, bS, drop_cons h1, drop_cons h2, cons_beq, wsucc (by omega), slices_l0 xs ys hl hx d (j + 1) n (by omega) (by omega)]
    unfold bne
    cases (xs[j] == ys[j]) <;> rfl
theorem slices_ok {k : Nat} {xs ys : List (List UInt8)} (hx : xs.length ≤ 64) (hk : 70 ≤ k) : slices_Equal_string_string.f idb k xs ys = some (xs == ys) := by
  obtain ⟨k, rfl⟩ : ∃ q, k = q + 1 := ⟨k - 1, by omega⟩
  rw [slices_Equal_string_string.f_eq]
  by_cases hl : xs.length = ys.length
  · rw [show ((xs.length : Int) != (ys.length : Int)) = false by rw [hl]; simp, cF]
    exact slices_l0 xs ys hl (by omega) xs.length 0 k (by omega) (by omega)
  · rw [show ((xs.length : Int) != (ys.length : Int)) = true by rw [bne_iff_ne]; omega, cT]
    have : (xs == ys) = false := by rw [beq_eq_false_iff_ne]; intro e; exact hl (by rw [e])
    rw [this]
/-- Are the values of two arrays the same? -/
def equalT (t : List Nod) (a : Int) (x y : Arr) : Bool × Int := if arrB t a x && arrB t a y then (valsA t a x == valsA t a y, 0) else (false, 1500)
theorem valsA_len {t : List Nod} {a : Int} {x : Arr} (hb : arrB t a x = true) : (valsA t a x).length ≤ 64 := by
  have := arrB_len hb
  unfold valsA
  rw [List.length_map, List.length_range]; omega
theorem equal_ok {t : List Nod} {a : Int} {x y : Arr} (hx : RoomyA x) (hy : RoomyA y) {k : Nat} (hk : 1002 ≤ k) : equal_Equal.f idb k t a x y = some (equalT t a x y) := by
  obtain ⟨k, rfl⟩ : ∃ q, k = q + 1 := ⟨k - 1, by omega⟩
  rw [equal_Equal.f_eq, read_Values_ok hx (by omega), bS, read_Values_ok hy (by omega), bS]
  unfold valsT equalT
  cases h1 : arrB t a x with
  | false => rfl
  | true =>
    cases h2 : arrB t a y with
    | false => rfl
    | true =>
      have := valsA_len h1
      simp only [if_true, Bool.and_self]
      rw [show (!((0 : Int) != 0)) = true from rfl, cT, show ((0 : Int) != 0) = false from rfl, cF, slices_ok this (by omega), bS]
end Go.Proofs.YtppmpfddcohkjaaGreatDoorP

namespace Go.Proofs.YtppmpfddcohkjaaGreatDoorP
open Go Go.Proofs.YtppmpfddcohkjaaGreatDoorA
theorem awake15 (m : Nat) : quiverlaw15_awake.f idb (m + 200) = some true := by kernel_rfl
theorem awake15' {k : Nat} (hk : 200 ≤ k) : quiverlaw15_awake.f idb k = some true := by
  obtain ⟨k, rfl⟩ : ∃ m, k = m + 200 := ⟨k - 200, by omega⟩
  exact awake15 k
end Go.Proofs.YtppmpfddcohkjaaGreatDoorP
