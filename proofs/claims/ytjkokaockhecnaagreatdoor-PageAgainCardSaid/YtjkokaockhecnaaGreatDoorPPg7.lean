/- What the program gets out of a page: its answer in plain lists; no condition but the sizes that a machine has. -/
import Derived.Test.YtjkokaockhecnaaGreatDoorPPg6
namespace Go.Proofs.YtjkokaockhecnaaGreatDoorP
open Go Go.Proofs.YtjkokaockhecnaaGreatDoorA

/-! ### Sums are numbers of 32 bits -/
/-! ### The taker's parts -/
theorem tBytes_ok {k : Nat} (hk : 1 ≤ k) (r : List UInt8) (bad : Bool) (n : Int) : page_Taker_Bytes.f idb k r bad n =
    some (if bad = false ∧ 0 ≤ n ∧ n ≤ (r.length : Int) then (r.take n.toNat, (r.drop n.toNat, false)) else ([], (r, true))) := by
  obtain ⟨k, rfl⟩ : ∃ q, k = q + 1 := ⟨k - 1, by omega⟩
  rw [page_Taker_Bytes.f_eq]
  cases bad with
  | true => simp
  | false =>
    rw [Bool.not_false, cT]
    by_cases h0 : n < 0
    · rw [dT h0, Bool.not_true, cF, if_neg (by omega)]
    · rw [dF h0, Bool.not_false, cT]
      by_cases h1 : n > (r.length : Int)
      · rw [dT h1, cT, if_neg (by omega)]
      · rw [dF h1, cF, dT (show (0 : Int) ≤ n by omega), dT (show n ≤ (r.length : Int) by omega), Bool.and_self, cT, cT, if_pos ⟨rfl, by omega, by omega⟩, List.drop_zero, List.take_length]
theorem get_len {r : List UInt8} (h : (get r 0 4).2 = 0) : 4 ≤ r.length := by
  unfold get at h
  split at h
  · rename_i hc; omega
  · cases h
theorem tNumber_ok {k : Nat} (hk : 20 ≤ k) {r : List UInt8} (hr : r.length ≤ 200000000000000) (bad : Bool) : page_Taker_Number.f idb k r bad =
    some ((get r 0 4).1, if bad = false ∧ (get r 0 4).2 = 0 then (r.drop 4, false) else (r, true)) := by
  obtain ⟨k, rfl⟩ : ∃ q, k = q + 1 := ⟨k - 1, by omega⟩
  rw [page_Taker_Number.f_eq, num_Get_ok (by omega) r (by omega) 0 4 (by omega), bS]
  cases bad with
  | true => rw [Bool.not_true, cF, tBytes_ok (by omega), bS, if_neg (by simp), if_neg (by simp)]
  | false =>
    rw [Bool.not_false, cT, tBytes_ok (by omega), bS]
    by_cases h : (get r 0 4).2 = 0
    · have hl := get_len h
      rw [h, if_pos ⟨rfl, by omega, by omega⟩, if_pos ⟨rfl, rfl⟩]
      rfl
    · rw [show ((get r 0 4).2 != 0) = true by rw [bne_iff_ne]; exact h, if_neg (by simp), if_neg (by simp [h])]
theorem vInt_ok {k : Nat} (hk : 2 ≤ k) {x : Int} (h : In64 x) : value_Int.f idb k x = some (intT x) := by
  obtain ⟨k, rfl⟩ : ∃ q, k = q + 1 := ⟨k - 1, by omega⟩
  have hl := digT_len x
  rw [value_Int.f_eq, vItoa_ok (by omega) h, bS, dT (by simp only [List.length_cons, List.length_nil]; omega), cT, dT (by simp only [List.length_append, List.length_cons, List.length_nil]; omega), cT]
  rfl
theorem vBool_ok {k : Nat} (hk : 1 ≤ k) (b : Bool) : value_Bool.f idb k b = some (boolT b) := by
  obtain ⟨k, rfl⟩ : ∃ q, k = q + 1 := ⟨k - 1, by omega⟩
  rw [value_Bool.f_eq]; cases b <;> rfl
theorem vBytes_ok {k : Nat} (hk : 2 ≤ k) {l : List UInt8} (h : l.length ≤ 200000000000000) : value_Bytes.f idb k l = some (bytesT l) := by
  obtain ⟨k, rfl⟩ : ∃ q, k = q + 1 := ⟨k - 1, by omega⟩
  have hl := dec_len l.length
  rw [value_Bytes.f_eq, vItoa_ok (by omega) (by unfold In64; omega), bS, digT_nat, dT (by simp only [List.length_cons, List.length_nil]; omega), cT, dT (by simp only [List.length_append, List.length_cons, List.length_nil]; omega), cT, dT (by simp only [List.length_append, List.length_cons, List.length_nil]; omega), cT]
  rfl
theorem tValue_any {k : Nat} (hk : 40 ≤ k) {r : List UInt8} (hr : r.length ≤ 200000000000000) (bad : Bool) {kd : Int} : ∃ v r' b', page_Taker_value.f idb k r bad kd = some (v, (r', b')) ∧ r'.length ≤ r.length := by
  obtain ⟨k, rfl⟩ : ∃ q, k = q + 1 := ⟨k - 1, by omega⟩
  rw [page_Taker_value.f_eq]
  have hB : ∀ n : Int, ∃ u r' b', page_Taker_Bytes.f idb k r bad n = some (u, (r', b')) ∧ r'.length ≤ r.length ∧ u.length ≤ r.length ∧ ((u.length : Int) ≤ n ∨ u = []) := by
    intro n
    rw [tBytes_ok (by omega)]
    split
    · exact ⟨_, _, _, rfl, by simp, by simp; omega, .inl (by rw [List.length_take]; omega)⟩
    · exact ⟨_, _, _, rfl, Nat.le_refl _, by simp, .inr rfl⟩
  cases h0 : (kd == 0) with
  | true =>
    rw [cT]
    obtain ⟨u, r', b', h1, h2, _, h3⟩ := hB 8
    rw [h1, bS, num_Of_ok (by omega) u (by rcases h3 with h | rfl; omega; simp), bS, vInt_ok (by omega) (show In64 (numOf u) from In64.wrap _), bS]
    exact ⟨_, _, _, rfl, h2⟩
  | false =>
    rw [cF]
    cases h1 : (kd == 1) with
    | true =>
      rw [cT]
      obtain ⟨u, r', b', h1, h2, _, h3⟩ := hB 1
      rw [h1, bS, num_Of_ok (by omega) u (by rcases h3 with h | rfl; omega; simp), bS, vBool_ok (by omega), bS]
      exact ⟨_, _, _, rfl, h2⟩
    | false =>
      rw [cF]
      obtain ⟨k, rfl⟩ : ∃ q, k = q + 1 := ⟨k - 1, by omega⟩
      rw [page_Taker_Text.f_eq, tNumber_ok (by omega) hr, bS]
      have key : ∀ (r1 : List UInt8) (b1 : Bool) (n : Int), r1.length ≤ r.length → ∃ v r' b', ((page_Taker_Bytes.f idb k r1 b1 n).bind fun r_2 => some (r_2.1, (r_2.2.1, r_2.2.2))).bind (fun r_7 => (value_Bytes.f idb (k + 1) r_7.1).bind fun r_8 => some (r_8, (r_7.2.1, r_7.2.2))) = some (v, (r', b')) ∧ r'.length ≤ r.length := by
        intro r1 b1 n h1
        rw [tBytes_ok (by omega), bS, bS]
        split
        · rw [vBytes_ok (by omega) (by simp; omega), bS]
          exact ⟨_, _, _, rfl, by simp; omega⟩
        · rw [vBytes_ok (by omega) (by simp), bS]
          exact ⟨_, _, _, rfl, h1⟩
      split
      · exact key _ _ _ (by simp)
      · exact key _ _ _ (Nat.le_refl _)
end Go.Proofs.YtjkokaockhecnaaGreatDoorP
