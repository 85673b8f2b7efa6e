/- The law Hybrids, as the machine answers it; no condition but the sizes that a machine has. -/
import Derived.Test.YtppmpfddcohkjaaPHyA
namespace Go.Proofs.YtppmpfddcohkjaaP
open Go Go.Proofs.YtppmpfddcohkjaaA

theorem copyInts_ok {k : Nat} (hk : 1 ≤ k) {a : List Int} (ha : a.length ≤ 17592186044400) : quiverlaw0_CopyInts.f idb k a = some a := by
  obtain ⟨k, rfl⟩ : ∃ q, k = q + 1 := ⟨k - 1, by omega⟩
  rw [quiverlaw0_CopyInts.f_eq, dT (by simp only [List.length_nil]; omega), cT]; rfl
theorem LendInts_ok {k : Nat} (hk : 2 ≤ k) {a : List Int} (ha : a.length ≤ 17592186044000) : quiverlaw0_LendInts.f idb k a = some (a, [-7777, -8888]) := by
  obtain ⟨k, rfl⟩ : ∃ q, k = q + 1 := ⟨k - 1, by omega⟩
  rw [quiverlaw0_LendInts.f_eq, copyInts_ok (by omega) (by omega), bS, dT (by simp only [List.length_cons, List.length_nil]; omega), cT, dT (by omega), dT (by rw [List.length_append]; omega)]
  simp only [Bool.and_self, cT, Int.toNat_natCast, List.take_left, List.drop_left]
theorem KeptInts_ok {k : Nat} {a : List Int} (hk : a.length + 10 ≤ k) (ha : a.length ≤ 17592186044000) : quiverlaw0_KeptInts.f idb k (a, [-7777, -8888]) a = some true := by
  obtain ⟨k, rfl⟩ : ∃ q, k = q + 1 := ⟨k - 1, by omega⟩
  have hl : (a ++ ([-7777, -8888] : List Int)).length = a.length + 2 := by rw [List.length_append]; rfl
  have h2 : IntKind.i64.wrap ((a.length : Int) + 2) = ((a.length + 2 : Nat) : Int) := by rw [wi64 _ (by omega)]; push_cast; rfl
  have ht : List.drop 0 (List.take (a.length + 2) (a ++ ([-7777, -8888] : List Int))) = a ++ [-7777, -8888] := by rw [List.drop_zero, List.take_of_length_le (by omega)]
  rw [quiverlaw0_KeptInts.f_eq]
  dsimp only
  rw [h2, hl, dT (by omega), dT (by omega)]
  simp only [Bool.and_self, cT, Int.toNat_natCast]
  rw [SameInts_ok a (by omega) (by omega), bS, cT, ht, rd_some (i := a.length) (x := -7777) (by rw [List.getElem?_append_right (by omega), Nat.sub_self]; rfl), bS]
  have e1 : ((-7777 : Int) == -7777) = true := rfl
  rw [e1, cT, wsucc (by omega), rd_some (i := a.length + 1) (x := -8888) (by rw [List.getElem?_append_right (by omega), Nat.add_sub_cancel_left]; rfl), bS]
  rfl
theorem goodG_len {w : Int} {s : List UInt8} {count : Int} {res : List Int × Int} (h : goodG w s count res) : res.1.length ≤ 4096 := by
  rcases h with rfl | ⟨xs, rfl, h1, _⟩
  · simp
  · have := (putT_some h1).2.2.1
    show xs.length ≤ 4096
    omega
theorem putT_long {w : Int} {xs : List Int} (h : 4096 < xs.length) : putT w xs = ([], 2100) := by
  unfold putT mayH
  rw [dF (show ¬ ((xs.length : Int) ≤ 4096) by omega)]
  simp
theorem Put_any {k : Nat} (hk : 1200010 ≤ k) (xs : List Int) (w : Int) : hybrid_Put.f idb k xs w = some (putT w xs) := by
  by_cases h : xs.length ≤ 4096
  · exact Put_ok (by omega) (by omega) w
  · rw [putT_long (by omega)]
    obtain ⟨k, rfl⟩ : ∃ q, k = q + 2 := ⟨k - 2, by omega⟩
    have : hybrid_may.f idb (k + 1) xs w = some false := by
      rw [hybrid_may.f_eq, dF (show ¬ ((xs.length : Int) ≤ 4096) by omega)]
      cases decide (w ≥ 0) <;> cases decide (w ≤ 16) <;> rfl
    rw [hybrid_Put.f_eq, this, bS]; rfl
theorem refPut_any {k : Nat} (hk : 1200010 ≤ k) (xs : List Int) (w : Int) : quiverref21_PutHybrid.f idb k xs w = some (putT w xs) := by
  by_cases h : xs.length ≤ 4096
  · exact refPut_ok (by omega) (by omega) w
  · rw [putT_long (by omega)]
    obtain ⟨k, rfl⟩ : ∃ q, k = q + 1 := ⟨k - 1, by omega⟩
    rw [quiverref21_PutHybrid.f_eq, dT (show (xs.length : Int) > 4096 by omega)]
    cases decide (w < 0) <;> cases decide (w > 16) <;> rfl
theorem pure_Hybrids (xs : List Int) (w : Int) (s : List UInt8) (count : Int) (hx : xs.length * 8 ≤ 140737488351232) (hs : (s.length : Int) ≤ 140737488351232) : ∃ k, quiverlaw21_Hybrids.f idb k xs w s count = some true := by
  refine ⟨2000000 + s.length + xs.length + 1, ?_⟩
  obtain ⟨res, e1, e2, hg⟩ := Get_same (k := 2000000 + s.length + xs.length) s (by omega) (by omega) w count
  have hl := goodG_len hg
  rw [quiverlaw21_Hybrids.f_eq, LendInts_ok (by omega) (by omega), bS]
  dsimp only
  rw [Put_any (by omega), bS, refPut_any (by omega), bS, e1, bS, e2, bS]
  simp only [bne_self_eq_false, Bool.not_false, cT]
  rw [law0_Num (by omega), bS]
  simp only [bne_self_eq_false, Bool.not_false, cT]
  rw [SameInts_ok res.1 (by omega) (by omega), bS]
  simp only [Bool.not_true, Bool.not_false, cT]
  rw [law0_Num (by omega), bS]
  simp only [bne_self_eq_false, cF]
  rw [SpoilInts_ok res.1 (by omega) (by omega), bS, KeptInts_ok (by omega) (by omega), bS, cT, awake21 (by omega), bS]
end Go.Proofs.YtppmpfddcohkjaaP
