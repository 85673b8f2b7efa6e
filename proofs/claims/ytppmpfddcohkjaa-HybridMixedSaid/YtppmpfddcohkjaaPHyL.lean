/- The law Hybrids, as the machine answers it; no condition but the sizes that a machine has. -/
import Derived.Test.YtppmpfddcohkjaaPHyA
namespace Go.Proofs.YtppmpfddcohkjaaP
open Go Go.Proofs.YtppmpfddcohkjaaA

theorem putT_long {w : Int} {xs : List Int} (h : 4096 < xs.length) : putT w xs = ([], 2100) := by
  unfold putT mayH
  rw [dF (show ¬ ((xs.length : Int) ≤ 4096) by omega)]
  simp
theorem Put_any {k : Nat} (hk : 1200010 ≤ k) (xs : List Int) (w : Int) : hybrid_Put.f idb k xs w = some (putT w xs) := by
  by_cases h : xs.length ≤ 4096
  · exact Put_ok (by omega) (by omega) w
  · rw [putT_long (by omega)]
    obtain ⟨k, rfl⟩ : ∃ q, k = q + 2 := ⟨k - 2, by omega⟩
    have : hybrid_may.f idb (k + 1) xs w = some false := by
      rw [hybrid_may.f_eq, dF (show ¬ ((xs.length : Int) ≤ 4096) by omega)]
      cases decide (w ≥ 0) <;> cases decide (w ≤ 16) <;> rfl
    rw [hybrid_Put.f_eq, this, bS]; rfl
end Go.Proofs.YtppmpfddcohkjaaP
