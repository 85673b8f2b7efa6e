/- The samples that the laws of chapter 21 ask for first; no condition. -/
import Derived.Test.YtppmpfddcohkjaaPHy12
namespace Go.Proofs.YtppmpfddcohkjaaP
open Go Go.Proofs.YtppmpfddcohkjaaA
theorem awake21' (m : Nat) : quiverlaw21_awake.f idb (m + 60) = some true := by kernel_rfl
theorem awake21 {k : Nat} (hk : 60 ≤ k) : quiverlaw21_awake.f idb k = some true := by
  obtain ⟨m, rfl⟩ : ∃ m, k = m + 60 := ⟨k - 60, by omega⟩
  exact awake21' m
end Go.Proofs.YtppmpfddcohkjaaP
