/- What the program gets out of a page: its answer in plain lists; no condition but the sizes that a machine has. -/
import Derived.Test.YtjkokaockhecnaaGreatDoorPPg6
namespace Go.Proofs.YtjkokaockhecnaaGreatDoorP
open Go Go.Proofs.YtjkokaockhecnaaGreatDoorA

/-! ### Sums are numbers of 32 bits -/
theorem numOf_w4' {x : Int} (h : 0 ≤ x ∧ x ≤ 4294967295) : numOf (w4 x) = x := by
  unfold numOf
  rw [val_w4 x ⟨h.1, by omega⟩, wi64 _ (by omega)]

/-! ### The taker's parts -/
end Go.Proofs.YtjkokaockhecnaaGreatDoorP
