/- The sizes that a machine has, of an array and all beneath it: definitions alone. -/
import Derived.Test.YtjkokaockhecnaaGreatDoorAbs
namespace Go.Proofs.YtjkokaockhecnaaGreatDoorA
open Go

/-- What a machine has room for, so deep. -/
def roomyA : Nat → Arr → Prop
  | 0, _ => True
  | d + 1, a => (-9223372036854775808 ≤ a.offset ∧ a.offset ≤ 9223372036854775807) ∧ (-9223372036854775808 ≤ a.length ∧ a.length ≤ 9223372036854775807) ∧
      (a.valid.length : Int) ≤ 140737488351232 ∧ (a.ends.length : Int) ≤ 140737488351232 ∧ (a.data.length : Int) ≤ 140737488351232 ∧ a.kids.length * 96 ≤ 140737488351232 ∧ ∀ k ∈ a.kids, roomyA d k
def RoomyA (a : Arr) : Prop := ∀ d, roomyA d a

/-- What a machine has room for, of a column. -/
structure RoomyC (c : Col) : Prop where
  reps : c.reps.length * 8 ≤ 140737488351232 ∧ ∀ n ∈ c.reps, -9223372036854775808 ≤ n ∧ n ≤ 9223372036854775807
  defs : c.defs.length * 8 ≤ 140737488351232 ∧ ∀ n ∈ c.defs, -9223372036854775808 ≤ n ∧ n ≤ 9223372036854775807
  values : c.values.length * 16 ≤ 140737488351232 ∧ ∀ s ∈ c.values, s.length ≤ 140737488351232
theorem RoomyC.short {c : Col} (h : RoomyC c) : c.reps.length ≤ 20000000000000 ∧ c.defs.length ≤ 20000000000000 ∧ c.values.length ≤ 20000000000000 := by
  have h1 := h.reps.1; have h2 := h.defs.1; have h3 := h.values.1
  omega

end Go.Proofs.YtjkokaockhecnaaGreatDoorA
