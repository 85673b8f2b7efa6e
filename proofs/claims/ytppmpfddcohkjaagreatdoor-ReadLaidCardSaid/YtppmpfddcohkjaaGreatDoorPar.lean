/- One operation: its continuation, and what of a state it looks at. -/
import Derived.Test.YtppmpfddcohkjaaGreatDoorLvl
namespace Go.Proofs.YtppmpfddcohkjaaGreatDoorA
open Go

section
variable {R : Type} {S S' : St}

/-! ### Continuations -/
def q2 {R : Type} (κ : AV → Option Root → Option R) (p : AV × Option Root) : Option R := κ p.1 p.2
def q0 (a : AV) (r : Option Root) : Option (AV × Option Root) := some (a, r)
def w4 {R : Type} (κ : AV → Option Root → List (Nat × Root) → List Nat → Option R) (p : AV × Option Root × List (Nat × Root) × List Nat) : Option R := κ p.1 p.2.1 p.2.2.1 p.2.2.2
def w0 (a : AV) (r : Option Root) (rs : List (Nat × Root)) (ks : List Nat) : Option (AV × Option Root × List (Nat × Root) × List Nat) := some (a, r, rs, ks)
end
end Go.Proofs.YtppmpfddcohkjaaGreatDoorA
