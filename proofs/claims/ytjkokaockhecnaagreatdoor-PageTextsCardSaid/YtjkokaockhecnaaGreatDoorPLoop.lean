/- Loops, as the machine answers them: what a step keeps, the whole keeps; no condition. -/
import Derived.Test.YtjkokaockhecnaaGreatDoorPBase
namespace Go.Proofs.YtjkokaockhecnaaGreatDoorP
open Go Go.Proofs.YtjkokaockhecnaaGreatDoorA

theorem dT {p : Prop} [Decidable p] (h : p) : decide p = true := decide_eq_true h
theorem dF {p : Prop} [Decidable p] (h : ¬ p) : decide p = false := decide_eq_false h
theorem loop_up {R : Type} {F : Nat → Nat → Option R} {N : Nat} {r : Option R} (hs : ∀ n i, i < N → F (n + 1) i = F n (i + 1)) (he : ∀ n, F (n + 1) N = r) :
    ∀ (n i : Nat), i ≤ N → N < n + i → F n i = r
  | 0, i, h, hn => by omega
  | n + 1, i, h, hn => by
    by_cases e : i = N
    · subst e; exact he n
    · rw [hs n i (by omega)]; exact loop_up hs he n (i + 1) (by omega) (by omega)
end Go.Proofs.YtjkokaockhecnaaGreatDoorP
