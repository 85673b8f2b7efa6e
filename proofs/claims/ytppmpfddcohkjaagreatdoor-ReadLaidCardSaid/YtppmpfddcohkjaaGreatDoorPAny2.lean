/- Any text: where the reading of a value ends, whatever the text is; no condition but the sizes that a machine has. Any text: where a value ends: nowhere, or behind a value; no condition but the sizes that a machine has. -/
import Derived.Test.YtppmpfddcohkjaaGreatDoorPBase4
namespace Go.Proofs.YtppmpfddcohkjaaGreatDoorP
open Go Go.Proofs.YtppmpfddcohkjaaGreatDoorA

def In64 (x : Int) : Prop := -9223372036854775808 ≤ x ∧ x ≤ 9223372036854775807
theorem In64.wrap (x : Int) : In64 (IntKind.i64.wrap x) := by unfold In64; rw [IntKind.wrap_i64]; omega
end Go.Proofs.YtppmpfddcohkjaaGreatDoorP

namespace Go.Proofs.YtppmpfddcohkjaaGreatDoorP
open Go Go.Proofs.YtppmpfddcohkjaaGreatDoorA

theorem At.eq {s v : List UInt8} {p : Nat} (h : At s p v) : (s.drop p).take v.length = v := by
  obtain ⟨pre, post, rfl, rfl⟩ := h
  rw [List.append_assoc, List.drop_left, List.take_left]
theorem At.join {s a b : List UInt8} {p : Nat} (ha : At s p a) (hb : At s (p + a.length) b) : At s p (a ++ b) := by
  have h1 := ha.eq
  obtain ⟨pre, post, rfl, hl⟩ := ha
  obtain ⟨pre', post', e, hl'⟩ := hb
  refine ⟨pre, post', ?_, hl⟩
  have : pre ++ a = pre' := by
    have := congrArg (List.take (p + a.length)) e
    rw [List.take_left' (by rw [List.length_append, hl]), List.append_assoc, List.take_left' hl'] at this
    exact this
  rw [e, ← this]; simp
theorem At.one {s : List UInt8} {p : Nat} (h : p < s.length) : At s p [s[p]] := by
  refine ⟨s.take p, s.drop (p + 1), ?_, by rw [List.length_take]; omega⟩
  rw [List.append_assoc, List.singleton_append, ← List.drop_eq_getElem_cons h, List.take_append_drop]
def Rows : Nat → List (List UInt8) → Prop
  | 0, us => us = []
  | d + 1, us => ∀ w ∈ us, Tx d w
end Go.Proofs.YtppmpfddcohkjaaGreatDoorP
