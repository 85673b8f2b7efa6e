/- Arrays: the laws Arrays and ArrayParts, as the machine answers them; no condition but the sizes that a machine has. -/
import Derived.Test.YtppmpfddcohkjaaPArr5
namespace Go.Proofs.YtppmpfddcohkjaaP
open Go Go.Proofs.YtppmpfddcohkjaaA

theorem awake8 (m : Nat) : quiverlaw8_awake.f idb (m + 80) = some true := by kernel_rfl
theorem awake8' {k : Nat} (hk : 80 ≤ k) : quiverlaw8_awake.f idb k = some true := by
  obtain ⟨k, rfl⟩ : ∃ m, k = m + 80 := ⟨k - 80, by omega⟩
  exact awake8 k
theorem pure_Arrays (t : List Nod) (a : Int) (x : Arr) (ht : (t.length : Int) * 24 ≤ 140737488351232) (hx : RoomyA x) : ∃ k, quiverlaw8_Arrays.f idb k t a x = some true := by
  obtain ⟨d, hd⟩ := fits_ex x
  refine ⟨d + t.length + 2000, ?_⟩
  rw [show d + t.length + 2000 = (d + t.length + 1999) + 1 from rfl, quiverlaw8_Arrays.f_eq, CopyType_ok (by omega) t (by omega), bS, CopyArray_ok d x hd hx _ (by omega), bS, May_ok hx (by omega), bS, ref_May_ok' hx (by omega), bS, BEq.rfl, cT,
    SameType_ok t t (by omega) (by omega), bS, dT rfl, cT, SameArray_ok d x hd hx _ (by omega), bS, cT, awake8' (by omega), bS]

end Go.Proofs.YtppmpfddcohkjaaP
