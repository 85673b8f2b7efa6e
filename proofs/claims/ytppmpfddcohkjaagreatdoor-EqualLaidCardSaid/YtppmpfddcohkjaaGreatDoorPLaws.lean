/- However it is laid down: the laws EqualLaid and ReadLaid, as the machine answers them; no condition but the sizes that a machine has. -/
import Derived.Test.YtppmpfddcohkjaaGreatDoorPRuns
namespace Go.Proofs.YtppmpfddcohkjaaGreatDoorP
open Go Go.Proofs.YtppmpfddcohkjaaGreatDoorA

theorem equal_may {t : List Nod} {a : Int} {x y : Arr} (hx : arrB t a x = true) (hy : arrB t a y = true) (h : valsA t a x = valsA t a y) {k : Nat} (hk : 1002 ≤ k) : equal_Equal.f idb k t a x y = some (true, 0) := by
  rw [equal_ok (arrB_roomy hx) (arrB_roomy hy) hk]
  unfold equalT
  rw [hx, hy, h, BEq.rfl]; rfl
theorem pure_EqualLaid (t : List Nod) (a : Int) (x : Arr) (hx : RoomyA x) : ∃ k, quiverlaw15_EqualLaid.f idb k t a x = some true := by
  obtain ⟨k, hk⟩ : ∃ k, 300000 ≤ k := ⟨_, Nat.le_refl _⟩
  refine ⟨k + 1, ?_⟩
  have N := fun x => Num_ok (show 1 ≤ k by omega) x
  obtain ⟨P, e, hP, hPr, hP'⟩ := Plain_ok (t := t) (a := a) hx (k := k) (by omega)
  obtain ⟨D, e2, hD, hDr, hD'⟩ := DictOf_ok (t := t) (a := a) hx (k := k) (by omega)
  obtain ⟨R, e3, hR, hRr, hR'⟩ := RunsOf_ok (t := t) (a := a) hx (k := k) (by omega)
  rw [quiverlaw15_EqualLaid.f_eq, awake15' (by omega), bS, Bool.not_true, cF, hP, bS]
  simp only
  cases hb : arrB t a x with
  | false =>
    rw [hb, if_neg (by simp)] at hP'
    rw [hP', show ((1800 : Int) != 0) = true from rfl, cT, equal_ok hx hx (by omega), bS]
    unfold equalT
    rw [hb]
    simp only [Bool.false_and, Bool.false_eq_true, if_false]
    rw [N, bS]; rfl
  | true =>
    rw [hb, if_pos rfl] at hP'
    obtain ⟨he, hP1, hP2⟩ := hP'
    rw [he, show ((0 : Int) != 0) = false from rfl, cF, equal_may hb hP1 hP2.symm (by omega), bS, equal_may hP1 hb hP2 (by omega), bS, hD, bS, hR, bS]
    simp only [N, bS, Bool.not_true, Bool.not_false, cT]
    cases hin : inner (knd t a.toNat) with
    | true =>
      rw [hin, if_neg (by simp)] at hD' hR'
      rw [hD', hR']
      rfl
    | false =>
      rw [hb, hin, if_pos (by simp)] at hD' hR'
      obtain ⟨d1, d2, d3⟩ := hD'
      obtain ⟨r1, r2, r3⟩ := hR'
      rw [d1, r1, equal_may d2 r2 (d3.trans r3.symm) (by omega)]
      rfl
end Go.Proofs.YtppmpfddcohkjaaGreatDoorP
