/- However it is laid down: the laws EqualLaid and ReadLaid, as the machine answers them; no condition but the sizes that a machine has. -/
import Derived.Test.YtppmpfddcohkjaaGreatDoorPRuns
namespace Go.Proofs.YtppmpfddcohkjaaGreatDoorP
open Go Go.Proofs.YtppmpfddcohkjaaGreatDoorA

theorem pure_ReadLaid (t : List Nod) (a : Int) (x : Arr) (hx : RoomyA x) : ∃ k, quiverlaw9_ReadLaid.f idb k t a x = some true := by
  obtain ⟨k, hk⟩ : ∃ k, 300000 ≤ k := ⟨_, Nat.le_refl _⟩
  refine ⟨k + 1, ?_⟩
  have N := fun x => Num_ok (show 1 ≤ k by omega) x
  obtain ⟨P, e, hP, hPr, hP'⟩ := Plain_ok (t := t) (a := a) hx (k := k) (by omega)
  obtain ⟨D, e2, hD, hDr, hD'⟩ := DictOf_ok (t := t) (a := a) hx (k := k) (by omega)
  obtain ⟨R, e3, hR, hRr, hR'⟩ := RunsOf_ok (t := t) (a := a) hx (k := k) (by omega)
  rw [quiverlaw9_ReadLaid.f_eq, awake9' (by omega), bS, Bool.not_true, cF, read_Values_ok hx (by omega), bS]
  simp only [N, bS]
  cases hb : arrB t a x with
  | false =>
    have e : valsT t a x = ([], 900) := by unfold valsT; rw [hb]; rfl
    rw [e]; rfl
  | true =>
    have V : ∀ {y : Arr}, arrB t a y = true → read_Values.f idb k t a y = some (valsA t a y, 0) := by
      intro y hy
      rw [read_Values_ok (arrB_roomy hy) (by omega)]
      unfold valsT
      rw [hy]; rfl
    have e0 : valsT t a x = (valsA t a x, 0) := by unfold valsT; rw [hb]; rfl
    have hl : (valsA t a x).length ≤ 64 := valsA_len hb
    have S := SameTexts_refl (k := k) (valsA t a x) (by omega) (by omega)
    rw [hb, if_pos rfl] at hP'
    obtain ⟨he, hP1, hP2⟩ := hP'
    rw [e0]
    simp only
    rw [show ((0 : Int) != 0) = false from rfl, cF, hD, bS, hR, bS, hP, bS]
    simp only
    rw [V hP1, bS, he, hP2]
    simp only
    rw [S, bS]
    simp only [show ((0 : Int) != 0) = false from rfl, Bool.not_false, Bool.not_true, cT, cF]
    cases hin : inner (knd t a.toNat) with
    | true =>
      rw [hin, if_neg (by simp)] at hD' hR'
      rw [hD', hR']
      rfl
    | false =>
      rw [hb, hin, if_pos (by simp)] at hD' hR'
      obtain ⟨d1, d2, d3⟩ := hD'
      obtain ⟨r1, r2, r3⟩ := hR'
      rw [d1, r1, V d2, V r2]
      simp only [bS]
      rw [d3, r3, S]
      simp only [bS, BEq.rfl, cT]
      rw [ref_May_ok' hDr (by omega), d2]
      rfl

end Go.Proofs.YtppmpfddcohkjaaGreatDoorP
