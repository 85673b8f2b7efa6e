/- Plain, by a dictionary, by runs: the same values; no condition but the sizes that a machine has. -/
import Derived.Test.YtppmpfddcohkjaaGreatDoorPLaid2
import Derived.Test.YtppmpfddcohkjaaGreatDoorPEqRow
namespace Go.Proofs.YtppmpfddcohkjaaGreatDoorP
open Go Go.Proofs.YtppmpfddcohkjaaGreatDoorA

def valsV (t : List Nod) (a : Int) (x : Arr) : List Vl := (List.range x.length.toNat).map fun i => valV 20 t a x (x.offset.toNat + i)
theorem rowOf {t : List Nod} {a : Int} {x : Arr} (h : arrB t a x = true) {i : Nat} (hi : i < x.length.toNat) : RowOf 20 t a x (x.offset.toNat + i) := by
  obtain ⟨hn, _⟩ := arrB_buf h
  have hl := arrB_len h
  have := need_lt (x := x) hn
  exact ⟨by omega, h, by omega, by unfold rowsN; omega⟩
theorem valsV_len {t : List Nod} {a : Int} {x : Arr} : (valsV t a x).length = x.length.toNat := by unfold valsV; rw [List.length_map, List.length_range]
theorem valsV_txt {t : List Nod} {a : Int} {x : Arr} (h : arrB t a x = true) : (valsV t a x).map Vl.txt = valsA t a x := by
  unfold valsV valsA
  rw [List.map_map]
  exact List.map_congr_left fun i hi => (valV_is 20 (rowOf h (List.mem_range.1 hi))).1
theorem valsV_of {t : List Nod} {a : Int} {x : Arr} (h : arrB t a x = true) : ValsOf t a (valsV t a x) := by
  obtain ⟨hn, _⟩ := arrB_buf h
  refine ⟨hn, fun v hv => ?_⟩
  unfold valsV at hv
  obtain ⟨i, hi, rfl⟩ := List.mem_map.1 hv
  have hr := rowOf h (List.mem_range.1 hi)
  obtain ⟨h1, h2⟩ := valV_is 20 hr
  refine ⟨h2, ?_⟩
  rw [h1]
  have := valA_row hr.nd hr.may hr.lo hr.hi
  omega
theorem plainA {t : List Nod} {a : Int} {x : Arr} (h : arrB t a x = true) : ∃ A, buildT t a (valsV t a x) = (A, 0) ∧ arrB t a A = true ∧ Flat A x.length.toNat ∧ valsA t a A = valsA t a x := by
  obtain ⟨hn, hv⟩ := valsV_of h
  have hl := arrB_len h
  have hinc : Inc (PR t a x) (ZR t a) (x.offset.toNat + 0) (valsV t a x) (x.offset.toNat + 0 + x.length.toNat) := by
    unfold valsV
    rw [List.range_eq_range']
    have hnd := need_lt (x := x) hn
    exact Inc.range (PR t a x) (ZR t a) (fun i => valV 20 t a x (x.offset.toNat + i)) x.length.toNat 0 x.offset.toNat fun j _ _ => ⟨20, by omega, by omega, rfl⟩
  obtain ⟨A, hA⟩ := cap 20 h (nodeB_small hn) (fun v hv' => (hv v hv').1) hinc (by unfold rowsN; omega) (by rw [valsV_len]; omega)
  have hB : buildT t a (valsV t a x) = (A, 0) := by unfold buildT; rw [hA]
  obtain ⟨h1, h2, h3⟩ := buildT_may ⟨hn, hv⟩ hB
  rw [valsV_len] at h2
  exact ⟨A, hB, h1, h2, by rw [h3, valsV_txt h]⟩
theorem Plain_ok {t : List Nod} {a : Int} {x : Arr} (hx : RoomyA x) {k : Nat} (hk : 240000 ≤ k) : ∃ A e, quiverref11_Plain.f idb k t a x = some (A, e) ∧ RoomyA A ∧
    (if arrB t a x then e = 0 ∧ arrB t a A = true ∧ valsA t a A = valsA t a x else e = 1800) := by
  obtain ⟨k, rfl⟩ : ∃ q, k = q + 1 := ⟨k - 1, by omega⟩
  rw [quiverref11_Plain.f_eq, ref_Values_ok hx (by omega), bS]
  unfold valsT
  cases hb : arrB t a x with
  | false => exact ⟨_, _, rfl, noA_roomy, by rw [if_neg (by simp)]⟩
  | true =>
    obtain ⟨A, hB, h1, h2, h3⟩ := plainA hb
    have hlx := arrB_len hb
    have hl := valsV_len (t := t) (a := a) (x := x)
    have hBt := Build_tree (valsV_of hb) (by omega) (k := k - 1) (by omega)
    rw [valsV_txt hb, hB] at hBt
    obtain ⟨k, rfl⟩ : ∃ q, k = q + 1 := ⟨k - 1, by omega⟩
    rw [Nat.add_sub_cancel] at hBt
    rw [if_pos rfl]
    simp only
    rw [show ((0 : Int) != 0) = false from rfl, cF, quiverref11_built.f_eq, hBt, bS]
    simp only
    rw [show ((0 : Int) != 0) = false from rfl, cF, bS, Arr.eta]
    simp only
    rw [Arr.eta]
    exact ⟨A, 0, rfl, arrB_roomy h1, by rw [if_pos trivial]; exact ⟨rfl, h1, h3⟩⟩

end Go.Proofs.YtppmpfddcohkjaaGreatDoorP
