/- An array's values as trees; they are never too much to be built anew; no condition. -/
import Derived.Test.YtppmpfddcohkjaaGreatDoorPBuilt3
namespace Go.Proofs.YtppmpfddcohkjaaGreatDoorP
open Go Go.Proofs.YtppmpfddcohkjaaGreatDoorA

/-- The value of a row, as a tree. -/
def valV : Nat → List Nod → Int → Arr → Nat → Vl
  | 0, _, _, _, _ => .n
  | f + 1, t, a, x, row =>
    if thereB x.valid row = false then .n
    else if x.layout = 1 then valV f t a (kidA x 0) ((kidA x 0).offset + eN x.data row).toNat
    else if x.layout = 2 then valV f t a (kidA x 0) ((kidA x 0).offset.toNat + runIx x.data row)
    else if knd t a.toNat = 0 then .i (numOf ((x.data.take (8 * row + 8)).drop (8 * row)))
    else if knd t a.toNat = 1 then .b (onB x.data row)
    else if knd t a.toNat = 2 then .s ((x.data.take (eN x.ends (row + 1)).toNat).drop (eN x.ends row).toNat)
    else if knd t a.toNat = 3 then .l ((List.range' (eN x.ends row).toNat ((eN x.ends (row + 1)).toNat - (eN x.ends row).toNat)).map fun j => valV f t (ksT t a 0) (kidA x 0) ((kidA x 0).offset.toNat + j))
    else .r ((List.range (kidsL t a).length).map fun j => valV f t (ksT t a j) (kidA x j) ((kidA x j).offset.toNat + row))
theorem Typed.more : ∀ {f : Nat} {t : List Nod} {a : Int} {v : Vl}, Typed f t a v → Typed (f + 1) t a v
  | 0, _, _, _, h => h.elim
  | f + 1, t, a, v, h => by
    refine ⟨h.1, ?_⟩
    have h2 := h.2
    cases v with
    | n => exact h2
    | i x => exact h2
    | b c => exact h2
    | s l => exact h2
    | l vs => exact ⟨h2.1, h2.2.1, fun w hw => (h2.2.2 w hw).more⟩
    | r vs => exact ⟨h2.1, h2.2.1, fun j hj => (h2.2.2 j hj).more⟩
/-- Of a row of an array that may be: its text, its type. -/
theorem valV_is : ∀ (f : Nat) {t : List Nod} {a : Int} {x : Arr} {row : Nat}, RowOf f t a x row → (valV f t a x row).txt = valA f t a x row ∧ Typed f t a (valV f t a x row)
  | 0, _, _, _, _, h => absurd h.nd (Nat.not_lt_zero _)
  | f + 1, t, a, x, row, h => by
    obtain ⟨hf, hb, h0, hr⟩ := h
    obtain ⟨hn, hB⟩ := arrB_buf hb
    obtain ⟨hm, i, hi, rfl⟩ := nodeB_may hn
    rw [Int.toNat_natCast] at hB
    have hrw := hB.rowsEq
    have hrl := hB.rowsN_le
    have mono : ∀ {V : Vl}, Typed f t (i : Int) V → Typed (f + 1) t (i : Int) V := fun h => h.more
    rw [valA_succ]
    unfold valV
    rw [Int.toNat_natCast]
    by_cases hth : thereB x.valid row = false
    · rw [if_pos hth, if_pos hth]
      refine ⟨by rw [Vl.txt], hn, ?_⟩
      rw [Int.toNat_natCast]
      rcases hB.there with hv | hv
      · rw [hv] at hth; simp [thereB] at hth
      · exact hv.1
    rw [if_neg hth, if_neg hth]
    have hth' : thereB x.valid row = true := by simpa using hth
    by_cases hl1 : x.layout = 1
    · rw [if_pos hl1, if_pos hl1]
      obtain ⟨hO, hd'⟩ := arrB_one hb (by omega)
      rcases hd' with ⟨_, hd'⟩ | ⟨e, _⟩
      · obtain ⟨d1, d2, d3, d4⟩ := dictB_at hd' h0 hr hth'
        have hkl := arrB_len hO.may
        obtain ⟨q1, q2⟩ := valV_is f (t := t) (a := (i : Int)) (x := kidA x 0) (row := ((kidA x 0).offset + eN x.data row).toNat) ⟨by unfold need at hf ⊢; rw [if_neg (by omega)] at hf; rw [if_pos hO.flat]; omega, hO.may, by omega, by unfold rowsN; omega⟩
        exact ⟨q1, mono q2⟩
      · omega
    rw [if_neg hl1, if_neg hl1]
    by_cases hl2 : x.layout = 2
    · rw [if_pos hl2, if_pos hl2]
      obtain ⟨hO, hd'⟩ := arrB_one hb (by omega)
      rcases hd' with ⟨e, _⟩ | ⟨_, hd'⟩
      · omega
      · have hkl := arrB_len hO.may
        obtain ⟨m, m1, m2, m3, m4, m5⟩ := runB_at hd' (by omega) (row := row) (by omega)
        have hx := runFrom_spec m2 65 0 (by omega) (by omega)
        have hix : runIx x.data row ≤ m := hx.1
        obtain ⟨q1, q2⟩ := valV_is f (t := t) (a := (i : Int)) (x := kidA x 0) (row := (kidA x 0).offset.toNat + runIx x.data row) ⟨by unfold need at hf ⊢; rw [if_neg (by omega)] at hf; rw [if_pos hO.flat]; omega, hO.may, by omega, by unfold rowsN; omega⟩
        exact ⟨q1, mono q2⟩
    rw [if_neg hl2, if_neg hl2]
    have hl0 := layout0 hb hl1 hl2
    have hP := arrB_plain hb hl0
    have hkd := hP.kind
    unfold kindM at hkd
    have own : ∀ {V : Vl}, (match V with
        | .n => nul t i = true
        | .i x => knd t i = 0 ∧ In64 x
        | .b _ => knd t i = 1
        | .s l => knd t i = 2 ∧ l.length ≤ 16
        | .l vs => knd t i = 3 ∧ vs.length ≤ 64 ∧ ∀ w ∈ vs, Typed f t (ksT t (i : Int) 0) w
        | .r vs => knd t i = 4 ∧ vs.length = (kidsL t (i : Int)).length ∧ ∀ j (h : j < vs.length), Typed f t (ksT t (i : Int) j) vs[j]) → Typed (f + 1) t (i : Int) V :=
      fun h => ⟨hn, h⟩
    by_cases k0 : knd t i = 0
    · rw [if_pos k0, if_pos k0]
      exact ⟨by rw [Vl.txt], own ⟨k0, by unfold numOf; exact .wrap _⟩⟩
    rw [if_neg k0] at hkd
    rw [if_neg k0, if_neg k0]
    by_cases k1 : knd t i = 1
    · rw [if_pos k1, if_pos k1]
      exact ⟨by rw [Vl.txt], own k1⟩
    rw [if_neg k1] at hkd
    rw [if_neg k1, if_neg k1]
    by_cases k2 : knd t i = 2
    · rw [if_pos k2] at hkd
      rw [if_pos k2, if_pos k2]
      have h16 := (endsB_at hkd hr).2.2.2.2.2 h0
      exact ⟨by rw [Vl.txt], own ⟨k2, by rw [List.length_drop, List.length_take]; omega⟩⟩
    rw [if_neg k2] at hkd
    rw [if_neg k2, if_neg k2]
    by_cases k3 : knd t i = 3
    · rw [if_pos k3] at hkd
      rw [if_pos k3, if_pos k3]
      simp only [Bool.and_eq_true] at hkd
      have he := endsB_at hkd.2 hr
      have h1 := kid1 hm hi k3
      have hk0 : 0 < x.kids.length := by rw [hP.kids]; omega
      have hmk := hP.may 0 hk0
      have hkl := arrB_len hmk
      have hnk := need_kid hm (x := x) (kidA x 0) (i := i) (j := 0) (by omega)
      have kid : ∀ j, j ∈ List.range' (eN x.ends row).toNat ((eN x.ends (row + 1)).toNat - (eN x.ends row).toNat) → RowOf f t (ksT t (i : Int) 0) (kidA x 0) ((kidA x 0).offset.toNat + j) := by
        intro j hj
        rw [List.mem_range'_1] at hj
        exact ⟨by omega, hmk, by omega, by unfold rowsN; omega⟩
      refine ⟨?_, own ⟨k3, by rw [List.length_map, List.length_range']; omega, fun w hw => ?_⟩⟩
      · rw [txt_l, List.map_map]
        congr 1
        exact List.map_congr_left fun j hj => (valV_is f (kid j hj)).1
      · obtain ⟨j, hj, rfl⟩ := List.mem_map.1 hw
        exact (valV_is f (kid j hj)).2
    rw [if_neg k3] at hkd
    rw [if_neg k3, if_neg k3]
    simp only [Bool.and_eq_true, Bool.not_eq_true', List.any_eq_false, decide_eq_true_eq] at hkd
    have k4 : knd t i = 4 := by
      have hk := (((mayT_iff t).1 hm).2.1 i hi).1
      unfold kindB at hk
      simp only [Bool.and_eq_true, decide_eq_true_eq] at hk
      omega
    have kid : ∀ j, j < (kidsL t (i : Int)).length → RowOf f t (ksT t (i : Int) j) (kidA x j) ((kidA x j).offset.toNat + row) := by
      intro j hj
      have hj' : j < x.kids.length := by rw [hP.kids]; exact hj
      have hmk := hP.may j hj'
      have hkl := arrB_len hmk
      have hnk := need_kid hm (x := x) (kidA x j) hj
      have hlong := hkd.2.2 _ (kidA_mem hj')
      exact ⟨by omega, hmk, by omega, by unfold rowsN at hr ⊢; omega⟩
    refine ⟨?_, own ⟨k4, by rw [List.length_map, List.length_range], fun j hj => ?_⟩⟩
    · rw [txt_r, List.map_map]
      congr 1
      exact List.map_congr_left fun j hj => (valV_is f (kid j (List.mem_range.1 hj))).1
    · rw [List.length_map, List.length_range] at hj
      rw [List.getElem_map, List.getElem_range]
      exact (valV_is f (kid j hj)).2

end Go.Proofs.YtppmpfddcohkjaaGreatDoorP
