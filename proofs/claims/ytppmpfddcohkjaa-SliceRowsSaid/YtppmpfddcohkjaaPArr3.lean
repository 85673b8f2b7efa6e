/- Arrays: whether an array may be, by the program and by the document; no condition but the sizes that a machine has. -/
import Derived.Test.YtppmpfddcohkjaaPArr2
namespace Go.Proofs.YtppmpfddcohkjaaP
open Go Go.Proofs.YtppmpfddcohkjaaA

/-! ### Sizes that a machine has, of one array -/
structure Room1 (x : Arr) : Prop where
  off : -9223372036854775808 ≤ x.offset ∧ x.offset ≤ 9223372036854775807
  len : -9223372036854775808 ≤ x.length ∧ x.length ≤ 9223372036854775807
  valid : (x.valid.length : Int) ≤ 140737488351232
  ends : (x.ends.length : Int) ≤ 140737488351232
  data : (x.data.length : Int) ≤ 140737488351232
  kids : x.kids.length * 96 ≤ 140737488351232
theorem _root_.Go.Proofs.YtppmpfddcohkjaaA.RoomyA.one {x : Arr} (h : RoomyA x) : Room1 x := let ⟨a, b, c, d, e, f, _⟩ := h 1; ⟨a, b, c, d, e, f⟩

def rowsN (x : Arr) : Nat := (x.offset + x.length).toNat
/-- An array's numbers, its buffers. -/
def bufB (null : Bool) (x : Arr) : Bool :=
  decide (0 ≤ x.offset) && (decide (0 ≤ x.length) && (decide (x.offset + x.length ≤ 64) && (decide (x.valid.length ≤ 4096) && (decide (x.ends.length ≤ 4096) && (decide (x.data.length ≤ 4096) &&
    (x.valid == [] || (null && decide (bitB (x.offset + x.length) ≤ (x.valid.length : Int)))))))))
structure Buf (null : Bool) (x : Arr) : Prop where
  off : 0 ≤ x.offset
  len : 0 ≤ x.length
  rows : x.offset + x.length ≤ 64
  valid : x.valid.length ≤ 4096
  ends : x.ends.length ≤ 4096
  data : x.data.length ≤ 4096
  there : x.valid = [] ∨ null = true ∧ bitB (x.offset + x.length) ≤ (x.valid.length : Int)
theorem bufB_iff {null : Bool} {x : Arr} : bufB null x = true ↔ Buf null x := by
  unfold bufB
  simp only [Bool.and_eq_true, Bool.or_eq_true, decide_eq_true_eq, beq_iff_eq]
  constructor
  · rintro ⟨a, b, c, d, e, f, g⟩; exact ⟨a, b, c, d, e, f, g⟩
  · rintro ⟨a, b, c, d, e, f, g⟩; exact ⟨a, b, c, d, e, f, g⟩
theorem Buf.rowsEq {null : Bool} {x : Arr} (h : Buf null x) : ((rowsN x : Nat) : Int) = x.offset + x.length := by
  have := h.off; have := h.len; unfold rowsN; omega
theorem Buf.rowsN_le {null : Bool} {x : Arr} (h : Buf null x) : rowsN x ≤ 64 := by
  have := h.rowsEq; have := h.rows; omega
theorem Buf.inV {null : Bool} {x : Arr} (h : Buf null x) {i : Nat} (hi : i < rowsN x) : x.valid = [] ∨ i / 8 < x.valid.length := by
  rcases h.there with h1 | ⟨_, h1⟩
  · exact .inl h1
  · right
    rw [← h.rowsEq] at h1
    unfold bitB at h1
    omega
theorem array_buffers_ok {k : Nat} (hk : 2 ≤ k) (nd : Nod) {x : Arr} (hr : Room1 x) : array_buffers.f idb k nd x = some (bufB nd.null x) := by
  obtain ⟨k, rfl⟩ : ∃ m, k = m + 1 := ⟨k - 1, by omega⟩
  obtain ⟨⟨o1, o2⟩, ⟨l1, l2⟩, v1, e1, d1, k1⟩ := hr
  rw [array_buffers.f_eq]
  unfold bufB
  by_cases h1 : 0 ≤ x.offset
  · rw [dF (show ¬ x.offset < 0 by omega), dT h1, Bool.not_false, cT, Bool.true_and]
    by_cases h2 : 0 ≤ x.length
    · rw [dF (show ¬ x.length < 0 by omega), dT h2, Bool.not_false, cT, Bool.true_and]
      by_cases h3 : x.offset ≤ 64
      · rw [dF (show ¬ x.offset > 64 by omega), Bool.not_false, cT, wi64 _ (by omega)]
        by_cases h4 : x.offset + x.length ≤ 64
        · rw [dF (show ¬ x.length > 64 - x.offset by omega), cF, dT h4, Bool.true_and]
          rw [wi64 (x.offset + x.length) (by omega), bits_Bytes_ok (by omega) (by omega) (by omega)]
          have hm : decide ((bif decide (((x.data).length : Int) > (bif decide (((x.ends).length : Int) > ((x.valid).length : Int)) then ((x.ends).length : Int) else ((x.valid).length : Int))) then ((x.data).length : Int) else (bif decide (((x.ends).length : Int) > ((x.valid).length : Int)) then ((x.ends).length : Int) else ((x.valid).length : Int))) > 4096) = !(decide (x.valid.length ≤ 4096) && (decide (x.ends.length ≤ 4096) && decide (x.data.length ≤ 4096))) := by
            by_cases a : ((x.ends).length : Int) > ((x.valid).length : Int)
            · rw [dT a, cT]
              by_cases b : ((x.data).length : Int) > ((x.ends).length : Int)
              · rw [dT b, cT]
                by_cases c : x.data.length ≤ 4096
                · rw [dF (by omega), dT (by omega), dT (by omega), dT c]; rfl
                · rw [dT (by omega), dF c]; simp
              · rw [dF b, cF]
                by_cases c : x.ends.length ≤ 4096
                · rw [dF (by omega), dT (by omega), dT (by omega), dT (by omega)]; rfl
                · rw [dT (by omega), dF c]; simp
            · rw [dF a, cF]
              by_cases b : ((x.data).length : Int) > ((x.valid).length : Int)
              · rw [dT b, cT]
                by_cases c : x.data.length ≤ 4096
                · rw [dF (by omega), dT (by omega), dT (by omega), dT c]; rfl
                · rw [dT (by omega), dF c]; simp
              · rw [dF b, cF]
                by_cases c : x.valid.length ≤ 4096
                · rw [dF (by omega), dT (by omega), dT (by omega), dT (by omega)]; rfl
                · rw [dT (by omega), dF c]; simp
          rw [hm, bS]
          have he : decide ((x.valid.length : Int) ≥ bitB (x.offset + x.length)) = decide (bitB (x.offset + x.length) ≤ (x.valid.length : Int)) := rfl
          rw [he]
          generalize decide (x.valid.length ≤ 4096) = p1
          generalize decide (x.ends.length ≤ 4096) = p2
          generalize decide (x.data.length ≤ 4096) = p3
          generalize (x.valid == []) = p4
          generalize nd.null = p5
          generalize decide (bitB (x.offset + x.length) ≤ (x.valid.length : Int)) = p6
          revert p1 p2 p3 p4 p5 p6; decide
        · rw [dT (show x.length > 64 - x.offset by omega), cT, dF h4, Bool.false_and]
      · rw [dT (show x.offset > 64 by omega), Bool.not_true, cF, dF (show ¬ x.offset + x.length ≤ 64 by omega), Bool.false_and]
    · rw [dT (show x.length < 0 by omega), dF h2, Bool.not_true, cF, Bool.false_and]
  · rw [dT (show x.offset < 0 by omega), dF h1, Bool.not_true, cF, Bool.false_and]

/-! ### One kid of a leaf: by a dictionary, by runs -/
def dictB (x kid : Arr) : Bool :=
  kid.valid == [] && (decide (4 * rowsN x ≤ x.data.length) &&
    (List.range (rowsN x)).all fun i => decide ((i : Int) < x.offset) || (!thereB x.valid i || (okN x.data i && decide (eN x.data i < kid.length))))
def runB (x kid : Arr) : Bool :=
  x.valid == [] && (((x.data.length : Int) == 4 * kid.length) &&
    ((List.range kid.length.toNat).all (fun i => okN x.data i && decide (lastE x.data i < eN x.data i)) && decide (x.offset + x.length ≤ lastE x.data kid.length.toNat)))
theorem array_dict_l0 {null : Bool} {x kid : Arr} (hb : Buf null x) {k : Nat} (hk : 100 ≤ k) (n : Nat) (hn : 65 ≤ n) :
    array_dict.l0 idb k n x.layout x.offset x.length x.valid x.ends x.data x.kids (some kid) x.offset =
      some ((List.range (rowsN x)).all fun i => decide ((i : Int) < x.offset) || (!thereB x.valid i || (okN x.data i && decide (eN x.data i < kid.length)))) := by
  have hrw := hb.rowsEq
  have hrl := hb.rowsN_le
  have h0 := hb.off
  have h1 := hb.len
  -- the rows ahead of the first one are not looked at
  have key := loop_all (F := fun n i => array_dict.l0 idb k n x.layout x.offset x.length x.valid x.ends x.data x.kids (some kid) ((x.offset.toNat + i : Nat) : Int)) (p := fun i => !thereB x.valid (x.offset.toNat + i) || (okN x.data (x.offset.toNat + i) && decide (eN x.data (x.offset.toNat + i) < kid.length)))
    (N := x.length.toNat) (E := some true) (Z := some false) ?_ ?_ n (by omega)
  · have e : ((x.offset.toNat + 0 : Nat) : Int) = x.offset := by omega
    simp only [e] at key
    rw [key]
    have e2 : ((List.range (rowsN x)).all fun i => decide ((i : Int) < x.offset) || (!thereB x.valid i || (okN x.data i && decide (eN x.data i < kid.length)))) =
        (List.range x.length.toNat).all fun i => !thereB x.valid (x.offset.toNat + i) || (okN x.data (x.offset.toNat + i) && decide (eN x.data (x.offset.toNat + i) < kid.length)) := by
      rw [Bool.eq_iff_iff, range_all_iff, range_all_iff]
      constructor
      · intro h i hi
        have := h (x.offset.toNat + i) (by omega)
        rw [dF (show ¬ ((x.offset.toNat + i : Nat) : Int) < x.offset by omega), Bool.false_or] at this
        exact this
      · intro h i hi
        by_cases hlt : (i : Int) < x.offset
        · rw [dT hlt]; rfl
        · have := h (i - x.offset.toNat) (by omega)
          rw [show x.offset.toNat + (i - x.offset.toNat) = i by omega] at this
          rw [this, Bool.or_true]
    rw [e2]
    cases (List.range x.length.toNat).all fun i => !thereB x.valid (x.offset.toNat + i) || (okN x.data (x.offset.toNat + i) && decide (eN x.data (x.offset.toNat + i) < kid.length)) <;> rfl
  · intro n i hi _
    have w : IntKind.i64.wrap (((x.offset.toNat + i : Nat) : Int) + 1) = ((x.offset.toNat + (i + 1) : Nat) : Int) := by rw [wi64 _ (by omega)]; omega
    rw [array_dict.l0_eq, wi64 (x.offset + x.length) (by omega), dT (by omega), cT, array_Number_ok' (by omega) hb.data (by omega), bS, Arr.eta, array_There_ok (by omega) (hb.inV (by omega)) (by omega), bS, w]
    cases thereB x.valid (x.offset.toNat + i) with
    | false => rfl
    | true =>
      cases okN x.data (x.offset.toNat + i) with
      | false => rfl
      | true =>
        simp only [Bool.not_true, Bool.not_false, cT, Bool.true_and, Bool.false_or, bS]
        by_cases h : eN x.data (x.offset.toNat + i) < kid.length
        · rw [dT h, dF (by omega), cT, cF]
        · rw [dF h, dT (by omega), cT, cF]
  · intro _ n
    rw [array_dict.l0_eq, wi64 (x.offset + x.length) (by omega), dF (by omega), cF]
theorem ref_dict_l0 {null : Bool} {x kid : Arr} (hb : Buf null x) {k : Nat} (hk : 100 ≤ k) (n : Nat) (hn : 65 ≤ n) :
    quiverref7_ArrayMay.l0 idb k n (x.offset + x.length) kid.length x.offset x.layout x.offset x.length x.valid x.ends x.data x.kids =
      some ((List.range (rowsN x)).all fun i => decide ((i : Int) < x.offset) || (!thereB x.valid i || (okN x.data i && decide (eN x.data i < kid.length)))) := by
  have hrw := hb.rowsEq
  have hrl := hb.rowsN_le
  have h0 := hb.off
  have h1 := hb.len
  have key := loop_all (F := fun n i => quiverref7_ArrayMay.l0 idb k n (x.offset + x.length) kid.length ((x.offset.toNat + i : Nat) : Int) x.layout x.offset x.length x.valid x.ends x.data x.kids) (p := fun i => !thereB x.valid (x.offset.toNat + i) || (okN x.data (x.offset.toNat + i) && decide (eN x.data (x.offset.toNat + i) < kid.length)))
    (N := x.length.toNat) (E := some true) (Z := some false) ?_ ?_ n (by omega)
  · have e : ((x.offset.toNat + 0 : Nat) : Int) = x.offset := by omega
    simp only [e] at key
    rw [key]
    have e2 : ((List.range (rowsN x)).all fun i => decide ((i : Int) < x.offset) || (!thereB x.valid i || (okN x.data i && decide (eN x.data i < kid.length)))) =
        (List.range x.length.toNat).all fun i => !thereB x.valid (x.offset.toNat + i) || (okN x.data (x.offset.toNat + i) && decide (eN x.data (x.offset.toNat + i) < kid.length)) := by
      rw [Bool.eq_iff_iff, range_all_iff, range_all_iff]
      constructor
      · intro h i hi
        have := h (x.offset.toNat + i) (by omega)
        rw [dF (show ¬ ((x.offset.toNat + i : Nat) : Int) < x.offset by omega), Bool.false_or] at this
        exact this
      · intro h i hi
        by_cases hlt : (i : Int) < x.offset
        · rw [dT hlt]; rfl
        · have := h (i - x.offset.toNat) (by omega)
          rw [show x.offset.toNat + (i - x.offset.toNat) = i by omega] at this
          rw [this, Bool.or_true]
    rw [e2]
    cases (List.range x.length.toNat).all fun i => !thereB x.valid (x.offset.toNat + i) || (okN x.data (x.offset.toNat + i) && decide (eN x.data (x.offset.toNat + i) < kid.length)) <;> rfl
  · intro n i hi _
    have w : IntKind.i64.wrap (((x.offset.toNat + i : Nat) : Int) + 1) = ((x.offset.toNat + (i + 1) : Nat) : Int) := by rw [wi64 _ (by omega)]; omega
    obtain ⟨y, e, hy, rfl, he⟩ := ref_GetNum4' (k := k) (by omega) hb.data (i := x.offset.toNat + i) (by omega)
    rw [quiverref7_ArrayMay.l0_eq, dT (by omega), cT, hy, bS, Arr.eta, there_ok (by omega) (hb.inV (by omega)) (by omega), bS, w]
    simp only [he]
    cases thereB x.valid (x.offset.toNat + i) with
    | false => rfl
    | true =>
      cases okN x.data (x.offset.toNat + i) with
      | false => rfl
      | true =>
        simp only [Bool.not_true, Bool.not_false, cT, Bool.true_and, Bool.false_or]
        by_cases h : eN x.data (x.offset.toNat + i) < kid.length
        · rw [dT h, dF (by omega), cT, cF]
        · rw [dF h, dT (by omega), cT, cF]
  · intro _ n
    rw [quiverref7_ArrayMay.l0_eq, dF (by omega), cF]
theorem array_run_l0 {x : Arr} {m : Nat} (hm : m ≤ 64) (ho : x.offset + x.length ≤ 64 ∧ 0 ≤ x.offset + x.length) (hd : x.data.length ≤ 4096) {k : Nat} (hk : 100 ≤ k) (n : Nat) (hn : 65 ≤ n) :
    array_run.l0 idb k n x.layout x.offset x.length x.valid x.ends x.data x.kids 0 (m : Int) 0 =
      some ((List.range m).all (fun i => okN x.data i && decide (lastE x.data i < eN x.data i)) && decide (x.offset + x.length ≤ lastE x.data m)) := by
  have key := loop_all (F := fun n i => array_run.l0 idb k n x.layout x.offset x.length x.valid x.ends x.data x.kids (lastE x.data i) (m : Int) (i : Int)) (p := fun i => okN x.data i && decide (lastE x.data i < eN x.data i))
    (N := m) (E := some (decide (x.offset + x.length ≤ lastE x.data m))) (Z := some false) ?_ ?_ n (by omega)
  · refine Eq.trans key ?_
    rw [okF]
  · intro n i hi _
    rw [array_run.l0_eq, dT (by omega), cT, array_Number_ok' (by omega) hd (by omega), bS, lastE_succ, wsucc (by omega)]
    cases okN x.data i with
    | false => rfl
    | true =>
      simp only [Bool.not_true, Bool.not_false, cT, Bool.true_and]
      by_cases h : lastE x.data i < eN x.data i
      · rw [dT h, dF (by omega), cT, cF]
      · rw [dF h, dT (by omega), cT, cF]
  · intro _ n
    rw [array_run.l0_eq, dF (by omega), cF, wi64 _ (by omega)]
theorem ref_run_l2 {x : Arr} {m : Nat} (hm : m ≤ 64) (hd : x.data.length ≤ 4096) {k : Nat} (hk : 100 ≤ k) (n : Nat) (hn : 65 ≤ n) :
    quiverref7_ArrayMay.l2 idb k n (x.offset + x.length) (m : Int) 0 0 x.layout x.offset x.length x.valid x.ends x.data x.kids =
      some ((List.range m).all (fun i => okN x.data i && decide (lastE x.data i < eN x.data i)) && decide (x.offset + x.length ≤ lastE x.data m)) := by
  have key := loop_all (F := fun n i => quiverref7_ArrayMay.l2 idb k n (x.offset + x.length) (m : Int) (lastE x.data i) (i : Int) x.layout x.offset x.length x.valid x.ends x.data x.kids) (p := fun i => okN x.data i && decide (lastE x.data i < eN x.data i))
    (N := m) (E := some (decide (x.offset + x.length ≤ lastE x.data m))) (Z := some false) ?_ ?_ n (by omega)
  · refine Eq.trans key ?_
    rw [okF]
  · intro n i hi _
    obtain ⟨y, e, hy, rfl, he⟩ := ref_GetNum4' (k := k) (by omega) hd (i := i) (by omega)
    rw [quiverref7_ArrayMay.l2_eq, dT (by omega), cT, hy, bS, lastE_succ, wsucc (by omega)]
    simp only [he]
    cases okN x.data i with
    | false => rfl
    | true =>
      simp only [Bool.not_true, Bool.not_false, cT, Bool.true_and]
      by_cases h : lastE x.data i < eN x.data i
      · rw [dT h, dF (by omega), cT, cF]
      · rw [dF h, dT (by omega), cT, cF]
  · intro _ n
    rw [quiverref7_ArrayMay.l2_eq, dF (by omega), cF]

end Go.Proofs.YtppmpfddcohkjaaP
