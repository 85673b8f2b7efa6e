/- Equality by values: the laws EqualRow and EqualParts, as the machine answers them; no condition but the sizes that a machine has. -/
import Derived.Test.YtppmpfddcohkjaaGreatDoorPEq2
import Derived.Test.YtppmpfddcohkjaaGreatDoorPBuilt3
namespace Go.Proofs.YtppmpfddcohkjaaGreatDoorP
open Go Go.Proofs.YtppmpfddcohkjaaGreatDoorA

theorem pure_EqualRow (t : List Nod) (a : Int) (x y : Arr) (vs : List (List UInt8)) (hx : RoomyA x) (hy : RoomyA y) (hl : vs.length ≤ 9000000000000) : ∃ k, quiverlaw15_EqualRow.f idb k t a x y vs = some true := by
  obtain ⟨k, hk⟩ : ∃ k, 300000 + vs.length ≤ k := ⟨_, Nat.le_refl _⟩
  refine ⟨k + 1, ?_⟩
  obtain ⟨c, e, hB, hc, he⟩ := Build_may t a vs hl (k := k) (by omega)
  rw [quiverlaw15_EqualRow.f_eq, awake15' (by omega), bS, Bool.not_true, cF, hB, bS, equal_ok hx hy (by omega), bS, equal_ok hy hx (by omega), bS]
  simp only [equal_ok hx hc (show 1002 ≤ k by omega), equal_ok hy hc (show 1002 ≤ k by omega), equal_ok hx hx (show 1002 ≤ k by omega), bS, Num_ok (show 1 ≤ k by omega)]
  unfold equalT
  cases h1 : arrB t a x with
  | false =>
    simp only [Bool.false_and, Bool.and_false, Bool.false_eq_true, if_false]
    cases (!(e != 0)) <;> rfl
  | true =>
    cases h2 : arrB t a y with
    | false =>
      simp only [Bool.false_and, Bool.and_false, Bool.false_eq_true, if_false]
      cases (!(e != 0)) <;> rfl
    | true =>
      simp only [Bool.and_self, Bool.true_and, if_true, BEq.rfl, cT]
      have hsym : (valsA t a x == valsA t a y) = (valsA t a y == valsA t a x) := by
        rw [Bool.eq_iff_iff, beq_iff_eq, beq_iff_eq]; exact eq_comm
      by_cases he0 : e = 0
      · have hcm := (he he0).1
        rw [he0, hcm]
        simp only [if_true, BEq.rfl, cT, bne_self_eq_false, cF, Bool.not_false]
        rw [hsym, BEq.rfl, cT]
        by_cases e1 : valsA t a y = valsA t a x
        · rw [e1, BEq.rfl]
          simp only [BEq.rfl, Bool.not_true, Bool.not_false, cT]
          cases (valsA t a x == valsA t a c) <;> rfl
        · rw [show (valsA t a y == valsA t a x) = false by rw [beq_eq_false_iff_ne]; exact e1]
          simp only [Bool.not_false, Bool.not_true, cF]
          by_cases e2 : valsA t a x = valsA t a c
          · rw [show (valsA t a x == valsA t a c) = true by rw [e2]; exact BEq.rfl]
            rw [show (valsA t a y == valsA t a c) = false by rw [beq_eq_false_iff_ne]; intro e3; exact e1 (e3.trans e2.symm)]
            rfl
          · rw [show (valsA t a x == valsA t a c) = false by rw [beq_eq_false_iff_ne]; exact e2]
            rfl
      · rw [show (e != 0) = true by rw [bne_iff_ne]; exact he0]
        simp only [Bool.not_true, cF]
        rw [hsym, BEq.rfl]
        rfl

theorem refCopy_ok : ∀ (d : Nat) (a : Arr), fits d a → RoomyA a → ∀ k, d + 2 ≤ k → quiverref11_CopyArray.f idb k a = some a
  | 0, a, h, _, _, _ => absurd h (by simp [fits])
  | d + 1, a, h, hr, k, hk => by
    obtain ⟨k, rfl⟩ : ∃ m, k = m + 1 := ⟨k - 1, by omega⟩
    rw [quiverref11_CopyArray.f_eq]
    have hkl := hr.kids
    have hkd := h.1
    refine loop_up (F := fun n i => quiverref11_CopyArray.l0 idb k n (i : Int) a.layout a.offset a.length a.valid a.ends a.data a.kids (a.kids.take i)) (N := a.kids.length) ?_ ?_ k 0 (by omega) (by omega)
    · intro n i hi
      rw [quiverref11_CopyArray.l0_eq, dT (by omega), cT, rd_get hi, bS, refCopy_ok d a.kids[i] (fits_kid h (List.getElem_mem hi)) (hr.kid (List.getElem_mem hi)) k (by omega), bS, Arr.eta, dT (by simp only [List.length_take, List.length_cons, List.length_nil]; omega), cT, wsucc (by omega), List.take_succ_eq_append_getElem hi]
    · intro n
      rw [quiverref11_CopyArray.l0_eq, dF (by omega), cF, List.take_length, Arr.eta]
theorem refSlice_ok {d : Nat} {t : List Nod} {a : Int} {x : Arr} (hd : fits d x) (hx : RoomyA x) {i c : Int} (hi : -9223372036854775808 ≤ i ∧ i ≤ 9223372036854775807) (hc : -9223372036854775808 ≤ c ∧ c ≤ 9223372036854775807) {k : Nat} (hk : d + 1003 ≤ k) :
    quiverref11_Slice.f idb k t a x i c = some (sliceT t a x i c) := by
  obtain ⟨k, rfl⟩ : ∃ m, k = m + 1 := ⟨k - 1, by omega⟩
  rw [quiverref11_Slice.f_eq, ref_May_ok' hx (by omega), bS]
  unfold sliceT
  cases hb : arrB t a x with
  | false => rfl
  | true =>
    have hl := arrB_len hb
    rw [Bool.not_true, cF, if_neg (by simp)]
    by_cases h1 : 0 ≤ i
    · rw [dF (show ¬ i < 0 by omega), Bool.not_false, cT]
      by_cases h2 : 0 ≤ c
      · rw [dF (show ¬ c < 0 by omega), Bool.not_false, cT]
        by_cases h3 : i ≤ x.length
        · rw [dF (show ¬ i > x.length by omega), Bool.not_false, cT, wi64 (x.length - i) (by omega)]
          by_cases h4 : i + c ≤ x.length
          · rw [dF (show ¬ c > x.length - i by omega), cF, refCopy_ok d x hd hx _ (by omega), bS, if_pos ⟨h1, h2, h4⟩, wi64 (x.offset + i) (by omega)]
            rfl
          · rw [dT (show c > x.length - i by omega), cT, if_neg (by omega)]; rfl
        · rw [dT (show i > x.length by omega), Bool.not_true, cF, if_neg (by omega)]; rfl
      · rw [dT (show c < 0 by omega), Bool.not_true, cF, if_neg (by omega)]; rfl
    · rw [dT (show i < 0 by omega), Bool.not_true, cF, if_neg (by omega)]; rfl
theorem arrB_fitsD : ∀ (n : Nat) {t : List Nod} {a : Int} {x : Arr}, arrB t a x = true → need t a x < n → fits (n + 9) x
  | 0, _, _, _, _, h => by omega
  | n + 1, t, a, x, h, hn' => by
    obtain ⟨hn, hb⟩ := arrB_buf h
    obtain ⟨hm, i, hi, rfl⟩ := nodeB_may hn
    have hkk := kidsU_length t (i : Int) t.length
    have htl := mayT_length hm
    have hkl : (kidsL t (i : Int)).length ≤ 8 := by unfold kidsL; omega
    by_cases hl : x.layout = 0
    · have hP := arrB_plain h hl
      refine ⟨by rw [hP.kids]; omega, fun k hk => ?_⟩
      obtain ⟨j, hj, rfl⟩ := List.mem_iff_getElem.1 hk
      rw [kidA_get hj]
      have := need_kid hm (x := x) (kidA x j) (show j < (kidsL t (i : Int)).length by rw [← hP.kids]; exact hj)
      exact arrB_fitsD n (hP.may j hj) (by omega)
    · obtain ⟨hO, _⟩ := arrB_one h hl
      refine ⟨by rw [hO.kids]; omega, fun k hk => ?_⟩
      obtain ⟨j, hj, rfl⟩ := List.mem_iff_getElem.1 hk
      have : j = 0 := by have := hO.kids; omega
      subst this
      rw [kidA_get hj]
      refine arrB_fitsD n hO.may ?_
      have hf := hO.flat
      unfold need at hn' ⊢
      rw [if_neg hl] at hn'
      rw [if_pos hf]; omega
theorem arrB_fits {t : List Nod} {a : Int} {x : Arr} (h : arrB t a x = true) : fits 30 x := by
  obtain ⟨hn, _⟩ := arrB_buf h
  have := need_lt (x := x) hn
  exact fits_mono (by omega) (arrB_fitsD 18 h this)
theorem pure_EqualParts (t : List Nod) (a : Int) (x : Arr) (vs : List (List UInt8)) (p : Int) (hx : RoomyA x) (hl : vs.length ≤ 9000000000000) : ∃ k, quiverlaw15_EqualParts.f idb k t a x vs p = some true := by
  obtain ⟨k, hk⟩ : ∃ k, 300000 + vs.length ≤ k := ⟨_, Nat.le_refl _⟩
  refine ⟨k + 1, ?_⟩
  obtain ⟨y, e, hB, hy, he⟩ := Build_may t a vs hl (k := k) (by omega)
  rw [quiverlaw15_EqualParts.f_eq, awake15' (by omega), bS, Bool.not_true, cF, hB, bS]
  simp only
  by_cases he0 : e = 0
  · obtain ⟨hby, hF, _⟩ := he he0
    rw [he0, bne_self_eq_false, Bool.not_false, cT, ref_May_ok' hx (by omega), bS]
    cases hbx : arrB t a x with
    | false => rfl
    | true =>
      have hlx := arrB_len hbx
      have hly := arrB_len hby
      rw [Bool.not_true, Bool.not_false, cT]
      by_cases hxy : x.length = y.length
      · rw [show (x.length != y.length) = false by rw [hxy]; simp, cF]
        obtain ⟨u1, u2, u3, u4⟩ := umod (a := p) (m := x.length + 1) (by omega)
        rw [wi64 (x.length + 1) (by omega), show (IntKind.u64.wrap (x.length + 1) == 0) = false by simpa using u1, cF]
        simp only [u2]
        generalize (p % 18446744073709551616) % (x.length + 1) = c at *
        obtain ⟨c, rfl⟩ : ∃ n : Nat, c = (n : Int) := ⟨c.toNat, by omega⟩
        have hs : ∀ {z : Arr} {i c : Int}, arrB t a z = true → (0 ≤ i ∧ 0 ≤ c ∧ i + c ≤ z.length) → quiverref11_Slice.f idb k t a z i c = some (part z i c, 0) := by
          intro z i c hz hic
          have hlz := arrB_len hz
          rw [refSlice_ok (arrB_fits hz) (arrB_roomy hz) (by omega) (by omega) (by omega)]
          unfold sliceT
          rw [if_neg (by rw [hz]; simp), if_pos hic]
        rw [wi64 (x.length - (c : Int)) (by omega), hs hbx (by omega), bS, hs hby (by omega), bS, hs hbx (by omega), bS, hs hby (by omega), bS]
        have q1 := arrB_part hbx (i := 0) (c := (c : Int)) (by omega) (by omega) (by omega)
        have q2 := arrB_part hby (i := 0) (c := (c : Int)) (by omega) (by omega) (by omega)
        have q3 := arrB_part hbx (i := (c : Int)) (c := x.length - (c : Int)) (by omega) (by omega) (by omega)
        have q4 := arrB_part hby (i := (c : Int)) (c := x.length - (c : Int)) (by omega) (by omega) (by omega)
        have E : ∀ {z u : Arr}, arrB t a z = true → arrB t a u = true → equal_Equal.f idb k t a z u = some (valsA t a z == valsA t a u, 0) := by
          intro z u hz hu
          rw [equal_ok (arrB_roomy hz) (arrB_roomy hu) (by omega)]
          unfold equalT
          rw [hz, hu]; rfl
        rw [E hbx hby, bS, E q1 q2, bS, E q3 q4, bS]
        simp only [Num_ok (show 1 ≤ k by omega), BEq.rfl, cT, bS]
        obtain ⟨n, hn⟩ : ∃ n : Nat, x.length = (n : Int) := ⟨x.length.toNat, by omega⟩
        have p1 := valsA_part hbx (i := 0) (c := c) (by omega)
        have p2 := valsA_part hby (i := 0) (c := c) (by omega)
        have p3 := valsA_part hbx (i := c) (c := n - c) (by omega)
        have p4 := valsA_part hby (i := c) (c := n - c) (by omega)
        have l1 := valsA_length (t := t) (a := a) (x := x)
        have l2 := valsA_length (t := t) (a := a) (x := y)
        rw [show ((0 : Nat) : Int) = 0 from rfl, Nat.zero_add, List.drop_zero] at p1 p2
        rw [show ((n - c : Nat) : Int) = x.length - (c : Int) by omega, show c + (n - c) = n by omega] at p3 p4
        rw [List.take_of_length_le (by omega)] at p3 p4
        rw [p1, p2, p3, p4]
        have key : (valsA t a x == valsA t a y) = (((valsA t a x).take c == (valsA t a y).take c) && ((valsA t a x).drop c == (valsA t a y).drop c)) := by
          rw [Bool.eq_iff_iff, Bool.and_eq_true, beq_iff_eq, beq_iff_eq, beq_iff_eq]
          constructor
          · intro e; rw [e]; exact ⟨rfl, rfl⟩
          · rintro ⟨e1, e2⟩
            rw [← List.take_append_drop c (valsA t a x), e1, e2, List.take_append_drop]
        rw [key]
        cases ((valsA t a x).take c == (valsA t a y).take c) with
        | true => rw [cT, Bool.true_and, BEq.rfl]
        | false => rw [cF, Bool.false_and]; rfl
      · rw [show (x.length != y.length) = true by rw [bne_iff_ne]; exact hxy, cT]
  · rw [show (e != 0) = true by rw [bne_iff_ne]; exact he0]
    rfl

end Go.Proofs.YtppmpfddcohkjaaGreatDoorP
