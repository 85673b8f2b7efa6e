/- Arrays: the law ArrayParts, as the machine answers it; no condition but the sizes that a machine has. -/
import Derived.Test.YtppmpfddcohkjaaPArr6
namespace Go.Proofs.YtppmpfddcohkjaaP
open Go Go.Proofs.YtppmpfddcohkjaaA

/-- A part of an array. -/
def part (x : Arr) (i c : Int) : Arr := .mk x.layout (x.offset + i) c x.valid x.ends x.data x.kids
theorem endsB_less {s : List UInt8} {r r' : Nat} {m f f' p : Int} (hr : r' ≤ r) (hf : f ≤ f') (h : endsB s r m f p = true) : endsB s r' m f' p = true := by
  unfold endsB at h ⊢
  rw [range_all_iff] at h ⊢
  intro j hj
  have := h j (by omega)
  unfold endOK at this ⊢
  simp only [Bool.and_eq_true, Bool.or_eq_true, decide_eq_true_eq] at this ⊢
  obtain ⟨a, b, c⟩ := this
  refine ⟨a, b, ?_⟩
  rcases c with c | ⟨c, d⟩
  · exact .inl c
  · refine .inr ⟨c, ?_⟩
    rcases d with d | d
    · exact .inl (by omega)
    · exact .inr d
theorem kidA_part {x : Arr} {i c : Int} {j : Nat} (hj : j < x.kids.length) : kidA (part x i c) j = kidA x j := by
  have h : (part x i c).kids = x.kids := rfl
  rw [← kidA_get hj, ← kidA_get (by rw [h]; exact hj)]
  rfl
theorem bitB_mono {a b : Int} (h : a ≤ b) : bitB a ≤ bitB b := by unfold bitB; omega
theorem arrB_buf {t : List Nod} {a : Int} {x : Arr} (h : arrB t a x = true) : nodeB t a = true ∧ Buf (nul t a.toNat) x := by
  rw [arrB_eq] at h
  simp only [Bool.and_eq_true] at h
  exact ⟨h.1, bufB_iff.1 h.2.1⟩
theorem arrB_part {t : List Nod} {a : Int} {x : Arr} (h : arrB t a x = true) {i c : Int} (hi : 0 ≤ i) (hc : 0 ≤ c) (hic : i + c ≤ x.length) : arrB t a (part x i c) = true := by
  obtain ⟨hn, hb⟩ := arrB_buf h
  have o := hb.off
  have l := hb.len
  have r := hb.rows
  have hb' : Buf (nul t a.toNat) (part x i c) := by
    refine ⟨show 0 ≤ x.offset + i by omega, hc, show x.offset + i + c ≤ 64 by omega, hb.valid, hb.ends, hb.data, ?_⟩
    rcases hb.there with h | ⟨h1, h2⟩
    · exact .inl h
    · exact .inr ⟨h1, Int.le_trans (bitB_mono (show x.offset + i + c ≤ x.offset + x.length by omega)) h2⟩
  have hr := hb.rowsEq
  have hr' := hb'.rowsEq
  have e1 : (part x i c).offset = x.offset + i := rfl
  have e2 : (part x i c).length = c := rfl
  rw [e1, e2] at hr'
  rw [arrB_eq] at h ⊢
  rw [hn, bufB_iff.2 hb, Bool.true_and, Bool.true_and] at h
  rw [hn, bufB_iff.2 hb', Bool.true_and, Bool.true_and]
  have eL : (part x i c).layout = x.layout := rfl
  have eV : (part x i c).valid = x.valid := rfl
  have eE : (part x i c).ends = x.ends := rfl
  have eD : (part x i c).data = x.data := rfl
  have eK : (part x i c).kids = x.kids := rfl
  rw [eL, eK, eE]
  by_cases h0 : x.layout = 0
  · rw [if_pos h0] at h ⊢
    simp only [Bool.and_eq_true] at h ⊢
    obtain ⟨h1, h2, h3⟩ := h
    refine ⟨h1, ?_, ?_⟩
    · rw [range_all_iff] at h2 ⊢
      intro j hj
      rw [kidA_part hj]; exact h2 j hj
    · unfold kindM at h3 ⊢
      rw [e1, e2, eE, eD, eK]
      split
      · rename_i hk
        rw [if_pos hk] at h3
        simp only [Bool.and_eq_true, decide_eq_true_eq] at h3 ⊢
        exact ⟨h3.1, by omega⟩
      · rename_i hk
        rw [if_neg hk] at h3
        split
        · rename_i hk
          rw [if_pos hk] at h3
          simp only [Bool.and_eq_true, decide_eq_true_eq] at h3 ⊢
          exact ⟨h3.1, Int.le_trans (bitB_mono (by omega)) h3.2⟩
        · rename_i hk
          rw [if_neg hk] at h3
          split
          · rename_i hk
            rw [if_pos hk] at h3
            exact endsB_less (by omega) (by omega) h3
          · rename_i hk
            rw [if_neg hk] at h3
            split
            · rename_i hk
              rw [if_pos hk] at h3
              simp only [Bool.and_eq_true] at h3 ⊢
              refine ⟨h3.1, ?_⟩
              by_cases hz : 0 < x.kids.length
              · rw [kidA_part hz]; exact endsB_less (by omega) (by omega) h3.2
              · -- a list has a kid
                exfalso
                obtain ⟨hm, q, hq, rfl⟩ := nodeB_may hn
                have hkb := (((mayT_iff t).1 hm).2.2 q hq).1
                unfold kidsB at hkb
                rw [Int.toNat_natCast] at hk
                rw [hk] at hkb
                have : (kidsL t (q : Int)).length = 1 := by simpa using hkb
                simp only [decide_eq_true_eq] at h1
                omega
            · rename_i hk
              rw [if_neg hk] at h3
              simp only [Bool.and_eq_true, Bool.not_eq_true', List.any_eq_false, decide_eq_true_eq] at h3 ⊢
              refine ⟨h3.1, h3.2.1, fun y hy => ?_⟩
              have := h3.2.2 y hy
              omega
  · rw [if_neg h0] at h ⊢
    simp only [Bool.and_eq_true] at h ⊢
    obtain ⟨h1, h2, h3, h4, h5, h6⟩ := h
    have hz : 0 < x.kids.length := by simp only [decide_eq_true_eq] at h3; omega
    refine ⟨h1, h2, h3, ?_, ?_, ?_⟩
    · rw [kidA_part hz]; exact h4
    · rw [kidA_part hz]; exact h5
    · rw [kidA_part hz]
      split
      · rename_i hl
        rw [if_pos hl] at h6
        unfold dictB at h6 ⊢
        rw [e1, eV, eD]
        simp only [Bool.and_eq_true, decide_eq_true_eq, range_all_iff] at h6 ⊢
        refine ⟨h6.1, by omega, fun j hj => ?_⟩
        have := h6.2.2 j (by omega)
        simp only [Bool.or_eq_true, decide_eq_true_eq] at this ⊢
        rcases this with h | h
        · exact .inl (by omega)
        · exact .inr h
      · rename_i hl
        rw [if_neg hl] at h6
        split
        · rename_i hl
          rw [if_pos hl] at h6
          unfold runB at h6 ⊢
          rw [e1, e2, eV, eD]
          simp only [Bool.and_eq_true, decide_eq_true_eq] at h6 ⊢
          exact ⟨h6.1, h6.2.1, h6.2.2.1, by omega⟩
        · rename_i hl
          rw [if_neg hl] at h6
          cases h6
theorem roomy_part {x : Arr} (hx : RoomyA x) {i c : Int} (h1 : -9223372036854775808 ≤ x.offset + i ∧ x.offset + i ≤ 9223372036854775807) (h2 : -9223372036854775808 ≤ c ∧ c ≤ 9223372036854775807) : RoomyA (part x i c) := by
  intro d
  cases d with
  | zero => trivial
  | succ d =>
    obtain ⟨_, _, a, b, c', e, f⟩ := hx (d + 1)
    exact ⟨h1, h2, a, b, c', e, f⟩
/-- A number modulo another, as a word. -/
theorem umod {a m : Int} (hm : 1 ≤ m ∧ m ≤ 1000000) : IntKind.u64.wrap m ≠ 0 ∧ IntKind.i64.wrap (Int.tmod (IntKind.u64.wrap a) (IntKind.u64.wrap m)) = (a % 18446744073709551616) % m ∧ 0 ≤ (a % 18446744073709551616) % m ∧ (a % 18446744073709551616) % m < m := by
  have e1 : IntKind.u64.wrap m = m := wu64 m (by omega)
  have e2 : IntKind.u64.wrap a = a % 18446744073709551616 := by simp [IntKind.wrap, IntKind.bits, IntKind.signed]
  have h0 : 0 ≤ (a % 18446744073709551616) % m := Int.emod_nonneg _ (by omega)
  have h1 : (a % 18446744073709551616) % m < m := Int.emod_lt_of_pos _ (by omega)
  refine ⟨by omega, ?_, h0, h1⟩
  rw [e1, e2, Int.tmod_eq_emod_of_nonneg (Int.emod_nonneg _ (by omega)), wi64 _ (by omega)]
theorem Num_ok {k : Nat} (hk : 1 ≤ k) (x : Int) : quiverlaw0_Num.f idb k x = some x := by
  obtain ⟨k, rfl⟩ : ∃ m, k = m + 1 := ⟨k - 1, by omega⟩
  rw [quiverlaw0_Num.f_eq]
theorem pure_ArrayParts (t : List Nod) (a : Int) (x : Arr) (p q : Int) (hx : RoomyA x) : ∃ k, quiverlaw8_ArrayParts.f idb k t a x p q = some true := by
  obtain ⟨d, hd⟩ := fits_ex x
  refine ⟨d + 2000, ?_⟩
  rw [show d + 2000 = (d + 1999) + 1 from rfl, quiverlaw8_ArrayParts.f_eq, awake8' (by omega), bS, Bool.not_true, cF, May_ok hx (by omega), bS]
  cases hb : arrB t a x with
  | false => rw [Bool.not_false, cT, ref_May_ok' hx (by omega), bS, hb]; rfl
  | true =>
    obtain ⟨_, hB⟩ := arrB_buf hb
    have o := hB.off
    have l := hB.len
    have r := hB.rows
    obtain ⟨u1, u2, u3, u4⟩ := umod (a := p) (m := x.length + 1) (by omega)
    rw [Bool.not_true, cF, dF (show ¬ x.length < 0 by omega), Bool.not_false, cT, dF (show ¬ x.length > 64 by omega), cF, wi64 (x.length + 1) (by omega),
      show (IntKind.u64.wrap (x.length + 1) == 0) = false by simpa using u1, cF, CopyArray_ok d x hd hx _ (by omega), bS, u2]
    generalize hi : (p % 18446744073709551616) % (x.length + 1) = i at *
    obtain ⟨v1, v2, v3, v4⟩ := umod (a := q) (m := x.length - i + 1) (by omega)
    rw [wi64 (x.length - i) (by omega), wi64 (x.length - i + 1) (by omega), show (IntKind.u64.wrap (x.length - i + 1) == 0) = false by simpa using v1, cF, Num_ok (by omega), bS, v2, wi64 (x.offset + i) (by omega)]
    generalize hc : (q % 18446744073709551616) % (x.length - i + 1) = c at *
    have key := May_ok (t := t) (a := a) (roomy_part hx (i := i) (c := c) (by omega) (by omega)) (k := d + 1999) (by omega)
    rw [arrB_part hb (by omega) (by omega) (by omega)] at key
    show (bif (0 : Int) == 0 then (array_May.f idb (d + 1999) t a (part x i c)).bind fun r_6 => some r_6 else some false) = some true
    rw [key]; rfl

end Go.Proofs.YtppmpfddcohkjaaP
