/- Arrays: where rows end; whether an array may be, by the program and by the document; no condition but the sizes that a machine has. -/
import Derived.Test.YtppmpfddcohkjaaPArr
namespace Go.Proofs.YtppmpfddcohkjaaP
open Go Go.Proofs.YtppmpfddcohkjaaA

theorem okF {b c : Bool} : (bif b then some c else some false) = some (b && c) := by cases b <;> rfl
theorem okE {b c : Bool} : (bif b then some false else some c) = some (!b && c) := by cases b <;> rfl
theorem okT {b c : Bool} : (bif b then some true else some c) = some (b || c) := by cases b <;> rfl

/-! ### Where rows end -/
def okN (s : List UInt8) (i : Nat) : Bool := (numA s i).2 == 0
def eN (s : List UInt8) (i : Nat) : Int := (numA s i).1
theorem okN_good {s : List UInt8} {i : Nat} (h : okN s i = true) : 0 ≤ eN s i ∧ eN s i ≤ 2147483647 := numA_good (by unfold okN at h; simpa using h)
theorem array_Number_ok' {k : Nat} (hk : 14 ≤ k) {s : List UInt8} (hs : s.length ≤ 4096) {i : Nat} (hi : i ≤ 1000000) : array_Number.f idb k s (i : Int) = some (eN s i, okN s i) := array_Number_ok hk hs hi
def endOK (s : List UInt8) (most from_ apart : Int) (i : Nat) : Bool :=
  okN s i && (decide (eN s i ≤ most) && (decide (i = 0) || (decide (eN s (i - 1) ≤ eN s i) && (decide ((i : Int) ≤ from_) || decide (eN s i - eN s (i - 1) ≤ apart)))))
def endsB (s : List UInt8) (rows : Nat) (most from_ apart : Int) : Bool := (List.range (rows + 1)).all (endOK s most from_ apart)
def lastE (s : List UInt8) (i : Nat) : Int := if i = 0 then 0 else eN s (i - 1)
theorem lastE_succ (s : List UInt8) (i : Nat) : lastE s (i + 1) = eN s i := by simp [lastE]
theorem array_ends_ok {k : Nat} (hk : 200 ≤ k) {s : List UInt8} (hs : s.length ≤ 4096) {rows : Nat} (hr : rows ≤ 128) (most from_ apart : Int) :
    array_ends.f idb k s (rows : Int) most from_ apart = some (endsB s rows most from_ apart) := by
  obtain ⟨k, rfl⟩ : ∃ m, k = m + 1 := ⟨k - 1, by omega⟩
  rw [array_ends.f_eq, wsucc (by omega)]
  have := loop_all (F := fun n i => array_ends.l0 idb k n s most from_ apart (lastE s i) ((rows + 1 : Nat) : Int) (i : Int)) (p := endOK s most from_ apart) (N := rows + 1) (E := some true) (Z := some false) ?_ ?_ k (by omega)
  · refine Eq.trans this ?_
    show _ = some ((List.range (rows + 1)).all (endOK s most from_ apart))
    cases (List.range (rows + 1)).all (endOK s most from_ apart) <;> rfl
  · intro n i hi hp
    show array_ends.l0 idb k (n + 1) s most from_ apart (lastE s i) ((rows + 1 : Nat) : Int) (i : Int) = bif endOK s most from_ apart i then array_ends.l0 idb k n s most from_ apart (lastE s (i + 1)) ((rows + 1 : Nat) : Int) ((i + 1 : Nat) : Int) else some false
    rw [array_ends.l0_eq, dT (show (i : Int) < ((rows + 1 : Nat) : Int) by omega), cT, array_Number_ok' (by omega) hs (by omega), bS, lastE_succ, wsucc (by omega)]
    unfold endOK
    cases ho : okN s i with
    | false => rfl
    | true =>
      have g1 := okN_good ho
      simp only [Bool.not_true, Bool.not_false, cT, Bool.true_and]
      by_cases h1 : eN s i ≤ most
      · rw [dF (show ¬ eN s i > most by omega), dT h1, Bool.not_false, cT, Bool.true_and]
        by_cases h2 : i = 0
        · subst h2
          rw [dF (show ¬ ((0 : Nat) : Int) > 0 by omega), cF]; simp
        · have hq := hp (i - 1) (by omega)
          unfold endOK at hq
          rw [Bool.and_eq_true] at hq
          have g2 := okN_good hq.1
          have e1 : lastE s i = eN s (i - 1) := by simp [lastE, h2]
          rw [dT (show (i : Int) > 0 by omega), cT, dF h2, Bool.false_or, e1]
          by_cases h3 : eN s (i - 1) ≤ eN s i
          · rw [dF (show ¬ eN s i < eN s (i - 1) by omega), Bool.not_false, cT, dT h3, Bool.true_and, wi64 _ (by omega)]
            by_cases h4 : (i : Int) ≤ from_
            · rw [dF (show ¬ (i : Int) > from_ by omega), cF, dT h4, Bool.true_or, cT]
            · rw [dT (show (i : Int) > from_ by omega), cT, dF h4, Bool.false_or]
              by_cases h5 : eN s i - eN s (i - 1) ≤ apart
              · rw [dF (show ¬ eN s i - eN s (i - 1) > apart by omega), cF, dT h5, cT]
              · rw [dT (show eN s i - eN s (i - 1) > apart by omega), cT, dF h5, cF]
          · rw [dT (show eN s i < eN s (i - 1) by omega), Bool.not_true, cF, dF h3, Bool.false_and, cF]
      · rw [dT (show eN s i > most by omega), dF h1, Bool.not_true, cF, Bool.false_and, cF]
  · intro _ n
    show array_ends.l0 idb k (n + 1) s most from_ apart (lastE s (rows + 1)) ((rows + 1 : Nat) : Int) ((rows + 1 : Nat) : Int) = some true
    rw [array_ends.l0_eq, dF (by omega), cF]
theorem ref_GetNum4' {k : Nat} (hk : 13 ≤ k) {s : List UInt8} (hs : s.length ≤ 4096) {i : Nat} (hi : i ≤ 1000000) : ∃ x e, quiverref1_GetNum.f idb k s (IntKind.i64.wrap (4 * (i : Int))) 4 = some (x, e) ∧ x = eN s i ∧ (e != 0) = !okN s i := by
  refine ⟨_, _, ref_GetNum4 hk hs hi, rfl, ?_⟩
  unfold okN
  rfl
theorem ref_mayEnds_ok {k : Nat} (hk : 200 ≤ k) {s : List UInt8} (hs : s.length ≤ 4096) {rows : Nat} (hr : rows ≤ 128) (most from_ apart : Int) (hf : 0 ≤ from_) :
    quiverref7_mayEnds.f idb k s (rows : Int) from_ most apart = some (endsB s rows most from_ apart) := by
  obtain ⟨k, rfl⟩ : ∃ m, k = m + 1 := ⟨k - 1, by omega⟩
  rw [quiverref7_mayEnds.f_eq]
  have := loop_all (F := fun n i => quiverref7_mayEnds.l0 idb k n s (rows : Int) from_ most apart (lastE s i) (i : Int)) (p := endOK s most from_ apart) (N := rows + 1) (E := some true) (Z := some false) ?_ ?_ k (by omega)
  · refine Eq.trans this ?_
    show _ = some ((List.range (rows + 1)).all (endOK s most from_ apart))
    cases (List.range (rows + 1)).all (endOK s most from_ apart) <;> rfl
  · intro n i hi hp
    show quiverref7_mayEnds.l0 idb k (n + 1) s (rows : Int) from_ most apart (lastE s i) (i : Int) = bif endOK s most from_ apart i then quiverref7_mayEnds.l0 idb k n s (rows : Int) from_ most apart (lastE s (i + 1)) ((i + 1 : Nat) : Int) else some false
    obtain ⟨x, e, hx, rfl, he⟩ := ref_GetNum4' (k := k) (by omega) hs (i := i) (by omega)
    rw [quiverref7_mayEnds.l0_eq, dT (show (i : Int) ≤ (rows : Int) by omega), cT, hx, bS, lastE_succ, wsucc (by omega)]
    simp only [he]
    unfold endOK
    cases ho : okN s i with
    | false => rfl
    | true =>
      have g1 := okN_good ho
      simp only [Bool.not_true, Bool.not_false, cT, Bool.true_and]
      by_cases h2 : i = 0
      · subst h2
        have e0 : lastE s 0 = 0 := rfl
        rw [e0, dF (show ¬ eN s 0 < 0 by omega), Bool.not_false, cT, dF (show ¬ ((0 : Nat) : Int) > from_ by omega), cF]
        by_cases h1 : eN s 0 ≤ most
        · rw [dF (show ¬ eN s 0 > most by omega), dT h1, Bool.not_false, cT]; simp
        · rw [dT (show eN s 0 > most by omega), dF h1, Bool.not_true, cF, Bool.false_and, cF]
      · have hq := hp (i - 1) (by omega)
        unfold endOK at hq
        rw [Bool.and_eq_true] at hq
        have g2 := okN_good hq.1
        have e1 : lastE s i = eN s (i - 1) := by simp [lastE, h2]
        rw [dF h2, Bool.false_or, e1]
        by_cases h3 : eN s (i - 1) ≤ eN s i
        · rw [dF (show ¬ eN s i < eN s (i - 1) by omega), Bool.not_false, cT, dT h3, Bool.true_and, wi64 _ (by omega)]
          by_cases h1 : eN s i ≤ most
          · rw [dF (show ¬ eN s i > most by omega), dT h1, Bool.not_false, cT, Bool.true_and]
            by_cases h4 : (i : Int) ≤ from_
            · rw [dF (show ¬ (i : Int) > from_ by omega), cF, dT h4, Bool.true_or, cT]
            · rw [dT (show (i : Int) > from_ by omega), cT, dF h4, Bool.false_or]
              by_cases h5 : eN s i - eN s (i - 1) ≤ apart
              · rw [dF (show ¬ eN s i - eN s (i - 1) > apart by omega), cF, dT h5, cT]
              · rw [dT (show eN s i - eN s (i - 1) > apart by omega), cT, dF h5, cF]
          · rw [dT (show eN s i > most by omega), dF h1, Bool.not_true, cF, Bool.false_and, cF]
        · rw [dT (show eN s i < eN s (i - 1) by omega), Bool.not_true, cF, dF h3, Bool.false_and, Bool.and_false, cF]
  · intro _ n
    show quiverref7_mayEnds.l0 idb k (n + 1) s (rows : Int) from_ most apart (lastE s (rows + 1)) ((rows + 1 : Nat) : Int) = some true
    rw [quiverref7_mayEnds.l0_eq, dF (by omega), cF]
/-- Within so many, no two are further apart. -/
theorem endsB_apart {s : List UInt8} {rows : Nat} {most f g p q : Int} (h1 : most ≤ p) (h2 : most ≤ q) : endsB s rows most f p = endsB s rows most g q := by
  have one : ∀ {f g p q : Int}, most ≤ p → most ≤ q → endsB s rows most f p = true → endsB s rows most g q = true := by
    intro f g p q _ hq h
    unfold endsB at h ⊢
    rw [range_all_iff] at h ⊢
    intro j hj
    have := h j hj
    unfold endOK at this ⊢
    simp only [Bool.and_eq_true, Bool.or_eq_true, decide_eq_true_eq] at this ⊢
    obtain ⟨a, b, c⟩ := this
    refine ⟨a, b, ?_⟩
    rcases c with c | ⟨c, d⟩
    · exact .inl c
    · refine .inr ⟨c, .inr ?_⟩
      by_cases hj0 : j = 0
      · subst hj0; simp at *; have := okN_good a; omega
      · have := h (j - 1) (by omega)
        unfold endOK at this
        simp only [Bool.and_eq_true] at this
        have := okN_good this.1
        omega
  cases h : endsB s rows most f p with
  | true => exact (one h1 h2 h).symm
  | false =>
    cases h' : endsB s rows most g q with
    | false => rfl
    | true => rw [one h2 h1 h'] at h; cases h

end Go.Proofs.YtppmpfddcohkjaaP
