/- The law ArrayForms, as the machine answers it; no condition but the sizes that a machine has. -/
import Derived.Test.YtjkokaockhecnaaPFm2
namespace Go.Proofs.YtjkokaockhecnaaP
open Go Go.Proofs.YtjkokaockhecnaaA

theorem awake8 (m : Nat) : quiverlaw8_awake.f idb (m + 80) = some true := by kernel_rfl
theorem awake8' {k : Nat} (hk : 80 ≤ k) : quiverlaw8_awake.f idb k = some true := by
  obtain ⟨k, rfl⟩ : ∃ m, k = m + 80 := ⟨k - 80, by omega⟩
  exact awake8 k

theorem buf_off {l o n : Int} {v e x : List UInt8} {ks : List Arr} (h : o < 0) : bufB true ⟨l, o, n, v, e, x, ks⟩ = false := by
  unfold bufB
  show (decide (0 ≤ o) && _) = false
  rw [dF (show ¬ 0 ≤ o by omega), Bool.false_and]
theorem buf_len {l o n : Int} {v e x : List UInt8} {ks : List Arr} (h : n < 0) : bufB true ⟨l, o, n, v, e, x, ks⟩ = false := by
  unfold bufB
  show (decide (0 ≤ o) && (decide (0 ≤ n) && _)) = false
  rw [dF (show ¬ 0 ≤ n by omega), Bool.false_and, Bool.and_false]
theorem buf_rows {l o n : Int} {v e x : List UInt8} {ks : List Arr} (h : 64 < o + n) : bufB true ⟨l, o, n, v, e, x, ks⟩ = false := by
  unfold bufB
  show (decide (0 ≤ o) && (decide (0 ≤ n) && (decide (o + n ≤ 64) && _))) = false
  rw [dF (show ¬ o + n ≤ 64 by omega), Bool.false_and, Bool.and_false, Bool.and_false]
theorem buf_valid {l o n : Int} {v e x : List UInt8} {ks : List Arr} (h : 4096 < v.length) : bufB true ⟨l, o, n, v, e, x, ks⟩ = false := by
  unfold bufB
  show (decide (0 ≤ o) && (decide (0 ≤ n) && (decide (o + n ≤ 64) && (decide (v.length ≤ 4096) && _)))) = false
  rw [dF (show ¬ v.length ≤ 4096 by omega), Bool.false_and, Bool.and_false, Bool.and_false, Bool.and_false]
theorem buf_data {l o n : Int} {v e x : List UInt8} {ks : List Arr} (h : 4096 < x.length) : bufB true ⟨l, o, n, v, e, x, ks⟩ = false := by
  unfold bufB
  show (decide (0 ≤ o) && (decide (0 ≤ n) && (decide (o + n ≤ 64) && (decide (v.length ≤ 4096) && (decide (e.length ≤ 4096) && (decide (x.length ≤ 4096) && _)))))) = false
  rw [dF (show ¬ x.length ≤ 4096 by omega), Bool.false_and, Bool.and_false, Bool.and_false, Bool.and_false, Bool.and_false, Bool.and_false]
theorem may_no {l o n : Int} {v e x : List UInt8} (ho : -5000 ≤ o ∧ o ≤ 5000) (hn : -5000 ≤ n ∧ n ≤ 5000) (hv : v.length ≤ 6000) (he : e.length ≤ 6000) (hx : x.length ≤ 6000) (h : arrB tF 0 ⟨l, o, n, v, e, x, []⟩ = false) :
    array_May.f idb (1000 + 100) tF 0 ⟨l, o, n, v, e, x, []⟩ = some false := by
  rw [May_ok (roomF ho hn hv he hx) (by omega), h]
theorem zl_len (d : Int) : (strOfBytes (List.replicate (4096 + d).toNat (0 : Int))).length = (4096 + d).toNat := by rw [strOfBytes_length, List.length_replicate]

theorem pure_ArrayForms (a0 a1 : Int) : ∃ k, quiverlaw8_ArrayForms.f idb k a0 a1 = some true := by
  refine ⟨1000 + 100 + 1, ?_⟩
  obtain ⟨d, hd, d1, d2⟩ := dist_of a1
  have w1 : IntKind.i64.wrap (0 - d) = -d := by rw [wi64 _ (by omega)]; omega
  have w2 : IntKind.i64.wrap (64 + d) = 64 + d := wi64 _ (by omega)
  have w3 : IntKind.i64.wrap (4096 + d) = 4096 + d := wi64 _ (by omega)
  have w4' : IntKind.i64.wrap (2 + d) = 2 + d := wi64 _ (by omega)
  have zl : (strOfBytes (List.replicate (4096 + d).toNat (0 : Int))).length = (4096 + d).toNat := by rw [strOfBytes_length, List.length_replicate]
  have gl : gF.data.length = 24 := rfl
  have hG := gF_ok 1000
  have hD := dF_ok 1000
  have hR := rF_ok 1000
  unfold tF at hG hD hR
  generalize hq : Int.tmod (IntKind.u64.wrap a0) 18 = q
  rw [quiverlaw8_ArrayForms.f_eq, awake8' (by omega), bS]
  simp only [Bool.not_true, cF]
  rw [hG, bS, hD, bS, hR, bS, copyG, bS, hq]
  simp only [hd, w1, w2, w3, w4', bar_eq, copyD, copyR, bS]
  by_cases h0 : q = 0
  · rw [show (q == 0) = true by simpa using h0, cT]
    exact jF 1000 ⟨0, -d, 3, [5], [], gF.data, []⟩ (may_no (by omega) (by omega) (show ([5] : List UInt8).length ≤ 6000 by decide) (show ([] : List UInt8).length ≤ 6000 by decide) (show gF.data.length ≤ 6000 by decide) (no_buf (buf_off (by omega))))
  rw [show (q == 0) = false by simpa using h0, cF]
  by_cases h1 : q = 1
  · rw [show (q == 1) = true by simpa using h1, cT]
    exact jF 1000 ⟨0, 0, -d, [5], [], gF.data, []⟩ (may_no (by omega) (by omega) (show ([5] : List UInt8).length ≤ 6000 by decide) (show ([] : List UInt8).length ≤ 6000 by decide) (show gF.data.length ≤ 6000 by decide) (no_buf (buf_len (by omega))))
  rw [show (q == 1) = false by simpa using h1, cF]
  by_cases h2 : q = 2
  · rw [show (q == 2) = true by simpa using h2, cT]
    exact jF 1000 bF2 (noF2 1000)
  rw [show (q == 2) = false by simpa using h2, cF]
  by_cases h3 : q = 3
  · rw [show (q == 3) = true by simpa using h3, cT]
    exact jF 1000 ⟨0, 0, 64 + d, [5], [], gF.data, []⟩ (may_no (by omega) (by omega) (show ([5] : List UInt8).length ≤ 6000 by decide) (show ([] : List UInt8).length ≤ 6000 by decide) (show gF.data.length ≤ 6000 by decide) (no_buf (buf_rows (by omega))))
  rw [show (q == 3) = false by simpa using h3, cF]
  by_cases h4 : q = 4
  · rw [show (q == 4) = true by simpa using h4, cT]
    refine (cond_pos' rfl _ _).trans ?_
    exact jF 1000 bF4 (noF4 1000)
  rw [show (q == 4) = false by simpa using h4, cF]
  by_cases h5 : q = 5
  · rw [show (q == 5) = true by simpa using h5, cT]
    exact jF 1000 bF5 (noF5 1000)
  rw [show (q == 5) = false by simpa using h5, cF]
  by_cases h6 : q = 6
  · rw [show (q == 6) = true by simpa using h6, cT]
    exact jF 1000 bF6 (noF6 1000)
  rw [show (q == 6) = false by simpa using h6, cF]
  by_cases h7 : q = 7
  · rw [show (q == 7) = true by simpa using h7, cT]
    exact jF 1000 ⟨2 + d, 0, 3, [5], [], gF.data, []⟩ (may_no (by omega) (by omega) (show ([5] : List UInt8).length ≤ 6000 by decide) (show ([] : List UInt8).length ≤ 6000 by decide) (show gF.data.length ≤ 6000 by decide) (no_lay (show 2 + d ≠ 0 by omega) (show 2 + d ≠ 1 by omega) (show 2 + d ≠ 2 by omega)))
  rw [show (q == 7) = false by simpa using h7, cF]
  by_cases h8 : q = 8
  · rw [show (q == 8) = true by simpa using h8, cT]
    rw [BEq.rfl, dT (show 0 ≤ 4096 + d by omega), dT (show (4096 + d) * 1 ≤ 140737488355328 by omega)]
    simp only [Bool.and_self, cT]
    exact jF 1000 ⟨0, 0, 3, [5], [], strOfBytes (List.replicate (4096 + d).toNat (0 : Int)), []⟩ (may_no (by omega) (by omega) (show ([5] : List UInt8).length ≤ 6000 by decide) (show ([] : List UInt8).length ≤ 6000 by decide) (by rw [zl_len]; omega) (no_buf (buf_data (by rw [zl_len]; omega))))
  rw [show (q == 8) = false by simpa using h8, cF]
  by_cases h9 : q = 9
  · rw [show (q == 9) = true by simpa using h9, cT]
    rw [BEq.rfl, dT (show 0 ≤ 4096 + d by omega), dT (show (4096 + d) * 1 ≤ 140737488355328 by omega)]
    simp only [Bool.and_self, cT]
    exact jF 1000 ⟨0, 0, 3, strOfBytes (List.replicate (4096 + d).toNat (0 : Int)), [], gF.data, []⟩ (may_no (by omega) (by omega) (by rw [zl_len]; omega) (show ([] : List UInt8).length ≤ 6000 by decide) (show gF.data.length ≤ 6000 by decide) (no_buf (buf_valid (by rw [zl_len]; omega))))
  rw [show (q == 9) = false by simpa using h9, cF]
  by_cases h10 : q = 10
  · rw [show (q == 10) = true by simpa using h10, cT]
    refine (cond_pos' rfl _ _).trans ?_
    refine (cond_pos' rfl _ _).trans ?_
    exact jF 1000 bF10 (noF10 1000)
  rw [show (q == 10) = false by simpa using h10, cF]
  by_cases h11 : q = 11
  · rw [show (q == 11) = true by simpa using h11, cT]
    refine (cond_pos' rfl _ _).trans ?_
    refine (bS' rfl _).trans ?_
    exact jF 1000 bF11 (noF11 1000)
  rw [show (q == 11) = false by simpa using h11, cF]
  by_cases h12 : q = 12
  · rw [show (q == 12) = true by simpa using h12, cT]
    refine (cond_pos' rfl _ _).trans ?_
    exact jF 1000 bF12 (noF12 1000)
  rw [show (q == 12) = false by simpa using h12, cF]
  by_cases h13 : q = 13
  · rw [show (q == 13) = true by simpa using h13, cT]
    exact jF 1000 bF13 (noF13 1000)
  rw [show (q == 13) = false by simpa using h13, cF]
  by_cases h14 : q = 14
  · rw [show (q == 14) = true by simpa using h14, cT]
    refine (cond_pos' rfl _ _).trans ?_
    exact jF 1000 bF14 (noF14 1000)
  rw [show (q == 14) = false by simpa using h14, cF]
  by_cases h15 : q = 15
  · rw [show (q == 15) = true by simpa using h15, cT]
    refine (cond_pos' rfl _ _).trans ?_
    refine (cond_pos' rfl _ _).trans ?_
    refine (cond_pos' rfl _ _).trans ?_
    refine (cond_pos' rfl _ _).trans ?_
    refine (cond_pos' rfl _ _).trans ?_
    exact jF 1000 bF15 (noF15 1000)
  rw [show (q == 15) = false by simpa using h15, cF]
  by_cases h16 : q = 16
  · rw [show (q == 16) = true by simpa using h16, cT]
    exact jF 1000 bF16 (noF16 1000)
  rw [show (q == 16) = false by simpa using h16, cF]
  refine (cond_pos' rfl _ _).trans ?_
  exact jF 1000 bF17 (noF17 1000)
end Go.Proofs.YtjkokaockhecnaaP
