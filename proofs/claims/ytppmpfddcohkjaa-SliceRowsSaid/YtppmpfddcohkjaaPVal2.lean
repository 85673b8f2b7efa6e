/- Arrays: the value of a row, the values of all, by the document; no condition but the sizes that a machine has. -/
import Derived.Test.YtppmpfddcohkjaaPVal
namespace Go.Proofs.YtppmpfddcohkjaaP
open Go Go.Proofs.YtppmpfddcohkjaaA

theorem small_pow {t : List Nod} (ht : t.length ≤ 8) (a : Int) : 40 * 66 ^ (t.length - a.toNat) ≤ 40 * 66 ^ 8 := Nat.mul_le_mul_left _ (Nat.pow_le_pow_right (by omega) (by omega))
theorem ends_ok {k : Nat} (hk : 12 ≤ k) {x : Arr} {row : Nat} (hr : row ≤ 64) (h0 : okN x.ends row = true) (h1 : okN x.ends (row + 1) = true) : quiverref7_ends.f idb k x (row : Int) = some (eN x.ends row, eN x.ends (row + 1)) := by
  obtain ⟨k, rfl⟩ : ∃ m, k = m + 1 := ⟨k - 1, by omega⟩
  have f0 := okN_fits h0
  have f1 := okN_fits h1
  have n0 := num_slice (k := k) (by omega) (s := x.ends) (i := 4 * row) (w := 4) (by omega) (by omega)
  have n1 := num_slice (k := k) (by omega) (s := x.ends) (i := 4 * (row + 1)) (w := 4) (by omega) (by omega)
  rw [okN_num h0] at n0
  rw [okN_num h1] at n1
  rw [quiverref7_ends.f_eq, wi64 (4 * (row : Int)) (by omega), wi64 (4 * (row : Int) + 4) (by omega), wi64 (4 * (row : Int) + 8) (by omega)]
  have t1 : (4 * (row : Int)).toNat = 4 * row := by omega
  have t2 : (4 * (row : Int) + 4).toNat = 4 * row + 4 := by omega
  have t3 : (4 * (row : Int) + 8).toNat = 4 * (row + 1) + 4 := by omega
  have t4 : 4 * row + 4 = 4 * (row + 1) := by omega
  rw [dT (show (0 : Int) ≤ 4 * (row : Int) + 4 by omega), dT (show (0 : Int) ≤ 4 * (row : Int) by omega), dT (show (0 : Int) ≤ 4 * (row : Int) + 8 by omega), dT (show 4 * (row : Int) + 4 ≤ ((x.ends.length : Nat) : Int) by omega), t1, t2, t3,
    dT (show 4 * (row : Int) ≤ ((4 * row + 4 : Nat) : Int) by omega), dT (show 4 * (row : Int) + 8 ≤ ((x.ends.length : Nat) : Int) by omega), dT (show 4 * (row : Int) + 4 ≤ ((4 * (row + 1) + 4 : Nat) : Int) by omega)]
  simp only [Bool.and_self, cT]
  rw [n0, bS, t4, n1, bS]
theorem append_room {α : Type} {l : List α} {y : α} (h : l.length ≤ 1000) : decide ((l.length + [y].length) * 16 ≤ 140737488355328) = true := dT (by simp only [List.length_cons, List.length_nil]; omega)
theorem wadd {i j : Int} (h : -1000000 ≤ i ∧ i ≤ 1000000) (h' : -1000000 ≤ j ∧ j ≤ 1000000) : IntKind.i64.wrap (i + j) = i + j := wi64 _ (by omega)

theorem ref_value_ok : ∀ (f : Nat) (t : List Nod) (a : Int) (x : Arr) (row : Nat), need t a x < f → arrB t a x = true → x.offset ≤ (row : Int) → row < rowsN x → ∀ k, 700 + 5 * f ≤ k →
    quiverref7_value.f idb k t a x ((row : Int) - x.offset) = some (valA f t a x row)
  | 0, _, _, _, _, h, _, _, _, _, _ => absurd h (Nat.not_lt_zero _)
  | f + 1, t, a, x, row, hf, hb, h0, hr, k, hk => by
    obtain ⟨k, rfl⟩ : ∃ m, k = m + 1 := ⟨k - 1, by omega⟩
    obtain ⟨hn, hB⟩ := arrB_buf hb
    obtain ⟨hm, i, hi, rfl⟩ := nodeB_may hn
    have hrw := hB.rowsEq
    have hrl := hB.rowsN_le
    have htl := mayT_length hm
    have ho := hB.off
    have hd := hB.data
    have big : 40 * 66 ^ 8 ≤ 9223372036854770000 := by decide
    rw [quiverref7_value.f_eq, wi64 _ (by omega), show (row : Int) - x.offset + x.offset = (row : Int) by omega, there_ok (by omega) (hB.inV (by omega)) (by omega), bS]
    unfold valA
    cases hth : thereB x.valid row with
    | false => rw [Bool.not_false, cT, if_pos rfl]
    | true =>
      rw [Bool.not_true, cF, if_neg (by simp)]
      by_cases hl1 : x.layout = 1
      · obtain ⟨hO, hd'⟩ := arrB_one hb (by omega)
        rcases hd' with ⟨_, hd'⟩ | ⟨e, _⟩
        · obtain ⟨d1, d2, d3, d4⟩ := dictB_at hd' h0 hr hth
          have hkl := arrB_len hO.may
          have ff := okN_fits d1
          have hr0 := rd_get (show 0 < x.kids.length by rw [hO.kids]; omega)
          rw [kidA_get (by rw [hO.kids]; omega), show ((0 : Nat) : Int) = 0 from rfl] at hr0
          have n0 := num_slice (k := k) (by omega) (s := x.data) (i := 4 * row) (w := 4) (by omega) (by omega)
          rw [okN_num d1] at n0
          have t1 : (4 * (row : Int)).toNat = 4 * row := by omega
          have t2 : (4 * (row : Int) + 4).toNat = 4 * row + 4 := by omega
          rw [if_pos hl1, show (x.layout == 1) = true by simpa using hl1, cT, hr0, bS, wi64 (4 * (row : Int)) (by omega), wi64 (4 * (row : Int) + 4) (by omega), dT (show (0 : Int) ≤ 4 * (row : Int) + 4 by omega), dT (show (0 : Int) ≤ 4 * (row : Int) by omega),
            dT (show 4 * (row : Int) + 4 ≤ ((x.data.length : Nat) : Int) by omega), t1, t2, dT (show 4 * (row : Int) ≤ ((4 * row + 4 : Nat) : Int) by omega)]
          simp only [Bool.and_self, cT]
          rw [n0, bS]
          have ih := ref_value_ok f t (i : Int) (kidA x 0) ((kidA x 0).offset + eN x.data row).toNat (by unfold need at hf ⊢; rw [if_neg (by omega)] at hf; rw [if_pos hO.flat]; omega) hO.may (by omega) (by unfold rowsN; omega) k (by omega)
          rw [show ((((kidA x 0).offset + eN x.data row).toNat : Nat) : Int) - (kidA x 0).offset = eN x.data row by omega] at ih
          rw [ih, bS]
        · omega
      · rw [if_neg hl1, show (x.layout == 1) = false by simpa using hl1, cF]
        by_cases hl2 : x.layout = 2
        · obtain ⟨hO, hd'⟩ := arrB_one hb (by omega)
          rcases hd' with ⟨e, _⟩ | ⟨_, hd'⟩
          · omega
          · have hkl := arrB_len hO.may
            obtain ⟨m, m1, m2, m3, m4, m5⟩ := runB_at hd' (by omega) (row := row) (by omega)
            rw [if_pos hl2, show (x.layout == 2) = true by simpa using hl2, cT]
            have key : ∀ (g j n : Nat), j ≤ m → m < j + g → g < n → quiverref7_value.l0 idb k n (i : Int) (row : Int) (j : Int) t x.layout x.offset x.length x.valid x.ends x.data x.kids = quiverref7_value.f idb k t (i : Int) (kidA x 0) ((runFrom x.data row g j : Nat) : Int) := by
              intro g
              induction g with
              | zero => intro j n h1 h2; omega
              | succ g ih =>
                intro j n h1 h2 h3
                obtain ⟨n, rfl⟩ : ∃ q, n = q + 1 := ⟨n - 1, by omega⟩
                have ff := okN_fits (m3 j h1)
                have n0 := num_slice (k := k) (by omega) (s := x.data) (i := 4 * j) (w := 4) (by omega) (by omega)
                rw [okN_num (m3 j h1)] at n0
                have t1 : (4 * (j : Int)).toNat = 4 * j := by omega
                have t2 : (4 * (j : Int) + 4).toNat = 4 * j + 4 := by omega
                rw [quiverref7_value.l0_eq, wi64 (4 * (j : Int)) (by omega), wi64 (4 * (j : Int) + 4) (by omega), dT (show (0 : Int) ≤ 4 * (j : Int) + 4 by omega), dT (show (0 : Int) ≤ 4 * (j : Int) by omega),
                  dT (show 4 * (j : Int) + 4 ≤ ((x.data.length : Nat) : Int) by omega), t1, t2, dT (show 4 * (j : Int) ≤ ((4 * j + 4 : Nat) : Int) by omega)]
                simp only [Bool.and_self, cT]
                rw [n0, bS]
                unfold runFrom
                by_cases hle : eN x.data j ≤ (row : Int)
                · rw [dT hle, cT, if_pos hle, wsucc (by omega)]
                  have hne : j ≠ m := fun e => by subst e; omega
                  exact ih (j + 1) n (by omega) (by omega) (by omega)
                · have hr0 := rd_get (show 0 < x.kids.length by rw [hO.kids]; omega)
                  rw [kidA_get (by rw [hO.kids]; omega), show ((0 : Nat) : Int) = 0 from rfl] at hr0
                  rw [dF hle, cF, if_neg hle, hr0, bS]
                  cases quiverref7_value.f idb k t (i : Int) (kidA x 0) (j : Int) <;> rfl
            have hx := runFrom_spec m2 65 0 (by omega) (by omega)
            have hix : runIx x.data row ≤ m := hx.1
            rw [show (0 : Int) = ((0 : Nat) : Int) from rfl, key 65 0 k (by omega) (by omega) (by omega)]
            have ih := ref_value_ok f t (i : Int) (kidA x 0) ((kidA x 0).offset.toNat + runIx x.data row) (by unfold need at hf ⊢; rw [if_neg (by omega)] at hf; rw [if_pos hO.flat]; omega) hO.may (by omega) (by unfold rowsN; omega) k (by omega)
            rw [show ((((kidA x 0).offset.toNat + runIx x.data row : Nat)) : Int) - (kidA x 0).offset = ((runIx x.data row : Nat) : Int) by omega] at ih
            exact ih
        · have hl0 : x.layout = 0 := by
            by_cases e : x.layout = 0
            · exact e
            · obtain ⟨_, hd⟩ := arrB_one hb e
              rcases hd with ⟨e, _⟩ | ⟨e, _⟩
              · exact absurd e hl1
              · exact absurd e hl2
          have hP := arrB_plain hb hl0
          have hkd := hP.kind
          unfold kindM at hkd
          have hkl8 := kidsU_length t (i : Int) t.length
          rw [if_neg hl2, show (x.layout == 2) = false by simpa using hl2, cF, ref_Kids_ok (by omega), bS, rd_get hi, bS, knd_get hi]
          unfold kidsT
          rw [if_pos hn, Int.toNat_natCast]
          simp only
          by_cases k0 : knd t i = 0
          · rw [if_pos k0] at hkd ⊢
            simp only [Bool.and_eq_true, decide_eq_true_eq] at hkd
            have n0 := num_slice (k := k) (by omega) (s := x.data) (i := 8 * row) (w := 8) (by omega) (by omega)
            have t1 : (8 * (row : Int)).toNat = 8 * row := by omega
            have t2 : (8 * (row : Int) + 8).toNat = 8 * row + 8 := by omega
            rw [show (knd t i == 0) = true by simpa using k0, cT, wi64 (8 * (row : Int)) (by omega), wi64 (8 * (row : Int) + 8) (by omega), dT (show (0 : Int) ≤ 8 * (row : Int) + 8 by omega), dT (show (0 : Int) ≤ 8 * (row : Int) by omega),
              dT (show 8 * (row : Int) + 8 ≤ ((x.data.length : Nat) : Int) by omega), t1, t2, dT (show 8 * (row : Int) ≤ ((8 * row + 8 : Nat) : Int) by omega)]
            simp only [Bool.and_self, cT]
            have hw : -9223372036854775808 ≤ numOf ((x.data.take (8 * row + 8)).drop (8 * row)) ∧ numOf ((x.data.take (8 * row + 8)).drop (8 * row)) ≤ 9223372036854775807 := by
              unfold numOf; rw [IntKind.wrap_i64]; omega
            rw [n0, bS, Int_ok (by omega) hw.1 hw.2, bS]
          · rw [if_neg k0] at hkd ⊢
            rw [show (knd t i == 0) = false by simpa using k0, cF]
            by_cases k1 : knd t i = 1
            · rw [if_pos k1] at hkd ⊢
              simp only [Bool.and_eq_true, decide_eq_true_eq] at hkd
              have hbb : row / 8 < x.data.length := by
                have := hkd.2
                rw [← hrw] at this
                unfold bitB at this
                omega
              rw [show (knd t i == 1) = true by simpa using k1, cT, Bit_ok (by omega) hbb (by omega), bS, Bool_ok (by omega), bS]
            · rw [if_neg k1] at hkd ⊢
              rw [show (knd t i == 1) = false by simpa using k1, cF]
              by_cases k2 : knd t i = 2
              · rw [if_pos k2] at hkd ⊢
                have he := endsB_at hkd hr
                rw [show (knd t i == 2) = true by simpa using k2, cT, ends_ok (by omega) (by omega) he.1 he.2.1, bS]
                simp only
                rw [dT (show 0 ≤ eN x.ends (row + 1) by omega), dT (show eN x.ends (row + 1) ≤ ((x.data.length : Nat) : Int) by omega), dT (show 0 ≤ eN x.ends row by omega), dT (show eN x.ends row ≤ (((eN x.ends (row + 1)).toNat : Nat) : Int) by omega)]
                simp only [Bool.and_self, cT]
                rw [Bytes_ok (by omega) (by rw [List.length_drop, List.length_take]; omega), bS]
              · rw [if_neg k2] at hkd ⊢
                rw [show (knd t i == 2) = false by simpa using k2, cF]
                by_cases k3 : knd t i = 3
                · rw [if_pos k3] at hkd ⊢
                  simp only [Bool.and_eq_true] at hkd
                  have he := endsB_at hkd.2 hr
                  have h1 : (kidsL t (i : Int)).length = 1 := by
                    have := (((mayT_iff t).1 hm).2.2 i hi).1
                    unfold kidsB at this
                    rw [k3] at this
                    simpa using this
                  have hk0 : 0 < x.kids.length := by rw [hP.kids]; omega
                  have hmk := hP.may 0 hk0
                  have hkl := arrB_len hmk
                  obtain ⟨q, q1, q2, q3⟩ := ksT_gt hm (i := i) (j := 0) (by omega)
                  have hnk := need_kid hm (x := x) (kidA x 0) (i := i) (j := 0) (by omega)
                  rw [show (knd t i == 3) = true by simpa using k3, cT, ends_ok (by omega) (by omega) he.1 he.2.1, bS]
                  simp only
                  have hr0 := rd_get hk0
                  rw [kidA_get hk0, show ((0 : Nat) : Int) = 0 from rfl] at hr0
                  have hks0 := ksT_get (t := t) (a := (i : Int)) (j := 0) (by omega)
                  generalize hfr : (eN x.ends row).toNat = fr
                  have efr : eN x.ends row = (fr : Int) := by omega
                  generalize hcn : (eN x.ends (row + 1)).toNat - fr = cn
                  have ecn : eN x.ends (row + 1) = ((fr + cn : Nat) : Int) := by omega
                  rw [efr, ecn]
                  -- each of the list's values
                  have each : ∀ j, fr ≤ j → j < fr + cn → quiverref7_value.f idb k t (ksT t (i : Int) 0) (kidA x 0) (j : Int) = some (valA f t (ksT t (i : Int) 0) (kidA x 0) ((kidA x 0).offset.toNat + j)) := by
                    intro j hj1 hj2
                    have ih := ref_value_ok f t (ksT t (i : Int) 0) (kidA x 0) ((kidA x 0).offset.toNat + j) (by omega) hmk (by omega) (by unfold rowsN; omega) k (by omega)
                    rw [show ((((kidA x 0).offset.toNat + j : Nat)) : Int) - (kidA x 0).offset = (j : Int) by omega] at ih
                    exact ih
                  have hlen : ∀ n', n' ≤ cn → ((List.range' fr n').map fun j => valA f t (ksT t (i : Int) 0) (kidA x 0) ((kidA x 0).offset.toNat + j)).flatten.length ≤ n' * (40 * 66 ^ 8) := by
                    intro n' hn'
                    have := flat_len (B := 40 * 66 ^ 8) (List.range' fr n') (fun j => valA f t (ksT t (i : Int) 0) (kidA x 0) ((kidA x 0).offset.toNat + j)) (fun j hj => by
                      rw [List.mem_range'_1] at hj
                      exact Nat.le_trans (valA_len f t (ksT t (i : Int) 0) (kidA x 0) ((kidA x 0).offset.toNat + j) (by omega) hmk (by omega) (by unfold rowsN; omega)) (small_pow (by omega) _))
                    rw [List.length_range'] at this
                    exact this
                  have key := loop_up (F := fun n j => quiverref7_value.l3 idb k n ((fr + cn : Nat) : Int) ((fr + j : Nat) : Int) t x.layout x.offset x.length x.valid x.ends x.data x.kids (kidsL t (i : Int)) ((List.range' fr j).map fun j => valA f t (ksT t (i : Int) 0) (kidA x 0) ((kidA x 0).offset.toNat + j)))
                    (N := cn) (r := some (listT ((List.range' fr cn).map fun j => valA f t (ksT t (i : Int) 0) (kidA x 0) ((kidA x 0).offset.toNat + j)))) ?_ ?_ k 0 (by omega) (by omega)
                  · exact key
                  · intro n j hj
                    rw [quiverref7_value.l3_eq, dT (by omega), cT]
                    have e1 : (decide ((0 : Nat) ≤ 0) && decide ((0 : Int) < ((kidsL t (i : Int)).length : Int))) = true := by rw [h1]; decide
                    rw [e1, cT, hks0, bS, hr0, bS, each (fr + j) (by omega) (by omega), bS, append_room (by simp; omega), cT, wsucc (by omega), List.range'_concat, List.map_append, Nat.one_mul]
                    rfl
                  · intro n
                    have := hlen cn (Nat.le_refl _)
                    rw [quiverref7_value.l3_eq, dF (by omega), cF, List_ok (by simp; omega) (by omega) (by simp; omega), bS]
                · rw [if_neg k3] at hkd ⊢
                  rw [show (knd t i == 3) = false by simpa using k3, cF]
                  simp only [Bool.and_eq_true, Bool.not_eq_true', List.any_eq_false, decide_eq_true_eq] at hkd
                  have each : ∀ j, j < (kidsL t (i : Int)).length → quiverref7_value.f idb k t (ksT t (i : Int) j) (kidA x j) (row : Int) = some (valA f t (ksT t (i : Int) j) (kidA x j) ((kidA x j).offset.toNat + row)) ∧
                      (valA f t (ksT t (i : Int) j) (kidA x j) ((kidA x j).offset.toNat + row)).length ≤ 40 * 66 ^ 8 := by
                    intro j hj
                    have hj' : j < x.kids.length := by rw [hP.kids]; exact hj
                    have hmk := hP.may j hj'
                    have hkl := arrB_len hmk
                    have hnk := need_kid hm (x := x) (kidA x j) hj
                    have hlong := hkd.2.2 _ (kidA_mem hj')
                    have ih := ref_value_ok f t (ksT t (i : Int) j) (kidA x j) ((kidA x j).offset.toNat + row) (by omega) hmk (by omega) (by unfold rowsN at hr ⊢; omega) k (by omega)
                    rw [show ((((kidA x j).offset.toNat + row : Nat)) : Int) - (kidA x j).offset = (row : Int) by omega] at ih
                    exact ⟨ih, Nat.le_trans (valA_len f t (ksT t (i : Int) j) (kidA x j) ((kidA x j).offset.toNat + row) (by omega) hmk (by omega) (by unfold rowsN at hr ⊢; omega)) (small_pow (by omega) _)⟩
                  have hlen : ((List.range (kidsL t (i : Int)).length).map fun j => valA f t (ksT t (i : Int) j) (kidA x j) ((kidA x j).offset.toNat + row)).flatten.length ≤ (kidsL t (i : Int)).length * (40 * 66 ^ 8) := by
                    have := flat_len (B := 40 * 66 ^ 8) (List.range (kidsL t (i : Int)).length) (fun j => valA f t (ksT t (i : Int) j) (kidA x j) ((kidA x j).offset.toNat + row)) (fun j hj => (each j (List.mem_range.1 hj)).2)
                    rw [List.length_range] at this
                    exact this
                  have hkk : (kidsL t (i : Int)).length ≤ 8 := by unfold kidsL; omega
                  have h88 : (kidsL t (i : Int)).length * (40 * 66 ^ 8) ≤ 8 * (40 * 66 ^ 8) := Nat.mul_le_mul_right _ hkk
                  have key := loop_up (F := fun n j => quiverref7_value.l5 idb k n (row : Int) (j : Int) t x.layout x.offset x.length x.valid x.ends x.data x.kids (kidsL t (i : Int)) ((List.range j).map fun j => valA f t (ksT t (i : Int) j) (kidA x j) ((kidA x j).offset.toNat + row)))
                    (N := (kidsL t (i : Int)).length) (r := some (structT ((List.range (kidsL t (i : Int)).length).map fun j => valA f t (ksT t (i : Int) j) (kidA x j) ((kidA x j).offset.toNat + row)))) ?_ ?_ k 0 (by omega) (by omega)
                  · exact key
                  · intro n j hj
                    have hj' : j < x.kids.length := by rw [hP.kids]; exact hj
                    have e1 : (decide ((0 : Int) ≤ (j : Int)) && decide ((j : Int) < ((kidsL t (i : Int)).length : Int))) = true := by rw [dT (by omega), dT (by omega)]; rfl
                    rw [quiverref7_value.l5_eq, dT (by omega), cT]
                    rw [show (decide ((0 : Int) ≤ (j : Int))) = true from dT (by omega)]
                    simp only [Bool.and_self, cT, Int.toNat_natCast]
                    rw [ksT_get hj, bS, rd_get hj', bS, kidA_get hj', (each j hj).1, bS, append_room (by simp; omega), cT, wsucc (by omega), List.range_succ, List.map_append]
                    rfl
                  · intro n
                    rw [quiverref7_value.l5_eq, dF (by omega), cF, Struct_ok (by simp; omega) (by omega) (by simp; omega), bS]
/-- The values of all rows. -/
def valsA (t : List Nod) (a : Int) (x : Arr) : List (List UInt8) := (List.range x.length.toNat).map fun i => valA 20 t a x (x.offset.toNat + i)
def valsT (t : List Nod) (a : Int) (x : Arr) : List (List UInt8) × Int := if arrB t a x then (valsA t a x, 0) else ([], 900)
theorem ref_Values_ok {t : List Nod} {a : Int} {x : Arr} (hx : RoomyA x) {k : Nat} (hk : 1001 ≤ k) : quiverref7_Values.f idb k t a x = some (valsT t a x) := by
  obtain ⟨k, rfl⟩ : ∃ m, k = m + 1 := ⟨k - 1, by omega⟩
  rw [quiverref7_Values.f_eq, ref_May_ok' hx (by omega), bS]
  unfold valsT
  cases hb : arrB t a x with
  | false => rfl
  | true =>
    rw [Bool.not_true, cF, if_pos rfl]
    have hl := arrB_len hb
    obtain ⟨hn, _⟩ := arrB_buf hb
    have hnd := need_lt (x := x) hn
    have key := loop_up (F := fun n i => quiverref7_Values.l0 idb k n a (i : Int) t x.layout x.offset x.length x.valid x.ends x.data x.kids ((List.range i).map fun i => valA 20 t a x (x.offset.toNat + i))) (N := x.length.toNat) (r := some (valsA t a x, 0)) ?_ ?_ k 0 (by omega) (by omega)
    · exact key
    · intro n i hi
      have hv := ref_value_ok 20 t a x (x.offset.toNat + i) (by omega) hb (by omega) (by unfold rowsN; omega) k (by omega)
      rw [show (((x.offset.toNat + i : Nat)) : Int) - x.offset = (i : Int) by omega] at hv
      rw [quiverref7_Values.l0_eq, dT (by omega), cT, Arr.eta, hv, bS, append_room (by simp; omega), cT, wsucc (by omega), List.range_succ, List.map_append]
      rfl
    · intro n
      rw [quiverref7_Values.l0_eq, dF (by omega), cF]
      rfl

end Go.Proofs.YtppmpfddcohkjaaP
