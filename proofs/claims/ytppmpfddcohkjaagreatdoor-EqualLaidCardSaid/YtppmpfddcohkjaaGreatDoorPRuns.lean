/- By runs: the same values; no condition but the sizes that a machine has. -/
import Derived.Test.YtppmpfddcohkjaaGreatDoorPDict
namespace Go.Proofs.YtppmpfddcohkjaaGreatDoorP
open Go Go.Proofs.YtppmpfddcohkjaaGreatDoorA

/-- Does a run end with a row? -/
def rEnd (xs : List (List UInt8)) (i : Nat) : Bool := decide (i + 1 = xs.length) || xs.getD (i + 1) [] != xs.getD i []
def endsR (xs : List (List UInt8)) (i : Nat) : List Nat := (List.range i).filter (rEnd xs)
theorem endsR_succ (xs : List (List UInt8)) (i : Nat) : endsR xs (i + 1) = if rEnd xs i then endsR xs i ++ [i] else endsR xs i := by
  unfold endsR
  rw [List.range_succ, List.filter_append]
  cases h : rEnd xs i with
  | true => simp [h]
  | false => simp [h]
def onceR (xs : List (List UInt8)) (i : Nat) : List (List UInt8) := (endsR xs i).map fun j => xs.getD j []
def dataR (xs : List (List UInt8)) (i : Nat) : List UInt8 := ((endsR xs i).map fun j => w4 ((j + 1 : Nat) : Int)).flatten
theorem endsR_len (xs : List (List UInt8)) (i : Nat) : (endsR xs i).length ≤ i := by
  have := List.length_filter_le (rEnd xs) (List.range i)
  rw [List.length_range] at this
  exact this
theorem dataR_len (xs : List (List UInt8)) (i : Nat) : (dataR xs i).length = 4 * (endsR xs i).length := by
  unfold dataR
  rw [flatten_len, sum_const (fun j => (w4 ((j + 1 : Nat) : Int)).length) 4 _ (fun _ _ => rfl)]
theorem endsR_mem {xs : List (List UInt8)} {i j : Nat} (h : j ∈ endsR xs i) : j < i ∧ rEnd xs j = true := by
  unfold endsR at h
  obtain ⟨h1, h2⟩ := List.mem_filter.1 h
  exact ⟨List.mem_range.1 h1, h2⟩
theorem dataR_num (xs : List (List UInt8)) {m : Nat} (hx : xs.length ≤ 64) (hm : m < (endsR xs xs.length).length) : okN (dataR xs xs.length) m = true ∧ eN (dataR xs xs.length) m = (((endsR xs xs.length)[m] + 1 : Nat) : Int) := by
  have := At.flat (fun j => w4 ((j + 1 : Nat) : Int)) (endsR xs xs.length) m hm
  rw [sum_const (fun j => (w4 ((j + 1 : Nat) : Int)).length) 4 _ (fun _ _ => rfl), List.length_take, Nat.min_eq_left (by omega)] at this
  have hlt := (endsR_mem (List.getElem_mem hm)).1
  have := numA_at this (may_iff.2 ⟨by omega, by omega⟩)
  unfold okN eN dataR
  rw [this]
  exact ⟨rfl, rfl⟩
theorem endsR_inc (xs : List (List UInt8)) : ∀ i, ∀ m (h : m + 1 < (endsR xs i).length), (endsR xs i)[m] < (endsR xs i)[m + 1]
  | 0, m, h => by simp [endsR] at h
  | i + 1, m, h => by
    have ih := endsR_inc xs i
    cases hr : rEnd xs i with
    | false =>
      have e : endsR xs (i + 1) = endsR xs i := by rw [endsR_succ, hr]; rfl
      simp only [e] at h ⊢
      exact ih m h
    | true =>
      have e : endsR xs (i + 1) = endsR xs i ++ [i] := by rw [endsR_succ, hr]; rfl
      simp only [e] at h ⊢
      rw [List.length_append, List.length_singleton] at h
      by_cases hm : m + 1 < (endsR xs i).length
      · rw [List.getElem_append_left (by omega), List.getElem_append_left hm]; exact ih m hm
      · rw [List.getElem_append_left (by omega), List.getElem_append_right (by omega)]
        have := (endsR_mem (List.getElem_mem (show m < (endsR xs i).length by omega))).1
        simpa using this
/-- The first run's end from a row on: the same value stands there. -/
theorem headRun (xs : List (List UInt8)) : ∀ (d r : Nat), r + (d + 1) = xs.length → ∃ q tail, (List.range' r (d + 1)).filter (rEnd xs) = q :: tail ∧ r ≤ q ∧ q < xs.length ∧ xs.getD q [] = xs.getD r []
  | 0, r, h => by
    refine ⟨r, [], ?_, Nat.le_refl _, by omega, rfl⟩
    have : rEnd xs r = true := by unfold rEnd; rw [dT (by omega)]; rfl
    simp [this]
  | d + 1, r, h => by
    rw [List.range'_succ]
    cases hr : rEnd xs r with
    | true => exact ⟨r, _, by rw [List.filter_cons_of_pos hr], Nat.le_refl _, by omega, rfl⟩
    | false =>
      obtain ⟨q, tail, e, h1, h2, h3⟩ := headRun xs d (r + 1) (by omega)
      refine ⟨q, tail, by rw [List.filter_cons_of_neg (by rw [hr]; simp), e], by omega, h2, ?_⟩
      unfold rEnd at hr
      simp only [Bool.or_eq_false_iff] at hr
      rw [h3]
      simpa using hr.2
theorem runOf (xs : List (List UInt8)) {r : Nat} (h : r < xs.length) : ∃ m, ∃ hm : m < (endsR xs xs.length).length, (∀ j (hj : j < m), (endsR xs xs.length)[j]'(by omega) < r) ∧ r ≤ (endsR xs xs.length)[m] ∧ xs.getD (endsR xs xs.length)[m] [] = xs.getD r [] := by
  obtain ⟨d, hd⟩ : ∃ d, r + (d + 1) = xs.length := ⟨xs.length - r - 1, by omega⟩
  obtain ⟨q, tail, e, h1, h2, h3⟩ := headRun xs d r hd
  have hsplit : endsR xs xs.length = endsR xs r ++ (q :: tail) := by
    unfold endsR
    rw [← e, ← List.filter_append, ← hd, List.range_eq_range', List.range_eq_range']
    congr 1
    have := List.range'_append (s := 0) (m := r) (n := d + 1) (step := 1)
    simpa using this.symm
  refine ⟨(endsR xs r).length, by rw [hsplit]; simp, fun j hj => ?_, ?_, ?_⟩
  · have : (endsR xs xs.length)[j]'(by rw [hsplit]; simp; omega) = (endsR xs r)[j] := by
      simp only [hsplit]
      rw [List.getElem_append_left hj]
    rw [this]
    exact (endsR_mem (List.getElem_mem hj)).1
  · simp only [hsplit]
    rw [List.getElem_append_right (Nat.le_refl _)]
    simpa using h1
  · simp only [hsplit]
    rw [List.getElem_append_right (Nat.le_refl _)]
    simpa using h3
theorem runFrom_is {s : List UInt8} {row m : Nat} (hm : (row : Int) < eN s m) (hl : ∀ j, j < m → eN s j ≤ (row : Int)) : ∀ f i, i ≤ m → m < i + f → runFrom s row f i = m
  | 0, i, h1, h2 => by omega
  | f + 1, i, h1, h2 => by
    unfold runFrom
    by_cases e : i = m
    · subst e
      rw [if_neg (by omega)]
    · rw [if_pos (hl i (by omega))]
      exact runFrom_is hm hl f (i + 1) (by omega) (by omega)
theorem RunsOf_step {k n : Nat} (hk : 100 ≤ k) (a : Int) {i : Nat} (t : List Nod) (b : Int) {xs : List (List UInt8)} (hi : i < xs.length) (hx : xs.length ≤ 64) :
    quiverref11_RunsOf.l0 idb k (n + 1) a (i : Int) t b (dataR xs i) xs (onceR xs i) = quiverref11_RunsOf.l0 idb k n a ((i + 1 : Nat) : Int) t b (dataR xs (i + 1)) xs (onceR xs (i + 1)) := by
  have hg : xs.getD i [] = xs[i] := by simp [List.getD, hi]
  have hel := endsR_len xs i
  have hdl := dataR_len xs i
  have hol : (onceR xs i).length = (endsR xs i).length := by unfold onceR; rw [List.length_map]
  have e1 : rEnd xs i = true → dataR xs (i + 1) = dataR xs i ++ w4 ((i + 1 : Nat) : Int) ∧ onceR xs (i + 1) = onceR xs i ++ [xs[i]] := by
    intro h
    unfold dataR onceR
    rw [endsR_succ, h, if_pos rfl, List.map_append, List.map_append, List.flatten_append, ← hg]
    simp
  have e2 : rEnd xs i = false → dataR xs (i + 1) = dataR xs i ∧ onceR xs (i + 1) = onceR xs i := by
    intro h
    unfold dataR onceR
    rw [endsR_succ, h, if_neg (by simp)]
    exact ⟨rfl, rfl⟩
  have put : rEnd xs i = true → ((xs[i]?).bind fun e_5 =>
          bif decide (((onceR xs i).length + (([e_5] : List (List UInt8))).length) * 16 ≤ 140737488355328) then
            (quiverref1_Low.f idb k ((i + 1 : Nat) : Int) 4).bind fun r_6 =>
              bif decide ((dataR xs i).length + (r_6).length ≤ 9223372036854775807) then
                quiverref11_RunsOf.l0 idb k n a ((i + 1 : Nat) : Int) t b (dataR xs i ++ r_6) xs (onceR xs i ++ ([e_5] : List (List UInt8)))
              else none
          else none) = quiverref11_RunsOf.l0 idb k n a ((i + 1 : Nat) : Int) t b (dataR xs (i + 1)) xs (onceR xs (i + 1)) := by
    intro h
    obtain ⟨d1, d2⟩ := e1 h
    rw [List.getElem?_eq_getElem hi, bS, dT (by simp only [List.length_cons, List.length_nil]; omega), cT, Low4 (by omega), bS, dT (by rw [w4_length]; omega), cT, d1, d2]
  rw [quiverref11_RunsOf.l0_eq, dT (by omega), cT, wi64 ((xs.length : Int) - 1) (by omega), wsucc (by omega)]
  by_cases hlast : i + 1 = xs.length
  · rw [show ((i : Int) == (xs.length : Int) - 1) = true by rw [beq_iff_eq]; omega, Bool.not_true, cF]
    rw [dT (show (0 : Int) ≤ (i : Int) by omega)]
    simp only [Bool.and_self, cT, Int.toNat_natCast]
    exact put (by unfold rEnd; rw [dT hlast]; rfl)
  · have hi1 : i + 1 < xs.length := by omega
    have hg1 : xs.getD (i + 1) [] = xs[i + 1] := by simp [List.getD, hi1]
    have hre : rEnd xs i = (xs[i + 1] != xs[i]) := by unfold rEnd; rw [dF hlast, hg, hg1]; rfl
    rw [show ((i : Int) == (xs.length : Int) - 1) = false by rw [beq_eq_false_iff_ne]; omega, Bool.not_false, cT, dT (show (0 : Int) ≤ ((i + 1 : Nat) : Int) by omega), dT (show ((i + 1 : Nat) : Int) < (xs.length : Int) by omega)]
    simp only [Bool.and_self, cT, Int.toNat_natCast]
    rw [List.getElem?_eq_getElem hi1, bS]
    cases hr : rEnd xs i with
    | true =>
      have hp := put hr
      rw [dT (show (0 : Int) ≤ (i : Int) by omega)]
      simp only [Bool.and_self, cT]
      rw [List.getElem?_eq_getElem hi] at hp ⊢
      rw [bS] at hp
      simp only [bS]
      rw [← hre, hr, cT]
      exact hp
    | false =>
      obtain ⟨d1, d2⟩ := e2 hr
      rw [dT (show (0 : Int) ≤ (i : Int) by omega)]
      simp only [Bool.and_self, cT]
      rw [List.getElem?_eq_getElem hi, bS, ← hre, hr, cF, d1, d2]
theorem RunsOf_ok {t : List Nod} {a : Int} {x : Arr} (hx : RoomyA x) {k : Nat} (hk : 240000 ≤ k) : ∃ D e, quiverref11_RunsOf.f idb k t a x = some (D, e) ∧ RoomyA D ∧
    (if arrB t a x = true ∧ inner (knd t a.toNat) = false then e = 0 ∧ arrB t a D = true ∧ valsA t a D = valsA t a x else e = 1700) := by
  obtain ⟨k, rfl⟩ : ∃ q, k = q + 1 := ⟨k - 1, by omega⟩
  rw [quiverref11_RunsOf.f_eq, leafValues_ok hx (by omega), bS]
  cases hb : arrB t a x with
  | false => exact ⟨_, _, rfl, noA_roomy, by rw [if_neg (by simp)]⟩
  | true =>
    rw [if_pos rfl]
    simp only
    cases hin : inner (knd t a.toNat) with
    | true => exact ⟨_, _, rfl, noA_roomy, by rw [if_neg (by simp)]⟩
    | false =>
      have hlx := arrB_len hb
      have hxl : (valsA t a x).length = x.length.toNat := valsA_length
      have hmem : ∀ v ∈ onceR (valsA t a x) (valsA t a x).length, v ∈ (valsV t a x).map Vl.txt := by
        intro v hv
        unfold onceR at hv
        obtain ⟨j, hj, rfl⟩ := List.mem_map.1 hv
        have hlt := (endsR_mem hj).1
        rw [valsV_txt hb, show (valsA t a x).getD j [] = (valsA t a x)[j] by simp [List.getD, hlt]]
        exact List.getElem_mem hlt
      have hel := endsR_len (valsA t a x) (valsA t a x).length
      have hol : (onceR (valsA t a x) (valsA t a x).length).length = (endsR (valsA t a x) (valsA t a x).length).length := by unfold onceR; rw [List.length_map]
      obtain ⟨K, hK, hK1, hK2, _, hK4⟩ := leafKid (valsV_of hb) hin hmem (by omega)
      simp only [Bool.not_false, Bool.not_true, cF]
      generalize valsA t a x = xs at *
      have loop : quiverref11_RunsOf.l0 idb k k a 0 t (xs.length : Int) [] xs [] = some (.mk 2 0 (xs.length : Int) [] [] (dataR xs xs.length) [K], 0) := by
        refine loop_up (F := fun n i => quiverref11_RunsOf.l0 idb k n a (i : Int) t (xs.length : Int) (dataR xs i) xs (onceR xs i)) (N := xs.length) ?_ ?_ k 0 (by omega) (by omega)
        · intro n i hi
          exact RunsOf_step (by omega) a t _ hi (by omega)
        · intro n
          rw [quiverref11_RunsOf.l0_eq, dF (by omega), cF, hK k (by omega), bS]
          simp only
          rw [Arr.eta]
      refine ⟨_, _, loop, ?_⟩
      have hdl := dataR_len xs xs.length
      obtain ⟨hn, _⟩ := arrB_buf hb
      have hmay : arrB t a (.mk 2 0 (xs.length : Int) [] [] (dataR xs xs.length) [K]) = true := by
        rw [arrB_eq, hn, if_neg (show ¬ (Arr.mk 2 0 (xs.length : Int) [] [] (dataR xs xs.length) [K]).layout = 0 by show ¬ (2 : Int) = 0; decide), hin]
        have hB : bufB (nul t a.toNat) (.mk 2 0 (xs.length : Int) [] [] (dataR xs xs.length) [K]) = true := by
          rw [bufB_iff]
          exact ⟨Int.le_refl _, by show (0 : Int) ≤ (xs.length : Int); omega, by show (0 : Int) + (xs.length : Int) ≤ 64; omega, by show 0 ≤ 4096; omega, by show 0 ≤ 4096; omega, by show (dataR xs xs.length).length ≤ 4096; omega, .inl rfl⟩
        rw [hB]
        have hd : runB (.mk 2 0 (xs.length : Int) [] [] (dataR xs xs.length) [K]) K = true := by
          unfold runB
          rw [hK2.length, hol, Int.toNat_natCast]
          show (([] : List UInt8) == [] && ((((dataR xs xs.length).length : Int) == 4 * ((endsR xs xs.length).length : Int)) && ((List.range (endsR xs xs.length).length).all (fun i => okN (dataR xs xs.length) i && decide (lastE (dataR xs xs.length) i < eN (dataR xs xs.length) i)) && decide (0 + (xs.length : Int) ≤ lastE (dataR xs xs.length) (endsR xs xs.length).length)))) = true
          rw [show (((dataR xs xs.length).length : Int) == 4 * ((endsR xs xs.length).length : Int)) = true by rw [beq_iff_eq]; omega]
          simp only [BEq.rfl, Bool.true_and, Bool.and_eq_true]
          constructor
          · rw [range_all_iff]
            intro m hm
            obtain ⟨q1, q2⟩ := dataR_num xs (by omega) hm
            rw [q1, q2, Bool.true_and]
            cases m with
            | zero =>
              show decide ((0 : Int) < _) = true
              rw [dT (by omega)]
            | succ m =>
              have q3 := (dataR_num xs (by omega) (show m < (endsR xs xs.length).length by omega)).2
              have := endsR_inc xs xs.length m hm
              rw [lastE_succ, q3, dT (by omega)]
          · by_cases h0 : xs.length = 0
            · have : (endsR xs xs.length).length = 0 := by omega
              rw [this, h0]
              unfold lastE
              rw [if_pos rfl]; rfl
            · obtain ⟨m, hm, h1, h2, h3⟩ := runOf xs (r := xs.length - 1) (by omega)
              have hlt := (endsR_mem (List.getElem_mem hm)).1
              have hlastm : m + 1 = (endsR xs xs.length).length := by
                by_cases e : m + 1 < (endsR xs xs.length).length
                · have := endsR_inc xs xs.length m e
                  have := (endsR_mem (List.getElem_mem e)).1
                  omega
                · omega
              rw [← hlastm, lastE_succ, (dataR_num xs (by omega) hm).2, dT (by omega)]
        show (true && (true && (!false && (([] : List UInt8) == [] && (decide (([K] : List Arr).length = 1) && (K.layout == 0 && (arrB t a K && (if (2 : Int) = 1 then _ else if (2 : Int) = 2 then runB (.mk 2 0 (xs.length : Int) [] [] (dataR xs xs.length) [K]) K else false)))))))) = true
        rw [hK2.layout, hK1, if_neg (by decide), if_pos rfl, hd]
        rfl
      refine ⟨arrB_roomy hmay, ?_⟩
      rw [if_pos (by simp)]
      refine ⟨rfl, hmay, ?_⟩
      unfold valsA
      show (List.range ((xs.length : Int)).toNat).map (fun i => valA 20 t a (.mk 2 0 (xs.length : Int) [] [] (dataR xs xs.length) [K]) ((0 : Int).toNat + i)) = xs
      rw [Int.toNat_natCast]
      refine List.ext_getElem (by simp) fun r h1 h2 => ?_
      rw [List.getElem_map, List.getElem_range, show (0 : Int).toNat + r = r by simp, valA_succ]
      show (if thereB [] r = false then _ else if (2 : Int) = 1 then _ else if (2 : Int) = 2 then valA 19 t a K (K.offset.toNat + runIx (dataR xs xs.length) r) else _) = _
      obtain ⟨m, hm, e1, e2, e3⟩ := runOf xs h2
      have hix : runIx (dataR xs xs.length) r = m := by
        unfold runIx
        refine runFrom_is (by rw [(dataR_num xs (by omega) hm).2]; omega) (fun j hj => ?_) 65 0 (by omega) (by omega)
        have := e1 j hj
        rw [(dataR_num xs (by omega) (show j < (endsR xs xs.length).length by omega)).2]
        omega
      rw [if_neg (by simp [thereB]), if_neg (by decide), if_pos rfl, hix, hK2.offset, show (0 : Int).toNat + m = m by simp, hK4 19 (by omega) m (by omega)]
      unfold onceR
      rw [List.getElem_map, e3]
      simp [List.getD, h2]

end Go.Proofs.YtppmpfddcohkjaaGreatDoorP
