/- Chunks: how a column is cut in pages, and joined; no condition but the sizes that a machine has. The laws ChunkBack, ChunkAny; no condition but the sizes that a machine has. -/
import Derived.Test.YtjkokaockhecnaaGreatDoorPPgB
namespace Go.Proofs.YtjkokaockhecnaaGreatDoorP
open Go Go.Proofs.YtjkokaockhecnaaGreatDoorA

/-! ### Where a column is cut -/
/-- How many levels there are ahead of a record too many. -/
def cutL (K : Nat) : Nat → List Int → Nat
  | _, [] => 0
  | seen, x :: xs => if x = 0 then (if seen = K then 0 else cutL K (seen + 1) xs + 1) else cutL K seen xs + 1
theorem cutL_le (K : Nat) : ∀ (seen : Nat) (xs : List Int), cutL K seen xs ≤ xs.length
  | _, [] => Nat.le_refl _
  | seen, x :: xs => by
    have h1 := cutL_le K (seen + 1) xs
    have h2 := cutL_le K seen xs
    simp only [cutL, List.length_cons]
    split
    · split <;> omega
    · omega
theorem cnt_cons (one x : Int) (xs : List Int) : cnt one (x :: xs) = cnt one xs + (if x = one then 1 else 0) := by
  unfold cnt
  rw [List.countP_cons]
  by_cases h : x = one <;> simp [h]
theorem cutL_cnt (K : Nat) : ∀ (seen : Nat) (xs : List Int), seen ≤ K → (cutL K seen xs = xs.length ∧ seen + cnt 0 xs ≤ K) ∨ (∃ ys, xs.drop (cutL K seen xs) = 0 :: ys ∧ seen + cnt 0 (xs.take (cutL K seen xs)) = K)
  | seen, [], h => .inl ⟨rfl, by unfold cnt; simpa using h⟩
  | seen, x :: xs, h => by
    simp only [cutL]
    by_cases hx : x = 0
    · subst hx
      rw [if_pos rfl]
      by_cases hs : seen = K
      · rw [if_pos hs]
        exact .inr ⟨xs, rfl, by unfold cnt; simpa using hs⟩
      · rw [if_neg hs]
        rcases cutL_cnt K (seen + 1) xs (by omega) with ⟨h1, h2⟩ | ⟨ys, h1, h2⟩
        · exact .inl ⟨by rw [h1, List.length_cons], by rw [cnt_cons, if_pos rfl]; omega⟩
        · exact .inr ⟨ys, by rw [List.drop_succ_cons]; exact h1, by rw [List.take_succ_cons, cnt_cons, if_pos rfl]; omega⟩
    · rw [if_neg hx]
      rcases cutL_cnt K seen xs h with ⟨h1, h2⟩ | ⟨ys, h1, h2⟩
      · exact .inl ⟨by rw [h1, List.length_cons], by rw [cnt_cons, if_neg hx]; omega⟩
      · exact .inr ⟨ys, by rw [List.drop_succ_cons]; exact h1, by rw [List.take_succ_cons, cnt_cons, if_neg hx]; omega⟩
theorem cut_l0 {k : Nat} {R D : List Int} {V : List (List UInt8)} {K : Nat} {one : Int} (hRD : R.length = D.length) (hl : R.length ≤ 4096) : ∀ (d i n seen : Nat), i + d = R.length → d + 1 ≤ n → seen ≤ i →
    chunk_cut.l0 idb k n R D V (K : Int) one (seen : Int) ((cnt one (D.take i) : Nat) : Int) (R.length : Int) (i : Int) = some (((i + cutL K seen (R.drop i) : Nat) : Int), ((cnt one (D.take (i + cutL K seen (R.drop i))) : Nat) : Int))
  | 0, i, n, seen, hi, hn, hs => by
    obtain ⟨n, rfl⟩ : ∃ q, n = q + 1 := ⟨n - 1, by omega⟩
    rw [chunk_cut.l0_eq, dF (by omega), cF, List.drop_eq_nil_of_le (by omega)]
    simp only [cutL, Nat.add_zero]
    have : i = R.length := by omega
    rw [this]
  | d + 1, i, n, seen, hi, hn, hs => by
    obtain ⟨n, rfl⟩ : ∃ q, n = q + 1 := ⟨n - 1, by omega⟩
    have hiR : i < R.length := by omega
    have hiD : i < D.length := by omega
    have hc := cnt_le one (D.take i)
    rw [List.length_take] at hc
    have hj : ∀ s : Nat, s ≤ i + 1 → chunk_cut.j9 idb k n R D V (K : Int) one (s : Int) ((cnt one (D.take i) : Nat) : Int) (i : Int) (R.length : Int) = chunk_cut.l0 idb k n R D V (K : Int) one (s : Int) ((cnt one (D.take (i + 1)) : Nat) : Int) (R.length : Int) ((i + 1 : Nat) : Int) := by
      intro s _
      rw [chunk_cut.j9_eq, rd_get hiD, bS, cnt_succ one hiD, wsucc (i := i) (by omega)]
      cases (D[i] == one)
      · rw [cF, if_neg (by simp)]; rfl
      · rw [cT, wsucc (by omega), if_pos rfl]
    rw [chunk_cut.l0_eq, dT (by omega), cT, rd_get hiR, bS, List.drop_eq_getElem_cons hiR]
    simp only [cutL]
    by_cases hx : R[i] = 0
    · rw [hx, show ((0 : Int) == 0) = true from rfl, cT, if_pos rfl]
      by_cases hsK : seen = K
      · rw [hsK, show (((K : Int)) == (K : Int)) = true by simp, cT, if_pos rfl, Nat.add_zero]
      · rw [show (((seen : Int)) == (K : Int)) = false by rw [beq_eq_false_iff_ne]; omega, cF, if_neg hsK, wsucc (by omega), idb_eq]
        rw [hj (seen + 1) (by omega), cut_l0 hRD hl d (i + 1) n (seen + 1) (by omega) (by omega) (by omega), show i + 1 + cutL K (seen + 1) (R.drop (i + 1)) = i + (cutL K (seen + 1) (R.drop (i + 1)) + 1) by omega]
    · rw [show (R[i] == 0) = false by rw [beq_eq_false_iff_ne]; exact hx, cF, if_neg hx, idb_eq]
      rw [hj seen (by omega), cut_l0 hRD hl d (i + 1) n seen (by omega) (by omega) (by omega), show i + 1 + cutL K seen (R.drop (i + 1)) = i + (cutL K seen (R.drop (i + 1)) + 1) by omega]
theorem cut_ok {k : Nat} {c : Col} {K : Nat} {one : Int} (hk : 5000 ≤ k) (hRD : c.reps.length = c.defs.length) (hl : c.reps.length ≤ 4096) :
    chunk_cut.f idb k c (K : Int) one = some (((cutL K 0 c.reps : Nat) : Int), ((cnt one (c.defs.take (cutL K 0 c.reps)) : Nat) : Int)) := by
  obtain ⟨k, rfl⟩ : ∃ q, k = q + 1 := ⟨k - 1, by omega⟩
  have := cut_l0 (k := k) (R := c.reps) (D := c.defs) (V := c.values) (K := K) (one := one) hRD hl c.reps.length 0 k 0 (by omega) (by omega) (by omega)
  simp only [List.take_zero, List.drop_zero, Nat.zero_add] at this
  rw [chunk_cut.f_eq]
  exact this

/-! ### The pages of a column -/
structure Pieces (t : List Nod) (a : Int) (K : Nat) (c : Col) (cs : List Col) : Prop where
  may : ∀ d ∈ cs, colMay t a d = true
  hd : ∀ d ∈ cs, ∃ xs, d.reps = 0 :: xs
  reps : (cs.map Col.reps).flatten = c.reps
  defs : (cs.map Col.defs).flatten = c.defs
  values : (cs.map Col.values).flatten = c.values
  num : cs.length = (cnt 0 c.reps + K - 1) / K
theorem inL_take {most : Int} {xs : List Int} (h : inL most xs = true) (n : Nat) : inL most (xs.take n) = true ∧ inL most (xs.drop n) = true := by
  unfold inL at *
  rw [List.all_eq_true] at *
  simp only [List.all_eq_true]
  exact ⟨fun x hx => h x (List.mem_of_mem_take hx), fun x hx => h x (List.mem_of_mem_drop hx)⟩
theorem cnt_split (one : Int) (xs : List Int) (n : Nat) : cnt one xs = cnt one (xs.take n) + cnt one (xs.drop n) := by
  unfold cnt
  rw [← List.countP_append, List.take_append_drop]
theorem colMay_mk {t : List Nod} {a : Int} {c : Col} (h : colMay t a c = true) {R D : List Int} {V : List (List UInt8)} (h1 : R.length = D.length) (h2 : R.length ≤ 4096) (h3 : inL (levT t a).1 R = true) (h4 : inL (levT t a).2.1 D = true) (h5 : ∀ v ∈ V, v ∈ c.values) (h6 : V.length = cnt (levT t a).2.1 D) :
    colMay t a ⟨R, D, V⟩ = true := by
  have h0 := h
  unfold colMay at h ⊢
  simp only [Bool.and_eq_true, decide_eq_true_eq, List.all_eq_true] at h ⊢
  obtain ⟨p, q1, q2, q3, q4, q5, q6⟩ := h
  exact ⟨p, h1, h2, h3, h4, fun v hv => q5 v (h5 v hv), h6⟩
/-- The first page, and the rest. -/
theorem colMay_cut {t : List Nod} {a : Int} {c : Col} (h : colMay t a c = true) {n : Nat} (hn : n ≤ c.reps.length) :
    colMay t a ⟨c.reps.take n, c.defs.take n, c.values.take (cnt (levT t a).2.1 (c.defs.take n))⟩ = true ∧ colMay t a ⟨c.reps.drop n, c.defs.drop n, c.values.drop (cnt (levT t a).2.1 (c.defs.take n))⟩ = true ∧ cnt (levT t a).2.1 (c.defs.take n) ≤ c.values.length := by
  obtain ⟨i, _, _, _, _, _, h1, h2, h3, h4, h5, h6⟩ := colMay_parts h
  have hs := cnt_split (levT t a).2.1 c.defs n
  refine ⟨colMay_mk h ?_ ?_ (inL_take h3 n).1 (inL_take h4 n).1 (fun v hv => List.mem_of_mem_take hv) ?_, colMay_mk h ?_ ?_ (inL_take h3 n).2 (inL_take h4 n).2 (fun v hv => List.mem_of_mem_drop hv) ?_, by omega⟩
  · simp only [List.length_take]; omega
  · simp only [List.length_take]; omega
  · simp only [List.length_take]; omega
  · simp only [List.length_drop]; omega
  · simp only [List.length_drop]; omega
  · simp only [List.length_drop]; omega
theorem Split_l0_ok {k : Nat} {t : List Nod} {a : Int} {K : Nat} (hK : 1 ≤ K) (hk : 1300000 ≤ k) : ∀ (m : Nat) (c : Col) (out : List (List UInt8)) (n : Nat), c.reps.length ≤ m → colMay t a c = true → (∀ x xs, c.reps = x :: xs → x = 0) → m + 1 ≤ n → out.length + m ≤ 100000 →
    ∃ cs, Pieces t a K c cs ∧ chunk_Split.l0 idb k n a (K : Int) (levT t a).2.1 t c.reps c.defs c.values out = some (out ++ cs.map (fun d => (putP t a d).1), 0) := by
  intro m
  induction m with
  | zero =>
    intro c out n hm hc _ hn _
    obtain ⟨n, rfl⟩ : ∃ q, n = q + 1 := ⟨n - 1, by omega⟩
    obtain ⟨i, _, _, _, _, _, h1, h2, h3, h4, h5, h6⟩ := colMay_parts hc
    have e1 : c.reps = [] := List.length_eq_zero_iff.1 (by omega)
    have e2 : c.defs = [] := List.length_eq_zero_iff.1 (by omega)
    have e3 : c.values = [] := List.length_eq_zero_iff.1 (by rw [h6, e2]; rfl)
    refine ⟨[], ⟨fun d h => by simp at h, fun d h => by simp at h, by rw [e1]; rfl, by rw [e2]; rfl, by rw [e3]; rfl, by rw [e1]; simp only [List.length_nil, cnt, List.countP_nil]; exact (Nat.div_eq_of_lt (by omega)).symm⟩, ?_⟩
    rw [chunk_Split.l0_eq, e1, dF (by simp), cF, List.map_nil, List.append_nil]
  | succ m ih =>
    intro c out n hm hc h0 hn ho
    obtain ⟨n, rfl⟩ : ∃ q, n = q + 1 := ⟨n - 1, by omega⟩
    obtain ⟨i, _, _, _, _, _, h1, h2, h3, h4, h5, h6⟩ := colMay_parts hc
    cases hR : c.reps with
    | nil =>
      have e2 : c.defs = [] := List.length_eq_zero_iff.1 (by rw [← h1, hR]; rfl)
      have e3 : c.values = [] := List.length_eq_zero_iff.1 (by rw [h6, e2]; rfl)
      refine ⟨[], ⟨fun d h => by simp at h, fun d h => by simp at h, by rw [hR]; rfl, by rw [e2]; rfl, by rw [e3]; rfl, by rw [hR]; simp only [List.length_nil, cnt, List.countP_nil]; exact (Nat.div_eq_of_lt (by omega)).symm⟩, ?_⟩
      rw [chunk_Split.l0_eq, dF (by simp), cF, List.map_nil, List.append_nil]
    | cons x xs =>
      have hx := h0 x xs hR
      subst hx
      rw [← hR]
      have hpos : 1 ≤ cutL K 0 c.reps := by
        rw [hR]
        simp only [cutL, if_true]
        rw [if_neg (by omega)]; omega
      have hle := cutL_le K 0 c.reps
      have hcc := cutL_cnt K 0 c.reps (by omega)
      have hlen : 0 < c.reps.length := by rw [hR]; simp
      obtain ⟨m1, m2, m3⟩ := colMay_cut hc hle
      have hcut := cut_ok (k := k) (c := ⟨c.reps, c.defs, c.values⟩) (K := K) (one := (levT t a).2.1) (by omega) h1 h2
      simp only at hcut
      generalize cutL K 0 c.reps = N at hpos hle hcc m1 m2 m3 hcut
      generalize cnt (levT t a).2.1 (c.defs.take N) = M at m1 m2 m3 hcut
      have hvl := colMay_vlen hc
      have h0' : ∀ x xs, (⟨c.reps.drop N, c.defs.drop N, c.values.drop M⟩ : Col).reps = x :: xs → x = 0 := by
        intro x xs e
        simp only at e
        rcases hcc with ⟨q1, _⟩ | ⟨ys, q1, _⟩
        · rw [List.drop_eq_nil_of_le (by omega)] at e; cases e
        · rw [q1] at e; cases e; rfl
      obtain ⟨cs, hp, hrun⟩ := ih ⟨c.reps.drop N, c.defs.drop N, c.values.drop M⟩ (out ++ [(putP t a ⟨c.reps.take N, c.defs.take N, c.values.take M⟩).1]) n (by simp only [List.length_drop]; omega) m2 h0' (by omega) (by simp only [List.length_append, List.length_cons, List.length_nil]; omega)
      refine ⟨⟨c.reps.take N, c.defs.take N, c.values.take M⟩ :: cs, ⟨?_, ?_, ?_, ?_, ?_, ?_⟩, ?_⟩
      · intro d hd
        rcases List.mem_cons.mp hd with rfl | hd
        · exact m1
        · exact hp.may d hd
      · intro d hd
        rcases List.mem_cons.mp hd with rfl | hd
        · refine ⟨xs.take (N - 1), ?_⟩
          obtain ⟨N', rfl⟩ : ∃ q, N = q + 1 := ⟨N - 1, by omega⟩
          simp only [hR, List.take_succ_cons, Nat.add_sub_cancel]
        · exact hp.hd d hd
      · rw [List.map_cons, List.flatten_cons, hp.reps]; exact List.take_append_drop _ _
      · rw [List.map_cons, List.flatten_cons, hp.defs]; exact List.take_append_drop _ _
      · rw [List.map_cons, List.flatten_cons, hp.values]; exact List.take_append_drop _ _
      · rw [List.length_cons, hp.num]
        simp only
        have hs := cnt_split 0 c.reps N
        have h1c : 1 ≤ cnt 0 c.reps := by rw [hR, cnt_cons, if_pos rfl]; omega
        rcases hcc with ⟨q1, q2⟩ | ⟨ys, q1, q2⟩
        · rw [List.drop_eq_nil_of_le (by omega)]
          rw [show cnt 0 ([] : List Int) = 0 from rfl, Nat.div_eq_of_lt (show 0 + K - 1 < K by omega)]
          have : (cnt 0 c.reps + K - 1) / K = 1 := by
            rw [Nat.div_eq_iff (by omega)]
            omega
          rw [this]
        · rw [hs, show cnt 0 (c.reps.take N) + cnt 0 (c.reps.drop N) + K - 1 = cnt 0 (c.reps.drop N) + K - 1 + K by omega, Nat.add_div_right _ (by omega)]
      · rw [chunk_Split.l0_eq, dT (by omega), cT, hcut, bS]
        simp only
        rw [dT (show (0 : Int) ≤ ((N : Nat) : Int) by omega), dT (show ((N : Nat) : Int) ≤ ((c.reps.length : Nat) : Int) by omega), dT (show ((N : Nat) : Int) ≤ ((c.defs.length : Nat) : Int) by omega), dT (show (0 : Int) ≤ ((M : Nat) : Int) by omega), dT (show ((M : Nat) : Int) ≤ ((c.values.length : Nat) : Int) by omega)]
        simp only [Bool.and_self, cT, Int.toNat_natCast, List.drop_zero, List.take_length]
        rw [page_Put_ok (by simp only [List.length_take]; omega) (by simp only [List.length_take]; omega) (by simp only [List.length_take]; omega), bS, dT (by simp only [List.length_cons, List.length_nil]; omega), cT]
        refine hrun.trans ?_
        rw [List.map_cons, List.append_assoc]; rfl
/-- What splitting answers. -/
theorem Split_ok {k : Nat} {t : List Nod} {a : Int} {c : Col} {K : Nat} (hk : 1400000 + c.values.length ≤ k) (hl : c.values.length ≤ 20000000000000) (hd : c.reps.length ≤ 20000000000000 ∧ c.defs.length ≤ 20000000000000) (hK : 1 ≤ K) :
    (chunk_Split.f idb k t a c (K : Int) = some ([], 2300) ∧ ¬ (colMay t a c = true ∧ ∀ x xs, c.reps = x :: xs → x = 0)) ∨
    (colMay t a c = true ∧ (∀ x xs, c.reps = x :: xs → x = 0) ∧ ∃ cs, Pieces t a K c cs ∧ chunk_Split.f idb k t a c (K : Int) = some (cs.map (fun d => (putP t a d).1), 0)) := by
  obtain ⟨k, rfl⟩ : ∃ q, k = q + 1 := ⟨k - 1, by omega⟩
  rw [chunk_Split.f_eq, page_May_ok (by omega) hl hd, bS]
  cases hm : colMay t a c with
  | false => exact .inl ⟨rfl, fun h => by cases h.1⟩
  | true =>
    obtain ⟨i, _, _, _, _, _, h1, h2, h3, h4, h5, h6⟩ := colMay_parts hm
    rw [Bool.not_true, Bool.not_false, cT, dF (show ¬ ((K : Int) < 1) by omega), Bool.not_false, cT]
    have key : (∀ x xs, c.reps = x :: xs → x = 0) → ∃ cs, Pieces t a K c cs ∧ ((types_Levels.f idb k t a).bind fun r => chunk_Split.l0 idb k k a (K : Int) r.2.1 t c.reps c.defs c.values []) = some (cs.map (fun d => (putP t a d).1), 0) := by
      intro h0
      obtain ⟨cs, hp, hrun⟩ := Split_l0_ok (k := k) (t := t) (a := a) hK (by omega) c.reps.length c [] k (Nat.le_refl _) hm h0 (by omega) (by simp; omega)
      refine ⟨cs, hp, ?_⟩
      rw [types_Levels_ok (by omega), bS]
      exact hrun
    cases hR : c.reps with
    | nil =>
      rw [hR] at key
      obtain ⟨cs, hp, hrun⟩ := key (fun x xs e => by cases e)
      refine .inr ⟨rfl, fun x xs e => (by cases e), cs, hp, ?_⟩
      rw [dF (by simp), cF]
      exact hrun
    | cons x xs =>
      rw [hR] at key
      rw [dT (by simp), cT, show rd (x :: xs) 0 = some x from rfl, bS]
      by_cases hx : x = 0
      · subst hx
        obtain ⟨cs, hp, hrun⟩ := key (fun x xs e => by cases e; rfl)
        refine .inr ⟨rfl, fun x xs e => (by cases e; rfl), cs, hp, ?_⟩
        rw [show ((0 : Int) != 0) = false from rfl, cF]
        exact hrun
      · rw [show (x != 0) = true by rw [bne_iff_ne]; exact hx, cT]
        exact .inl ⟨rfl, fun h => hx (h.2 x xs rfl)⟩

/-! ### Joining -/
theorem Join_l0_ok {k : Nat} {t : List Nod} {a : Int} (hk : 1700000 ≤ k) {is : Bool} {cs : List Col} (hm : ∀ d ∈ cs, colMay t a d = true) (hh : ∀ d ∈ cs, ∃ xs, d.reps = 0 :: xs) (hcs : cs.length ≤ 100000) (hl : ((cs.map Col.reps).flatten).length ≤ 4096) :
    ∀ (d i n : Nat), i + d = cs.length → d + 1 ≤ n →
    chunk_Join.l0 idb k n a is (cs.map fun d => (putP t a d).1) (cs.length : Int) (i : Int) t (((cs.take i).map Col.reps).flatten) (((cs.take i).map Col.defs).flatten) (((cs.take i).map Col.values).flatten) =
      some (if is then ((((cs.map Col.reps).flatten), ((cs.map Col.defs).flatten), ((cs.map Col.values).flatten)), 0) else (noCol, 2300)) := by
  intro d
  induction d with
  | zero =>
    intro i n hi hn
    obtain ⟨n, rfl⟩ : ∃ q, n = q + 1 := ⟨n - 1, by omega⟩
    rw [chunk_Join.l0_eq, dF (by omega), cF, List.take_of_length_le (by omega)]
    cases is <;> rfl
  | succ d ih =>
    intro i n hi hn
    obtain ⟨n, rfl⟩ : ∃ q, n = q + 1 := ⟨n - 1, by omega⟩
    have hic : i < cs.length := by omega
    have hmi := hm _ (List.getElem_mem hic)
    obtain ⟨xs, hx⟩ := hh _ (List.getElem_mem hic)
    obtain ⟨_, _, _, _, _, _, h1, h2, _⟩ := colMay_parts hmi
    have hvl := colMay_vlen hmi
    have e : cs.take (i + 1) = cs.take i ++ [cs[i]] := List.take_succ_eq_append_getElem hic
    have ihr := ih (i + 1) n (by omega) (by omega)
    have hsum : (((cs.take i).map Col.reps).flatten).length + cs[i].reps.length ≤ 4096 := by
      have h3 : (((cs.take (i + 1)).map Col.reps).flatten).length ≤ ((cs.map Col.reps).flatten).length := by
        conv => rhs; rw [← List.take_append_drop (i + 1) cs]
        rw [List.map_append, List.flatten_append, List.length_append]; omega
      rw [e, List.map_append, List.flatten_append, List.length_append] at h3
      simp only [List.map_cons, List.map_nil, List.flatten_cons, List.flatten_nil, List.append_nil] at h3
      omega
    have hdl : (((cs.take i).map Col.defs).flatten).length = (((cs.take i).map Col.reps).flatten).length ∧ (((cs.take i).map Col.values).flatten).length ≤ (((cs.take i).map Col.reps).flatten).length := by
      have : ∀ l : List Col, (∀ d ∈ l, colMay t a d = true) → ((l.map Col.defs).flatten).length = ((l.map Col.reps).flatten).length ∧ ((l.map Col.values).flatten).length ≤ ((l.map Col.reps).flatten).length := by
        intro l
        induction l with
        | nil => intro _; simp
        | cons x l ih2 =>
          intro h
          have h3 := ih2 fun d hd => h d (List.mem_cons_of_mem _ hd)
          obtain ⟨_, _, _, _, _, _, q1, _, _, _, _, q6⟩ := colMay_parts (h x List.mem_cons_self)
          have q7 := cnt_le (levT t a).2.1 x.defs
          simp only [List.map_cons, List.flatten_cons, List.length_append]
          omega
      exact this _ fun d hd => hm d (List.mem_of_mem_take hd)
    rw [e] at ihr
    simp only [List.map_append, List.flatten_append, List.map_cons, List.map_nil, List.flatten_cons, List.flatten_nil, List.append_nil] at ihr
    have hrd : rd (cs.map fun d => (putP t a d).1) (i : Int) = some (putP t a cs[i]).1 := by
      rw [rd_get (by rw [List.length_map]; exact hic), List.getElem_map]
    have hg : page_Get.f idb k t a (putP t a cs[i]).1 = some ((cs[i].reps, cs[i].defs, cs[i].values), 0) := Get_back (by omega) hmi
    rw [chunk_Join.l0_eq, dT (by omega), cT, hrd, bS, hg, bS]
    simp only
    rw [show ((0 : Int) != 0) = false from rfl, Bool.not_false, cT, show (((cs[i].reps.length : Nat) : Int) == 0) = false by rw [beq_eq_false_iff_ne, hx]; simp; omega, Bool.not_false, cT, show (decide (0 ≤ 0) && decide (0 < ((cs[i].reps.length : Nat) : Int))) = true by rw [hx]; simp, cT,
      show cs[i].reps[0]? = some 0 by rw [hx]; rfl, bS, show ((0 : Int) != 0) = false from rfl, Bool.not_false, cT, wi64 _ (by omega), dF (by omega), cF, dT (by omega), cT, dT (by omega), cT, dT (by omega), cT, wsucc (by omega)]
    exact ihr
theorem Join_ok {k : Nat} {t : List Nod} {a : Int} {K : Nat} {c : Col} {cs : List Col} (hk : 1800000 ≤ k) (hm : colMay t a c = true) (hp : Pieces t a K c cs) (hcs : cs.length ≤ 100000) : chunk_Join.f idb k t a (cs.map fun d => (putP t a d).1) = some (colOf c, 0) := by
  obtain ⟨k, rfl⟩ : ∃ q, k = q + 1 := ⟨k - 1, by omega⟩
  obtain ⟨i, rfl, _, _, hn, hin, h1, h2, _⟩ := colMay_parts hm
  have := Join_l0_ok (k := k) (t := t) (a := (i : Int)) (by omega) (is := true) hp.may hp.hd hcs (by rw [hp.reps]; exact h2) cs.length 0 k (by omega) (by omega)
  rw [chunk_Join.f_eq, Leaf_ok (by omega), bS, Int.toNat_natCast, hn, hin, Bool.not_false, Bool.and_self, List.length_map]
  rw [hp.reps, hp.defs, hp.values] at this
  exact this

end Go.Proofs.YtjkokaockhecnaaGreatDoorP

namespace Go.Proofs.YtjkokaockhecnaaGreatDoorP
open Go Go.Proofs.YtjkokaockhecnaaGreatDoorA

def one23 : List Nod := [Nod.mk 0 (-1) true]
def col23 : Col := Col.mk [0, 0, 0] [1, 0, 1] [[105, 53, 59], [105, 54, 59]]
theorem may23 : colMay one23 0 col23 = true := by
  have h : page_May.f idb 200000 one23 0 col23 = some true := by kernel_rfl
  rw [page_May_ok (by decide) (by decide) (by decide)] at h
  exact Option.some.inj h
theorem ints23 {k : Nat} (hk : 1 ≤ k) : quiverlaw23_ints.f idb k = some one23 := by
  obtain ⟨k, rfl⟩ : ∃ q, k = q + 1 := ⟨k - 1, by omega⟩
  rw [quiverlaw23_ints.f_eq]; rfl
theorem Split_none {k : Nat} {t : List Nod} {a : Int} {c : Col} {lim : Int} (hk : 1400000 + c.values.length ≤ k) (hl : c.values.length ≤ 20000000000000) (hd : c.reps.length ≤ 20000000000000 ∧ c.defs.length ≤ 20000000000000) (hlim : lim < 1) : chunk_Split.f idb k t a c lim = some ([], 2300) := by
  obtain ⟨k, rfl⟩ : ∃ q, k = q + 1 := ⟨k - 1, by omega⟩
  rw [chunk_Split.f_eq, page_May_ok (by omega) hl hd, bS]
  cases colMay t a c with
  | false => rfl
  | true => rw [Bool.not_true, Bool.not_false, cT, dT hlim]; rfl
theorem same_self {k : Nat} {c : Col} (hk : c.reps.length + c.defs.length + c.values.length + 5 ≤ k) (hl : c.reps.length ≤ 20000000000000 ∧ c.defs.length ≤ 20000000000000 ∧ c.values.length ≤ 20000000000000) : quiverlaw0_SameColumn.f idb k c c = some true := by
  rw [same_col hk hl]; simp
theorem leaf23 {k : Nat} (hk : 32 ≤ k) : types_Leaf.f idb k one23 0 = some true := by rw [Leaf_ok hk]; rfl
theorem awake23 {k : Nat} (hk : 2000000 ≤ k) : quiverlaw23_awake.f idb k = some true := by
  obtain ⟨k, rfl⟩ : ∃ q, k = q + 1 := ⟨k - 1, by omega⟩
  have e1 : ∃ cs, Pieces one23 0 2 col23 cs ∧ chunk_Split.f idb k one23 0 (Col.mk ([0, 0, 0] : List Int) ([1, 0, 1] : List Int) ([([105, 53, 59] : List UInt8), ([105, 54, 59] : List UInt8)] : List (List UInt8))) 2 = some (cs.map (fun d => (putP one23 0 d).1), 0) := by
    rcases Split_ok (k := k) (t := one23) (a := 0) (c := col23) (K := 2) (by show 1400000 + 2 ≤ k; omega) (by decide) (by decide) (by omega) with ⟨_, h⟩ | ⟨_, _, cs, hp, h⟩
    · exact absurd ⟨may23, fun x xs e => by cases e; rfl⟩ h
    · exact ⟨cs, hp, h⟩
  obtain ⟨cs, hp, e1⟩ := e1
  have hn : cs.length = 2 := by rw [hp.num]; rfl
  have e2 := Join_ok (k := k) (by omega) may23 hp (by omega)
  have e3 : chunk_Split.f idb k one23 0 (Col.mk ([0, 0, 0] : List Int) ([1, 0, 1] : List Int) ([([105, 53, 59] : List UInt8), ([105, 54, 59] : List UInt8)] : List (List UInt8))) 0 = some ([], 2300) :=
    Split_none (c := col23) (by show 1400000 + 2 ≤ k; omega) (by decide) (by decide) (by omega)
  have e4 : chunk_Join.f idb k one23 0 [[]] = some (noCol, 2300) := by
    obtain ⟨q, rfl⟩ : ∃ q, k = q + 2 := ⟨k - 2, by omega⟩
    rw [chunk_Join.f_eq, leaf23 (by omega), bS, chunk_Join.l0_eq, dT (by simp), cT, show rd ([[]] : List (List UInt8)) 0 = some [] from rfl, bS, Get_less (by omega) (by simp), bS]
    rfl
  have e5 : chunk_Join.f idb k one23 0 [] = some (([], [], []), 0) := by
    obtain ⟨q, rfl⟩ : ∃ q, k = q + 2 := ⟨k - 2, by omega⟩
    rw [chunk_Join.f_eq, leaf23 (by omega), bS, chunk_Join.l0_eq, dF (by simp), cF]
    rfl
  have hi := ints23 (show 1 ≤ k by omega)
  rw [quiverlaw23_awake.f_eq, hi, bS, e1, bS]
  simp only [hi, bS, e2, e3, e4, e5, Num_ok (show 1 ≤ k by omega)]
  rw [show ((((cs.map fun d => (putP one23 0 d).1).length : Nat) : Int) == 2) = true by rw [List.length_map, hn]; rfl, cT, show ((0 : Int) == 0) = true from rfl, cT,
    show quiverlaw0_SameColumn.f idb k (Col.mk ([0, 0, 0] : List Int) ([1, 0, 1] : List Int) ([([105, 53, 59] : List UInt8), ([105, 54, 59] : List UInt8)] : List (List UInt8))) (Col.mk (colOf col23).1 (colOf col23).2.1 (colOf col23).2.2) = some true from same_self (c := col23) (by show 3 + 3 + 2 + 5 ≤ k; omega) (by decide), bS]
  simp only [show ((2300 : Int) == 2300) = true from rfl, cT]
  rw [same_self (by show 0 + 0 + 0 + 5 ≤ k; omega) (by decide), bS]
  rfl
theorem mask_K (x : Int) (m : Nat) (hm : m ≤ 12) (q : Int) (hq : q = 2 ^ m - 1) : ∃ K : Nat, IntKind.i64.wrap (1 + bitsOp .and .i64 x q) = (K : Int) ∧ 1 ≤ K ∧ K ≤ 2 ^ m := by
  have := and_mask x m (by omega)
  rw [hq, this]
  have hp : (0 : Int) < 2 ^ m := Int.pow_pos (by omega)
  have h0 := Int.emod_nonneg x (show (2 ^ m : Int) ≠ 0 by omega)
  have h1 := Int.emod_lt_of_pos x hp
  have h2 : (2 ^ m : Int) ≤ 4096 := by
    have : (2 : Nat) ^ m ≤ 2 ^ 12 := Nat.pow_le_pow_right (by omega) hm
    have h3 : ((2 ^ m : Nat) : Int) ≤ ((2 ^ 12 : Nat) : Int) := by omega
    simpa using h3
  refine ⟨(1 + x % 2 ^ m).toNat, ?_, by omega, ?_⟩
  · rw [wi64 _ (by omega)]; omega
  · have : (((2 : Nat) ^ m : Nat) : Int) = 2 ^ m := by simp
    omega
theorem pure_ChunkAny (t : List Nod) (a : Int) (c : Col) (x y : Int) (hc : c.reps.length ≤ 20000000000000 ∧ c.defs.length ≤ 20000000000000 ∧ c.values.length ≤ 20000000000000) : ∃ k, quiverlaw23_ChunkAny.f idb k t a c x y = some true := by
  refine ⟨2000000 + c.reps.length + c.values.length + 1, ?_⟩
  obtain ⟨K, e, hK1, hK2⟩ := mask_K x 5 (by omega) 31 rfl
  obtain ⟨L, e', hL1, hL2⟩ := mask_K y 5 (by omega) 31 rfl
  rw [quiverlaw23_ChunkAny.f_eq, awake23 (by omega), bS, Bool.not_true, cF, e, e']
  have sp := fun (q : Nat) (hq : 1 ≤ q) => Split_ok (k := 2000000 + c.reps.length + c.values.length) (t := t) (a := a) (c := c) (K := q) (by omega) (by omega) (by omega) hq
  have h3 := sp 4096 (by omega)
  rw [show ((4096 : Nat) : Int) = 4096 from rfl] at h3
  rcases sp K hK1 with ⟨h, hno⟩ | ⟨hm, h0, cs, hp, h⟩
  · rcases sp L hL1 with ⟨h2, _⟩ | ⟨hm, h0, _⟩
    · rcases h3 with ⟨h3, _⟩ | ⟨hm, h0, _⟩
      · rw [h, bS, h2, bS, h3, bS]
        simp only [Num_ok (show 1 ≤ 2000000 + c.reps.length + c.values.length by omega), bS]
        rfl
      · exact absurd ⟨hm, h0⟩ hno
    · exact absurd ⟨hm, h0⟩ hno
  · rcases sp L hL1 with ⟨_, hno⟩ | ⟨_, _, cs2, hp2, h2⟩
    · exact absurd ⟨hm, h0⟩ hno
    · rcases h3 with ⟨_, hno⟩ | ⟨_, _, cs3, hp3, h3⟩
      · exact absurd ⟨hm, h0⟩ hno
      · obtain ⟨_, _, _, _, _, _, h1, hr, _⟩ := colMay_parts hm
        have hvl := colMay_vlen hm
        have hcl := cnt_le 0 c.reps
        have lenOk : ∀ {q : Nat} {cs : List Col}, Pieces t a q c cs → q ≤ 4096 → cs.length ≤ 100000 := by
          intro q cs hp hq
          rw [hp.num]
          have := Nat.div_le_self (cnt 0 c.reps + q - 1) q
          omega
        have hc' : Col.mk (colOf c).1 (colOf c).2.1 (colOf c).2.2 = c := by cases c; rfl
        rw [h, bS, h2, bS, h3, bS]
        simp only [Num_ok (show 1 ≤ 2000000 + c.reps.length + c.values.length by omega), bS, show ((0 : Int) != 0) = false from rfl, cF, show ((0 : Int) == 0) = true from rfl, cT,
          Join_ok (show 1800000 ≤ 2000000 + c.reps.length + c.values.length by omega) hm hp (lenOk hp (by omega)), Join_ok (show 1800000 ≤ 2000000 + c.reps.length + c.values.length by omega) hm hp2 (lenOk hp2 (by omega)),
          Join_ok (show 1800000 ≤ 2000000 + c.reps.length + c.values.length by omega) hm hp3 (lenOk hp3 (by omega)), hc', same_self (c := c) (k := 2000000 + c.reps.length + c.values.length) (by omega) (by omega)]
        rw [List.length_map, hp3.num]
        congr 1
        cases hR : c.reps with
        | nil => rfl
        | cons z zs =>
          have hz := h0 z zs hR
          subst hz
          have h1c : 1 ≤ cnt 0 ((0 : Int) :: zs) := by rw [cnt_cons, if_pos rfl]; omega
          rw [← hR]
          rw [← hR] at h1c
          have e1 : (cnt 0 c.reps + 4096 - 1) / 4096 = 1 := by rw [Nat.div_eq_iff (by omega)]; omega
          have hpos : 0 < c.reps.length := by rw [hR]; simp
          rw [e1, dF (by omega), cF]; rfl

end Go.Proofs.YtjkokaockhecnaaGreatDoorP
