/- By a dictionary: the same values; no condition but the sizes that a machine has. -/
import Derived.Test.YtppmpfddcohkjaaGreatDoorPLaid3
namespace Go.Proofs.YtppmpfddcohkjaaGreatDoorP
open Go Go.Proofs.YtppmpfddcohkjaaGreatDoorA

theorem bV_valid : ∀ (f : Nat) {t : List Nod} {a : Int} {vs : List Vl} {A : Arr}, bV f t a vs = some A → A.valid = validT (vs.map Vl.txt)
  | 0, _, _, _, _, h => by cases h
  | f + 1, t, a, vs, A, h => by
    unfold bV at h
    split at h
    · cases h
    have fin : ∀ {e d : List UInt8} {ks : List Arr}, shutK vs.length (validT (vs.map Vl.txt)) e d ks = some A → A.valid = validT (vs.map Vl.txt) := by
      intro e d ks h
      obtain ⟨rfl, _⟩ := shutK_some h
      rfl
    split at h
    · exact fin h
    split at h
    · exact fin h
    split at h
    · exact fin h
    split at h
    · obtain ⟨ks, _, h⟩ := Option.bind_eq_some_iff.1 h; exact fin h
    · obtain ⟨ks, _, h⟩ := Option.bind_eq_some_iff.1 h; exact fin h
theorem buildT_some {t : List Nod} {a : Int} {Vs : List Vl} {A : Arr} (h : buildT t a Vs = (A, 0)) : bV 20 t a Vs = some A := by
  unfold buildT at h
  cases hB : bV 20 t a Vs with
  | none => rw [hB] at h; cases h
  | some C => rw [hB] at h; cases h; rfl
/-- Some of a leaf's values, built anew. -/
theorem leafKid {t : List Nod} {a : Int} {Xs : List Vl} (hX : ValsOf t a Xs) (hin : inner (knd t a.toNat) = false) {once : List (List UInt8)} (ho : ∀ v ∈ once, v ∈ Xs.map Vl.txt) (hl : once.length ≤ 64) :
    ∃ A, (∀ k, 231000 ≤ k → quiverref7_Build.f idb k t a once = some (A, 0)) ∧ arrB t a A = true ∧ Flat A once.length ∧ A.valid = validT once ∧ (∀ g, 8 < g → ∀ r (hr : r < once.length), valA g t a A r = once[r]) := by
  obtain ⟨hn, hv⟩ := hX
  obtain ⟨Os, rfl, hO⟩ := exists_map (g := Vl.txt) (p := fun V => Typed 20 t a V ∧ V.txt.length ≤ 65536) once fun y hy => by
    obtain ⟨V, hV, rfl⟩ := List.mem_map.1 (ho y hy)
    exact ⟨V, hv V hV, rfl⟩
  rw [List.length_map] at hl
  obtain ⟨hm, i, hi, rfl⟩ := nodeB_may hn
  rw [Int.toNat_natCast] at hin
  have hkb := (((mayT_iff t).1 hm).2.1 i hi).1
  unfold kindB at hkb
  simp only [Bool.and_eq_true, decide_eq_true_eq] at hkb
  obtain ⟨A, hA⟩ := bV_leaf (f := 19) hin hkb (fun v hv => (hO v hv).1) hl
  have hT : ValsOf t (i : Int) Os := ⟨hn, hO⟩
  have hB : buildT t (i : Int) Os = (A, 0) := by unfold buildT; rw [hA]
  obtain ⟨h1, h2, h3⟩ := buildT_may hT hB
  refine ⟨A, fun k hk => ?_, h1, by rw [List.length_map]; exact h2, bV_valid 20 hA, fun g hg r hr => ?_⟩
  · rw [Build_tree hT (by omega) (by omega), hB]
  · rw [List.getElem_map]
    have := nodeB_len hn
    exact bV_vals 20 hn (nodeB_small hn) (fun v hv => (hO v hv).1) hA g (by omega) r (by simpa using hr)

/-! ### The dictionary -/
def dIx (once : List (List UInt8)) (v : List UInt8) : Nat := if v = [110] then 0 else once.findIdx (· == v)
def dOnce (once : List (List UInt8)) (v : List UInt8) : List (List UInt8) := if v = [110] then once else if once.findIdx (· == v) = once.length then once ++ [v] else once
def onceT (xs : List (List UInt8)) (i : Nat) : List (List UInt8) := (xs.take i).foldl dOnce []
theorem onceT_succ {xs : List (List UInt8)} {i : Nat} (h : i < xs.length) : onceT xs (i + 1) = dOnce (onceT xs i) xs[i] := by
  unfold onceT
  rw [List.take_succ_eq_append_getElem h, List.foldl_append]; rfl
def ixT (xs : List (List UInt8)) (i : Nat) : Nat := dIx (onceT xs i) (xs.getD i [])
def dataT (xs : List (List UInt8)) (i : Nat) : List UInt8 := ((List.range i).map fun j => w4 (ixT xs j : Int)).flatten
theorem dataT_succ (xs : List (List UInt8)) (i : Nat) : dataT xs (i + 1) = dataT xs i ++ w4 (ixT xs i : Int) := by
  unfold dataT; rw [List.range_succ, List.map_append, List.flatten_append]; simp
theorem dataT_len (xs : List (List UInt8)) : ∀ i, (dataT xs i).length = 4 * i
  | 0 => rfl
  | i + 1 => by rw [dataT_succ, List.length_append, dataT_len xs i, w4_length]; omega
theorem dOnce_pre (once : List (List UInt8)) (v : List UInt8) : ∃ r, dOnce once v = once ++ r ∧ r.length ≤ 1 ∧ ∀ w ∈ r, w = v ∧ v ≠ [110] := by
  unfold dOnce
  split
  · exact ⟨[], by simp, by simp, fun w hw => by cases hw⟩
  · rename_i hv
    split
    · exact ⟨[v], rfl, by simp, fun w hw => ⟨List.mem_singleton.1 hw, hv⟩⟩
    · exact ⟨[], by simp, by simp, fun w hw => by cases hw⟩
theorem dOnce_get {once : List (List UInt8)} {v : List UInt8} (hv : v ≠ [110]) : (dOnce once v)[dIx once v]? = some v := by
  unfold dOnce dIx
  rw [if_neg hv, if_neg hv]
  split
  · rename_i h
    rw [h, List.getElem?_append_right (Nat.le_refl _), Nat.sub_self]; rfl
  · rename_i h
    have hlt : once.findIdx (· == v) < once.length := by
      have := List.findIdx_le_length (xs := once) (p := (· == v)); omega
    rw [List.getElem?_eq_getElem hlt]
    have := List.findIdx_getElem (w := hlt)
    rw [eq_of_beq this]
theorem onceT_len (xs : List (List UInt8)) : ∀ i, i ≤ xs.length → (onceT xs i).length ≤ i ∧ (∀ w ∈ onceT xs i, w ∈ xs ∧ w ≠ [110])
  | 0, _ => ⟨Nat.le_refl _, fun w hw => by cases hw⟩
  | i + 1, h => by
    obtain ⟨h1, h2⟩ := onceT_len xs i (by omega)
    obtain ⟨r, e, hr, hw⟩ := dOnce_pre (onceT xs i) xs[i]
    rw [onceT_succ (by omega), e]
    refine ⟨by rw [List.length_append]; omega, fun w hm => ?_⟩
    rcases List.mem_append.1 hm with hm | hm
    · exact h2 w hm
    · obtain ⟨rfl, hn⟩ := hw w hm
      exact ⟨List.getElem_mem _, hn⟩
theorem onceT_more (xs : List (List UInt8)) {i j : Nat} (hij : i ≤ j) (hj : j ≤ xs.length) : ∃ r, onceT xs j = onceT xs i ++ r := by
  obtain ⟨d, rfl⟩ : ∃ d, j = i + d := ⟨j - i, by omega⟩
  clear hij
  induction d with
  | zero => exact ⟨[], by simp⟩
  | succ d ih =>
    obtain ⟨r, hr⟩ := ih (by omega)
    obtain ⟨s, e, _⟩ := dOnce_pre (onceT xs (i + d)) xs[i + d]
    refine ⟨r ++ s, ?_⟩
    rw [← Nat.add_assoc, onceT_succ (by omega), e, hr, List.append_assoc]
theorem onceT_at {xs : List (List UInt8)} {i : Nat} (h : i < xs.length) (hv : xs[i] ≠ [110]) : (onceT xs xs.length)[ixT xs i]? = some xs[i] := by
  have hg : xs.getD i [] = xs[i] := by simp [List.getD, h]
  have := dOnce_get (once := onceT xs i) hv
  rw [← onceT_succ h] at this
  obtain ⟨r, hr⟩ := onceT_more xs (i := i + 1) (j := xs.length) (by omega) (Nat.le_refl _)
  unfold ixT
  rw [hg, hr, List.getElem?_append_left (List.getElem?_eq_some_iff.1 this).1]
  exact this
theorem ixT_le (xs : List (List UInt8)) {i : Nat} (h : i < xs.length) : ixT xs i ≤ 64 ∨ 64 < i := by
  by_cases hi : 64 < i
  · exact .inr hi
  · left
    have h1 := (onceT_len xs i (by omega)).1
    unfold ixT dIx
    split
    · omega
    · have := List.findIdx_le_length (xs := onceT xs i) (p := (· == xs.getD i []))
      omega
theorem DictOf_l2 {k m1 n : Nat} (hk : 100 ≤ k) (a : Int) {i : Nat} (t : List Nod) (b : Int) (va d : List UInt8) {xs once : List (List UInt8)} (hi : i < xs.length) (hx : xs.length ≤ 64) (ho : once.length ≤ 64) (hd : d.length ≤ 1000) (hn : 66 ≤ n) :
    quiverref11_DictOf.l2 idb k m1 n a (i : Int) 0 t b va d xs once = quiverref11_DictOf.l0 idb k m1 a ((i + 1 : Nat) : Int) t b va (d ++ w4 (dIx once xs[i] : Int)) xs (dOnce once xs[i]) := by
  have hle := List.findIdx_le_length (xs := once) (p := (· == xs[i]))
  refine loop_up (F := fun n j => quiverref11_DictOf.l2 idb k m1 n a (i : Int) (j : Int) t b va d xs once) (N := once.findIdx (· == xs[i])) ?_ ?_ n 0 (by omega) (by omega)
  · intro n j hj
    have hjl : j < once.length := by omega
    have hne : (once[j] == xs[i]) = false := by
      have := List.not_of_lt_findIdx hj
      simpa using this
    rw [quiverref11_DictOf.l2_eq, dT (by omega), cT, dT (by omega)]
    simp only [Bool.and_self, cT, Int.toNat_natCast]
    rw [List.getElem?_eq_getElem hjl, bS, rd_get hi]
    simp only [bS]
    rw [show (once[j] != xs[i]) = true by unfold bne; rw [hne]; rfl, cT, wsucc (by omega)]
  · intro n
    have fin : (bif xs[i] == ([110] : List UInt8) then
         (quiverref1_Low.f idb k 0 4).bind fun r_9 => bif decide ((d).length + (r_9).length ≤ 9223372036854775807) then quiverref11_DictOf.l0 idb k m1 a (IntKind.i64.wrap ((i : Int) + 1)) t b va (d ++ r_9) xs once else none
        else bif ((once.findIdx (· == xs[i]) : Nat) : Int) == ((once).length : Int) then
          bif decide (((once).length + (([xs[i]] : List (List UInt8))).length) * 16 ≤ 140737488355328) then
            (quiverref1_Low.f idb k ((once.findIdx (· == xs[i]) : Nat) : Int) 4).bind fun r_11 => bif decide ((d).length + (r_11).length ≤ 9223372036854775807) then quiverref11_DictOf.l0 idb k m1 a (IntKind.i64.wrap ((i : Int) + 1)) t b va (d ++ r_11) xs (once ++ ([xs[i]] : List (List UInt8))) else none
          else none
        else (quiverref1_Low.f idb k ((once.findIdx (· == xs[i]) : Nat) : Int) 4).bind fun r_12 => bif decide ((d).length + (r_12).length ≤ 9223372036854775807) then quiverref11_DictOf.l0 idb k m1 a (IntKind.i64.wrap ((i : Int) + 1)) t b va (d ++ r_12) xs once else none) =
        quiverref11_DictOf.l0 idb k m1 a ((i + 1 : Nat) : Int) t b va (d ++ w4 (dIx once xs[i] : Int)) xs (dOnce once xs[i]) := by
      unfold dIx dOnce
      rw [wsucc (by omega)]
      by_cases hv : xs[i] = [110]
      · rw [if_pos hv, if_pos hv, hv, BEq.rfl, cT, Low4 (by omega), bS, dT (by rw [w4_length]; omega), cT]; rfl
      · rw [if_neg hv, if_neg hv, show (xs[i] == [110]) = false by rw [beq_eq_false_iff_ne]; exact hv, cF]
        by_cases he : once.findIdx (· == xs[i]) = once.length
        · rw [if_pos he, show (((once.findIdx (· == xs[i]) : Nat) : Int) == ((once).length : Int)) = true by rw [he]; exact BEq.rfl, cT, dT (by simp only [List.length_cons, List.length_nil]; omega), cT, Low4 (by omega), bS, dT (by rw [w4_length]; omega), cT]
        · rw [if_neg he, show (((once.findIdx (· == xs[i]) : Nat) : Int) == ((once).length : Int)) = false by rw [beq_eq_false_iff_ne]; omega, cF, Low4 (by omega), bS, dT (by rw [w4_length]; omega), cT]
    rw [quiverref11_DictOf.l2_eq, rd_get hi]
    simp only [bS]
    by_cases hlt : once.findIdx (· == xs[i]) < once.length
    · have heq : once[once.findIdx (· == xs[i])] = xs[i] := eq_of_beq (List.findIdx_getElem (w := hlt))
      rw [dT (by omega), cT, dT (by omega)]
      simp only [Bool.and_self, cT, Int.toNat_natCast]
      rw [List.getElem?_eq_getElem hlt, bS, heq, bne_self_eq_false, cF]
      exact fin
    · rw [dF (by omega), cF]
      exact fin
theorem leafValues_ok {t : List Nod} {a : Int} {x : Arr} (hx : RoomyA x) {k : Nat} (hk : 1100 ≤ k) : quiverref11_leafValues.f idb k t a x = some (if arrB t a x then (valsA t a x, !inner (knd t a.toNat)) else ([], false)) := by
  obtain ⟨k, rfl⟩ : ∃ q, k = q + 1 := ⟨k - 1, by omega⟩
  rw [quiverref11_leafValues.f_eq, ref_Values_ok hx (by omega), bS]
  unfold valsT
  cases hb : arrB t a x with
  | false => rfl
  | true =>
    obtain ⟨hn, _⟩ := arrB_buf hb
    obtain ⟨hm, i, hi, rfl⟩ := nodeB_may hn
    rw [if_pos rfl, if_pos rfl]
    simp only [BEq.rfl, cT]
    rw [rd_get hi, bS, ref_IsLeaf_ok (by omega), bS, knd_get hi, Int.toNat_natCast]
/-- An array by a dictionary. -/
theorem DictOf_ok {t : List Nod} {a : Int} {x : Arr} (hx : RoomyA x) {k : Nat} (hk : 240000 ≤ k) : ∃ D e, quiverref11_DictOf.f idb k t a x = some (D, e) ∧ RoomyA D ∧
    (if arrB t a x = true ∧ inner (knd t a.toNat) = false then e = 0 ∧ arrB t a D = true ∧ valsA t a D = valsA t a x else e = 1600) := by
  obtain ⟨k, rfl⟩ : ∃ q, k = q + 1 := ⟨k - 1, by omega⟩
  rw [quiverref11_DictOf.f_eq, leafValues_ok hx (by omega), bS]
  cases hb : arrB t a x with
  | false => exact ⟨_, _, rfl, noA_roomy, by rw [if_neg (by simp)]⟩
  | true =>
    rw [if_pos rfl]
    simp only
    cases hin : inner (knd t a.toNat) with
    | true => exact ⟨_, _, rfl, noA_roomy, by rw [if_neg (by simp)]⟩
    | false =>
      obtain ⟨W, hW, hW1, hW2, hW3⟩ := plainA hb
      have hlx := arrB_len hb
      have hl := valsV_len (t := t) (a := a) (x := x)
      have hBt := Build_tree (valsV_of hb) (by omega) (k := k) (by omega)
      have hWv := bV_valid 20 (buildT_some hW)
      rw [valsV_txt hb] at hBt hWv
      rw [hW] at hBt
      have hxl : (valsA t a x).length = x.length.toNat := valsA_length
      simp only [Bool.not_false, Bool.not_true, cF]
      rw [hBt, bS]
      simp only
      generalize hxs : valsA t a x = xs at *
      have hone := onceT_len xs xs.length (Nat.le_refl _)
      obtain ⟨K, hK, hK1, hK2, hK3, hK4⟩ := leafKid (valsV_of hb) hin (once := onceT xs xs.length) (fun v hv => by rw [valsV_txt hb, hxs]; exact (hone.2 v hv).1) (by omega)
      have loop : quiverref11_DictOf.l0 idb k k a 0 t (xs.length : Int) W.valid [] xs [] = some (.mk 1 0 (xs.length : Int) W.valid [] (dataT xs xs.length) [K], 0) := by
        refine loop_up (F := fun n i => quiverref11_DictOf.l0 idb k n a (i : Int) t (xs.length : Int) W.valid (dataT xs i) xs (onceT xs i)) (N := xs.length) ?_ ?_ k 0 (by omega) (by omega)
        · intro n i hi
          have h1 := (onceT_len xs i (by omega)).1
          have hg : xs.getD i [] = xs[i] := by simp [List.getD, hi]
          rw [quiverref11_DictOf.l0_eq, dT (by omega), cT, DictOf_l2 (by omega) a t _ _ _ hi (by omega) (by omega) (by rw [dataT_len]; omega) (by omega), onceT_succ hi, dataT_succ]
          unfold ixT
          rw [hg]
        · intro n
          rw [quiverref11_DictOf.l0_eq, dF (by omega), cF, hK k (by omega), bS]
          simp only
          rw [Arr.eta]
      refine ⟨_, _, loop, ?_⟩
      have hdl := dataT_len xs xs.length
      have hnum : ∀ r, r < xs.length → okN (dataT xs xs.length) r = true ∧ eN (dataT xs xs.length) r = (ixT xs r : Int) := by
        intro r hr
        have := At.flat (fun j => w4 (ixT xs j : Int)) (List.range xs.length) r (by rw [List.length_range]; exact hr)
        rw [sum_const (fun j => (w4 (ixT xs j : Int)).length) 4 _ (fun _ _ => rfl), List.length_take, List.getElem_range, List.length_range, Nat.min_eq_left (by omega)] at this
        have hle := ixT_le xs hr
        have := numA_at this (may_iff.2 ⟨by omega, by omega⟩)
        unfold okN eN dataT
        rw [this]
        exact ⟨rfl, rfl⟩
      obtain ⟨hn, hWb⟩ := arrB_buf hW1
      have hthere : ∀ r (hr : r < xs.length), thereB W.valid r = isV xs[r] := fun r hr => by rw [hWv]; exact validT_there xs hr
      have hmay : arrB t a (.mk 1 0 (xs.length : Int) W.valid [] (dataT xs xs.length) [K]) = true := by
        rw [arrB_eq, hn, if_neg (show ¬ (Arr.mk 1 0 (xs.length : Int) W.valid [] (dataT xs xs.length) [K]).layout = 0 by show ¬ (1 : Int) = 0; decide), hin]
        have hB : bufB (nul t a.toNat) (.mk 1 0 (xs.length : Int) W.valid [] (dataT xs xs.length) [K]) = true := by
          rw [bufB_iff]
          have h7 := hWb.there
          have h6 := hWb.valid
          rw [hW2.offset, hW2.length] at h7
          refine ⟨Int.le_refl _, by show (0 : Int) ≤ (xs.length : Int); omega, by show (0 : Int) + (xs.length : Int) ≤ 64; omega, h6, by show 0 ≤ 4096; omega, by show (dataT xs xs.length).length ≤ 4096; omega, ?_⟩
          show W.valid = [] ∨ nul t a.toNat = true ∧ bitB (0 + (xs.length : Int)) ≤ (W.valid.length : Int)
          rw [hxl]; exact h7
        rw [hB]
        have hd : dictB (.mk 1 0 (xs.length : Int) W.valid [] (dataT xs xs.length) [K]) K = true := by
          unfold dictB
          have hrows : rowsN (.mk 1 0 (xs.length : Int) W.valid [] (dataT xs xs.length) [K]) = xs.length := by
            show (0 + (xs.length : Int)).toNat = _; omega
          have hKv : K.valid = [] := by
            rw [hK3]
            unfold validT
            rw [if_pos]
            rw [List.all_eq_true]
            intro v hv
            unfold isV
            rw [bne_iff_ne]
            exact (hone.2 v hv).2
          rw [hrows, hKv]
          show (([] : List UInt8) == [] && (decide (4 * xs.length ≤ (dataT xs xs.length).length) && (List.range xs.length).all fun i => decide ((i : Int) < 0) || (!thereB W.valid i || (okN (dataT xs xs.length) i && decide (eN (dataT xs xs.length) i < K.length))))) = true
          rw [dT (by omega)]
          simp only [BEq.rfl, Bool.true_and]
          rw [range_all_iff]
          intro r hr
          obtain ⟨q1, q2⟩ := hnum r hr
          rw [dF (by omega), Bool.false_or, hthere r hr, q1, q2, hK2.length]
          by_cases hv : xs[r] = [110]
          · rw [hv]; rfl
          · have := onceT_at hr hv
            have := (List.getElem?_eq_some_iff.1 this).1
            rw [dT (by omega)]; simp
        show (true && (true && (!false && (([] : List UInt8) == [] && (decide (([K] : List Arr).length = 1) && (K.layout == 0 && (arrB t a K && (if (1 : Int) = 1 then dictB (.mk 1 0 (xs.length : Int) W.valid [] (dataT xs xs.length) [K]) K else _)))))))) = true
        rw [hK2.layout, hK1, if_pos rfl, hd]
        rfl
      refine ⟨arrB_roomy hmay, ?_⟩
      rw [if_pos (by simp)]
      refine ⟨rfl, hmay, ?_⟩
      unfold valsA
      show (List.range ((xs.length : Int)).toNat).map (fun i => valA 20 t a (.mk 1 0 (xs.length : Int) W.valid [] (dataT xs xs.length) [K]) ((0 : Int).toNat + i)) = xs
      rw [Int.toNat_natCast]
      refine List.ext_getElem (by simp) fun r h1 h2 => ?_
      rw [List.getElem_map, List.getElem_range, show (0 : Int).toNat + r = r by simp, valA_succ]
      show (if thereB W.valid r = false then _ else if (1 : Int) = 1 then valA 19 t a K (K.offset + eN (dataT xs xs.length) r).toNat else _) = _
      rw [hthere r h2]
      by_cases hv : xs[r] = [110]
      · rw [hv]; rfl
      · rw [if_neg (by unfold isV; simpa using hv), if_pos rfl, (hnum r h2).2, hK2.offset]
        have := onceT_at h2 hv
        obtain ⟨hlt, hget⟩ := List.getElem?_eq_some_iff.1 this
        rw [show ((0 : Int) + (ixT xs r : Int)).toNat = ixT xs r by omega, hK4 19 (by omega) _ hlt, hget]

end Go.Proofs.YtppmpfddcohkjaaGreatDoorP
