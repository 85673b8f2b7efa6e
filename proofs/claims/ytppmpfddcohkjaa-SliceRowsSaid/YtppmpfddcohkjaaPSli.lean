/- Slices: the laws SliceForms, SliceShares, SliceRows, as the machine answers them; no condition but the sizes that a machine has. -/
import Derived.Test.YtppmpfddcohkjaaPArr8
namespace Go.Proofs.YtppmpfddcohkjaaP
open Go Go.Proofs.YtppmpfddcohkjaaA

/-! ### Copies -/
theorem splitK_same {α R : Type} (xs : List α) (a : Option R) (b : List α → Option R) {r : R} (h0 : xs = [] → a = some r) (hb : b xs = some r) : splitK xs a b = some r := by
  cases xs with
  | nil =>
    unfold splitK both
    rw [h0 rfl, hb, if_pos rfl]
  | cons x l => exact hb
theorem clone_ok {k : Nat} (hk : 1 ≤ k) (l : List Arr) (hl : l.length * 96 ≤ 140737488351232) : slices_Clone_api_Array_api_Array.f idb k l = some l := by
  obtain ⟨k, rfl⟩ : ∃ m, k = m + 1 := ⟨k - 1, by omega⟩
  rw [slices_Clone_api_Array_api_Array.f_eq]
  refine splitK_same l _ _ (fun h => by rw [h]) ?_
  rw [dT (by simp; omega), cT]; rfl
theorem set_same {α : Type} {l : List α} {i : Nat} {y : α} (h : l[i]? = some y) : l.set i y = l := by
  refine List.ext_getElem? fun k => ?_
  rw [List.getElem?_set]
  by_cases e : i = k
  · subst e
    have hlt := (List.getElem?_eq_some_iff.mp h).1
    rw [if_pos rfl, if_pos hlt, h]
  · rw [if_neg e]
theorem array_Copy_ok : ∀ (d : Nat) (a : Arr), fits d a → RoomyA a → ∀ k, d + 2 ≤ k → array_Copy.f idb k a = some a
  | 0, a, h, _, _, _ => absurd h (by simp [fits])
  | d + 1, a, h, hr, k, hk => by
    obtain ⟨k, rfl⟩ : ∃ m, k = m + 1 := ⟨k - 1, by omega⟩
    have hkl := hr.kids
    rw [array_Copy.f_eq, clone_ok (by omega) _ hkl, bS]
    refine loop_up (F := fun n i => array_Copy.l0 idb k n (a.kids.length : Int) (i : Int) a.layout a.offset a.length a.valid a.ends a.data a.kids) (N := a.kids.length) (r := some a) ?_ ?_ k 0 (by omega) (by have := h.1; omega)
    · intro n i hi
      have hc := array_Copy_ok d a.kids[i] (fits_kid h (List.getElem_mem hi)) (hr.kid (List.getElem_mem hi)) k (by omega)
      have hg : a.kids[i]? = some a.kids[i] := List.getElem?_eq_getElem hi
      rw [array_Copy.l0_eq, dT (by omega), cT, dT (show (0 : Int) ≤ (i : Int) by omega)]
      simp only [Bool.and_self, cT, Int.toNat_natCast]
      rw [hg, bS, hc, bS, bS, Arr.eta, set_same hg, wsucc (by omega)]
    · intro n
      rw [array_Copy.l0_eq, dF (by omega), cF, Arr.eta]

/-! ### Slices -/
def noArr : Arr := .mk 0 0 0 [] [] [] []
def sliceT (t : List Nod) (a : Int) (x : Arr) (i c : Int) : Arr × Int :=
  if arrB t a x = false then (noArr, 1100) else if 0 ≤ i ∧ 0 ≤ c ∧ i + c ≤ x.length then (part x i c, 0) else (noArr, 1101)
theorem Slice_ok {d : Nat} {t : List Nod} {a : Int} {x : Arr} (hd : fits d x) (hx : RoomyA x) {i c : Int} (hi : -9223372036854775808 ≤ i ∧ i ≤ 9223372036854775807) (hc : -9223372036854775808 ≤ c ∧ c ≤ 9223372036854775807) {k : Nat} (hk : d + 1003 ≤ k) :
    slice_Slice.f idb k t a x i c = some (sliceT t a x i c) := by
  obtain ⟨k, rfl⟩ : ∃ m, k = m + 1 := ⟨k - 1, by omega⟩
  rw [slice_Slice.f_eq, May_ok hx (by omega), bS]
  unfold sliceT
  cases hb : arrB t a x with
  | false => rfl
  | true =>
    have hl := arrB_len hb
    rw [Bool.not_true, cF, if_neg (by simp)]
    by_cases h1 : 0 ≤ i
    · rw [dF (show ¬ i < 0 by omega), Bool.not_false, cT]
      by_cases h2 : 0 ≤ c
      · rw [dF (show ¬ c < 0 by omega), Bool.not_false, cT]
        by_cases h3 : i ≤ x.length
        · rw [dF (show ¬ i > x.length by omega), Bool.not_false, cT, wi64 (x.length - i) (by omega)]
          by_cases h4 : i + c ≤ x.length
          · rw [dF (show ¬ c > x.length - i by omega), cF, array_Copy_ok d x hd hx _ (by omega), bS, if_pos ⟨h1, h2, h4⟩, wi64 (x.offset + i) (by omega)]
            rfl
          · rw [dT (show c > x.length - i by omega), cT, if_neg (by omega)]; rfl
        · rw [dT (show i > x.length by omega), Bool.not_true, cF, if_neg (by omega)]; rfl
      · rw [dT (show c < 0 by omega), Bool.not_true, cF, if_neg (by omega)]; rfl
    · rw [dT (show i < 0 by omega), Bool.not_true, cF, if_neg (by omega)]; rfl

/-! ### What every program answers that is one -/
def ints1 : List Nod := [⟨0, -1, true⟩]
def given1 : Arr := .mk 0 0 4 [13] [] [5, 0, 0, 0, 0, 0, 0, 0, 0, 0, 0, 0, 0, 0, 0, 0, 7, 0, 0, 0, 0, 0, 0, 0, 7, 0, 0, 0, 0, 0, 0, 0] []
theorem given_ok (m : Nat) : quiverlaw11_given.f idb (m + 100) = some given1 := by kernel_rfl

theorem ints_ok {k : Nat} (hk : 1 ≤ k) : quiverlaw11_ints.f idb k = some ints1 := by
  obtain ⟨k, rfl⟩ : ∃ m, k = m + 1 := ⟨k - 1, by omega⟩
  rw [quiverlaw11_ints.f_eq]; rfl
theorem roomy_flat {x : Arr} (h : x.kids = []) (h1 : -1000 ≤ x.offset ∧ x.offset ≤ 1000) (h2 : -1000 ≤ x.length ∧ x.length ≤ 1000) (h3 : x.valid.length ≤ 1000) (h4 : x.ends.length ≤ 1000) (h5 : x.data.length ≤ 1000) : RoomyA x := by
  intro d
  cases d with
  | zero => trivial
  | succ d => exact ⟨by omega, by omega, by omega, by omega, by omega, by rw [h]; simp, fun k hk => by rw [h] at hk; simp at hk⟩
theorem fits_flat {x : Arr} (h : x.kids = []) : fits 1 x := ⟨by rw [h]; exact Nat.le_refl 0, fun k hk => by rw [h] at hk; simp at hk⟩
theorem vals11_ok {k : Nat} (hk : 1003 ≤ k) {x : Arr} (hx : RoomyA x) : quiverlaw11_vals.f idb k x = some (valsT ints1 0 x).1 := by
  obtain ⟨k, rfl⟩ : ∃ m, k = m + 1 := ⟨k - 1, by omega⟩
  rw [quiverlaw11_vals.f_eq, ints_ok (by omega), bS, ref_Values_ok hx (by omega), bS]
theorem awake11 {k : Nat} (hk : 1200 ≤ k) : quiverlaw11_awake.f idb k = some true := by
  obtain ⟨k, rfl⟩ : ∃ m, k = m + 1 := ⟨k - 1, by omega⟩
  have g := given_ok (k - 100)
  rw [show k - 100 + 100 = k by omega] at g
  have f1 : RoomyA given1 := roomy_flat rfl (by decide) (by decide) (by decide) (by decide) (by decide)
  have f2 : RoomyA (part given1 1 2) := roomy_flat rfl (by decide) (by decide) (by decide) (by decide) (by decide)
  have f3 : RoomyA (part (part given1 1 2) 1 1) := roomy_flat rfl (by decide) (by decide) (by decide) (by decide) (by decide)
  have f4 : RoomyA (.mk 0 0 1 [] [] [] []) := roomy_flat rfl (by decide) (by decide) (by decide) (by decide) (by decide)
  have s1 : sliceT ints1 0 given1 1 2 = (part given1 1 2, 0) := by kernel_rfl
  have s2 : sliceT ints1 0 (part given1 1 2) 1 1 = (part (part given1 1 2) 1 1, 0) := by kernel_rfl
  have s3 : sliceT ints1 0 (part given1 1 2) 1 2 = (noArr, 1101) := by kernel_rfl
  have s4 : sliceT ints1 0 (.mk 0 0 1 [] [] [] []) 0 1 = (noArr, 1100) := by kernel_rfl
  have v1 : (valsT ints1 0 (part given1 1 2)).1 = [[110], [105, 55, 59]] := by kernel_rfl
  have v2 : (valsT ints1 0 (part (part given1 1 2) 1 1)).1 = [[105, 55, 59]] := by kernel_rfl
  rw [quiverlaw11_awake.f_eq, ints_ok (by omega), bS, g, bS, Slice_ok (fits_flat rfl) f1 (by omega) (by omega) (by omega), bS, s1, bS,
    Slice_ok (fits_flat rfl) f2 (by omega) (by omega) (by omega), bS, s2, bS, Slice_ok (fits_flat rfl) f2 (by omega) (by omega) (by omega), bS, s3, bS,
    Slice_ok (fits_flat rfl) f4 (by omega) (by omega) (by omega), bS, s4, vals11_ok (by omega) f2, bS, v1, SameTexts_refl _ (by simp; omega) (by simp), bS, cT]
  simp only [Num_ok (show 1 ≤ k by omega), vals11_ok (show 1003 ≤ k by omega) f3, v2, bS]
  rw [SameTexts_refl _ (by simp; omega) (by simp)]
  rfl

/-! ### SliceShares -/
theorem part_back (x : Arr) (i c : Int) : Arr.mk (part x i c).layout x.offset x.length (part x i c).valid (part x i c).ends (part x i c).data (part x i c).kids = x := by
  cases x; rfl
theorem fits_part {d : Nat} {x : Arr} (h : fits d x) (i c : Int) : fits d (part x i c) := by
  cases d with
  | zero => exact h.elim
  | succ d => exact h
theorem pure_SliceShares (t : List Nod) (a : Int) (x : Arr) (p : Int) (hx : RoomyA x) : ∃ k, quiverlaw11_SliceShares.f idb k t a x p = some true := by
  obtain ⟨d, hd⟩ := fits_ex x
  refine ⟨d + 2000, ?_⟩
  rw [show d + 2000 = (d + 1999) + 1 from rfl, quiverlaw11_SliceShares.f_eq, awake11 (by omega), bS, Bool.not_true, cF, ref_May_ok' hx (by omega), bS]
  cases hb : arrB t a x with
  | false => rfl
  | true =>
    have hl := arrB_len hb
    obtain ⟨u1, u2, u3, u4⟩ := umod (a := p) (m := x.length + 1) (by omega)
    rw [Bool.not_true, cF, wi64 (x.length + 1) (by omega), show (IntKind.u64.wrap (x.length + 1) == 0) = false by simpa using u1, cF, u2]
    generalize (p % 18446744073709551616) % (x.length + 1) = i at *
    have hs : sliceT t a x i (x.length - i) = (part x i (x.length - i), 0) := by
      unfold sliceT
      rw [if_neg (by rw [hb]; simp), if_pos ⟨by omega, by omega, by omega⟩]
    have hpr := roomy_part hx (i := i) (c := x.length - i) (by omega) (by omega)
    rw [wi64 (x.length - i) (by omega), Slice_ok hd hx (by omega) (by omega) (by omega), bS, hs]
    simp only
    rw [CopyArray_ok d _ (fits_part hd _ _) hpr _ (by omega), bS, Num_ok (by omega), bS, BEq.rfl, cT, part_back, SameArray_ok d x hd hx _ (by omega), bS, cT, wi64 (x.offset + i) (by omega)]
    have e1 : (part x i (x.length - i)).offset = x.offset + i := rfl
    have e2 : (part x i (x.length - i)).length = x.length - i := rfl
    rw [e1, e2, BEq.rfl, cT, BEq.rfl]

/-! ### SliceForms -/
theorem d1024 (a : Int) : ∃ d : Int, IntKind.i64.wrap (1 + (bitsOp .and .i64 a 1023)) = d ∧ 1 ≤ d ∧ d ≤ 1024 := dist_of a
theorem pure_SliceForms (t : List Nod) (a : Int) (x : Arr) (p : Int) (hx : RoomyA x) : ∃ k, quiverlaw11_SliceForms.f idb k t a x p = some true := by
  obtain ⟨d, hd⟩ := fits_ex x
  refine ⟨d + 2000, ?_⟩
  have hlr := hx.one.len
  rw [show d + 2000 = (d + 1999) + 1 from rfl, quiverlaw11_SliceForms.f_eq, awake11 (by omega), bS, Bool.not_true, cF, ref_May_ok' hx (by omega), bS]
  obtain ⟨q, hq, q1, q2⟩ := d1024 p
  rw [hq]
  have S : ∀ {i c : Int}, -9223372036854775808 ≤ i ∧ i ≤ 9223372036854775807 → -9223372036854775808 ≤ c ∧ c ≤ 9223372036854775807 → slice_Slice.f idb (d + 1999) t a x i c = some (sliceT t a x i c) := fun h1 h2 => Slice_ok hd hx h1 h2 (by omega)
  have N := fun x => Num_ok (show 1 ≤ d + 1999 by omega) x
  have j7 : ∀ w, quiverlaw11_SliceForms.j7 idb (d + 1999) a q w t x.layout x.offset x.length x.valid x.ends x.data x.kids = _ := fun w => quiverlaw11_SliceForms.j7_eq idb (d + 1999) a q w t x.layout x.offset x.length x.valid x.ends x.data x.kids
  cases hb : arrB t a x with
  | false =>
    have hs : ∀ i c, sliceT t a x i c = (noArr, 1100) := fun i c => by unfold sliceT; rw [if_pos hb]
    rw [Bool.not_false, cT, idb_eq, j7, Arr.eta, wi64 (0 - q) (by omega), wi64 (64 + q) (by omega), S (by omega) (by omega), bS, S (by omega) (by omega), bS, S (by omega) (by omega), bS, S (by omega) (by omega), bS, S (by omega) (by omega), bS, S (by omega) (by omega), bS]
    simp only [hs, BEq.rfl, cT, N, bS]
  | true =>
    have hl := arrB_len hb
    have hs1 : ∀ i c, ¬ (0 ≤ i ∧ 0 ≤ c ∧ i + c ≤ x.length) → sliceT t a x i c = (noArr, 1101) := fun i c h => by unfold sliceT; rw [if_neg (by rw [hb]; simp), if_neg h]
    have hs2 : ∀ i c, (0 ≤ i ∧ 0 ≤ c ∧ i + c ≤ x.length) → sliceT t a x i c = (part x i c, 0) := fun i c h => by unfold sliceT; rw [if_neg (by rw [hb]; simp), if_pos h]
    rw [Bool.not_true, cF, idb_eq, j7, Arr.eta, wi64 (0 - q) (by omega), wi64 (64 + q) (by omega), S (by omega) (by omega), bS, S (by omega) (by omega), bS, S (by omega) (by omega), bS, S (by omega) (by omega), bS, S (by omega) (by omega), bS, S (by omega) (by omega), bS,
      hs1 (0 - q) 0 (by omega), hs1 0 (0 - q) (by omega), hs1 (64 + q) 0 (by omega), hs1 0 (64 + q) (by omega), hs2 x.length 0 (by omega), hs2 0 x.length (by omega)]
    have e1 : (part x x.length 0).length = 0 := rfl
    have e2 : part x 0 x.length = x := by cases x; simp [part, Arr.offset, Arr.length, Arr.layout, Arr.valid, Arr.ends, Arr.data, Arr.kids]
    simp only [N, bS, BEq.rfl, cT, e1, e2, show ((1101 : Int) == 1100) = false from rfl, cF]
    rw [SameArray_ok d x hd hx _ (by omega), bS]

/-! ### SliceRows -/
theorem valA_part {t : List Nod} {a : Int} {x : Arr} (h : arrB t a x = true) (i c : Int) (f row : Nat) : valA (f + 1) t a (part x i c) row = valA (f + 1) t a x row := by
  obtain ⟨hn, _⟩ := arrB_buf h
  obtain ⟨hm, q, hq, rfl⟩ := nodeB_may hn
  have k0 : x.layout ≠ 0 → kidA (part x i c) 0 = kidA x 0 := fun hl => kidA_part (by rw [(arrB_one h hl).1.kids]; omega)
  have kj : x.layout = 0 → ∀ j, j < (kidsL t (q : Int)).length → kidA (part x i c) j = kidA x j := fun hl j hj => kidA_part (by rw [(arrB_plain h hl).kids]; exact hj)
  unfold valA
  have eV : (part x i c).valid = x.valid := rfl
  have eL : (part x i c).layout = x.layout := rfl
  have eD : (part x i c).data = x.data := rfl
  have eE : (part x i c).ends = x.ends := rfl
  rw [eV, eL, eD, eE]
  congr 1
  by_cases h1 : x.layout = 1
  · rw [if_pos h1, if_pos h1, k0 (by omega)]
  · rw [if_neg h1, if_neg h1]
    by_cases h2 : x.layout = 2
    · rw [if_pos h2, if_pos h2, k0 (by omega)]
    · rw [if_neg h2, if_neg h2]
      have h0 : x.layout = 0 := by
        by_cases e : x.layout = 0
        · exact e
        · rcases (arrB_one h e).2 with ⟨e, _⟩ | ⟨e, _⟩
          · exact absurd e h1
          · exact absurd e h2
      rw [Int.toNat_natCast]
      congr 1
      congr 1
      congr 1
      by_cases h3 : knd t q = 3
      · rw [if_pos h3, if_pos h3]
        have hl1 : (kidsL t (q : Int)).length = 1 := by
          have := (((mayT_iff t).1 hm).2.2 q hq).1
          unfold kidsB at this
          rw [h3] at this
          simpa using this
        rw [kj h0 0 (by omega)]
      · rw [if_neg h3, if_neg h3]
        congr 1
        refine List.map_congr_left fun j hj => ?_
        rw [List.mem_range] at hj
        rw [kj h0 j hj]
theorem valsA_len {t : List Nod} {a : Int} {x : Arr} : (valsA t a x).length = x.length.toNat := by unfold valsA; rw [List.length_map, List.length_range]
theorem range_part (n i c : Nat) (h : i + c ≤ n) (f : Nat → List UInt8) : (((List.range n).map f).take (i + c)).drop i = (List.range c).map fun r => f (i + r) := by
  refine List.ext_getElem? fun k => ?_
  rw [List.getElem?_drop, List.getElem?_take]
  by_cases hk : k < c
  · rw [if_pos (by omega), List.getElem?_map, List.getElem?_map, List.getElem?_range (by omega), List.getElem?_range hk]; rfl
  · rw [if_neg (by omega), List.getElem?_eq_none (by simp; omega)]
theorem valsA_part {t : List Nod} {a : Int} {x : Arr} (h : arrB t a x = true) {i c : Nat} (hic : (i : Int) + c ≤ x.length) : valsA t a (part x i c) = ((valsA t a x).take (i + c)).drop i := by
  have hl := arrB_len h
  unfold valsA
  rw [range_part _ i c (by omega)]
  have e1 : (part x (i : Int) (c : Int)).length.toNat = c := by show ((c : Nat) : Int).toNat = c; omega
  have e2 : (part x (i : Int) (c : Int)).offset.toNat = x.offset.toNat + i := by show (x.offset + (i : Int)).toNat = _; omega
  rw [e1, e2]
  refine List.map_congr_left fun r _ => ?_
  rw [valA_part h, Nat.add_assoc]
theorem part_part (x : Arr) (i c j e : Int) : part (part x i c) j e = part x (i + j) e := by
  show Arr.mk _ (x.offset + i + j) _ _ _ _ _ = Arr.mk _ (x.offset + (i + j)) _ _ _ _ _
  rw [Int.add_assoc]; rfl
theorem pure_SliceRows (t : List Nod) (a : Int) (x : Arr) (p q s : Int) (hx : RoomyA x) : ∃ k, quiverlaw11_SliceRows.f idb k t a x p q s = some true := by
  obtain ⟨d, hd⟩ := fits_ex x
  refine ⟨d + 2000, ?_⟩
  rw [show d + 2000 = (d + 1999) + 1 from rfl, quiverlaw11_SliceRows.f_eq, awake11 (by omega), bS, Bool.not_true, cF, ref_Values_ok hx (by omega), bS]
  unfold valsT
  cases hb : arrB t a x with
  | false => rfl
  | true =>
    have hl := arrB_len hb
    rw [if_pos rfl]
    have hlen : ((valsA t a x).length : Int) = x.length := by rw [valsA_len]; omega
    simp only [hlen]
    rw [show ((0 : Int) != 0) = false from rfl, cF]
    obtain ⟨u1, u2, u3, u4⟩ := umod (a := p) (m := x.length + 1) (by omega)
    rw [wi64 (x.length + 1) (by omega), show (IntKind.u64.wrap (x.length + 1) == 0) = false by simpa using u1, cF]
    simp only [u2]
    generalize (p % 18446744073709551616) % (x.length + 1) = i at *
    obtain ⟨v1, v2, v3, v4⟩ := umod (a := q) (m := x.length - i + 1) (by omega)
    rw [wi64 (x.length - i) (by omega), wi64 (x.length - i + 1) (by omega), show (IntKind.u64.wrap (x.length - i + 1) == 0) = false by simpa using v1, cF]
    simp only [v2]
    generalize (q % 18446744073709551616) % (x.length - i + 1) = c at *
    obtain ⟨w1, w2, w3, w4⟩ := umod (a := s) (m := c + 1) (by omega)
    rw [wi64 (c + 1) (by omega), show (IntKind.u64.wrap (c + 1) == 0) = false by simpa using w1, cF]
    simp only [w2]
    generalize (s % 18446744073709551616) % (c + 1) = j at *
    have S : ∀ {y : Arr} {i c : Int}, fits d y → RoomyA y → -9223372036854775808 ≤ i ∧ i ≤ 9223372036854775807 → -9223372036854775808 ≤ c ∧ c ≤ 9223372036854775807 → slice_Slice.f idb (d + 1999) t a y i c = some (sliceT t a y i c) := fun h0 h h1 h2 => Slice_ok h0 h h1 h2 (by omega)
    have N := fun x => Num_ok (show 1 ≤ d + 1999 by omega) x
    have hs2 : ∀ {y : Arr} {i c : Int}, arrB t a y = true → (0 ≤ i ∧ 0 ≤ c ∧ i + c ≤ y.length) → sliceT t a y i c = (part y i c, 0) := fun hb h => by unfold sliceT; rw [if_neg (by rw [hb]; simp), if_pos h]
    have hp := arrB_part hb (i := i) (c := c) (by omega) (by omega) (by omega)
    have hpr := roomy_part hx (i := i) (c := c) (by omega) (by omega)
    have hpl : (part x i c).length = c := rfl
    rw [wi64 (i + j) (by omega), wi64 (c - j) (by omega), wi64 (i + c) (by omega), S hd hx (by omega) (by omega), bS, hs2 hb (by omega)]
    simp only
    rw [S (fits_part hd _ _) hpr (by omega) (by omega), bS, hs2 hp (by omega), S hd hx (by omega) (by omega), bS, hs2 hb (by omega), ref_Values_ok hpr (by omega), bS]
    unfold valsT
    rw [if_pos hp]
    simp only [N, bS, BEq.rfl, cT]
    rw [dT (show 0 ≤ i + c by omega), dT (show i + c ≤ x.length by omega), dT (show 0 ≤ i by omega), dT (show i ≤ (((i + c).toNat : Nat) : Int) by omega)]
    simp only [Bool.and_self, cT]
    obtain ⟨i, rfl⟩ : ∃ n : Nat, i = (n : Int) := ⟨i.toNat, by omega⟩
    obtain ⟨c, rfl⟩ : ∃ n : Nat, c = (n : Int) := ⟨c.toNat, by omega⟩
    have e1 : ((i : Int) + (c : Int)).toNat = i + c := by omega
    rw [valsA_part hb (by omega), e1, Int.toNat_natCast]
    have hll : (((valsA t a x).take (i + c)).drop i).length ≤ 64 := by rw [List.length_drop, List.length_take]; omega
    rw [SameTexts_refl _ (by omega) (by omega), bS, cT, part_part]
    have hpr2 := roomy_part hx (i := (i : Int) + j) (c := (c : Int) - j) (by omega) (by omega)
    rw [SameArray_ok d _ (fits_part hd _ _) hpr2 _ (by omega), bS]

end Go.Proofs.YtppmpfddcohkjaaP
