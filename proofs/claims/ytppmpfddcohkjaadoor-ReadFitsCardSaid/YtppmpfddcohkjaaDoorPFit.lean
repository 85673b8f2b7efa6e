/- Values as texts: those of an array's rows fit its node; the law ReadFits, as the machine answers it; no condition but the sizes that a machine has. -/
import Derived.Test.YtppmpfddcohkjaaDoorPTx3
namespace Go.Proofs.YtppmpfddcohkjaaDoorP
open Go Go.Proofs.YtppmpfddcohkjaaDoorA

/-- A row of an array that may be. -/
structure RowOf (f : Nat) (t : List Nod) (a : Int) (y : Arr) (r : Nat) : Prop where
  nd : need t a y < f
  may : arrB t a y = true
  lo : y.offset ≤ (r : Int)
  hi : r < rowsN y
/-- What a row's text is. -/
inductive RowT (f : Nat) (t : List Nod) (i : Nat) : List UInt8 → Prop
  | null (h : nul t i = true) : RowT f t i [110]
  | kid (y : Arr) (r : Nat) (h : RowOf f t (i : Int) y r) : RowT f t i (valA f t (i : Int) y r)
  | int (h : knd t i = 0) (z : Int) (h0 : -9223372036854775808 ≤ z) (h1 : z ≤ 9223372036854775807) : RowT f t i (intT z)
  | bool (h : knd t i = 1) (b : Bool) : RowT f t i (boolT b)
  | bytes (h : knd t i = 2) (s : List UInt8) (hs : s.length ≤ 16) : RowT f t i (bytesT s)
  | list (h : knd t i = 3) (h1 : (kidsL t (i : Int)).length = 1) (vs : List (List UInt8)) (hl : vs.length ≤ 64) (hv : ∀ w ∈ vs, ∃ y r, RowOf f t (ksT t (i : Int) 0) y r ∧ w = valA f t (ksT t (i : Int) 0) y r) : RowT f t i (listT vs)
  | struct (h : knd t i = 4) (vs : List (List UInt8)) (hl : vs.length = (kidsL t (i : Int)).length) (hv : ∀ j (hj : j < vs.length), ∃ y r, RowOf f t (ksT t (i : Int) j) y r ∧ vs[j] = valA f t (ksT t (i : Int) j) y r) : RowT f t i (structT vs)
theorem row_is {f : Nat} {t : List Nod} {i : Nat} {x : Arr} {row : Nat} (h : RowOf (f + 1) t (i : Int) x row) : RowT f t i (valA (f + 1) t (i : Int) x row) := by
  obtain ⟨hf, hb, h0, hr⟩ := h
  obtain ⟨hn, hB⟩ := arrB_buf hb
  obtain ⟨hm, i', hi, e⟩ := nodeB_may hn
  have hii : i = i' := by omega
  subst hii
  have hrw := hB.rowsEq
  have hrl := hB.rowsN_le
  rw [valA_succ]
  by_cases hth : thereB x.valid row = false
  · rw [if_pos hth]
    refine .null ?_
    rcases hB.there with hv | hv
    · rw [hv] at hth; simp [thereB] at hth
    · have := hv.1; rw [Int.toNat_natCast] at this; exact this
  rw [if_neg hth]
  have hth' : thereB x.valid row = true := by simpa using hth
  by_cases hl1 : x.layout = 1
  · rw [if_pos hl1]
    obtain ⟨hO, hd'⟩ := arrB_one hb (by omega)
    rcases hd' with ⟨_, hd'⟩ | ⟨e, _⟩
    · obtain ⟨d1, d2, d3, d4⟩ := dictB_at hd' h0 hr hth'
      have hkl := arrB_len hO.may
      exact .kid _ _ ⟨by unfold need at hf ⊢; rw [if_neg (by omega)] at hf; rw [if_pos hO.flat]; omega, hO.may, by omega, by unfold rowsN; omega⟩
    · omega
  rw [if_neg hl1]
  by_cases hl2 : x.layout = 2
  · rw [if_pos hl2]
    obtain ⟨hO, hd'⟩ := arrB_one hb (by omega)
    rcases hd' with ⟨e, _⟩ | ⟨_, hd'⟩
    · omega
    · have hkl := arrB_len hO.may
      obtain ⟨m, m1, m2, m3, m4, m5⟩ := runB_at hd' (by omega) (row := row) (by omega)
      have hx := runFrom_spec m2 65 0 (by omega) (by omega)
      have hix : runIx x.data row ≤ m := hx.1
      exact .kid _ _ ⟨by unfold need at hf ⊢; rw [if_neg (by omega)] at hf; rw [if_pos hO.flat]; omega, hO.may, by omega, by unfold rowsN; omega⟩
  rw [if_neg hl2, Int.toNat_natCast]
  have hl0 := layout0 hb hl1 hl2
  have hP := arrB_plain hb hl0
  have hkd := hP.kind
  unfold kindM at hkd
  by_cases k0 : knd t i = 0
  · rw [if_pos k0]
    refine .int k0 _ ?_ ?_ <;> (unfold numOf; rw [IntKind.wrap_i64]; omega)
  rw [if_neg k0] at hkd ⊢
  by_cases k1 : knd t i = 1
  · rw [if_pos k1]; exact .bool k1 _
  rw [if_neg k1] at hkd ⊢
  by_cases k2 : knd t i = 2
  · rw [if_pos k2] at hkd ⊢
    have h16 := (endsB_at hkd hr).2.2.2.2.2 h0
    exact .bytes k2 _ (by rw [List.length_drop, List.length_take]; omega)
  rw [if_neg k2] at hkd ⊢
  by_cases k3 : knd t i = 3
  · rw [if_pos k3] at hkd ⊢
    simp only [Bool.and_eq_true] at hkd
    have he := endsB_at hkd.2 hr
    have h1 : (kidsL t (i : Int)).length = 1 := by
      have := (((mayT_iff t).1 hm).2.2 i hi).1
      unfold kidsB at this
      rw [k3] at this
      simpa using this
    have hk0 : 0 < x.kids.length := by rw [hP.kids]; omega
    have hmk := hP.may 0 hk0
    have hkl := arrB_len hmk
    have hnk := need_kid hm (x := x) (kidA x 0) (i := i) (j := 0) (by omega)
    refine .list k3 h1 _ (by rw [List.length_map, List.length_range']; omega) fun w hw => ?_
    obtain ⟨j, hj, rfl⟩ := List.mem_map.1 hw
    rw [List.mem_range'_1] at hj
    exact ⟨kidA x 0, (kidA x 0).offset.toNat + j, ⟨by omega, hmk, by omega, by unfold rowsN; omega⟩, rfl⟩
  rw [if_neg k3] at hkd ⊢
  simp only [Bool.and_eq_true, Bool.not_eq_true', List.any_eq_false, decide_eq_true_eq] at hkd
  have k4 : knd t i = 4 := by
    have hk := (((mayT_iff t).1 hm).2.1 i hi).1
    unfold kindB at hk
    simp only [Bool.and_eq_true, decide_eq_true_eq] at hk
    omega
  refine .struct k4 _ (by rw [List.length_map, List.length_range]) fun j hj => ?_
  rw [List.length_map, List.length_range] at hj
  have hj' : j < x.kids.length := by rw [hP.kids]; exact hj
  have hmk := hP.may j hj'
  have hkl := arrB_len hmk
  have hnk := need_kid hm (x := x) (kidA x j) hj
  have hlong := hkd.2.2 _ (kidA_mem hj')
  exact ⟨kidA x j, (kidA x j).offset.toNat + row, ⟨by omega, hmk, by omega, by unfold rowsN at hr ⊢; omega⟩, by simp⟩

/-- How deep a node's texts may be. -/
def dp (t : List Nod) (a : Int) : Nat := 5 - (wayL t a).length
theorem dp_kid {t : List Nod} (hm : mayT t = true) {i j : Nat} (hj : j < (kidsL t (i : Int)).length) : dp t (i : Int) = dp t (ksT t (i : Int) j) + 1 := by
  have hmem : ksT t (i : Int) j ∈ kidsL t (i : Int) := by unfold ksT; rw [getD_get hj]; exact List.getElem_mem hj
  obtain ⟨q, h1, _, h3, h4⟩ := mem_kidsL.1 hmem
  have hs := mayT_stands hm
  have hw := wayL_up hs h1
  have h5 := (((mayT_iff t).1 hm).2.2 q h1).2
  unfold dp
  rw [h4, hw, h3]
  rw [hw, h3] at h5
  simp only [List.length_cons] at h5 ⊢
  omega
theorem dp_le {t : List Nod} (hm : mayT t = true) {i : Nat} (hi : i < t.length) : dp t (i : Int) ≤ 4 := by
  have := wayL_length (mayT_stands hm) i hi
  unfold dp; omega
theorem valA_tx : ∀ (f : Nat) {t : List Nod} {a : Int} {x : Arr} {row : Nat}, RowOf f t a x row → Tx (dp t a) (valA f t a x row)
  | 0, _, _, _, _, h => absurd h.nd (Nat.not_lt_zero _)
  | f + 1, t, a, x, row, h => by
    obtain ⟨hn, hB⟩ := arrB_buf h.may
    obtain ⟨hm, i, hi, rfl⟩ := nodeB_may hn
    have hT := row_is h
    generalize valA (f + 1) t (i : Int) x row = v at hT
    cases hT with
    | null _ => exact Leafy.n.tx _
    | kid y r hy => exact valA_tx f hy
    | int _ z h0 h1 => exact (Leafy.i z h0 h1).tx _
    | bool _ b =>
      cases b with
      | false => exact Leafy.f.tx _
      | true => exact Leafy.t.tx _
    | bytes _ s hs => exact (Leafy.s s (by omega)).tx _
    | list _ h1 vs _ hv =>
      rw [dp_kid hm (i := i) (j := 0) (by omega)]
      refine .inr ⟨vs, fun w hw => ?_, .inl rfl⟩
      obtain ⟨y, r, hy, rfl⟩ := hv w hw
      exact valA_tx f hy
    | struct h4 vs hl hv =>
      have hk : 0 < (kidsL t (i : Int)).length := by
        have := (((mayT_iff t).1 hm).2.2 i hi).1
        unfold kidsB at this
        rw [h4] at this
        simp only [Bool.and_eq_true, Bool.or_eq_true, Bool.not_eq_true', beq_eq_false_iff_ne] at this
        rcases this.2 with h | h
        · simp at h
        · omega
      rw [dp_kid hm (i := i) (j := 0) hk]
      refine .inr ⟨vs, fun w hw => ?_, .inr rfl⟩
      obtain ⟨j, hj, rfl⟩ := List.mem_iff_getElem.1 hw
      obtain ⟨y, r, hy, e⟩ := hv j hj
      rw [e]
      have := valA_tx f hy
      have e1 := dp_kid hm (i := i) (j := 0) hk
      have e2 := dp_kid hm (i := i) (j := j) (by omega)
      rw [show dp t (ksT t (i : Int) 0) = dp t (ksT t (i : Int) j) by omega]
      exact this


theorem Fits_leaf {k n : Nat} {t : List Nod} {ps : List (List UInt8)} {ks : List Int} {kd : Int} (hk : 2 ≤ k) (hin : inner kd = false) : quiverref7_Fits.l0 idb k (n + 1) kd 0 t ps ks = some true := by
  rw [quiverref7_Fits.l0_eq, ref_IsLeaf_ok (by omega), hin]
  cases decide ((0 : Int) < (ps.length : Int)) <;> rfl
theorem Fits_ok : ∀ (f : Nat) {t : List Nod} {a : Int} {x : Arr} {row : Nat}, RowOf f t a x row → ∀ k, 100400 + f ≤ k → quiverref7_Fits.f idb k t a (valA f t a x row) = some true
  | 0, _, _, _, _, h, _, _ => absurd h.nd (Nat.not_lt_zero _)
  | f + 1, t, a, x, row, h, k, hk => by
    obtain ⟨hn, hB⟩ := arrB_buf h.may
    obtain ⟨hm, i, hi, rfl⟩ := nodeB_may hn
    have hT := row_is h
    have hlen := valA_row h.nd h.may h.lo h.hi
    generalize valA (f + 1) t (i : Int) x row = v at hT hlen
    obtain ⟨k, rfl⟩ : ∃ q, k = q + 1 := ⟨k - 1, by omega⟩
    obtain ⟨k, rfl⟩ : ∃ q, k = q + 1 := ⟨k - 1, by omega⟩
    have hd4 := dp_le hm hi
    have pre : ∀ {kd : Int} {ps : List (List UInt8)}, quiverref7_Parts.f idb (k + 1) v = some (kd, ps, 0) → ¬ kd < 0 → kd = knd t i →
        (kd = 2 → ∃ l, ps = [l] ∧ l.length ≤ 16) → (kd = 3 → ps.length ≤ 64) → (kd = 4 → ps.length = (kidsL t (i : Int)).length) →
        quiverref7_Fits.f idb (k + 1 + 1) t (i : Int) v = quiverref7_Fits.l0 idb (k + 1) (k + 1) kd 0 t ps (kidsL t (i : Int)) := by
      intro kd ps hp hn0 hkd h2 h3 h4
      rw [quiverref7_Fits.f_eq, ref_NodeMay_ok (by omega), bS, hn, Bool.not_true, cF, rd_get hi, bS, hp, bS]
      simp only
      rw [show ((0 : Int) != 0) = false from rfl, cF, dF hn0, cF, ref_Kids_ok (by omega), bS, knd_get hi]
      unfold kidsT
      rw [if_pos hn]
      simp only
      rw [show (kd != knd t i) = false by rw [hkd]; simp, Bool.not_false, cT]
      by_cases k2 : kd = 2
      · obtain ⟨l, rfl, hl⟩ := h2 k2
        rw [k2, show ((2 : Int) == 2) = true from rfl, cT, show (decide ((0 : Nat) ≤ 0) && decide ((0 : Int) < (([l] : List (List UInt8)).length : Int))) = true from rfl, cT, show ([l] : List (List UInt8))[0]? = some l from rfl, bS, dF (by omega), Bool.not_false, cT,
          show ((2 : Int) == 3) = false from rfl, cF, show ((2 : Int) == 4) = false from rfl, cF]
      · rw [show (kd == 2) = false by rw [beq_eq_false_iff_ne]; exact k2, cF]
        by_cases k3 : kd = 3
        · have := h3 k3
          rw [k3, show ((3 : Int) == 3) = true from rfl, cT, dF (by omega), Bool.not_false, cT, show ((3 : Int) == 4) = false from rfl, cF]
        · rw [show (kd == 3) = false by rw [beq_eq_false_iff_ne]; exact k3, cF]
          by_cases k4 : kd = 4
          · rw [k4, show ((4 : Int) == 4) = true from rfl, cT, show ((ps.length : Int) != ((kidsL t (i : Int)).length : Int)) = false by rw [h4 k4]; simp, cF]
          · rw [show (kd == 4) = false by rw [beq_eq_false_iff_ne]; exact k4, cF]
    cases hT with
    | null hnul =>
      rw [quiverref7_Fits.f_eq, ref_NodeMay_ok (by omega), bS, hn, Bool.not_true, cF, rd_get hi, bS, Parts_nil (by omega), bS]
      simp only
      rw [show ((0 : Int) != 0) = false from rfl, cF, dT (by omega), cT, nul_get hi, hnul]
    | kid y r hy => exact Fits_ok f hy _ (by omega)
    | int h0 z z0 z1 =>
      obtain ⟨ps, hp⟩ := Parts_int (k := k + 1) (by omega) z0 z1
      rw [pre hp (by omega) h0.symm (by omega) (by omega) (by omega)]
      exact Fits_leaf (by omega) rfl
    | bool h1 b =>
      rw [pre (Parts_bool (by omega) b) (by omega) h1.symm (by omega) (by omega) (by omega)]
      exact Fits_leaf (by omega) rfl
    | bytes h2 s hs =>
      rw [pre (Parts_bytes (by omega) (by omega)) (by omega) h2.symm (fun _ => ⟨s, rfl, hs⟩) (by omega) (by omega)]
      exact Fits_leaf (by omega) rfl
    | list h3 h1 vs hl hv =>
      have hd := dp_kid hm (i := i) (j := 0) (by omega)
      have hfl : vs.flatten.length ≤ 65000 := by unfold listT at hlen; simp only [List.length_append, List.length_cons, List.length_nil] at hlen; omega
      have hp := Parts_row (k := k + 1) (by omega) (d := dp t (ksT t (i : Int) 0)) (by omega) (vs := vs) (fun w hw => by obtain ⟨y, r, hy, rfl⟩ := hv w hw; exact valA_tx f hy) true hfl
      simp only [if_true] at hp
      rw [pre hp (by omega) h3.symm (by omega) (fun _ => hl) (by omega)]
      have hks0 := ksT_get (t := t) (a := (i : Int)) (j := 0) (by omega)
      refine loop_up (F := fun n j => quiverref7_Fits.l0 idb (k + 1) n 3 (j : Int) t vs (kidsL t (i : Int))) (N := vs.length) ?_ ?_ (k + 1) 0 (by omega) (by omega)
      · intro n j hj
        obtain ⟨y, r, hy, e⟩ := hv _ (List.getElem_mem hj)
        have e1 : (decide ((0 : Nat) ≤ 0) && decide ((0 : Int) < ((kidsL t (i : Int)).length : Int))) = true := by rw [h1]; decide
        rw [quiverref7_Fits.l0_eq, dT (by omega), cT, ref_IsLeaf_ok (by omega), bS, show (!(!inner 3)) = true from rfl, cT, e1, cT, hks0, bS, show ((3 : Int) == 4) = false from rfl, cF, dT (by omega)]
        simp only [Bool.and_self, cT, Int.toNat_natCast]
        rw [List.getElem?_eq_getElem hj, bS, e, Fits_ok f hy _ (by omega), bS, Bool.not_true, cF, wsucc (by omega)]
      · intro n
        rw [quiverref7_Fits.l0_eq, dF (by omega), cF]
    | struct h4 vs hl hv =>
      have hk0 : 0 < (kidsL t (i : Int)).length := by
        have := (((mayT_iff t).1 hm).2.2 i hi).1
        unfold kidsB at this
        rw [h4] at this
        simp only [Bool.and_eq_true, Bool.or_eq_true, Bool.not_eq_true', beq_eq_false_iff_ne] at this
        rcases this.2 with h | h
        · simp at h
        · omega
      have hd := dp_kid hm (i := i) (j := 0) hk0
      have hfl : vs.flatten.length ≤ 65000 := by unfold structT at hlen; simp only [List.length_append, List.length_cons, List.length_nil] at hlen; omega
      have hp := Parts_row (k := k + 1) (by omega) (d := dp t (ksT t (i : Int) 0)) (by omega) (vs := vs) (fun w hw => by
        obtain ⟨j, hj, rfl⟩ := List.mem_iff_getElem.1 hw
        obtain ⟨y, r, hy, e⟩ := hv j hj
        rw [e]
        have := valA_tx f hy
        have e2 := dp_kid hm (i := i) (j := j) (by omega)
        rw [show dp t (ksT t (i : Int) 0) = dp t (ksT t (i : Int) j) by omega]
        exact this) false hfl
      simp only [Bool.false_eq_true, if_false] at hp
      rw [pre hp (by omega) h4.symm (by omega) (by omega) (fun _ => hl)]
      have hkk := kidsU_length t (i : Int) t.length
      have htl := mayT_length hm
      have hkl : (kidsL t (i : Int)).length ≤ 8 := by unfold kidsL; omega
      have hks0 := ksT_get (t := t) (a := (i : Int)) (j := 0) (by omega)
      refine loop_up (F := fun n j => quiverref7_Fits.l0 idb (k + 1) n 4 (j : Int) t vs (kidsL t (i : Int))) (N := vs.length) ?_ ?_ (k + 1) 0 (by omega) (by omega)
      · intro n j hj
        obtain ⟨y, r, hy, e⟩ := hv j hj
        have hksj := ksT_get (t := t) (a := (i : Int)) (j := j) (by omega)
        have e1 : (decide ((0 : Nat) ≤ 0) && decide ((0 : Int) < ((kidsL t (i : Int)).length : Int))) = true := by rw [dT (show (0 : Nat) ≤ 0 by omega), dT (by omega)]; rfl
        rw [quiverref7_Fits.l0_eq, dT (by omega), cT, ref_IsLeaf_ok (by omega), bS, show (!(!inner 4)) = true from rfl, cT, e1, cT, hks0, bS, show ((4 : Int) == 4) = true from rfl, cT, dT (show (j : Int) < ((kidsL t (i : Int)).length : Int) by omega), dT (show (0 : Int) ≤ (j : Int) by omega)]
        simp only [Bool.and_self, cT, Int.toNat_natCast]
        rw [hksj, bS, List.getElem?_eq_getElem hj, bS, e, Fits_ok f hy _ (by omega), bS, Bool.not_true, cF, wsucc (by omega)]
      · intro n
        rw [quiverref7_Fits.l0_eq, dF (by omega), cF]

theorem pure_ReadFits (t : List Nod) (a : Int) (x : Arr) (hx : RoomyA x) : ∃ k, quiverlaw9_ReadFits.f idb k t a x = some true := by
  refine ⟨101000 + 1, ?_⟩
  rw [quiverlaw9_ReadFits.f_eq, awake9' (by omega), bS, Bool.not_true, cF, read_Values_ok hx (by omega), bS, Num_ok (by omega), bS]
  unfold valsT
  cases hb : arrB t a x with
  | false => rfl
  | true =>
    have hl := arrB_len hb
    obtain ⟨hn, _⟩ := arrB_buf hb
    have hnd := need_lt (x := x) hn
    have hvl : (valsA t a x).length = x.length.toNat := by unfold valsA; rw [List.length_map, List.length_range]
    rw [if_pos rfl]
    simp only
    rw [show ((0 : Int) != 0) = false from rfl, cF, show (((valsA t a x).length : Int) != x.length) = false by rw [hvl, bne_eq_false_iff_eq]; omega, cF]
    refine loop_up (F := fun n i => quiverlaw9_ReadFits.l0 idb 101000 n a (i : Int) t x.layout x.offset x.length x.valid x.ends x.data x.kids (valsA t a x)) (N := (valsA t a x).length) ?_ ?_ 101000 0 (by omega) (by omega)
    · intro n i hi
      have hv : (valsA t a x)[i]? = some (valA 20 t a x (x.offset.toNat + i)) := by
        unfold valsA
        rw [List.getElem?_map, List.getElem?_range (by omega)]
        rfl
      have hvt : valueT t a x (i : Int) = (valA 20 t a x (x.offset.toNat + i), 0) := by
        unfold valueT
        rw [if_pos ⟨hb, by omega, by omega⟩, show (x.offset + (i : Int)).toNat = x.offset.toNat + i by omega]
      rw [quiverlaw9_ReadFits.l0_eq, dT (by omega), cT, Arr.eta, read_Value_ok hx (by omega), bS, hvt, Num_ok (by omega), bS]
      simp only
      rw [show (!((0 : Int) != 0)) = true from rfl, cT, dT (by omega), Bool.and_true, cT, Int.toNat_natCast, hv, bS, bne_self_eq_false, Bool.not_false, cT, Fits_ok 20 ⟨by omega, hb, by omega, by unfold rowsN; omega⟩ _ (by omega), bS, Bool.not_true, cF, wsucc (by omega)]
    · intro n
      rw [quiverlaw9_ReadFits.l0_eq, dF (by omega), cF]

end Go.Proofs.YtppmpfddcohkjaaDoorP
