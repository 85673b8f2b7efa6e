/- Reading: the functions told; the laws Reads and ReadForms, as the machine answers them; no condition but the sizes that a machine has. -/
import Derived.Test.YtppmpfddcohkjaaDoorPRd2
namespace Go.Proofs.YtppmpfddcohkjaaDoorP
open Go Go.Proofs.YtppmpfddcohkjaaDoorA

/-- What a row is told as. -/
def valueT (t : List Nod) (a : Int) (x : Arr) (row : Int) : List UInt8 × Int :=
  if arrB t a x = true ∧ 0 ≤ row ∧ row < x.length then (valA 20 t a x (x.offset + row).toNat, 0) else ([], 900)
theorem read_Value_ok {t : List Nod} {a : Int} {x : Arr} (hx : RoomyA x) {k : Nat} (hk : 1001 ≤ k) (row : Int) : read_Value.f idb k t a x row = some (valueT t a x row) := by
  obtain ⟨k, rfl⟩ : ∃ m, k = m + 1 := ⟨k - 1, by omega⟩
  rw [read_Value.f_eq, May_ok hx (by omega), bS]
  unfold valueT
  cases hb : arrB t a x with
  | false => rw [if_neg (by simp)]; rfl
  | true =>
    have hl := arrB_len hb
    obtain ⟨hn, _⟩ := arrB_buf hb
    have hnd := need_lt (x := x) hn
    rw [Bool.not_true, Bool.not_false, cT]
    by_cases h0 : row < 0
    · rw [dT h0, Bool.not_true, cF, if_neg (by omega)]
    rw [dF h0, Bool.not_false, cT]
    by_cases h1 : row ≥ x.length
    · rw [dT h1, cT, if_neg (by omega)]
    rw [dF h1, cF, if_pos ⟨rfl, by omega, by omega⟩, row_text (by omega) t a x (by omega)]
    have hv := read_text_ok 20 t a x (x.offset + row).toNat (by omega) hb (by omega) (by unfold rowsN; omega) (k - 1) (by omega)
    rw [show (((x.offset + row).toNat : Nat) : Int) = x.offset + row by omega] at hv
    rw [hv, bS]
theorem read_Values_ok {t : List Nod} {a : Int} {x : Arr} (hx : RoomyA x) {k : Nat} (hk : 1001 ≤ k) : read_Values.f idb k t a x = some (valsT t a x) := by
  obtain ⟨k, rfl⟩ : ∃ m, k = m + 1 := ⟨k - 1, by omega⟩
  rw [read_Values.f_eq, May_ok hx (by omega), bS]
  unfold valsT
  cases hb : arrB t a x with
  | false => rfl
  | true =>
    rw [Bool.not_true, cF, if_pos rfl]
    have hl := arrB_len hb
    obtain ⟨hn, _⟩ := arrB_buf hb
    have hnd := need_lt (x := x) hn
    have key := loop_up (F := fun n i => read_Values.l0 idb k n a x.length (i : Int) t x.layout x.offset x.valid x.ends x.data x.kids ((List.range i).map fun i => valA 20 t a x (x.offset.toNat + i))) (N := x.length.toNat) (r := some (valsA t a x, 0)) ?_ ?_ k 0 (by omega) (by omega)
    · exact key
    · intro n i hi
      have hv := read_text_ok 20 t a x (x.offset.toNat + i) (by omega) hb (by omega) (by unfold rowsN; omega) (k - 1) (by omega)
      rw [show (((x.offset.toNat + i : Nat)) : Int) = x.offset + (i : Int) by omega] at hv
      rw [read_Values.l0_eq, dT (by omega), cT, Arr.eta, row_text (by omega) t a x (by omega), hv, bS, append_room (by simp; omega), cT, wsucc (by omega), List.range_succ, List.map_append]
      rfl
    · intro n
      rw [read_Values.l0_eq, dF (by omega), cF]
      rfl
theorem ref_Value_ok {t : List Nod} {a : Int} {x : Arr} (hx : RoomyA x) {k : Nat} (hk : 1001 ≤ k) (row : Int) : quiverref7_Value.f idb k t a x row = some (valueT t a x row) := by
  obtain ⟨k, rfl⟩ : ∃ m, k = m + 1 := ⟨k - 1, by omega⟩
  rw [quiverref7_Value.f_eq, ref_May_ok' hx (by omega), bS]
  unfold valueT
  cases hb : arrB t a x with
  | false => rw [if_neg (by simp)]; rfl
  | true =>
    have hl := arrB_len hb
    obtain ⟨hn, _⟩ := arrB_buf hb
    have hnd := need_lt (x := x) hn
    rw [Bool.not_true, Bool.not_false, cT]
    by_cases h0 : row < 0
    · rw [dT h0, Bool.not_true, cF, if_neg (by omega)]
    rw [dF h0, Bool.not_false, cT]
    by_cases h1 : row ≥ x.length
    · rw [dT h1, cT, if_neg (by omega)]
    rw [dF h1, cF, if_pos ⟨rfl, by omega, by omega⟩]
    have hv := ref_value_ok 20 t a x (x.offset + row).toNat (by omega) hb (by omega) (by unfold rowsN; omega) k (by omega)
    rw [show (((x.offset + row).toNat : Nat) : Int) - x.offset = row by omega] at hv
    rw [hv, bS]

theorem awake9 (m : Nat) : quiverlaw9_awake.f idb (m + 80) = some true := by kernel_rfl
theorem awake9' {k : Nat} (hk : 80 ≤ k) : quiverlaw9_awake.f idb k = some true := by
  obtain ⟨k, rfl⟩ : ∃ m, k = m + 80 := ⟨k - 80, by omega⟩
  exact awake9 k
theorem valsT_len {t : List Nod} {a : Int} {x : Arr} : (valsT t a x).1.length ≤ 64 := by
  unfold valsT
  split
  · rename_i hb
    have := arrB_len hb
    unfold valsA
    simp only [List.length_map, List.length_range]; omega
  · simp
theorem pure_Reads (t : List Nod) (a : Int) (x : Arr) (row : Int) (hx : RoomyA x) : ∃ k, quiverlaw9_Reads.f idb k t a x row = some true := by
  obtain ⟨d, hd⟩ := fits_ex x
  refine ⟨d + 2000, ?_⟩
  have hl := valsT_len (t := t) (a := a) (x := x)
  rw [show d + 2000 = (d + 1999) + 1 from rfl, quiverlaw9_Reads.f_eq, CopyArray_ok d x hd hx _ (by omega), bS, read_Value_ok hx (by omega), bS, ref_Value_ok hx (by omega), bS, read_Values_ok hx (by omega), bS, ref_Values_ok hx (by omega), bS]
  simp only [BEq.rfl, cT]
  rw [Num_ok (by omega), bS, BEq.rfl, cT, SameTexts_refl _ (by omega) (by omega), bS, cT, Num_ok (by omega), bS, BEq.rfl, cT, SameArray_ok d x hd hx _ (by omega), bS, cT, awake9' (by omega), bS]

theorem and1023 (x : Int) : 0 ≤ bitsOp .and .i64 x 1023 ∧ bitsOp .and .i64 x 1023 ≤ 1023 := by
  have e : bitsOp .and .i64 x 1023 = x % 1024 := and_mask x 10 (by omega)
  omega
theorem pure_ReadForms (t : List Nod) (a : Int) (x : Arr) (y : Int) (hx : RoomyA x) : ∃ k, quiverlaw9_ReadForms.f idb k t a x y = some true := by
  refine ⟨2000 + 1, ?_⟩
  obtain ⟨b1, b2⟩ := and1023 y
  have v1 : valueT t a x (IntKind.i64.wrap (0 - (IntKind.i64.wrap (1 + (bitsOp .and .i64 y 1023))))) = ([], 900) := by
    unfold valueT
    rw [if_neg]
    rintro ⟨hb, h1, h2⟩
    rw [wi64 (1 + _) (by omega), wi64 _ (by omega)] at h1
    omega
  have v2 : valueT t a x (IntKind.i64.wrap (64 + (IntKind.i64.wrap (1 + (bitsOp .and .i64 y 1023))))) = ([], 900) := by
    unfold valueT
    rw [if_neg]
    rintro ⟨hb, h1, h2⟩
    have := arrB_len hb
    rw [wi64 (1 + _) (by omega), wi64 _ (by omega)] at h2
    omega
  have v3 : valueT t (t.length : Int) x 0 = ([], 900) := by
    unfold valueT
    rw [if_neg]
    rintro ⟨hb, _, _⟩
    obtain ⟨hn, _⟩ := arrB_buf hb
    obtain ⟨_, i, hi, e⟩ := nodeB_may hn
    omega
  rw [quiverlaw9_ReadForms.f_eq, awake9' (by omega), bS, Bool.not_true, cF, read_Value_ok hx (by omega), bS, read_Value_ok hx (by omega), bS, read_Value_ok hx (by omega), bS, v1, v2, v3]
  simp only [BEq.rfl, cT]
  rw [Num_ok (by omega)]
  rfl

end Go.Proofs.YtppmpfddcohkjaaDoorP
