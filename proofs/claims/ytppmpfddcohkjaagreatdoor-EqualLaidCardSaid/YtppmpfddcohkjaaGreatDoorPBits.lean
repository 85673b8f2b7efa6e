/- Values as trees: their texts, what a node's values are; what the parts of any text are, and when it fits; no condition but the sizes that a machine has. Values as trees: the texts that fit a node are those of its values; no condition but the sizes that a machine has. Truths as bits: what BitsOf answers, and what its bits are; no condition but the sizes that a machine has. -/
import Derived.Test.YtppmpfddcohkjaaGreatDoorPAny2
namespace Go.Proofs.YtppmpfddcohkjaaGreatDoorP
open Go Go.Proofs.YtppmpfddcohkjaaGreatDoorA

/-- What a text's parts are. -/
inductive Shape : List UInt8 → Int → List (List UInt8) → Prop
  | n : Shape [110] (-1) []
  | i (x : Int) (h : In64 x) : Shape (intT x) 0 [digT x]
  | b (b : Bool) : Shape (boolT b) 1 [boolT b]
  | s (l : List UInt8) : Shape (bytesT l) 2 [l]
  | l (vs : List (List UInt8)) (h : ∀ w ∈ vs, Tx 3 w) : Shape (listT vs) 3 vs
  | r (vs : List (List UInt8)) (h : ∀ w ∈ vs, Tx 3 w) : Shape (structT vs) 4 vs
theorem Parts_int' {k : Nat} (hk : 100301 ≤ k) {x : Int} (h : In64 x) : quiverref7_Parts.f idb k (intT x) = some (0, [digT x], 0) := by
  obtain ⟨h0, h1⟩ := h
  obtain ⟨k, rfl⟩ : ∃ q, k = q + 1 := ⟨k - 1, by omega⟩
  obtain ⟨c1, _⟩ := digT_chars h0 h1
  have hlen : (intT x).length = (digT x).length + 2 := by unfold intT; simp only [List.length_append, List.length_cons, List.length_nil]; omega
  have := end_whole (k := k) (by omega) ((Leafy.i x h0 h1).tx 4) (by omega)
  have hh : At (intT x) 0 (105 :: (digT x ++ [59])) := At.whole _
  have hd := hh.head
  rw [show ((0 : Nat) : Int) = 0 from rfl] at hd
  have hs : At (intT x) 1 (digT x ++ [59]) := At.right (a := [105]) hh
  have hsl := hs.left.slice
  rw [quiverref7_Parts.f_eq, dF (by omega), Bool.not_false, cT, this, bS, show (((intT x).length : Int) != ((intT x).length : Int)) = false by simp, cF, hd, bS, show (((105 : UInt8).toNat : Int)) = 105 from rfl]
  simp only [show ((105 : Int) == 110) = false from by decide, BEq.rfl, cT, cF]
  rw [wi64 _ (by omega), dT (by omega), dT (by omega), dT (show (0 : Nat) ≤ 1 by omega), dT (by omega)]
  simp only [Bool.and_self, cT]
  rw [show ((((intT x).length : Nat) : Int) - 1).toNat = 1 + (digT x).length by omega, hsl]
theorem Parts_shape {k : Nat} (hk : 100301 ≤ k) {v : List UInt8} {kd : Int} {ps : List (List UInt8)} (h : Shape v kd ps) (hl : v.length ≤ 65536) : quiverref7_Parts.f idb k v = some (kd, ps, 0) := by
  cases h with
  | n => exact Parts_nil hk
  | i x h => exact Parts_int' hk h
  | b b => exact Parts_bool hk b
  | s l => exact Parts_bytes' hk hl
  | l vs h =>
    have := Parts_row hk (d := 3) (by omega) h true (by unfold listT at hl; simp only [List.length_append, List.length_cons, List.length_nil] at hl; omega)
    simpa using this
  | r vs h =>
    have := Parts_row hk (d := 3) (by omega) h false (by unfold structT at hl; simp only [List.length_append, List.length_cons, List.length_nil] at hl; omega)
    simpa using this
theorem Tx.shape {v : List UInt8} (h : Tx 4 v) : ∃ kd ps, Shape v kd ps := by
  rcases h with h | ⟨vs, hvs, rfl | rfl⟩
  · cases h with
    | n => exact ⟨_, _, .n⟩
    | t => exact ⟨_, _, .b true⟩
    | f => exact ⟨_, _, .b false⟩
    | i x h0 h1 => exact ⟨_, _, .i x ⟨h0, h1⟩⟩
    | s l => exact ⟨_, _, .s l⟩
  · exact ⟨_, _, .l vs hvs⟩
  · exact ⟨_, _, .r vs hvs⟩
/-! ### Trees -/
inductive Vl where
  | n
  | i (x : Int)
  | b (b : Bool)
  | s (l : List UInt8)
  | l (vs : List Vl)
  | r (vs : List Vl)
mutual
def Vl.txt : Vl → List UInt8
  | .n => [110]
  | .i x => intT x
  | .b c => boolT c
  | .s y => bytesT y
  | .l vs => [91] ++ Vl.txts vs ++ [93]
  | .r vs => [123] ++ Vl.txts vs ++ [125]
def Vl.txts : List Vl → List UInt8
  | [] => []
  | v :: vs => v.txt ++ Vl.txts vs
end
theorem txts_map : ∀ vs : List Vl, Vl.txts vs = (vs.map Vl.txt).flatten
  | [] => by simp [Vl.txts]
  | v :: vs => by rw [Vl.txts, txts_map vs]; rfl
theorem txt_l (vs : List Vl) : (Vl.l vs).txt = listT (vs.map Vl.txt) := by rw [Vl.txt, txts_map]; rfl
theorem txt_r (vs : List Vl) : (Vl.r vs).txt = structT (vs.map Vl.txt) := by rw [Vl.txt, txts_map]; rfl

/-- May a value be a node's? -/
def Typed : Nat → List Nod → Int → Vl → Prop
  | 0, _, _, _ => False
  | f + 1, t, a, v => nodeB t a = true ∧ match v with
    | .n => nul t a.toNat = true
    | .i x => knd t a.toNat = 0 ∧ In64 x
    | .b _ => knd t a.toNat = 1
    | .s l => knd t a.toNat = 2 ∧ l.length ≤ 16
    | .l vs => knd t a.toNat = 3 ∧ vs.length ≤ 64 ∧ ∀ w ∈ vs, Typed f t (ksT t a 0) w
    | .r vs => knd t a.toNat = 4 ∧ vs.length = (kidsL t a).length ∧ ∀ j (h : j < vs.length), Typed f t (ksT t a j) vs[j]

theorem kid1 {t : List Nod} (hm : mayT t = true) {i : Nat} (hi : i < t.length) (h : knd t i = 3) : (kidsL t (i : Int)).length = 1 := by
  have := (((mayT_iff t).1 hm).2.2 i hi).1
  unfold kidsB at this
  rw [h] at this
  simp only [Bool.and_eq_true, Bool.or_eq_true, Bool.not_eq_true', beq_eq_false_iff_ne, beq_iff_eq] at this
  rcases this.1 with h | h
  · exact absurd rfl h
  · exact h
theorem kid4 {t : List Nod} (hm : mayT t = true) {i : Nat} (hi : i < t.length) (h : knd t i = 4) : 0 < (kidsL t (i : Int)).length := by
  have := (((mayT_iff t).1 hm).2.2 i hi).1
  unfold kidsB at this
  rw [h] at this
  simp only [Bool.and_eq_true, Bool.or_eq_true, Bool.not_eq_true', beq_eq_false_iff_ne] at this
  rcases this.2 with h | h
  · simp at h
  · omega
theorem Typed.tx : ∀ (f : Nat) {t : List Nod} {a : Int} {v : Vl}, Typed f t a v → Tx (dp t a) v.txt
  | 0, _, _, _, h => h.elim
  | f + 1, t, a, v, h => by
    obtain ⟨hn, h⟩ := h
    obtain ⟨hm, i, hi, rfl⟩ := nodeB_may hn
    rw [Int.toNat_natCast] at h
    cases v with
    | n => rw [Vl.txt]; exact Leafy.n.tx _
    | i x => rw [Vl.txt]; exact (Leafy.i x h.2.1 h.2.2).tx _
    | b b =>
      rw [Vl.txt]
      cases b with
      | false => exact Leafy.f.tx _
      | true => exact Leafy.t.tx _
    | s l => rw [Vl.txt]; exact (Leafy.s l (by have := h.2; omega)).tx _
    | l vs =>
      obtain ⟨h3, h64, h⟩ := h
      rw [txt_l, dp_kid hm (i := i) (j := 0) (by rw [kid1 hm hi h3]; omega)]
      refine .inr ⟨_, fun w hw => ?_, .inl rfl⟩
      obtain ⟨u, hu, rfl⟩ := List.mem_map.1 hw
      exact (h u hu).tx f
    | r vs =>
      obtain ⟨h4, hl, h⟩ := h
      have hk := kid4 hm hi h4
      rw [txt_r, dp_kid hm (i := i) (j := 0) hk]
      refine .inr ⟨_, fun w hw => ?_, .inr rfl⟩
      obtain ⟨u, hu, rfl⟩ := List.mem_map.1 hw
      obtain ⟨j, hj, rfl⟩ := List.mem_iff_getElem.1 hu
      have := (h j hj).tx f
      have e1 := dp_kid hm (i := i) (j := 0) hk
      have e2 := dp_kid hm (i := i) (j := j) (by omega)
      rw [show dp t (ksT t (i : Int) 0) = dp t (ksT t (i : Int) j) by omega]
      exact this
/-- The parts of a node's value. -/
def Vl.kd : Vl → Int
  | .n => -1 | .i _ => 0 | .b _ => 1 | .s _ => 2 | .l _ => 3 | .r _ => 4
def Vl.ps : Vl → List (List UInt8)
  | .n => [] | .i x => [digT x] | .b c => [boolT c] | .s y => [y] | .l vs => vs.map Vl.txt | .r vs => vs.map Vl.txt
theorem Typed.shape {f : Nat} {t : List Nod} {a : Int} {v : Vl} (h : Typed f t a v) : Shape v.txt v.kd v.ps := by
  have htx := h.tx f
  cases f with
  | zero => exact h.elim
  | succ f =>
    obtain ⟨hn, h⟩ := h
    obtain ⟨hm, i, hi, rfl⟩ := nodeB_may hn
    have hd := dp_le hm hi
    rw [Int.toNat_natCast] at h
    cases v with
    | n => rw [Vl.txt]; exact .n
    | i x => rw [Vl.txt]; exact .i x h.2
    | b b => rw [Vl.txt]; exact .b b
    | s l => rw [Vl.txt]; exact .s l
    | l vs =>
      rw [txt_l]
      refine Shape.l (vs.map Vl.txt) fun w hw => ?_
      obtain ⟨u, hu, rfl⟩ := List.mem_map.1 hw
      have e := dp_kid hm (i := i) (j := 0) (by rw [kid1 hm hi h.1]; omega)
      exact ((h.2.2 u hu).tx f).up (by omega)
    | r vs =>
      rw [txt_r]
      refine Shape.r (vs.map Vl.txt) fun w hw => ?_
      obtain ⟨u, hu, rfl⟩ := List.mem_map.1 hw
      obtain ⟨j, hj, rfl⟩ := List.mem_iff_getElem.1 hu
      have e := dp_kid hm (i := i) (j := j) (by have := h.2.1; omega)
      exact ((h.2.2 j hj).tx f).up (by omega)
theorem Typed.parts {f k : Nat} (hk : 100301 ≤ k) {t : List Nod} {a : Int} {v : Vl} (h : Typed f t a v) (hl : v.txt.length ≤ 65536) : quiverref7_Parts.f idb k v.txt = some (v.kd, v.ps, 0) :=
  Parts_shape hk h.shape hl

end Go.Proofs.YtppmpfddcohkjaaGreatDoorP

namespace Go.Proofs.YtppmpfddcohkjaaGreatDoorP
open Go Go.Proofs.YtppmpfddcohkjaaGreatDoorA

theorem Fits_null {k : Nat} (hk : 100 ≤ k) {t : List Nod} {i : Nat} (hn : nodeB t (i : Int) = true) (hi : i < t.length) {v : List UInt8} {kd : Int} {ps : List (List UInt8)} (hp : quiverref7_Parts.f idb k v = some (kd, ps, 0)) (h0 : kd < 0) : quiverref7_Fits.f idb (k + 1) t (i : Int) v = some (nul t i) := by
  rw [quiverref7_Fits.f_eq, ref_NodeMay_ok (by omega), bS, hn, Bool.not_true, cF, rd_get hi, bS, hp, bS]
  simp only
  rw [show ((0 : Int) != 0) = false from rfl, cF, nul_get hi, dT h0, cT]
theorem Fits_leaves {k : Nat} (hk : 100 ≤ k) {t : List Nod} {i : Nat} (hn : nodeB t (i : Int) = true) (hi : i < t.length) {v : List UInt8} {kd : Int} {ps : List (List UInt8)} (hp : quiverref7_Parts.f idb k v = some (kd, ps, 0)) (h0 : 0 ≤ kd) (hkd : kd = knd t i) (h2 : kd < 2) : quiverref7_Fits.f idb (k + 1) t (i : Int) v = some true := by
  rw [quiverref7_Fits.f_eq, ref_NodeMay_ok (by omega), bS, hn, Bool.not_true, cF, rd_get hi, bS, hp, bS]
  simp only
  rw [show ((0 : Int) != 0) = false from rfl, cF, nul_get hi, dF (by omega), cF, ref_Kids_ok (by omega), bS, knd_get hi]
  unfold kidsT
  rw [if_pos hn]
  simp only
  obtain ⟨k, rfl⟩ : ∃ q, k = q + 1 := ⟨k - 1, by omega⟩
  rw [show (kd != knd t i) = false by rw [hkd]; simp, Bool.not_false, cT, show (kd == 2) = false by rw [beq_eq_false_iff_ne]; omega, cF, show (kd == 3) = false by rw [beq_eq_false_iff_ne]; omega, cF, show (kd == 4) = false by rw [beq_eq_false_iff_ne]; omega, cF,
    Fits_leaf (by omega) (by unfold inner; rw [show (kd == 3) = false by rw [beq_eq_false_iff_ne]; omega, show (kd == 4) = false by rw [beq_eq_false_iff_ne]; omega]; rfl)]
theorem Fits_bytes {k : Nat} (hk : 100 ≤ k) {t : List Nod} {i : Nat} (hn : nodeB t (i : Int) = true) (hi : i < t.length) {v : List UInt8} {l : List UInt8} (hp : quiverref7_Parts.f idb k v = some (2, [l], 0)) (hkd : knd t i = 2) : quiverref7_Fits.f idb (k + 1) t (i : Int) v = some (decide (l.length ≤ 16)) := by
  rw [quiverref7_Fits.f_eq, ref_NodeMay_ok (by omega), bS, hn, Bool.not_true, cF, rd_get hi, bS, hp, bS]
  simp only
  rw [show ((0 : Int) != 0) = false from rfl, cF, nul_get hi, dF (by omega), cF, ref_Kids_ok (by omega), bS, knd_get hi]
  unfold kidsT
  rw [if_pos hn]
  simp only
  obtain ⟨k, rfl⟩ : ∃ q, k = q + 1 := ⟨k - 1, by omega⟩
  rw [show ((2 : Int) != knd t i) = false by rw [hkd]; rfl, Bool.not_false, cT, show ((2 : Int) == 2) = true from rfl, cT, show (decide ((0 : Nat) ≤ 0) && decide ((0 : Int) < (([l] : List (List UInt8)).length : Int))) = true from rfl, cT, show ([l] : List (List UInt8))[0]? = some l from rfl, bS]
  by_cases hl : l.length ≤ 16
  · rw [dF (by omega), Bool.not_false, cT, show ((2 : Int) == 3) = false from rfl, cF, show ((2 : Int) == 4) = false from rfl, cF, Fits_leaf (by omega) rfl, dT hl]
  · rw [dT (show ((l.length : Int)) > 16 by omega), Bool.not_true, cF, dF hl]
theorem Fits_list {k : Nat} (hk : 100 ≤ k) {t : List Nod} {i : Nat} (hn : nodeB t (i : Int) = true) (hi : i < t.length) {v : List UInt8} {ps : List (List UInt8)} (hp : quiverref7_Parts.f idb k v = some (3, ps, 0)) (hkd : knd t i = 3) : quiverref7_Fits.f idb (k + 1) t (i : Int) v = if 64 < ps.length then some false else quiverref7_Fits.l0 idb k k 3 0 t ps (kidsL t (i : Int)) := by
  rw [quiverref7_Fits.f_eq, ref_NodeMay_ok (by omega), bS, hn, Bool.not_true, cF, rd_get hi, bS, hp, bS]
  simp only
  rw [show ((0 : Int) != 0) = false from rfl, cF, nul_get hi, dF (by omega), cF, ref_Kids_ok (by omega), bS, knd_get hi]
  unfold kidsT
  rw [if_pos hn]
  simp only
  rw [show ((3 : Int) != knd t i) = false by rw [hkd]; rfl, Bool.not_false, cT, show ((3 : Int) == 2) = false from rfl, cF, show ((3 : Int) == 3) = true from rfl, cT]
  by_cases hl : 64 < ps.length
  · rw [dT (by omega), Bool.not_true, cF, if_pos hl]
  · rw [dF (by omega), Bool.not_false, cT, if_neg hl]
    rfl
theorem Fits_struct {k : Nat} (hk : 100 ≤ k) {t : List Nod} {i : Nat} (hn : nodeB t (i : Int) = true) (hi : i < t.length) {v : List UInt8} {ps : List (List UInt8)} (hp : quiverref7_Parts.f idb k v = some (4, ps, 0)) (hkd : knd t i = 4) : quiverref7_Fits.f idb (k + 1) t (i : Int) v = if ps.length = (kidsL t (i : Int)).length then quiverref7_Fits.l0 idb k k 4 0 t ps (kidsL t (i : Int)) else some false := by
  rw [quiverref7_Fits.f_eq, ref_NodeMay_ok (by omega), bS, hn, Bool.not_true, cF, rd_get hi, bS, hp, bS]
  simp only
  rw [show ((0 : Int) != 0) = false from rfl, cF, nul_get hi, dF (by omega), cF, ref_Kids_ok (by omega), bS, knd_get hi]
  unfold kidsT
  rw [if_pos hn]
  simp only
  rw [show ((4 : Int) != knd t i) = false by rw [hkd]; rfl, Bool.not_false, cT, show ((4 : Int) == 2) = false from rfl, cF, show ((4 : Int) == 3) = false from rfl, cF, show ((4 : Int) == 4) = true from rfl, cT]
  by_cases hl : ps.length = (kidsL t (i : Int)).length
  · rw [show ((ps.length : Int) != ((kidsL t (i : Int)).length : Int)) = false by rw [hl]; simp, cF, if_pos hl]
  · rw [show ((ps.length : Int) != ((kidsL t (i : Int)).length : Int)) = true by rw [bne_iff_ne]; omega, cT, if_neg hl]

theorem Fits_tree : ∀ (f : Nat) {t : List Nod} {a : Int} {v : Vl}, Typed f t a v → v.txt.length ≤ 65536 → ∀ k, 100400 + f ≤ k → quiverref7_Fits.f idb k t a v.txt = some true
  | 0, _, _, _, h, _, _, _ => h.elim
  | f + 1, t, a, v, h, hlen, k, hk => by
    have hsh := h.shape
    obtain ⟨hn, h⟩ := h
    obtain ⟨hm, i, hi, rfl⟩ := nodeB_may hn
    rw [Int.toNat_natCast] at h
    obtain ⟨k, rfl⟩ : ∃ q, k = q + 1 := ⟨k - 1, by omega⟩
    obtain ⟨k, rfl⟩ : ∃ q, k = q + 1 := ⟨k - 1, by omega⟩
    have hp := Parts_shape (k := k + 1) (by omega) hsh hlen
    cases v with
    | n => rw [Fits_null (by omega) hn hi hp (by decide), h]
    | i x =>
      exact Fits_leaves (by omega) hn hi hp (show (0 : Int) ≤ 0 by decide) h.1.symm (show (0 : Int) < 2 by decide)
    | b b =>
      exact Fits_leaves (by omega) hn hi hp (show (0 : Int) ≤ 1 by decide) h.symm (show (1 : Int) < 2 by decide)
    | s l =>
      rw [Fits_bytes (by omega) hn hi hp h.1, dT h.2]
    | l vs =>
      obtain ⟨h3, h64, h⟩ := h
      have h1 := kid1 hm hi h3
      rw [txt_l] at hlen
      have hlen' : (vs.map Vl.txt).flatten.length + 2 = (listT (vs.map Vl.txt)).length := by unfold listT; simp only [List.length_append, List.length_cons, List.length_nil]; omega
      rw [Fits_list (by omega) hn hi hp h3, if_neg (by simp only [Vl.ps]; rw [List.length_map]; omega)]
      simp only [Vl.ps]
      have hks0 := ksT_get (t := t) (a := (i : Int)) (j := 0) (by omega)
      refine loop_up (F := fun n j => quiverref7_Fits.l0 idb (k + 1) n 3 (j : Int) t (vs.map Vl.txt) (kidsL t (i : Int))) (N := vs.length) ?_ ?_ (k + 1) 0 (by omega) (by omega)
      · intro n j hj
        have hw := h vs[j] (List.getElem_mem hj)
        have hwl : vs[j].txt.length ≤ (vs.map Vl.txt).flatten.length := by
          have := take_flatten_le (vs := vs.map Vl.txt) (j + 1)
          rw [cat_succ (by rw [List.length_map]; exact hj), List.getElem_map] at this
          omega
        have e1 : (decide ((0 : Nat) ≤ 0) && decide ((0 : Int) < ((kidsL t (i : Int)).length : Int))) = true := by rw [h1]; decide
        rw [quiverref7_Fits.l0_eq, dT (by rw [List.length_map]; omega), cT, ref_IsLeaf_ok (by omega), bS, show (!(!inner 3)) = true from rfl, cT, e1, cT, hks0, bS, show ((3 : Int) == 4) = false from rfl, cF, dT (by omega)]
        simp only [Bool.and_self, cT, Int.toNat_natCast]
        rw [List.getElem?_eq_getElem (by rw [List.length_map]; exact hj), bS, List.getElem_map, Fits_tree f hw (by omega) _ (by omega), bS, Bool.not_true, cF, wsucc (by omega)]
      · intro n
        rw [quiverref7_Fits.l0_eq, dF (by rw [List.length_map]; omega), cF]
    | r vs =>
      obtain ⟨h4, hvl, h⟩ := h
      have hk0 := kid4 hm hi h4
      rw [txt_r] at hlen
      have hlen' : (vs.map Vl.txt).flatten.length + 2 = (structT (vs.map Vl.txt)).length := by unfold structT; simp only [List.length_append, List.length_cons, List.length_nil]; omega
      rw [Fits_struct (by omega) hn hi hp h4, if_pos (by simp only [Vl.ps]; rw [List.length_map]; exact hvl)]
      simp only [Vl.ps]
      have hkk := kidsU_length t (i : Int) t.length
      have htl := mayT_length hm
      have hkl : (kidsL t (i : Int)).length ≤ 8 := by unfold kidsL; omega
      have hks0 := ksT_get (t := t) (a := (i : Int)) (j := 0) (by omega)
      refine loop_up (F := fun n j => quiverref7_Fits.l0 idb (k + 1) n 4 (j : Int) t (vs.map Vl.txt) (kidsL t (i : Int))) (N := vs.length) ?_ ?_ (k + 1) 0 (by omega) (by omega)
      · intro n j hj
        have hw := h j hj
        have hwl : vs[j].txt.length ≤ (vs.map Vl.txt).flatten.length := by
          have := take_flatten_le (vs := vs.map Vl.txt) (j + 1)
          rw [cat_succ (by rw [List.length_map]; exact hj), List.getElem_map] at this
          omega
        have hksj := ksT_get (t := t) (a := (i : Int)) (j := j) (by omega)
        have e1 : (decide ((0 : Nat) ≤ 0) && decide ((0 : Int) < ((kidsL t (i : Int)).length : Int))) = true := by rw [dT (show (0 : Nat) ≤ 0 by omega), dT (by omega)]; rfl
        rw [quiverref7_Fits.l0_eq, dT (by rw [List.length_map]; omega), cT, ref_IsLeaf_ok (by omega), bS, show (!(!inner 4)) = true from rfl, cT, e1, cT, hks0, bS, show ((4 : Int) == 4) = true from rfl, cT, dT (show (j : Int) < ((kidsL t (i : Int)).length : Int) by omega), dT (show (0 : Int) ≤ (j : Int) by omega)]
        simp only [Bool.and_self, cT, Int.toNat_natCast]
        rw [hksj, bS, List.getElem?_eq_getElem (by rw [List.length_map]; exact hj), bS, List.getElem_map, Fits_tree f hw (by omega) _ (by omega), bS, Bool.not_true, cF, wsucc (by omega)]
      · intro n
        rw [quiverref7_Fits.l0_eq, dF (by rw [List.length_map]; omega), cF]

theorem exists_map {α β : Type} {g : α → β} {p : α → Prop} : ∀ (l : List β), (∀ y ∈ l, ∃ x, p x ∧ y = g x) → ∃ m : List α, l = m.map g ∧ ∀ x ∈ m, p x
  | [], _ => ⟨[], rfl, fun x hx => by cases hx⟩
  | y :: l, h => by
    obtain ⟨x, hx, rfl⟩ := h y List.mem_cons_self
    obtain ⟨m, rfl, hm⟩ := exists_map l fun z hz => h z (List.mem_cons_of_mem _ hz)
    exact ⟨x :: m, rfl, fun z hz => by
      rcases List.mem_cons.1 hz with rfl | hz
      · exact hx
      · exact hm z hz⟩
end Go.Proofs.YtppmpfddcohkjaaGreatDoorP

namespace Go.Proofs.YtppmpfddcohkjaaGreatDoorP
open Go Go.Proofs.YtppmpfddcohkjaaGreatDoorA

theorem and1_u8' {x : Int} : bitsOp .and .u8 x 1 = x % 2 := by
  rw [bitsOp_and, wu8]
  have e1 : (1 % (2 ^ IntKind.u8.bits : Int)).toNat = 1 := by decide
  rw [e1, Nat.and_one_is_mod]
  simp only [IntKind.bits]
  omega
theorem fdiv_pow' (x : Int) (n : Nat) : Int.fdiv x (2 ^ n) = x / 2 ^ n := Int.fdiv_eq_ediv_of_nonneg _ (Int.le_of_lt (Int.pow_pos (by omega)))
/-- The first so many bits of a byte of truths. -/
def byteN (xs : List Bool) (q : Nat) : Nat → Nat
  | 0 => 0
  | n + 1 => byteN xs q n + (if xs[8 * q + n]? = some true then 2 ^ n else 0)
theorem byteN_lt (xs : List Bool) (q : Nat) : ∀ n, byteN xs q n < 2 ^ n
  | 0 => Nat.one_pos
  | n + 1 => by
    have := byteN_lt xs q n
    rw [byteN, Nat.pow_succ]
    split <;> omega
theorem byteN_bit (xs : List Bool) (q : Nat) : ∀ n r, byteN xs q n / 2 ^ r % 2 = if r < n ∧ xs[8 * q + r]? = some true then 1 else 0
  | 0, r => by rw [byteN, Nat.zero_div, if_neg (by omega)]
  | n + 1, r => by
    have hlt := byteN_lt xs q n
    have ih := byteN_bit xs q n r
    rw [byteN]
    by_cases hr : r < n
    · obtain ⟨d, hd⟩ : ∃ d, n = r + 1 + d := ⟨n - (r + 1), by omega⟩
      have e : ∀ z : Nat, (byteN xs q n + 2 ^ n * z) / 2 ^ r % 2 = byteN xs q n / 2 ^ r % 2 := by
        intro z
        have : 2 ^ n * z = 2 ^ r * (2 * (2 ^ d * z)) := by rw [hd, Nat.pow_add, Nat.pow_succ]; simp only [Nat.mul_assoc]
        rw [this, Nat.add_mul_div_left _ _ (Nat.two_pow_pos r), Nat.add_mul_mod_self_left]
      have h2 : (r < n + 1 ∧ xs[8 * q + r]? = some true) ↔ (r < n ∧ xs[8 * q + r]? = some true) := by constructor <;> rintro ⟨_, h⟩ <;> exact ⟨by omega, h⟩
      have goal : byteN xs q n / 2 ^ r % 2 = if r < n + 1 ∧ xs[8 * q + r]? = some true then 1 else 0 := by
        rw [ih]
        by_cases hx : xs[8 * q + r]? = some true
        · rw [if_pos ⟨hr, hx⟩, if_pos ⟨by omega, hx⟩]
        · rw [if_neg (fun h => hx h.2), if_neg (fun h => hx h.2)]
      split
      · have := e 1; rw [Nat.mul_one] at this; rw [this]; exact goal
      · rw [Nat.add_zero]; exact goal
    · by_cases hrn : r = n
      · subst hrn
        by_cases hx : xs[8 * q + r]? = some true
        · rw [if_pos hx, if_pos ⟨by omega, hx⟩, Nat.add_div_right _ (Nat.two_pow_pos r), Nat.div_eq_of_lt hlt]
        · rw [if_neg hx, if_neg (fun h => hx h.2), Nat.add_zero, Nat.div_eq_of_lt hlt]
      · have hlt2 : byteN xs q n + (if xs[8 * q + n]? = some true then 2 ^ n else 0) < 2 ^ r := by
          have : 2 ^ (n + 1) ≤ 2 ^ r := Nat.pow_le_pow_right (by omega) (by omega)
          rw [Nat.pow_succ] at this
          split <;> omega
        rw [Nat.div_eq_of_lt hlt2, if_neg (by omega)]
/-- Truths as bits. -/
def bitsT (xs : List Bool) : List UInt8 := (List.range ((xs.length + 7) / 8)).map fun q => UInt8.ofNat (byteN xs q 8)
theorem bitsT_len (xs : List Bool) : (bitsT xs).length = (xs.length + 7) / 8 := by unfold bitsT; rw [List.length_map, List.length_range]
theorem bitsT_on (xs : List Bool) {i : Nat} (h : i < xs.length) : onB (bitsT xs) i = xs[i] := by
  have hl := bitsT_len xs
  have hq : i / 8 < (bitsT xs).length := by omega
  have hb : (bitsT xs)[i / 8] = UInt8.ofNat (byteN xs (i / 8) 8) := by simp [bitsT]
  have hlt : byteN xs (i / 8) 8 < 256 := byteN_lt xs (i / 8) 8
  unfold onB
  rw [List.getElem?_eq_getElem hq, hb]
  simp only
  have e : (UInt8.ofNat (byteN xs (i / 8) 8)).toNat = byteN xs (i / 8) 8 := by rw [UInt8.toNat_ofNat']; omega
  have hm : min (i % 8) IntKind.u8.bits = i % 8 := by simp only [IntKind.bits]; omega
  rw [e, hm, and1_u8', fdiv_pow']
  have e2 : ((byteN xs (i / 8) 8 : Nat) : Int) / 2 ^ (i % 8) % 2 = ((byteN xs (i / 8) 8 / 2 ^ (i % 8) % 2 : Nat) : Int) := by push_cast; rfl
  rw [e2, byteN_bit, show 8 * (i / 8) + i % 8 = i by omega, List.getElem?_eq_getElem h]
  cases xs[i] with
  | true => rw [if_pos ⟨by omega, rfl⟩]; rfl
  | false => rw [if_neg (by simp)]; rfl

/-! ### What BitsOf answers -/
theorem bitB_big {n : Int} (h0 : 0 ≤ n) (h1 : n ≤ 1000000000000000) : IntKind.i64.wrap (Int.tdiv (IntKind.i64.wrap (n + 7)) 8) = bitB n := by
  rw [wi64 (n + 7) (by omega), Int.tdiv_eq_ediv_of_nonneg (by omega), wi64 _ (by omega)]; rfl
def bits_at (xs : List Bool) (i : Nat) : List Int := (List.range ((xs.length + 7) / 8)).map fun q => ((byteN xs q (min 8 (i - 8 * q)) : Nat) : Int)
theorem strOf_bits (xs : List Bool) : strOfBytes (bits_at xs xs.length) = bitsT xs := by
  unfold strOfBytes bits_at bitsT
  rw [List.map_map]
  refine List.map_congr_left fun q hq => ?_
  have hq := List.mem_range.1 hq
  show UInt8.ofNat (((byteN xs q (min 8 (xs.length - 8 * q)) : Nat) : Int)).toNat = _
  rw [Int.toNat_natCast]
  congr 1
  by_cases h : 8 ≤ xs.length - 8 * q
  · rw [Nat.min_eq_left h]
  · have key : ∀ d n, n + d = 8 → xs.length - 8 * q ≤ n → byteN xs q n = byteN xs q 8 := by
      intro d
      induction d with
      | zero => intro n h1 _; rw [show n = 8 by omega]
      | succ d ih =>
        intro n h1 h2
        rw [← ih (n + 1) (by omega) (by omega), byteN, if_neg (by rw [List.getElem?_eq_none (by omega)]; simp), Nat.add_zero]
    rw [Nat.min_eq_right (by omega)]
    exact key (8 - (xs.length - 8 * q)) _ (by omega) (Nat.le_refl _)
theorem or_u8_disj (e r : Nat) (hr : r < 8) (he : e < 2 ^ r) : bitsOp .or .u8 (e : Int) (IntKind.u8.wrap (1 * 2 ^ (min r IntKind.u8.bits))) = ((e + 2 ^ r : Nat) : Int) := by
  have h2 : 2 ^ r ≤ 128 := by
    have : 2 ^ r ≤ 2 ^ 7 := Nat.pow_le_pow_right (by omega) (by omega)
    omega
  have hm : min r IntKind.u8.bits = r := by simp only [IntKind.bits]; omega
  have hp : ((2 : Int) ^ r) = ((2 ^ r : Nat) : Int) := by push_cast; rfl
  rw [hm, Int.one_mul, hp, wu8, bitsOp_or]
  have e1 : ((e : Int) % (2 ^ IntKind.u8.bits : Int)).toNat = e := by simp only [IntKind.bits]; omega
  have e2 : ((((2 ^ r : Nat) : Int) % 256) % (2 ^ IntKind.u8.bits : Int)).toNat = 1 * 2 ^ r := by simp only [IntKind.bits]; omega
  rw [e1, e2, or_shift e 1 r he, wu8]
  omega
theorem bits_at_get {xs : List Bool} {i q : Nat} (hq : q < (xs.length + 7) / 8) : (bits_at xs i)[q]? = some ((byteN xs q (min 8 (i - 8 * q)) : Nat) : Int) := by
  unfold bits_at
  rw [List.getElem?_map, List.getElem?_range hq]; rfl
theorem bits_at_on {xs : List Bool} {i : Nat} (h : i < xs.length) (hx : xs[i] = true) : (bits_at xs i).set (i / 8) (((byteN xs (i / 8) (i % 8) + 2 ^ (i % 8) : Nat)) : Int) = bits_at xs (i + 1) := by
  refine List.ext_getElem? fun q => ?_
  by_cases hq : q < (xs.length + 7) / 8
  · rw [List.getElem?_set]
    have hl : i / 8 < (bits_at xs i).length := by unfold bits_at; rw [List.length_map, List.length_range]; omega
    by_cases hiq : i / 8 = q
    · rw [if_pos hiq, if_pos hl, bits_at_get hq, ← hiq, show min 8 (i + 1 - 8 * (i / 8)) = i % 8 + 1 by omega, byteN, show 8 * (i / 8) + i % 8 = i by omega, List.getElem?_eq_getElem h, hx, if_pos rfl]
    · rw [if_neg hiq, bits_at_get hq, bits_at_get hq]
      congr 3
      omega
  · rw [List.getElem?_eq_none (by rw [List.length_set]; unfold bits_at; rw [List.length_map, List.length_range]; omega), List.getElem?_eq_none (by unfold bits_at; rw [List.length_map, List.length_range]; omega)]
theorem bits_at_off {xs : List Bool} {i : Nat} (h : i < xs.length) (hx : xs[i] = false) : bits_at xs i = bits_at xs (i + 1) := by
  unfold bits_at
  refine List.map_congr_left fun q _ => ?_
  congr 1
  by_cases hiq : i / 8 = q
  · rw [← hiq, show min 8 (i + 1 - 8 * (i / 8)) = i % 8 + 1 by omega, show min 8 (i - 8 * (i / 8)) = i % 8 by omega, byteN, show 8 * (i / 8) + i % 8 = i by omega, List.getElem?_eq_getElem h, hx, if_neg (by simp), Nat.add_zero]
  · rw [show min 8 (i + 1 - 8 * q) = min 8 (i - 8 * q) by omega]
theorem BitsOf_ok {k : Nat} {xs : List Bool} (hk : xs.length + 3 ≤ k) (hl : xs.length ≤ 100000000000000) : quiverref1_BitsOf.f idb k xs = some (bitsT xs) := by
  obtain ⟨k, rfl⟩ : ∃ q, k = q + 1 := ⟨k - 1, by omega⟩
  have hb : quiverref1_BitBytes.f idb k ((xs.length : Nat) : Int) = some (bitB (xs.length : Int)) := by
    obtain ⟨k, rfl⟩ : ∃ q, k = q + 1 := ⟨k - 1, by omega⟩
    rw [quiverref1_BitBytes.f_eq, bitB_big (by omega) (by omega)]
  have hbb : bitB (xs.length : Int) = (((xs.length + 7) / 8 : Nat) : Int) := by unfold bitB; omega
  rw [quiverref1_BitsOf.f_eq, hb, bS, BEq.rfl, hbb, dT (by omega), dT (by omega)]
  simp only [Bool.and_self, cT, Int.toNat_natCast]
  have h0 : (List.replicate ((xs.length + 7) / 8) (0 : Int)) = bits_at xs 0 := by
    unfold bits_at
    refine List.ext_getElem (by simp) fun q h1 h2 => ?_
    simp [byteN]
  rw [h0, ← strOf_bits]
  refine loop_up (F := fun n i => quiverref1_BitsOf.l0 idb k n xs (i : Int) (bits_at xs i)) (N := xs.length) ?_ ?_ k 0 (by omega) (by omega)
  · intro n i hi
    have hq : i / 8 < (xs.length + 7) / 8 := by omega
    have hlen : (bits_at xs i).length = (xs.length + 7) / 8 := by unfold bits_at; rw [List.length_map, List.length_range]
    have e1 : Int.tdiv (i : Int) 8 = ((i / 8 : Nat) : Int) := by rw [Int.tdiv_eq_ediv_of_nonneg (by omega)]; omega
    have e2 : Int.tmod (i : Int) 8 = ((i % 8 : Nat) : Int) := by rw [Int.tmod_eq_emod_of_nonneg (by omega)]; omega
    rw [quiverref1_BitsOf.l0_eq, dT (by omega), cT, rd_get hi, bS, wsucc (by omega)]
    cases hx : xs[i] with
    | false => rw [cF, bits_at_off hi hx]
    | true =>
      rw [cT, e1, e2, wi64 ((i / 8 : Nat) : Int) (by omega), dT (show (0 : Int) ≤ ((i / 8 : Nat) : Int) by omega), dT (show ((i / 8 : Nat) : Int) < ((bits_at xs i).length : Int) by omega), dF (show ¬ (((i % 8 : Nat) : Int) < 0) by omega)]
      simp only [Bool.and_self, cT, cF, Int.toNat_natCast]
      rw [bits_at_get hq, show min 8 (i - 8 * (i / 8)) = i % 8 by omega]
      simp only [bS]
      rw [or_u8_disj _ _ (by omega) (byteN_lt xs (i / 8) (i % 8)), bits_at_on hi hx]
  · intro n
    rw [quiverref1_BitsOf.l0_eq, dF (by omega), cF]

end Go.Proofs.YtppmpfddcohkjaaGreatDoorP
