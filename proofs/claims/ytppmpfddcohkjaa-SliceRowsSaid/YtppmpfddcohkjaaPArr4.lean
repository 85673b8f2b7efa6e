/- Arrays: whether an array may be, by the program; no condition but the sizes that a machine has. -/
import Derived.Test.YtppmpfddcohkjaaPArr3
namespace Go.Proofs.YtppmpfddcohkjaaP
open Go Go.Proofs.YtppmpfddcohkjaaA

theorem getD_get {α : Type} {l : List α} {j : Nat} {d : α} (h : j < l.length) : l.getD j d = l[j] := by simp [List.getD, h]
def kidA (x : Arr) (j : Nat) : Arr := x.kids.getD j x
def ksT (t : List Nod) (a : Int) (j : Nat) : Int := (kidsL t a).getD j 0
/-- What an array of LayoutPlain has of its kind. -/
def kindM (t : List Nod) (i : Nat) (x : Arr) : Bool :=
  if knd t i = 0 then x.ends == [] && decide (8 * rowsN x ≤ x.data.length)
  else if knd t i = 1 then x.ends == [] && decide (bitB (x.offset + x.length) ≤ (x.data.length : Int))
  else if knd t i = 2 then endsB x.ends (rowsN x) (x.data.length : Int) x.offset 16
  else if knd t i = 3 then x.data == [] && endsB x.ends (rowsN x) (kidA x 0).length 0 64
  else x.ends == [] && (x.data == [] && !x.kids.any fun c => decide (c.length < x.offset + x.length))
/-- May an array of a node be? -/
def mayA : Nat → List Nod → Int → Arr → Bool
  | 0, _, _, _ => false
  | f + 1, t, a, x => nodeB t a && (bufB (nul t a.toNat) x &&
      if x.layout = 0 then decide (x.kids.length = (kidsL t a).length) && ((List.range x.kids.length).all (fun j => mayA f t (ksT t a j) (kidA x j)) && kindM t a.toNat x)
      else !inner (knd t a.toNat) && (x.ends == [] && (decide (x.kids.length = 1) && ((kidA x 0).layout == 0 && (mayA f t a (kidA x 0) &&
        if x.layout = 1 then dictB x (kidA x 0) else if x.layout = 2 then runB x (kidA x 0) else false)))))
def need (t : List Nod) (a : Int) (x : Arr) : Nat := 2 * (t.length - a.toNat) + (if x.layout = 0 then 0 else 1)
theorem kidA_mem {x : Arr} {j : Nat} (h : j < x.kids.length) : kidA x j ∈ x.kids := by
  unfold kidA; rw [getD_get h]; exact List.getElem_mem h
theorem kidA_get {x : Arr} {j : Nat} (h : j < x.kids.length) : x.kids[j] = kidA x j := by
  unfold kidA; rw [getD_get h]
theorem ksT_get {t : List Nod} {a : Int} {j : Nat} (h : j < (kidsL t a).length) : (kidsL t a)[j]? = some (ksT t a j) := by
  unfold ksT; rw [getD_get h, List.getElem?_eq_getElem h]
theorem ksT_gt {t : List Nod} (hm : mayT t = true) {i j : Nat} (hj : j < (kidsL t (i : Int)).length) : ∃ q : Nat, ksT t (i : Int) j = (q : Int) ∧ i < q ∧ q < t.length := by
  have hmem : ksT t (i : Int) j ∈ kidsL t (i : Int) := by unfold ksT; rw [getD_get hj]; exact List.getElem_mem hj
  obtain ⟨q, h1, _, h3, h4⟩ := mem_kidsL.1 hmem
  have := (mayT_stands hm).up h1
  exact ⟨q, h4, by omega, h1⟩
theorem need_kid {t : List Nod} (hm : mayT t = true) {i j : Nat} {x : Arr} (y : Arr) (hj : j < (kidsL t (i : Int)).length) : need t (ksT t (i : Int) j) y < need t (i : Int) x := by
  obtain ⟨q, e, h1, h2⟩ := ksT_gt hm hj
  unfold need
  rw [e, Int.toNat_natCast, Int.toNat_natCast]
  split <;> split <;> omega
theorem mayA_same : ∀ (f g : Nat) (t : List Nod) (a : Int) (x : Arr), need t a x < f → need t a x < g → mayA f t a x = mayA g t a x
  | 0, _, _, _, _, h, _ => absurd h (Nat.not_lt_zero _)
  | _, 0, _, _, _, _, h => absurd h (Nat.not_lt_zero _)
  | f + 1, g + 1, t, a, x, hf, hg => by
    unfold mayA
    cases hn : nodeB t a with
    | false => rfl
    | true =>
      obtain ⟨hm, i, hi, rfl⟩ := nodeB_may hn
      rw [Bool.true_and, Bool.true_and]
      congr 1
      by_cases hl : x.layout = 0
      · rw [if_pos hl, if_pos hl]
        by_cases hk : x.kids.length = (kidsL t (i : Int)).length
        · have : ((List.range x.kids.length).all fun j => mayA f t (ksT t (i : Int) j) (kidA x j)) = ((List.range x.kids.length).all fun j => mayA g t (ksT t (i : Int) j) (kidA x j)) := by
            rw [Bool.eq_iff_iff, range_all_iff, range_all_iff]
            have e : ∀ j, j < x.kids.length → mayA f t (ksT t (i : Int) j) (kidA x j) = mayA g t (ksT t (i : Int) j) (kidA x j) := fun j hj => by
              have := need_kid hm (x := x) (kidA x j) (i := i) (j := j) (by omega)
              exact mayA_same f g t _ _ (by omega) (by omega)
            exact ⟨fun h j hj => by rw [← e j hj]; exact h j hj, fun h j hj => by rw [e j hj]; exact h j hj⟩
          rw [this]
        · rw [dF hk, Bool.false_and, Bool.false_and]
      · rw [if_neg hl, if_neg hl]
        cases hk : (kidA x 0).layout == 0 with
        | false => rw [Bool.false_and]; simp
        | true =>
          rw [beq_iff_eq] at hk
          have h1 : need t (i : Int) (kidA x 0) < need t (i : Int) x := by unfold need; rw [if_neg hl, if_pos hk]; omega
          rw [mayA_same f g t (i : Int) (kidA x 0) (by omega) (by omega)]
def arrB (t : List Nod) (a : Int) (x : Arr) : Bool := mayA 20 t a x
theorem nodeB_len {t : List Nod} {a : Int} (h : nodeB t a = true) : t.length ≤ 8 := by have := mayT_length (nodeB_may h).1; omega
theorem mayA_arrB {f : Nat} {t : List Nod} {a : Int} {x : Arr} (hf : need t a x < f) : mayA f t a x = arrB t a x := by
  by_cases h : need t a x < 20
  · exact mayA_same f 20 t a x hf h
  · cases hn : nodeB t a with
    | false =>
      obtain ⟨f, rfl⟩ : ∃ m, f = m + 1 := ⟨f - 1, by omega⟩
      unfold arrB mayA; rw [hn, Bool.false_and, Bool.false_and]
    | true =>
      have := nodeB_len hn
      unfold need at h
      split at h <;> omega
theorem need_lt {t : List Nod} {a : Int} {x : Arr} (h : nodeB t a = true) : need t a x < 18 := by
  have := nodeB_len h
  unfold need; split <;> omega
/-- The rule of it. -/
theorem arrB_eq (t : List Nod) (a : Int) (x : Arr) : arrB t a x = (nodeB t a && (bufB (nul t a.toNat) x &&
      if x.layout = 0 then decide (x.kids.length = (kidsL t a).length) && ((List.range x.kids.length).all (fun j => arrB t (ksT t a j) (kidA x j)) && kindM t a.toNat x)
      else !inner (knd t a.toNat) && (x.ends == [] && (decide (x.kids.length = 1) && ((kidA x 0).layout == 0 && (arrB t a (kidA x 0) &&
        if x.layout = 1 then dictB x (kidA x 0) else if x.layout = 2 then runB x (kidA x 0) else false)))))) := by
  cases hn : nodeB t a with
  | false => unfold arrB mayA; rw [hn, Bool.false_and]; rfl
  | true =>
    have h1 := need_lt (x := x) hn
    rw [← mayA_arrB (f := 21) (by omega)]
    unfold mayA
    rw [hn]
    rfl

/-! ### The program -/
theorem short_ok {k : Nat} (hk : 1 ≤ k) (x : Arr) (r : Int) : array_plain_1.f idb k x r = some (decide (x.length < r)) := by
  obtain ⟨k, rfl⟩ : ∃ m, k = m + 1 := ⟨k - 1, by omega⟩
  rw [array_plain_1.f_eq]
theorem index_l0 (l : List Arr) (r : Int) (hl : l.length ≤ 1000000) {k : Nat} (hk : 1 ≤ k) : ∀ (d i : Nat), i + d = l.length → ∀ n, d < n →
    ∃ v, slices_IndexFunc_api_Array_api_Array_array_plain_1.l0 idb k n l r (l.length : Int) (i : Int) = some v ∧ decide (v ≥ 0) = (l.drop i).any fun c => decide (c.length < r)
  | 0, i, h, n, hn => by
    obtain ⟨n, rfl⟩ : ∃ m, n = m + 1 := ⟨n - 1, by omega⟩
    rw [slices_IndexFunc_api_Array_api_Array_array_plain_1.l0_eq, dF (by omega), cF, List.drop_of_length_le (by omega)]
    exact ⟨-1, rfl, rfl⟩
  | d + 1, i, h, n, hn => by
    obtain ⟨n, rfl⟩ : ∃ m, n = m + 1 := ⟨n - 1, by omega⟩
    have hlt : i < l.length := by omega
    rw [slices_IndexFunc_api_Array_api_Array_array_plain_1.l0_eq, dT (by omega), cT, rd_get hlt, bS, short_ok hk, bS, List.drop_eq_getElem_cons hlt, List.any_cons, wsucc (by omega)]
    cases hc : decide ((l[i]).length < r) with
    | true => exact ⟨(i : Int), rfl, by rw [dT (by omega)]; rfl⟩
    | false => simpa using index_l0 l r hl hk d (i + 1) (by omega) n (by omega)
theorem contains_ok {k : Nat} (l : List Arr) (r : Int) (hl : l.length ≤ 100) (hk : 200 ≤ k) : slices_ContainsFunc_api_Array_api_Array_array_plain_1.f idb k l r = some (l.any fun c => decide (c.length < r)) := by
  obtain ⟨k, rfl⟩ : ∃ m, k = m + 2 := ⟨k - 2, by omega⟩
  obtain ⟨v, h1, h2⟩ := index_l0 l r (by omega) (k := k) (by omega) l.length 0 (by omega) k (by omega)
  rw [slices_ContainsFunc_api_Array_api_Array_array_plain_1.f_eq, slices_IndexFunc_api_Array_api_Array_array_plain_1.f_eq]
  rw [show ((0 : Nat) : Int) = 0 from rfl] at h1
  rw [h1, bS, h2]
  simp

theorem array_plain_ok {f : Nat} {t : List Nod} (hm : mayT t = true) {i : Nat} (hi : i < t.length) {x : Arr} (hb : Buf (nul t i) x) (hx : RoomyA x) {k : Nat} (hk : 300 ≤ k)
    (ih : ∀ j, j < (kidsL t (i : Int)).length → j < x.kids.length → array_May.f idb k t (ksT t (i : Int) j) (kidA x j) = some (mayA f t (ksT t (i : Int) j) (kidA x j)))
    (h64 : ∀ j, j < x.kids.length → mayA f t (ksT t (i : Int) j) (kidA x j) = true → 0 ≤ (kidA x j).length ∧ (kidA x j).length ≤ 64) :
    array_plain.f idb (k + 1) t (i : Int) x = some (decide (x.kids.length = (kidsL t (i : Int)).length) && ((List.range x.kids.length).all (fun j => mayA f t (ksT t (i : Int) j) (kidA x j)) && kindM t i x)) := by
  have hn := nodeB_of hm hi
  have hkl := kidsU_length t (i : Int) t.length
  have htl := mayT_length hm
  have hkb := ((mayT_iff t).1 hm).2.2 i hi
  have hrw := hb.rowsEq
  have hrl := hb.rowsN_le
  rw [array_plain.f_eq, types_Kids_ok (by omega), bS]
  unfold kidsT
  rw [if_pos hn]
  by_cases hl : x.kids.length = (kidsL t (i : Int)).length
  · have e1 : (((x.kids.length : Nat) : Int) != ((kidsL t (i : Int)).length : Int)) = false := by rw [hl]; simp
    have hl8 : x.kids.length ≤ 8 := by unfold kidsL at hl; omega
    simp only
    rw [e1, cF, dT hl, Bool.true_and]
    have key := loop_all (F := fun n j => array_plain.l0 idb k n t (i : Int) x.layout x.offset x.length x.valid x.ends x.data x.kids ((kidsL t (i : Int)).length : Int) (j : Int) (IntKind.i64.wrap (x.offset + x.length)) (kidsL t (i : Int)))
      (p := fun j => mayA f t (ksT t (i : Int) j) (kidA x j)) (N := x.kids.length) (E := some (kindM t i x)) (Z := some false) ?_ ?_ k (by omega)
    · refine Eq.trans key ?_
      rw [okF]
    · intro n j hj _
      rw [array_plain.l0_eq, dT (by omega), cT, dT (show (0 : Int) ≤ (j : Int) by omega)]
      simp only [Bool.and_self, cT, Int.toNat_natCast]
      rw [ksT_get (by omega), bS, rd_get hj, bS, kidA_get hj, ih j (by omega) hj, bS, wsucc (by omega)]
      cases mayA f t (ksT t (i : Int) j) (kidA x j) <;> rfl
    · intro hall n
      rw [array_plain.l0_eq, dF (by omega), cF, rd_get hi, bS, knd_get hi, ← hrw, wi64 ((rowsN x : Nat) : Int) (by omega), wi64 (8 * ((rowsN x : Nat) : Int)) (by omega)]
      unfold kindM
      by_cases k0 : knd t i = 0
      · rw [k0, if_pos rfl]
        simp only [BEq.rfl, cT]
        rw [okF]
        congr 2
        by_cases h : 8 * rowsN x ≤ x.data.length
        · rw [dT h, dT (by omega)]
        · rw [dF h, dF (by omega)]
      · rw [if_neg k0, show (knd t i == 0) = false by simpa using k0, cF]
        by_cases k1 : knd t i = 1
        · rw [k1, if_pos rfl]
          simp only [BEq.rfl, cT]
          rw [bits_Bytes_ok (by omega) (by omega) (by omega), bS, okF, hrw]
        · rw [if_neg k1, show (knd t i == 1) = false by simpa using k1, cF]
          by_cases k2 : knd t i = 2
          · rw [k2, if_pos rfl]
            simp only [BEq.rfl, cT]
            rw [array_ends_ok (by omega) hb.ends (by omega), bS]
          · rw [if_neg k2, show (knd t i == 2) = false by simpa using k2, cF]
            by_cases k3 : knd t i = 3
            · have hk1 : 0 < x.kids.length := by
                have := hkb.1
                unfold kidsB at this
                rw [k3] at this
                simp at this
                omega
              rw [k3, if_pos rfl]
              simp only [BEq.rfl, cT]
              have hr0 := rd_get hk1
              rw [kidA_get hk1] at hr0
              rw [show ((0 : Nat) : Int) = 0 from rfl] at hr0
              rw [hr0, bS, array_ends_ok (by omega) hb.ends (by omega), bS, okF]
            · rw [if_neg k3, show (knd t i == 3) = false by simpa using k3, cF, contains_ok _ _ (by omega) (by omega), bS, okF, okF, hrw]
  · have e1 : (((x.kids.length : Nat) : Int) != ((kidsL t (i : Int)).length : Int)) = true := by rw [bne_iff_ne]; omega
    simp only
    rw [e1, cT, dF hl, Bool.false_and]
theorem array_one_ok {f : Nat} {t : List Nod} {i : Nat} (hi : i < t.length) {x : Arr} {k : Nat} (hk : 300 ≤ k)
    (ih : 0 < x.kids.length → (kidA x 0).layout = 0 → array_May.f idb k t (i : Int) (kidA x 0) = some (mayA f t (i : Int) (kidA x 0))) :
    ∃ o, array_one.f idb (k + 1) t (i : Int) x = some (o, !inner (knd t i) && (x.ends == [] && (decide (x.kids.length = 1) && ((kidA x 0).layout == 0 && mayA f t (i : Int) (kidA x 0))))) ∧
      (x.kids.length = 1 → inner (knd t i) = false → x.ends = [] → o = some (kidA x 0)) := by
  rw [array_one.f_eq, rd_get hi, bS, knd_get hi, types_Inner_ok (by omega), bS]
  cases h1 : inner (knd t i) with
  | true => exact ⟨none, rfl, fun _ h => by cases h⟩
  | false =>
    rw [Bool.not_false, cT]
    by_cases h2 : x.ends = []
    · rw [show (x.ends != []) = false by rw [h2]; rfl, Bool.not_false, cT, show (x.ends == []) = true by rw [h2]; rfl]
      by_cases h3 : x.kids.length = 1
      · have h0 : 0 < x.kids.length := by omega
        have hr0 := rd_get h0
        rw [kidA_get h0, show ((0 : Nat) : Int) = 0 from rfl] at hr0
        rw [show (((x.kids.length : Nat) : Int) != 1) = false by rw [h3]; rfl, cF, hr0, bS, Arr.eta, dT h3]
        cases h4 : (kidA x 0).layout == 0 with
        | false => exact ⟨some (kidA x 0), rfl, fun _ _ _ => rfl⟩
        | true =>
          rw [cT, ih h0 (by simpa using h4), bS]
          exact ⟨some (kidA x 0), by simp, fun _ _ _ => rfl⟩
      · rw [show (((x.kids.length : Nat) : Int) != 1) = true by rw [bne_iff_ne]; omega, cT, dF h3]
        exact ⟨none, rfl, fun h => absurd h h3⟩
    · rw [show (x.ends != []) = true by simpa using h2, Bool.not_true, cF, show (x.ends == []) = false by simpa using h2]
      exact ⟨none, rfl, fun _ _ h => absurd h h2⟩
theorem mayA_len {f : Nat} {t : List Nod} {a : Int} {x : Arr} (h : mayA f t a x = true) : 0 ≤ x.length ∧ x.length ≤ 64 := by
  cases f with
  | zero => cases h
  | succ f =>
    unfold mayA at h
    simp only [Bool.and_eq_true] at h
    have hb := bufB_iff.1 h.2.1
    exact ⟨hb.len, by have := hb.off; have := hb.rows; omega⟩
theorem array_May_ok : ∀ (f : Nat) (t : List Nod) (a : Int) (x : Arr), need t a x < f → RoomyA x → ∀ k, 400 + 5 * f ≤ k → array_May.f idb k t a x = some (mayA f t a x)
  | 0, _, _, _, h, _, _, _ => absurd h (Nat.not_lt_zero _)
  | f + 1, t, a, x, hf, hx, k, hk => by
    obtain ⟨k, rfl⟩ : ∃ m, k = m + 3 := ⟨k - 3, by omega⟩
    rw [array_May.f_eq, types_Node_ok (by omega), bS]
    unfold mayA
    cases hn : nodeB t a with
    | false => rfl
    | true =>
      obtain ⟨hm, i, hi, rfl⟩ := nodeB_may hn
      rw [Bool.not_true, Bool.not_false, cT, rd_get hi, bS, array_buffers_ok (by omega) _ hx.one, bS, nul_get hi, Int.toNat_natCast]
      cases hb : bufB (nul t i) x with
      | false => rfl
      | true =>
        have hB := bufB_iff.1 hb
        rw [Bool.not_true, cF, Bool.true_and, Bool.true_and]
        by_cases h0 : x.layout = 0
        · rw [if_pos h0, show (x.layout == 0) = true by simpa using h0, cT]
          rw [array_plain_ok (f := f) hm hi hB hx (by omega) (fun j hj hj' => array_May_ok f t _ _ (by have := need_kid hm (x := x) (kidA x j) hj; omega) (hx.kid (kidA_mem hj')) _ (by omega)) (fun j _ h => mayA_len h)]
          rfl
        · rw [if_neg h0, show (x.layout == 0) = false by simpa using h0, cF]
          obtain ⟨o, ho, ho2⟩ := array_one_ok (f := f) hi (x := x) (k := k) (by omega) (fun hk0 hl0 => array_May_ok f t _ _ (by unfold need at hf ⊢; rw [if_neg h0] at hf; rw [if_pos hl0]; omega) (hx.kid (kidA_mem hk0)) _ (by omega))
          have hoff := hB.off
          have hlen := hB.len
          have hrows := hB.rows
          have hrw := hB.rowsEq
          by_cases h1 : x.layout = 1
          · rw [if_pos h1, show (x.layout == 1) = true by simpa using h1, cT, array_dict.f_eq, ho, bS]
            simp only
            generalize hg : (!inner (knd t i) && (x.ends == [] && (decide (x.kids.length = 1) && ((kidA x 0).layout == 0 && mayA f t (i : Int) (kidA x 0))))) = g at *
            have e : (!inner (knd t i) && (x.ends == [] && (decide (x.kids.length = 1) && ((kidA x 0).layout == 0 && (mayA f t (i : Int) (kidA x 0) && dictB x (kidA x 0)))))) = (g && dictB x (kidA x 0)) := by rw [← hg]; simp [Bool.and_assoc]
            rw [e]
            cases g with
            | false => rfl
            | true =>
              simp only [Bool.and_eq_true, Bool.not_eq_true', decide_eq_true_eq, beq_iff_eq] at hg
              rw [ho2 hg.2.2.1 hg.1 hg.2.1]
              simp only [Bool.not_true, Bool.not_false, cT, bS, Bool.true_and]
              rw [array_dict_l0 hB (by omega) _ (by omega), wi64 (x.offset + x.length) (by omega), wi64 _ (by omega)]
              unfold dictB
              have e1 : ((kidA x 0).valid != []) = !((kidA x 0).valid == []) := rfl
              rw [e1, Bool.not_not]
              have e2 : decide (((x.data).length : Int) < 4 * (x.offset + x.length)) = !decide (4 * rowsN x ≤ x.data.length) := by
                by_cases h : 4 * rowsN x ≤ x.data.length
                · rw [dT h, dF (by omega)]; rfl
                · rw [dF h, dT (by omega)]; rfl
              rw [e2, okE, Bool.not_not, okF, bS]
          · rw [if_neg h1, show (x.layout == 1) = false by simpa using h1, cF]
            by_cases h2 : x.layout = 2
            · rw [if_pos h2, show (x.layout == 2) = true by simpa using h2, cT, array_run.f_eq, ho, bS]
              simp only
              generalize hg : (!inner (knd t i) && (x.ends == [] && (decide (x.kids.length = 1) && ((kidA x 0).layout == 0 && mayA f t (i : Int) (kidA x 0))))) = g at *
              have e : (!inner (knd t i) && (x.ends == [] && (decide (x.kids.length = 1) && ((kidA x 0).layout == 0 && (mayA f t (i : Int) (kidA x 0) && runB x (kidA x 0)))))) = (g && runB x (kidA x 0)) := by rw [← hg]; simp [Bool.and_assoc]
              rw [e]
              cases g with
              | false => rfl
              | true =>
                simp only [Bool.and_eq_true, Bool.not_eq_true', decide_eq_true_eq, beq_iff_eq] at hg
                rw [ho2 hg.2.2.1 hg.1 hg.2.1]
                simp only [Bool.not_true, Bool.not_false, cT, bS, Bool.true_and]
                have hkl := mayA_len hg.2.2.2.2
                have em : (kidA x 0).length = (((kidA x 0).length.toNat : Nat) : Int) := by omega
                have hl0 := array_run_l0 (x := x) (m := (kidA x 0).length.toNat) (by omega) ⟨hrows, by omega⟩ hB.data (k := k + 1) (by omega) (k + 1) (by omega)
                rw [← em] at hl0
                rw [hl0, wi64 _ (by omega)]
                unfold runB
                have e1 : (x.valid != []) = !(x.valid == []) := rfl
                have e2 : (((x.data).length : Int) != 4 * (kidA x 0).length) = !(((x.data).length : Int) == 4 * (kidA x 0).length) := rfl
                rw [e1, Bool.not_not, e2, okE, Bool.not_not, okF, bS]
            · rw [if_neg h2, show (x.layout == 2) = false by simpa using h2, cF]
              simp

end Go.Proofs.YtppmpfddcohkjaaP
