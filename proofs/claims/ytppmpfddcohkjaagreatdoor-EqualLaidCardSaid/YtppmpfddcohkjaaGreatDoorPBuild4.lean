/- Building an array of values: its bits of rows that are there, a node's own zero, rows under way; no condition but the sizes that a machine has. Building an array of values: what build answers; no condition but the sizes that a machine has. Building an array of values: what build answers, row by row; no condition but the sizes that a machine has. Building an array of values: what build answers; no condition but the sizes that a machine has. -/
import Derived.Test.YtppmpfddcohkjaaGreatDoorPBits
namespace Go.Proofs.YtppmpfddcohkjaaGreatDoorP
open Go Go.Proofs.YtppmpfddcohkjaaGreatDoorA

/-! ### Rows that are there -/
def isV (s : List UInt8) : Bool := s != [110]
def validT (ts : List (List UInt8)) : List UInt8 := if ts.all isV then [] else bitsT (ts.map isV)
theorem valid_ok {k : Nat} {ts : List (List UInt8)} (hk : ts.length + 5 ≤ k) (hl : ts.length ≤ 10000000000000) : quiverref7_valid.f idb k ts = some (validT ts) := by
  obtain ⟨k, rfl⟩ : ∃ q, k = q + 1 := ⟨k - 1, by omega⟩
  rw [quiverref7_valid.f_eq]
  refine loop_up (F := fun n i => quiverref7_valid.l0 idb k n ts ((ts.take i).all isV) (i : Int) ((ts.take i).map isV)) (N := ts.length) ?_ ?_ k 0 (by omega) (by omega)
  · intro n i hi
    have e1 : (ts.take (i + 1)).all isV = ((ts.take i).all isV && isV ts[i]) := by rw [List.take_succ_eq_append_getElem hi, List.all_append]; simp
    have e2 : (ts.take (i + 1)).map isV = (ts.take i).map isV ++ [isV ts[i]] := by rw [List.take_succ_eq_append_getElem hi, List.map_append]; rfl
    rw [quiverref7_valid.l0_eq, dT (by omega), cT, rd_get hi]
    simp only [bS]
    rw [dT (by rw [List.length_map, List.length_take]; simp only [List.length_cons, List.length_nil]; omega), cT, wsucc (by omega), e1, e2]
    cases (ts.take i).all isV <;> rfl
  · intro n
    rw [quiverref7_valid.l0_eq, dF (by omega), cF, List.take_length]
    unfold validT
    cases ts.all isV with
    | true => rfl
    | false =>
      rw [cF, BitsOf_ok (by rw [List.length_map]; omega) (by rw [List.length_map]; omega), bS]
      rfl
theorem validT_len (ts : List (List UInt8)) : (validT ts).length ≤ (ts.length + 7) / 8 := by
  unfold validT
  split
  · exact Nat.zero_le _
  · rw [bitsT_len, List.length_map]; exact Nat.le_refl _
theorem validT_there (ts : List (List UInt8)) {i : Nat} (h : i < ts.length) : thereB (validT ts) i = isV ts[i] := by
  unfold validT thereB
  split
  · rename_i ha
    have := List.all_eq_true.1 ha ts[i] (List.getElem_mem h)
    rw [this]; rfl
  · rename_i ha
    have hne : (bitsT (ts.map isV) == []) = false := by
      rw [beq_eq_false_iff_ne]
      intro e
      have := congrArg List.length e
      rw [bitsT_len, List.length_map] at this
      simp only [List.length_nil] at this
      omega
    rw [hne, Bool.false_or, bitsT_on _ (by rw [List.length_map]; exact h), List.getElem_map]
theorem txt_isV (v : Vl) : isV v.txt = (match v with | .n => false | _ => true) := by
  cases v with
  | n => rw [Vl.txt]; rfl
  | i x => rw [Vl.txt]; rfl
  | b b => rw [Vl.txt]; cases b <;> rfl
  | s l => rw [Vl.txt]; rfl
  | l vs => rw [Vl.txt]; rfl
  | r vs => rw [Vl.txt]; rfl

/-! ### A node's zero -/
def zeroV : Nat → List Nod → Int → Vl
  | 0, _, _ => .n
  | f + 1, t, a => if nul t a.toNat then .n else if knd t a.toNat = 0 then .i 0 else if knd t a.toNat = 1 then .b false else if knd t a.toNat = 2 then .s [] else if knd t a.toNat = 3 then .l [] else
      .r ((List.range (kidsL t a).length).map fun j => zeroV f t (ksT t a j))
theorem zero_typed : ∀ (f : Nat) {t : List Nod} {a : Int}, nodeB t a = true → t.length - a.toNat < f → Typed f t a (zeroV f t a)
  | 0, _, _, _, h => by omega
  | f + 1, t, a, hn, hf => by
    obtain ⟨hm, i, hi, rfl⟩ := nodeB_may hn
    rw [Int.toNat_natCast] at hf
    refine ⟨hn, ?_⟩
    rw [Int.toNat_natCast]
    unfold zeroV
    rw [Int.toNat_natCast]
    cases hnul : nul t i with
    | true => rw [if_pos rfl]
    | false =>
      rw [if_neg (by simp)]
      have hkb := (((mayT_iff t).1 hm).2.1 i hi).1
      unfold kindB at hkb
      simp only [Bool.and_eq_true, decide_eq_true_eq] at hkb
      by_cases h0 : knd t i = 0
      · rw [if_pos h0]; exact ⟨h0, by unfold In64; omega⟩
      rw [if_neg h0]
      by_cases h1 : knd t i = 1
      · rw [if_pos h1]; exact h1
      rw [if_neg h1]
      by_cases h2 : knd t i = 2
      · rw [if_pos h2]; exact ⟨h2, by simp⟩
      rw [if_neg h2]
      by_cases h3 : knd t i = 3
      · rw [if_pos h3]; exact ⟨h3, by simp, fun w hw => by cases hw⟩
      rw [if_neg h3]
      refine ⟨by omega, by rw [List.length_map, List.length_range], fun j hj => ?_⟩
      rw [List.getElem_map, List.getElem_range]
      rw [List.length_map, List.length_range] at hj
      obtain ⟨q, hq1, hq2, hq3⟩ := ksT_gt hm hj
      exact zero_typed f (by rw [hq1]; exact nodeB_of hm hq3) (by rw [hq1, Int.toNat_natCast]; omega)
theorem zero_len : ∀ (f : Nat) (t : List Nod) (a : Int), (zeroV f t a).txt.length ≤ 4 * wt t f a
  | 0, t, a => by unfold zeroV; rw [Vl.txt]; simp [wt]
  | f + 1, t, a => by
    have hp := wt_pos t (f + 1) a
    unfold zeroV
    split
    · rw [Vl.txt]; simp only [List.length_cons, List.length_nil]; omega
    split
    · rw [Vl.txt, show (intT 0).length = 3 from by decide +kernel]; omega
    split
    · rw [Vl.txt, show (boolT false).length = 1 from rfl]; omega
    split
    · rw [Vl.txt, show (bytesT []).length = 3 from by decide +kernel]; omega
    split
    · rw [txt_l, show (listT (([] : List Vl).map Vl.txt)).length = 2 from rfl]; omega
    · rw [txt_r, List.map_map]
      unfold structT
      simp only [List.length_append, List.length_cons, List.length_nil]
      have h1 := flatten_len (fun j => (zeroV f t (ksT t a j)).txt) (List.range (kidsL t a).length)
      have h2 : ((List.range (kidsL t a).length).map fun j => (zeroV f t (ksT t a j)).txt.length).sum ≤ ((List.range (kidsL t a).length).map fun j => 4 * wt t f (ksT t a j)).sum := sum_le _ fun j _ => zero_len f t (ksT t a j)
      have h3 := range_getD (h := fun b => 4 * wt t f b) (kidsL t a)
      have h4 := sum_mul (wt t f) 4 (kidsL t a)
      have h5 : ((List.range (kidsL t a).length).map fun j => 4 * wt t f (ksT t a j)).sum = 4 * ((kidsL t a).map (wt t f)).sum := by rw [← h4, ← h3]; rfl
      have h6 : (List.map (Vl.txt ∘ fun j => zeroV f t (ksT t a j)) (List.range (kidsL t a).length)).flatten.length = ((List.range (kidsL t a).length).map fun j => (zeroV f t (ksT t a j)).txt.length).sum := h1
      rw [h6]
      simp only [wt]
      omega
theorem zero_short {f : Nat} {t : List Nod} {a : Int} (hn : nodeB t a = true) : (zeroV f t a).txt.length ≤ 32 := by
  obtain ⟨hm, i, hi, rfl⟩ := nodeB_may hn
  have h1 := zero_len f t (i : Int)
  have h2 := wt_le hm f hi
  omega
theorem zero_ok : ∀ (f : Nat) {t : List Nod} {a : Int}, nodeB t a = true → t.length - a.toNat < f → ∀ k, 100 + 20 * f ≤ k → quiverref7_zero.f idb k t a = some (zeroV f t a).txt
  | 0, _, _, _, h, _, _ => by omega
  | f + 1, t, a, hn, hf, k, hk => by
    obtain ⟨hm, i, hi, rfl⟩ := nodeB_may hn
    rw [Int.toNat_natCast] at hf
    obtain ⟨k, rfl⟩ : ∃ q, k = q + 1 := ⟨k - 1, by omega⟩
    unfold zeroV
    rw [quiverref7_zero.f_eq, rd_get hi]
    simp only [bS]
    rw [nul_get hi, knd_get hi, Int.toNat_natCast]
    cases hnul : nul t i with
    | true => rw [if_pos rfl, Vl.txt, cT]
    | false =>
      rw [if_neg (by simp), cF]
      have hkb := (((mayT_iff t).1 hm).2.1 i hi).1
      unfold kindB at hkb
      simp only [Bool.and_eq_true, decide_eq_true_eq] at hkb
      by_cases h0 : knd t i = 0
      · rw [if_pos h0, h0, Vl.txt]; rfl
      rw [if_neg h0, show (knd t i == 0) = false by rw [beq_eq_false_iff_ne]; exact h0, cF]
      by_cases h1 : knd t i = 1
      · rw [if_pos h1, h1, Vl.txt]; rfl
      rw [if_neg h1, show (knd t i == 1) = false by rw [beq_eq_false_iff_ne]; exact h1, cF]
      by_cases h2 : knd t i = 2
      · rw [if_pos h2, h2, Vl.txt]; rfl
      rw [if_neg h2, show (knd t i == 2) = false by rw [beq_eq_false_iff_ne]; exact h2, cF]
      by_cases h3 : knd t i = 3
      · rw [if_pos h3, h3, Vl.txt]; rfl
      rw [if_neg h3, show (knd t i == 3) = false by rw [beq_eq_false_iff_ne]; exact h3, cF, ref_Kids_ok (by omega), bS]
      unfold kidsT
      rw [if_pos hn]
      have hkk := kidsU_length t (i : Int) t.length
      have htl := mayT_length hm
      have hkl : (kidsL t (i : Int)).length ≤ 8 := by unfold kidsL; omega
      have htxt := zero_len (f + 1) t (i : Int)
      have hw8 := wt_le hm (f + 1) hi
      unfold zeroV at htxt
      rw [Int.toNat_natCast, hnul, if_neg (by simp), if_neg h0, if_neg h1, if_neg h2, if_neg h3, txt_r, List.map_map] at htxt
      unfold structT at htxt
      simp only [List.length_append, List.length_cons, List.length_nil] at htxt
      have goal : quiverref7_zero.l1 idb k k 0 t (kidsL t (i : Int)) [] = some (structT ((List.range (kidsL t (i : Int)).length).map fun j => (zeroV f t (ksT t (i : Int) j)).txt)) := by
        refine loop_up (F := fun n j => quiverref7_zero.l1 idb k n (j : Int) t (kidsL t (i : Int)) ((List.range j).map fun j => (zeroV f t (ksT t (i : Int) j)).txt)) (N := (kidsL t (i : Int)).length) ?_ ?_ k 0 (by omega) (by omega)
        · intro n j hj
          have hksj := ksT_get (t := t) (a := (i : Int)) hj
          obtain ⟨q, hq1, hq2, hq3⟩ := ksT_gt hm hj
          rw [quiverref7_zero.l1_eq, dT (by omega), cT, dT (by omega)]
          simp only [Bool.and_self, cT, Int.toNat_natCast]
          rw [hksj, bS, zero_ok f (by rw [hq1]; exact nodeB_of hm hq3) (by rw [hq1, Int.toNat_natCast]; omega) k (by omega), bS, dT (by simp only [List.length_map, List.length_range, List.length_cons, List.length_nil]; omega), cT, wsucc (by omega), List.range_succ, List.map_append]
          rfl
        · intro n
          rw [quiverref7_zero.l1_eq, dF (by omega), cF, Struct_ok (by simp only [List.length_map, List.length_range]; omega) (by
            have : (List.map (Vl.txt ∘ fun j => zeroV f t (ksT t (i : Int) j)) (List.range (kidsL t (i : Int)).length)).flatten.length ≤ 32 := by omega
            exact Nat.le_trans this (by decide)) (by simp only [List.length_map, List.length_range]; omega), bS]
      simp only
      rw [goal, txt_r, List.map_map]
      rfl

/-! ### Rows under way -/
def rowsC (L : List (List (List UInt8))) : List Cell := L.map fun xs => Cell.sl .str true xs
theorem rowsC_len (L : List (List (List UInt8))) : (rowsC L).length = L.length := by unfold rowsC; rw [List.length_map]
theorem rowsC_get {L : List (List (List UInt8))} {j : Nat} (h : j < L.length) : (rowsC L)[j]? = some (Cell.sl .str true L[j]) := by unfold rowsC; rw [List.getElem?_map, List.getElem?_eq_getElem h]; rfl
theorem slOf_str (b : Bool) (xs : List (List UInt8)) : slOf .str (Cell.sl .str b xs) = some (b, xs) := by simp [slOf]
theorem killC_rows (d : Nat) : ∀ L, killC d (rowsC L) = rowsC L
  | [] => rfl
  | x :: L => by
    have := killC_rows d L
    unfold rowsC at this ⊢
    rw [List.map_cons, killC, this]; rfl
theorem killBC_rows (d : Nat) : ∀ L, killBC d (rowsC L) = rowsC L
  | [] => rfl
  | x :: L => by
    have := killBC_rows d L
    unfold rowsC at this ⊢
    rw [List.map_cons, killBC, this]; rfl
theorem killCC_rows (s j : Nat) : ∀ L, killCC s j (rowsC L) = rowsC L
  | [] => rfl
  | x :: L => by
    have := killCC_rows s j L
    unfold rowsC at this ⊢
    rw [List.map_cons, killCC, this]; rfl
theorem killsC_rows (L : List (List (List UInt8))) : ∀ ds, killsC ds (rowsC L) = rowsC L
  | [] => rfl
  | d :: ds => by rw [killsC, killC_rows, killsC_rows L ds]
theorem frzC_rows (b : Bool) : ∀ L, frzC b (rowsC L) = rowsC L
  | [] => rfl
  | x :: L => by
    have := frzC_rows b L
    unfold rowsC at this ⊢
    rw [List.map_cons, frzC, this, Bool.or_true]
theorem rowsC_rep (n : Nat) : List.replicate n (Cell.sl .str true ([] : List (List UInt8))) = rowsC (List.replicate n []) := by unfold rowsC; rw [List.map_replicate]
theorem killC_set' (d : Nat) (c : Cell) : ∀ (l : List Cell) (i : Nat), killC d (l.set i c) = (killC d l).set i (c.kill d)
  | [], _ => rfl
  | x :: l, 0 => rfl
  | x :: l, i + 1 => by rw [List.set_cons_succ, killC, killC, List.set_cons_succ, killC_set' d c l i]
theorem rowsC_put (d : Nat) (L : List (List (List UInt8))) (i : Nat) (xs : List (List UInt8)) : (killC d ((rowsC L).set i (.av .und))).set i (Cell.sl .str true xs) = rowsC (L.set i xs) := by
  rw [killC_set', killC_rows, List.set_set]
  unfold rowsC
  rw [List.map_set]

end Go.Proofs.YtppmpfddcohkjaaGreatDoorP

namespace Go.Proofs.YtppmpfddcohkjaaGreatDoorP
open Go Go.Proofs.YtppmpfddcohkjaaGreatDoorA

def numV : Vl → Int
  | .i x => x
  | _ => 0
def trueV : Vl → Bool
  | .b c => c
  | _ => false
def bytV : Vl → List UInt8
  | .s y => y
  | _ => []
def lstV : Vl → List Vl
  | .l vs => vs
  | _ => []
def fldV (f : Nat) (t : List Nod) (a : Int) (j : Nat) : Vl → Vl
  | .r vs => vs.getD j .n
  | _ => zeroV f t (ksT t a j)
def cum (g : Vl → Nat) (vs : List Vl) (j : Nat) : Nat := ((vs.take j).map g).sum
theorem cum_succ (g : Vl → Nat) {vs : List Vl} {j : Nat} (h : j < vs.length) : cum g vs (j + 1) = cum g vs j + g vs[j] := by
  unfold cum
  rw [List.take_succ_eq_append_getElem h, List.map_append, List.sum_append]; simp
def endsV (g : Vl → Nat) (vs : List Vl) (m : Nat) : List UInt8 := ((List.range m).map fun j => w4 (cum g vs j : Int)).flatten
theorem endsV_succ (g : Vl → Nat) (vs : List Vl) (m : Nat) : endsV g vs (m + 1) = endsV g vs m ++ w4 (cum g vs m : Int) := by
  unfold endsV; rw [List.range_succ, List.map_append, List.flatten_append]; simp
theorem endsV_len (g : Vl → Nat) (vs : List Vl) : ∀ m, (endsV g vs m).length = 4 * m
  | 0 => rfl
  | m + 1 => by rw [endsV_succ, List.length_append, endsV_len g vs m, w4_length]; omega
def intsV (vs : List Vl) : List UInt8 := (vs.map fun v => w8 (numV v)).flatten
theorem intsV_snoc (l : List Vl) (v : Vl) : intsV (l ++ [v]) = intsV l ++ w8 (numV v) := by unfold intsV; rw [List.map_append, List.flatten_append]; simp
theorem intsV_len : ∀ l : List Vl, (intsV l).length = 8 * l.length
  | [] => rfl
  | v :: l => by
    have := intsV_len l
    unfold intsV at this ⊢
    rw [List.map_cons, List.flatten_cons, List.length_append, this, w8_length, List.length_cons]; omega
def bytsV (vs : List Vl) : List UInt8 := (vs.map bytV).flatten
theorem bytsV_snoc (l : List Vl) (v : Vl) : bytsV (l ++ [v]) = bytsV l ++ bytV v := by unfold bytsV; rw [List.map_append, List.flatten_append]; simp
theorem bytsV_cum (vs : List Vl) (j : Nat) : (bytsV (vs.take j)).length = cum (fun v => (bytV v).length) vs j := by
  unfold bytsV cum; rw [flatten_len]
theorem lstsV_cum (vs : List Vl) (j : Nat) : ((vs.take j).flatMap lstV).length = cum (fun v => (lstV v).length) vs j := by
  unfold cum; rw [List.length_flatMap]
def seqK (B : Nat → Option Arr) : Nat → Option (List Arr)
  | 0 => some []
  | m + 1 => (seqK B m).bind fun l => (B m).map fun x => l ++ [x]
theorem seqK_none {B : Nat → Option Arr} {j : Nat} (h : B j = none) : ∀ m, j < m → seqK B m = none
  | 0, hm => by omega
  | m + 1, hm => by
    rw [seqK]
    by_cases e : j = m
    · subst e; rw [h]; cases seqK B j <;> rfl
    · rw [seqK_none h m (by omega)]; rfl
theorem seqK_len {B : Nat → Option Arr} : ∀ (m : Nat) {l : List Arr}, seqK B m = some l → l.length = m ∧ ∀ j (h : j < l.length), B j = some l[j]
  | 0, l, h => by cases h; exact ⟨rfl, fun j h => by simp at h⟩
  | m + 1, l, h => by
    rw [seqK] at h
    cases h1 : seqK B m with
    | none => rw [h1] at h; cases h
    | some l0 =>
      rw [h1, Option.bind_some] at h
      cases h2 : B m with
      | none => rw [h2] at h; cases h
      | some x =>
        rw [h2, Option.map_some] at h
        cases h
        obtain ⟨e1, e2⟩ := seqK_len m h1
        refine ⟨by simp [e1], fun j hj => ?_⟩
        by_cases e : j < l0.length
        · rw [List.getElem_append_left e]; exact e2 j e
        · simp only [List.length_append, List.length_singleton] at hj
          have : j = m := by omega
          subst this
          rw [h2, List.getElem_append_right (by omega)]; simp [e1]
def shutK (n : Nat) (valid ends data : List UInt8) (ks : List Arr) : Option Arr := if data.length ≤ 4096 ∧ ends.length ≤ 4096 then some (.mk 0 0 (n : Int) valid ends data ks) else none
/-- An array of a node's values; none: it is too much. -/
def bV : Nat → List Nod → Int → List Vl → Option Arr
  | 0, _, _, _ => none
  | f + 1, t, a, vs => if 64 < vs.length then none else
    let v := validT (vs.map Vl.txt)
    if knd t a.toNat = 0 then shutK vs.length v [] (intsV vs) []
    else if knd t a.toNat = 1 then shutK vs.length v [] (bitsT (vs.map trueV)) []
    else if knd t a.toNat = 2 then shutK vs.length v (endsV (fun v => (bytV v).length) vs (vs.length + 1)) (bytsV vs) []
    else if knd t a.toNat = 3 then (seqK (fun j => bV f t (ksT t a j) (vs.flatMap lstV)) (kidsL t a).length).bind fun ks => shutK vs.length v (endsV (fun v => (lstV v).length) vs (vs.length + 1)) [] ks
    else (seqK (fun j => bV f t (ksT t a j) (vs.map (fldV f t a j))) (kidsL t a).length).bind fun ks => shutK vs.length v [] [] ks

/-- What an answer is of an array, or of none. -/
def Ans (o : Option (Arr × Bool)) (B : Option Arr) : Prop := ∃ A ok, o = some (A, ok) ∧ (match B with | some C => A = C ∧ ok = true | none => ok = false)
theorem Ans.shut {n : Nat} {v e d : List UInt8} {ks : List Arr} :
    Ans (bif decide (((d.length : Nat) : Int) ≤ 4096) then some (Arr.mk 0 0 (n : Int) v e d ks, decide (((e.length : Nat) : Int) ≤ 4096)) else some (Arr.mk 0 0 (n : Int) v e d ks, false)) (shutK n v e d ks) := by
  unfold shutK
  by_cases hd : d.length ≤ 4096
  · rw [dT (by omega), cT]
    by_cases he : e.length ≤ 4096
    · rw [dT (by omega), if_pos ⟨hd, he⟩]; exact ⟨_, _, rfl, rfl, rfl⟩
    · rw [dF (by omega), if_neg (fun h => he h.2)]; exact ⟨_, _, rfl, rfl⟩
  · rw [dF (by omega), cF, if_neg (fun h => hd h.1)]; exact ⟨_, _, rfl, rfl⟩
theorem l6_ok {k : Nat} {t : List Nod} {ks : List Int} {L : List (List (List UInt8))} (hL : L.length = ks.length) (hks : ks.length ≤ 8) {B : Nat → Option Arr} (n0 : Nat) (v e d : List UInt8)
    (hB : ∀ j (h : j < ks.length) (h' : j < L.length), Ans (quiverref7_build.f idb k t ks[j] L[j]) (B j)) :
    ∀ (c j n : Nat) (kids : List Arr), j + c = ks.length → c + 1 ≤ n → seqK B j = some kids →
      Ans (quiverref7_build.l6 idb k n ks.length (j : Int) t (n0 : Int) v e d kids (rowsC L) ks) ((seqK B ks.length).bind fun ks => shutK n0 v e d ks)
  | 0, j, n, kids, hj, hn, hs => by
    obtain ⟨n, rfl⟩ : ∃ q, n = q + 1 := ⟨n - 1, by omega⟩
    rw [quiverref7_build.l6_eq, dF (by omega), cF, show ks.length = j by omega, hs, Option.bind_some]
    exact Ans.shut
  | c + 1, j, n, kids, hj, hn, hs => by
    obtain ⟨n, rfl⟩ : ∃ q, n = q + 1 := ⟨n - 1, by omega⟩
    have hjk : j < ks.length := by omega
    have hjL : j < L.length := by omega
    obtain ⟨A, ok, hA, hA'⟩ := hB j hjk hjL
    have hlen := (seqK_len j hs).1
    rw [quiverref7_build.l6_eq, dT (by omega), cT, dT (by omega)]
    simp only [Bool.and_self, cT, Int.toNat_natCast]
    rw [List.getElem?_eq_getElem hjk, bS, killsC_rows, rowsC_get hjL, bS, slOf_str, bS, cT, hA, bS]
    cases hBj : B j with
    | none =>
      rw [hBj] at hA'
      simp only at hA'
      rw [hA', Bool.not_false, cT, seqK_none hBj ks.length hjk, Option.bind_none]
      exact ⟨_, _, rfl, rfl⟩
    | some C =>
      rw [hBj] at hA'
      obtain ⟨rfl, rfl⟩ := hA'
      rw [Bool.not_true, cF, Arr.eta, dT (by simp only [List.length_cons, List.length_nil]; omega), cT, wsucc (by omega), killC_rows, killC_rows, killCC_rows]
      exact l6_ok hL hks n0 v e d hB c (j + 1) n (kids ++ [A]) (by omega) (by omega) (by rw [seqK, hs, Option.bind_some, hBj]; rfl)

end Go.Proofs.YtppmpfddcohkjaaGreatDoorP

namespace Go.Proofs.YtppmpfddcohkjaaGreatDoorP
open Go Go.Proofs.YtppmpfddcohkjaaGreatDoorA

theorem Low4 {k : Nat} (hk : 12 ≤ k) (x : Int) : quiverref1_Low.f idb k x 4 = some (w4 x) := by
  obtain ⟨m, rfl⟩ : ∃ m, k = m + 12 := ⟨k - 12, by omega⟩
  exact low4 m x
theorem Low8 {k : Nat} (hk : 12 ≤ k) (x : Int) : quiverref1_Low.f idb k x 8 = some (w8 x) := by
  obtain ⟨m, rfl⟩ : ∃ m, k = m + 12 := ⟨k - 12, by omega⟩
  exact low8 m x
section
variable {f : Nat} {t : List Nod} {i : Nat} {v : Vl}
theorem Typed.k0 (h : Typed (f + 1) t (i : Int) v) (hk : knd t i = 0) : v = .n ∨ ∃ x, In64 x ∧ v = .i x := by
  have h := h.2
  rw [Int.toNat_natCast] at h
  cases v with
  | n => exact .inl rfl
  | i x => exact .inr ⟨x, h.2, rfl⟩
  | b c => simp only [hk] at h; cases h
  | s l => simp only [hk] at h; cases h.1
  | l us => simp only [hk] at h; cases h.1
  | r us => simp only [hk] at h; cases h.1
theorem Typed.k1 (h : Typed (f + 1) t (i : Int) v) (hk : knd t i = 1) : v = .n ∨ ∃ c, v = .b c := by
  have h := h.2
  rw [Int.toNat_natCast] at h
  cases v with
  | n => exact .inl rfl
  | i x => simp only [hk] at h; cases h.1
  | b c => exact .inr ⟨c, rfl⟩
  | s l => simp only [hk] at h; cases h.1
  | l us => simp only [hk] at h; cases h.1
  | r us => simp only [hk] at h; cases h.1
theorem Typed.k2 (h : Typed (f + 1) t (i : Int) v) (hk : knd t i = 2) : v = .n ∨ ∃ y, y.length ≤ 16 ∧ v = .s y := by
  have h := h.2
  rw [Int.toNat_natCast] at h
  cases v with
  | n => exact .inl rfl
  | i x => simp only [hk] at h; cases h.1
  | b c => simp only [hk] at h; cases h
  | s l => exact .inr ⟨l, h.2, rfl⟩
  | l us => simp only [hk] at h; cases h.1
  | r us => simp only [hk] at h; cases h.1
theorem Typed.k3 (h : Typed (f + 1) t (i : Int) v) (hk : knd t i = 3) : v = .n ∨ ∃ us, us.length ≤ 64 ∧ (∀ w ∈ us, Typed f t (ksT t (i : Int) 0) w) ∧ v = .l us := by
  have h := h.2
  rw [Int.toNat_natCast] at h
  cases v with
  | n => exact .inl rfl
  | i x => simp only [hk] at h; cases h.1
  | b c => simp only [hk] at h; cases h
  | s l => simp only [hk] at h; cases h.1
  | l us => exact .inr ⟨us, h.2.1, h.2.2, rfl⟩
  | r us => simp only [hk] at h; cases h.1
theorem Typed.k4 (h : Typed (f + 1) t (i : Int) v) (hk : knd t i = 4) : v = .n ∨ ∃ us, us.length = (kidsL t (i : Int)).length ∧ (∀ j (hj : j < us.length), Typed f t (ksT t (i : Int) j) us[j]) ∧ v = .r us := by
  have h := h.2
  rw [Int.toNat_natCast] at h
  cases v with
  | n => exact .inl rfl
  | i x => simp only [hk] at h; cases h.1
  | b c => simp only [hk] at h; cases h
  | s l => simp only [hk] at h; cases h.1
  | l us => simp only [hk] at h; cases h.1
  | r us => exact .inr ⟨us, h.2.1, h.2.2, rfl⟩
end
theorem take_snoc {α : Type} {l : List α} {i : Nat} (h : i < l.length) : l.take (i + 1) = l.take i ++ [l[i]] := List.take_succ_eq_append_getElem h

theorem rows0 {f k : Nat} (hk : 101000 ≤ k) {t : List Nod} {i : Nat} (hi : i < t.length) {vs : List Vl} (hvs : ∀ v ∈ vs, Typed (f + 1) t (i : Int) v ∧ v.txt.length ≤ 65536) (hlen : vs.length ≤ 64) (va : List UInt8) (L : List (List (List UInt8))) (ks : List Int) (hkd : knd t i = 0) : quiverref7_build.l0 idb k k (i : Int) (vs.map Vl.txt) ks.length 0 t (vs.length : Int) va [] [] (rowsC L) ks [] =
    quiverref7_build.l6 idb k k ks.length 0 t (vs.length : Int) va [] (intsV vs) [] (rowsC L) ks := by
  refine loop_up (F := fun n j => quiverref7_build.l0 idb k n (i : Int) (vs.map Vl.txt) ks.length (j : Int) t (vs.length : Int) va [] (intsV (vs.take j)) (rowsC L) ks []) (N := vs.length) ?_ ?_ k 0 (by omega) (by omega)
  · intro n j hj
    obtain ⟨hT, hl⟩ := hvs vs[j] (List.getElem_mem hj)
    have hp := hT.parts (k := k) (by omega) hl
    have hil : (intsV (vs.take j)).length = 8 * j := by rw [intsV_len, List.length_take, Nat.min_eq_left (by omega)]
    rcases hT.k0 hkd with e | ⟨x, hx, e⟩
    · have hp' : quiverref7_Parts.f idb k vs[j].txt = some (-1, [], 0) := by rw [hp, e]; rfl
      have en : numV vs[j] = 0 := by rw [e]; rfl
      rw [quiverref7_build.l0_eq, dT (by rw [List.length_map]; omega), cT, rd_get (by rw [List.length_map]; exact hj), bS, List.getElem_map, hp', bS, rd_get hi, bS, knd_get hi, hkd, show ((0 : Int) == 0) = true from rfl, cT, take_snoc hj, intsV_snoc, wsucc (by omega), killC_rows, killsC_rows, en]
      simp only
      rw [dF (by omega), cF, Low8 (by omega), bS, dT (by rw [hil, w8_length]; omega), cT]
    · have hp' : quiverref7_Parts.f idb k vs[j].txt = some (0, [digT x], 0) := by rw [hp, e]; rfl
      have en : numV vs[j] = x := by rw [e]; rfl
      rw [quiverref7_build.l0_eq, dT (by rw [List.length_map]; omega), cT, rd_get (by rw [List.length_map]; exact hj), bS, List.getElem_map, hp', bS, rd_get hi, bS, knd_get hi, hkd, show ((0 : Int) == 0) = true from rfl, cT, take_snoc hj, intsV_snoc, wsucc (by omega), killC_rows, killsC_rows, en]
      simp only
      rw [dT (show (0 : Int) ≥ 0 by omega), cT, show (decide ((0 : Nat) ≤ 0) && decide ((0 : Int) < (([digT x] : List (List UInt8)).length : Int))) = true from rfl, cT, show ([digT x] : List (List UInt8))[0]? = some (digT x) from rfl, bS, whole_ok (by omega) hx.1 hx.2, bS, Low8 (by omega), bS, dT (by rw [hil, w8_length]; omega), cT]
  · intro n
    rw [quiverref7_build.l0_eq, dF (by rw [List.length_map]; omega), cF, rd_get hi, bS, knd_get hi, hkd, List.take_length]
    simp only [show ((0 : Int) == 1) = false from rfl, show ((0 : Int) == 2) = false from rfl, show ((0 : Int) == 3) = false from rfl, cF]
    show quiverref7_build.j39 idb k _ _ _ _ _ _ _ _ = _
    rw [quiverref7_build.j39_eq]
theorem rows1 {f k : Nat} (hk : 101000 ≤ k) {t : List Nod} {i : Nat} (hi : i < t.length) {vs : List Vl} (hvs : ∀ v ∈ vs, Typed (f + 1) t (i : Int) v ∧ v.txt.length ≤ 65536) (hlen : vs.length ≤ 64) (va : List UInt8) (L : List (List (List UInt8))) (ks : List Int) (hkd : knd t i = 1) : quiverref7_build.l0 idb k k (i : Int) (vs.map Vl.txt) ks.length 0 t (vs.length : Int) va [] [] (rowsC L) ks [] =
    quiverref7_build.l6 idb k k ks.length 0 t (vs.length : Int) va [] (bitsT (vs.map trueV)) [] (rowsC L) ks := by
  refine loop_up (F := fun n j => quiverref7_build.l0 idb k n (i : Int) (vs.map Vl.txt) ks.length (j : Int) t (vs.length : Int) va [] [] (rowsC L) ks ((vs.take j).map trueV)) (N := vs.length) ?_ ?_ k 0 (by omega) (by omega)
  · intro n j hj
    obtain ⟨hT, hl⟩ := hvs vs[j] (List.getElem_mem hj)
    have hp := hT.parts (k := k) (by omega) hl
    have ht : (vs[j].txt == [116]) = trueV vs[j] := by
      rcases hT.k1 hkd with e | ⟨c, e⟩
      · rw [e, Vl.txt]; rfl
      · rw [e, Vl.txt]; cases c <;> rfl
    rw [quiverref7_build.l0_eq, dT (by rw [List.length_map]; omega), cT, rd_get (by rw [List.length_map]; exact hj)]
    simp only [bS]
    rw [List.getElem_map, hp, bS, rd_get hi, bS, knd_get hi, hkd, show ((1 : Int) == 0) = false from rfl, cF, show ((1 : Int) == 1) = true from rfl, cT, ht, dT (by simp only [List.length_map, List.length_take, List.length_cons, List.length_nil]; omega), cT, take_snoc hj, List.map_append, wsucc (by omega), killC_rows, killC_rows, killC_rows, killC_rows]
    rfl
  · intro n
    rw [quiverref7_build.l0_eq, dF (by rw [List.length_map]; omega), cF, rd_get hi, bS, knd_get hi, hkd, List.take_length, show ((1 : Int) == 1) = true from rfl, cT, BitsOf_ok (by rw [List.length_map]; omega) (by rw [List.length_map]; omega), bS]
    show quiverref7_build.j39 idb k _ _ _ _ _ _ _ _ = _
    rw [quiverref7_build.j39_eq]
theorem bytes_cum {f : Nat} {t : List Nod} {i : Nat} {vs : List Vl} (hvs : ∀ v ∈ vs, Typed (f + 1) t (i : Int) v ∧ v.txt.length ≤ 65536) (hkd : knd t i = 2) : ∀ j, j ≤ vs.length → cum (fun v => (bytV v).length) vs j ≤ 16 * j
  | 0, _ => by simp [cum]
  | j + 1, hj => by
    have ih := bytes_cum hvs hkd j (by omega)
    have hj' : j < vs.length := by omega
    rw [cum_succ _ hj']
    have : (bytV vs[j]).length ≤ 16 := by
      rcases (hvs vs[j] (List.getElem_mem hj')).1.k2 hkd with e | ⟨y, hy, e⟩
      · rw [e]; simp [bytV]
      · rw [e]; exact hy
    omega
theorem rows2 {f k : Nat} (hk : 101000 ≤ k) {t : List Nod} {i : Nat} (hi : i < t.length) {vs : List Vl} (hvs : ∀ v ∈ vs, Typed (f + 1) t (i : Int) v ∧ v.txt.length ≤ 65536) (hlen : vs.length ≤ 64) (va : List UInt8) (L : List (List (List UInt8))) (ks : List Int) (hkd : knd t i = 2) : quiverref7_build.l0 idb k k (i : Int) (vs.map Vl.txt) ks.length 0 t (vs.length : Int) va [] [] (rowsC L) ks [] =
    quiverref7_build.l6 idb k k ks.length 0 t (vs.length : Int) va (endsV (fun v => (bytV v).length) vs (vs.length + 1)) (bytsV vs) [] (rowsC L) ks := by
  refine loop_up (F := fun n j => quiverref7_build.l0 idb k n (i : Int) (vs.map Vl.txt) ks.length (j : Int) t (vs.length : Int) va (endsV (fun v => (bytV v).length) vs j) (bytsV (vs.take j)) (rowsC L) ks []) (N := vs.length) ?_ ?_ k 0 (by omega) (by omega)
  · intro n j hj
    obtain ⟨hT, hl⟩ := hvs vs[j] (List.getElem_mem hj)
    have hp := hT.parts (k := k) (by omega) hl
    have hc := bytes_cum hvs hkd j (by omega)
    have hbl := bytsV_cum vs j
    have hel := endsV_len (fun v => (bytV v).length) vs j
    have hps : vs[j].ps.flatten = bytV vs[j] ∧ vs[j].ps.length ≤ 1 ∧ (bytV vs[j]).length ≤ 16 := by
      rcases hT.k2 hkd with e | ⟨y, hy, e⟩
      · rw [e]; exact ⟨rfl, by simp [Vl.ps], by simp [bytV]⟩
      · rw [e]; exact ⟨by simp [Vl.ps, bytV], by simp [Vl.ps], hy⟩
    obtain ⟨p1, p2, p3⟩ := hps
    rw [quiverref7_build.l0_eq, dT (by rw [List.length_map]; omega), cT, rd_get (by rw [List.length_map]; exact hj), bS, List.getElem_map, hp, bS, rd_get hi, bS, knd_get hi, hkd, show ((2 : Int) == 0) = false from rfl, cF, show ((2 : Int) == 1) = false from rfl, cF, show ((2 : Int) == 2) = true from rfl, cT,
      Low4 (by omega), bS, dT (by rw [hel, w4_length]; omega), cT, all_ok (vs := vs[j].ps) (by omega) (by rw [p1]; omega) (by omega), bS, p1, dT (by rw [hbl]; omega), cT, take_snoc hj, bytsV_snoc, endsV_succ, hbl, wsucc (by omega), killC_rows, killsC_rows, killsC_rows]
  · intro n
    have hel := endsV_len (fun v => (bytV v).length) vs vs.length
    have hbl := bytsV_cum vs vs.length
    rw [List.take_length] at hbl
    rw [quiverref7_build.l0_eq, dF (by rw [List.length_map]; omega), cF, rd_get hi, bS, knd_get hi, hkd, List.take_length, show ((2 : Int) == 1) = false from rfl, cF, show ((2 : Int) == 2) = true from rfl, cT, Low4 (by omega), bS, dT (by rw [hel, w4_length]; omega), cT, endsV_succ, hbl, killsC_rows]
    show quiverref7_build.j39 idb k _ _ _ _ _ _ _ _ = _
    rw [quiverref7_build.j39_eq]
theorem lists_cum {f : Nat} {t : List Nod} {i : Nat} {vs : List Vl} (hvs : ∀ v ∈ vs, Typed (f + 1) t (i : Int) v ∧ v.txt.length ≤ 65536) (hkd : knd t i = 3) : ∀ j, j ≤ vs.length → cum (fun v => (lstV v).length) vs j ≤ 64 * j
  | 0, _ => by simp [cum]
  | j + 1, hj => by
    have ih := lists_cum hvs hkd j (by omega)
    have hj' : j < vs.length := by omega
    rw [cum_succ _ hj']
    have : (lstV vs[j]).length ≤ 64 := by
      rcases (hvs vs[j] (List.getElem_mem hj')).1.k3 hkd with e | ⟨y, hy, _, e⟩
      · rw [e]; simp [lstV]
      · rw [e]; exact hy
    omega
theorem rows3 {f k : Nat} (hk : 101000 ≤ k) {t : List Nod} {i : Nat} (hi : i < t.length) {vs : List Vl} (hvs : ∀ v ∈ vs, Typed (f + 1) t (i : Int) v ∧ v.txt.length ≤ 65536) (hlen : vs.length ≤ 64) (va : List UInt8) (ks : List Int) (hkd : knd t i = 3) : quiverref7_build.l0 idb k k (i : Int) (vs.map Vl.txt) 1 0 t (vs.length : Int) va [] [] (rowsC [[]]) ks [] =
    quiverref7_build.l6 idb k k 1 0 t (vs.length : Int) va (endsV (fun v => (lstV v).length) vs (vs.length + 1)) [] [] (rowsC [(vs.flatMap lstV).map Vl.txt]) ks := by
  refine loop_up (F := fun n j => quiverref7_build.l0 idb k n (i : Int) (vs.map Vl.txt) 1 (j : Int) t (vs.length : Int) va (endsV (fun v => (lstV v).length) vs j) [] (rowsC [((vs.take j).flatMap lstV).map Vl.txt]) ks []) (N := vs.length) ?_ ?_ k 0 (by omega) (by omega)
  · intro n j hj
    obtain ⟨hT, hl⟩ := hvs vs[j] (List.getElem_mem hj)
    have hp := hT.parts (k := k) (by omega) hl
    have hc := lists_cum hvs hkd j (by omega)
    have hbl := lstsV_cum vs j
    have hel := endsV_len (fun v => (lstV v).length) vs j
    have hps : vs[j].ps = (lstV vs[j]).map Vl.txt ∧ (lstV vs[j]).length ≤ 64 := by
      rcases hT.k3 hkd with e | ⟨y, hy, _, e⟩
      · rw [e]; exact ⟨rfl, by simp [lstV]⟩
      · rw [e]; exact ⟨rfl, hy⟩
    obtain ⟨p1, p2⟩ := hps
    have hg : ∀ M : List (List UInt8), (rowsC [M])[0]? = some (Cell.sl .str true M) := fun M => rfl
    rw [quiverref7_build.l0_eq, dT (by rw [List.length_map]; omega), cT, rd_get (by rw [List.length_map]; exact hj), bS, List.getElem_map, hp, bS, rd_get hi, bS, knd_get hi, hkd, show ((3 : Int) == 0) = false from rfl, cF, show ((3 : Int) == 1) = false from rfl, cF, show ((3 : Int) == 2) = false from rfl, cF, show ((3 : Int) == 3) = true from rfl, cT,
      show (decide ((0 : Nat) ≤ 0) && decide ((0 : Int) < ((1 : Nat) : Int))) = true from rfl]
    simp only [cT]
    rw [killC_rows, killsC_rows, hg]
    simp only [bS]
    rw [slOf_str]
    simp only [bS, cT]
    rw [Low4 (by omega), bS, dT (by rw [hel, w4_length]; omega), cT, p1, dT (by simp only [List.length_map]; rw [hbl]; omega), cT, rowsC_put, killBC_rows, take_snoc hj, endsV_succ, wsucc (by omega), List.flatMap_append, List.map_append]
    simp only [List.length_map]
    rw [hbl]
    have : Nat.blt 0 (killC 149 ((rowsC [((vs.take j).flatMap lstV).map Vl.txt]).set 0 (.av .und))).length = true := rfl
    rw [this, cT, List.flatMap_singleton]
    rfl
  · intro n
    have hel := endsV_len (fun v => (lstV v).length) vs vs.length
    have hbl := lstsV_cum vs vs.length
    rw [List.take_length] at hbl
    have hg : ∀ M : List (List UInt8), (rowsC [M])[0]? = some (Cell.sl .str true M) := fun M => rfl
    rw [quiverref7_build.l0_eq, dF (by rw [List.length_map]; omega), cF, rd_get hi, bS, knd_get hi, hkd, List.take_length, show ((3 : Int) == 1) = false from rfl, cF, show ((3 : Int) == 2) = false from rfl, cF, show ((3 : Int) == 3) = true from rfl, cT, show (decide ((0 : Nat) ≤ 0) && decide ((0 : Int) < ((1 : Nat) : Int))) = true from rfl, cT, killsC_rows, hg, bS, slOf_str, bS, cT, Low4 (by omega), bS, dT (by rw [hel, w4_length]; omega), cT, endsV_succ]
    simp only [List.length_map]
    rw [hbl]
    show quiverref7_build.j39 idb k _ _ _ _ _ _ _ _ = _
    rw [quiverref7_build.j39_eq]

end Go.Proofs.YtppmpfddcohkjaaGreatDoorP

namespace Go.Proofs.YtppmpfddcohkjaaGreatDoorP
open Go Go.Proofs.YtppmpfddcohkjaaGreatDoorA

/-- A struct's rows under way: of the first kids one more. -/
def fldR (f : Nat) (t : List Nod) (a : Int) (vs : List Vl) (i j m : Nat) : List (List (List UInt8)) := (List.range m).map fun q => ((vs.take (if q < j then i + 1 else i)).map (fldV f t a q)).map Vl.txt
theorem fldR_len (f : Nat) (t : List Nod) (a : Int) (vs : List Vl) (i j m : Nat) : (fldR f t a vs i j m).length = m := by unfold fldR; rw [List.length_map, List.length_range]
theorem fldR_get {f : Nat} {t : List Nod} {a : Int} {vs : List Vl} {i j m q : Nat} (h : q < m) : (fldR f t a vs i j m)[q]'(by rw [fldR_len]; exact h) = ((vs.take (if q < j then i + 1 else i)).map (fldV f t a q)).map Vl.txt := by simp [fldR]
theorem fldR_zero (f : Nat) (t : List Nod) (a : Int) (vs : List Vl) (i m : Nat) : fldR f t a vs i m m = fldR f t a vs (i + 1) 0 m := by
  unfold fldR
  refine List.map_congr_left fun q hq => ?_
  rw [if_pos (List.mem_range.1 hq), if_neg (by omega)]
theorem fldR_set {f : Nat} {t : List Nod} {a : Int} {vs : List Vl} {i j m : Nat} (hj : j < m) (hi : i < vs.length) :
    (fldR f t a vs i j m).set j (((vs.take i).map (fldV f t a j)).map Vl.txt ++ [(fldV f t a j vs[i]).txt]) = fldR f t a vs i (j + 1) m := by
  refine List.ext_getElem (by rw [List.length_set, fldR_len, fldR_len]) fun q h1 h2 => ?_
  rw [fldR_len] at h2
  rw [List.getElem_set]
  by_cases e : j = q
  · subst e
    rw [if_pos rfl, fldR_get h2, if_pos (by omega), take_snoc hi, List.map_append, List.map_append]
    rfl
  · rw [if_neg e, fldR_get h2, fldR_get h2]
    by_cases h : q < j
    · rw [if_pos h, if_pos (by omega)]
    · rw [if_neg h, if_neg (by omega)]
theorem rows4 {f k : Nat} (hk : 101000 + 20 * f ≤ k) {t : List Nod} {i : Nat} (hi : i < t.length) (hm : mayT t = true) (hf : t.length - i < f + 1) {vs : List Vl} (hvs : ∀ v ∈ vs, Typed (f + 1) t (i : Int) v ∧ v.txt.length ≤ 65536) (hlen : vs.length ≤ 64) (va : List UInt8) (hkd : knd t i = 4) : quiverref7_build.l0 idb k k (i : Int) (vs.map Vl.txt) (kidsL t (i : Int)).length 0 t (vs.length : Int) va [] [] (rowsC (List.replicate (kidsL t (i : Int)).length [])) (kidsL t (i : Int)) [] =
    quiverref7_build.l6 idb k k (kidsL t (i : Int)).length 0 t (vs.length : Int) va [] [] [] (rowsC ((List.range (kidsL t (i : Int)).length).map fun j => (vs.map (fldV f t (i : Int) j)).map Vl.txt)) (kidsL t (i : Int)) := by
  have hkk := kidsU_length t (i : Int) t.length
  have htl := mayT_length hm
  have hkl : (kidsL t (i : Int)).length ≤ 8 := by unfold kidsL; omega
  have e0 : List.replicate (kidsL t (i : Int)).length [] = fldR f t (i : Int) vs 0 0 (kidsL t (i : Int)).length := by
    unfold fldR
    refine List.ext_getElem (by simp) fun q h1 h2 => ?_
    simp
  have e1 : ((List.range (kidsL t (i : Int)).length).map fun j => (vs.map (fldV f t (i : Int) j)).map Vl.txt) = fldR f t (i : Int) vs vs.length 0 (kidsL t (i : Int)).length := by
    unfold fldR
    refine List.map_congr_left fun q _ => ?_
    rw [if_neg (by omega), List.take_length]
  rw [e0, e1]
  refine loop_up (F := fun n j => quiverref7_build.l0 idb k n (i : Int) (vs.map Vl.txt) (kidsL t (i : Int)).length (j : Int) t (vs.length : Int) va [] [] (rowsC (fldR f t (i : Int) vs j 0 (kidsL t (i : Int)).length)) (kidsL t (i : Int)) []) (N := vs.length) ?_ ?_ k 0 (by omega) (by omega)
  · intro n r hr
    obtain ⟨hT, hl⟩ := hvs vs[r] (List.getElem_mem hr)
    have hp := hT.parts (k := k) (by omega) hl
    rw [quiverref7_build.l0_eq, dT (by rw [List.length_map]; omega), cT, rd_get (by rw [List.length_map]; exact hr), bS, List.getElem_map, hp, bS, rd_get hi, bS, knd_get hi, hkd]
    simp only [show ((4 : Int) == 0) = false from rfl, show ((4 : Int) == 1) = false from rfl, show ((4 : Int) == 2) = false from rfl, show ((4 : Int) == 3) = false from rfl, cF]
    rw [killC_rows, killC_rows]
    refine loop_up (F := fun n' j => quiverref7_build.l3 idb k n n' (i : Int) (vs.map Vl.txt) (kidsL t (i : Int)).length (r : Int) vs[r].kd (j : Int) t (vs.length : Int) va [] [] (rowsC (fldR f t (i : Int) vs r j (kidsL t (i : Int)).length)) (kidsL t (i : Int)) [] vs[r].ps) (N := (kidsL t (i : Int)).length) ?_ ?_ k 0 (by omega) (by omega)
    · intro n' j hj
      have hksj := ksT_get (t := t) (a := (i : Int)) hj
      obtain ⟨q, hq1, hq2, hq3⟩ := ksT_gt hm hj
      have hz := zero_ok f (t := t) (a := ksT t (i : Int) j) (by rw [hq1]; exact nodeB_of hm hq3) (by rw [hq1, Int.toNat_natCast]; omega) k (by omega)
      have hL := fldR_len f t (i : Int) vs r j (kidsL t (i : Int)).length
      have hg := rowsC_get (L := fldR f t (i : Int) vs r j (kidsL t (i : Int)).length) (j := j) (by rw [hL]; exact hj)
      rw [fldR_get hj, if_neg (by omega)] at hg
      have hbl : Nat.blt j (killC 88 ((rowsC (fldR f t (i : Int) vs r j (kidsL t (i : Int)).length)).set j (.av .und))).length = true := by
        rw [killC_set', killC_rows, List.length_set, rowsC_len, hL]
        exact Nat.ble_eq_true_of_le hj
      have fin : ∀ x : List UInt8, (fldV f t (i : Int) j vs[r]).txt = x →
          (bif decide (0 ≤ (j : Int)) && decide ((j : Int) < (((kidsL t (i : Int)).length : Nat) : Int)) then
            (rowsC (fldR f t (i : Int) vs r j (kidsL t (i : Int)).length))[((j : Int)).toNat]?.bind fun c_4 =>
              (slOf .str c_4).bind fun p_5 =>
                bif p_5.1 then
                  (killC 87 (rowsC (fldR f t (i : Int) vs r j (kidsL t (i : Int)).length)))[((j : Int)).toNat]?.bind fun c_6 =>
                    (slOf .str c_6).bind fun p_7 =>
                      bif decide (((p_7.2).length + (([x] : List (List UInt8))).length) * 16 ≤ 140737488355328) then
                        bif decide (0 ≤ (j : Int)) && decide ((j : Int) < (((kidsL t (i : Int)).length : Nat) : Int)) then
                          bif Nat.blt (((j : Int)).toNat) (killC 88 ((killC 87 (rowsC (fldR f t (i : Int) vs r j (kidsL t (i : Int)).length))).set (((j : Int)).toNat) (.av .und))).length then
                            quiverref7_build.l3 idb k n n' (i : Int) (vs.map Vl.txt) (kidsL t (i : Int)).length (r : Int) vs[r].kd (IntKind.i64.wrap ((j : Int) + 1)) t (vs.length : Int) va [] [] (killBC 40 ((killC 88 ((killC 87 (rowsC (fldR f t (i : Int) vs r j (kidsL t (i : Int)).length))).set (((j : Int)).toNat) (.av .und))).set (((j : Int)).toNat) (Cell.sl .str true (p_7.2 ++ ([x] : List (List UInt8)))))) (kidsL t (i : Int)) [] vs[r].ps
                          else none
                        else none
                      else none
                else none
          else none) = quiverref7_build.l3 idb k n n' (i : Int) (vs.map Vl.txt) (kidsL t (i : Int)).length (r : Int) vs[r].kd ((j + 1 : Nat) : Int) t (vs.length : Int) va [] [] (rowsC (fldR f t (i : Int) vs r (j + 1) (kidsL t (i : Int)).length)) (kidsL t (i : Int)) [] vs[r].ps := by
        intro x hx
        rw [dT (by omega), dT (by omega)]
        simp only [Bool.and_self, cT, Int.toNat_natCast]
        rw [killC_rows, hg]
        simp only [bS]
        rw [slOf_str]
        simp only [bS, cT]
        rw [dT (by simp only [List.length_map, List.length_take, List.length_cons, List.length_nil]; omega), cT, hbl, cT, rowsC_put, killBC_rows, ← hx, fldR_set hj hr, wsucc (by omega)]
      rw [quiverref7_build.l3_eq, dT (by omega), cT, dT (by omega)]
      simp only [Bool.and_self, cT]
      rw [Int.toNat_natCast, hksj, bS, hz, bS, killsC_rows]
      rcases hT.k4 hkd with e | ⟨us, hul, hus, e⟩
      · have hkdv : vs[r].kd = -1 := by rw [e]; rfl
        have hx : (fldV f t (i : Int) j vs[r]).txt = (zeroV f t (ksT t (i : Int) j)).txt := by rw [e]; rfl
        rw [dF (by rw [hkdv]; omega), cF]
        have := fin _ hx
        rw [dT (show (0 : Int) ≤ (j : Int) by omega), dT (show (j : Int) < (((kidsL t (i : Int)).length : Nat) : Int) by omega)] at this
        simp only [Bool.and_self, cT, Int.toNat_natCast] at this
        exact this
      · have hkdv : vs[r].kd = 4 := by rw [e]; rfl
        have hps : vs[r].ps = us.map Vl.txt := by rw [e]; rfl
        have hju : j < us.length := by omega
        have hx : (fldV f t (i : Int) j vs[r]).txt = us[j].txt := by rw [e]; simp [fldV, hju]
        have hpj : vs[r].ps[j]? = some us[j].txt := by rw [hps, List.getElem?_map, List.getElem?_eq_getElem hju]; rfl
        rw [dT (by rw [hkdv]; omega), cT, dT (show (j : Int) < (vs[r].ps.length : Int) by rw [hps, List.length_map]; omega), hpj]
        simp only [bS, cT]
        have := fin _ hx
        rw [dT (show (0 : Int) ≤ (j : Int) by omega), dT (show (j : Int) < (((kidsL t (i : Int)).length : Nat) : Int) by omega)] at this
        simp only [Bool.and_self, cT, Int.toNat_natCast] at this
        exact this
    · intro n'
      rw [quiverref7_build.l3_eq, dF (by omega), cF, wsucc (by omega), fldR_zero]
  · intro n
    rw [quiverref7_build.l0_eq, dF (by rw [List.length_map]; omega), cF, rd_get hi, bS, knd_get hi, hkd]
    simp only [show ((4 : Int) == 1) = false from rfl, show ((4 : Int) == 2) = false from rfl, show ((4 : Int) == 3) = false from rfl, cF]
    show quiverref7_build.j39 idb k _ _ _ _ _ _ _ _ = _
    rw [quiverref7_build.j39_eq]

/-- So many levels are enough. -/
def Kf : Nat → Nat
  | 0 => 101000
  | f + 1 => Kf f + 6000
theorem Kf_ge : ∀ f, 101000 + 20 * f ≤ Kf f
  | 0 => Nat.le_refl _
  | f + 1 => by
    have := Kf_ge f
    rw [Kf]; omega
theorem build_ok : ∀ (f : Nat) {t : List Nod} {a : Int} {vs : List Vl}, nodeB t a = true → t.length - a.toNat < f → (∀ v ∈ vs, Typed f t a v ∧ v.txt.length ≤ 65536) → vs.length ≤ 9000000000000 →
    ∀ k, Kf f + vs.length ≤ k → Ans (quiverref7_build.f idb k t a (vs.map Vl.txt)) (bV f t a vs)
  | 0, _, _, _, _, h, _, _, _, _ => by omega
  | f + 1, t, a, vs, hn, hf, hvs, hl, k, hk => by
    obtain ⟨hm, i, hi, rfl⟩ := nodeB_may hn
    rw [Int.toNat_natCast] at hf
    rw [Kf] at hk
    have hkg := Kf_ge f
    obtain ⟨k, rfl⟩ : ∃ q, k = q + 1 := ⟨k - 1, by omega⟩
    have hkf : 101000 + 20 * f ≤ k := by omega
    unfold bV
    rw [quiverref7_build.f_eq, valid_ok (by rw [List.length_map]; omega) (by rw [List.length_map]; omega), bS]
    simp only [List.length_map]
    by_cases h64 : 64 < vs.length
    · rw [dT (show ((vs.length : Nat) : Int) > 64 by omega), cT, if_pos h64]
      exact ⟨_, _, rfl, rfl⟩
    rw [dF (show ¬ ((vs.length : Nat) : Int) > 64 by omega), cF, if_neg h64, ref_Kids_ok (by omega), bS, Int.toNat_natCast]
    unfold kidsT
    rw [if_pos hn]
    have hkk := kidsU_length t (i : Int) t.length
    have htl := mayT_length hm
    have hkl : (kidsL t (i : Int)).length ≤ 8 := by unfold kidsL; omega
    simp only
    rw [BEq.rfl, dT (by omega), dT (by omega)]
    simp only [Bool.and_self, cT, Int.toNat_natCast]
    rw [rowsC_rep, frzC_rows, killC_rows, killC_rows, killC_rows, killCC_rows, killCC_rows]
    have hkb := (((mayT_iff t).1 hm).2.1 i hi).1
    unfold kindB at hkb
    simp only [Bool.and_eq_true, decide_eq_true_eq] at hkb
    have leaf : ∀ {e d : List UInt8}, inner (knd t i) = false → Ans (quiverref7_build.l6 idb k k (kidsL t (i : Int)).length 0 t (vs.length : Int) (validT (vs.map Vl.txt)) e d [] (rowsC (List.replicate (kidsL t (i : Int)).length [])) (kidsL t (i : Int))) (shutK vs.length (validT (vs.map Vl.txt)) e d []) := by
      intro e d hin
      have hnil := kids_none hm hi hin
      have := l6_ok (k := k) (t := t) (ks := kidsL t (i : Int)) (L := List.replicate (kidsL t (i : Int)).length []) (by simp) hkl (B := fun _ => none) vs.length (validT (vs.map Vl.txt)) e d (fun j h => by rw [hnil] at h; simp at h) (kidsL t (i : Int)).length 0 k [] (by omega) (by omega) rfl
      rw [hnil] at this ⊢
      exact this
    by_cases h0 : knd t i = 0
    · rw [if_pos h0, rows0 (by omega) hi hvs (by omega) _ _ _ h0]
      exact leaf (by rw [h0]; rfl)
    rw [if_neg h0]
    by_cases h1 : knd t i = 1
    · rw [if_pos h1, rows1 (by omega) hi hvs (by omega) _ _ _ h1]
      exact leaf (by rw [h1]; rfl)
    rw [if_neg h1]
    by_cases h2 : knd t i = 2
    · rw [if_pos h2, rows2 (by omega) hi hvs (by omega) _ _ _ h2]
      exact leaf (by rw [h2]; rfl)
    rw [if_neg h2]
    by_cases h3 : knd t i = 3
    · rw [if_pos h3]
      have hk1 := kid1 hm hi h3
      rw [hk1, show List.replicate 1 ([] : List (List UInt8)) = [[]] from rfl, rows3 (by omega) hi hvs (by omega) _ _ h3]
      have hc := lists_cum hvs h3 vs.length (Nat.le_refl _)
      have hcl := lstsV_cum vs vs.length
      rw [List.take_length] at hcl
      have := l6_ok (k := k) (t := t) (ks := kidsL t (i : Int)) (L := [(vs.flatMap lstV).map Vl.txt]) (by rw [hk1]; rfl) hkl (B := fun j => bV f t (ksT t (i : Int) j) (vs.flatMap lstV)) vs.length (validT (vs.map Vl.txt)) (endsV (fun v => (lstV v).length) vs (vs.length + 1)) [] (fun j hj hj' => by
        have hj0 : j = 0 := by simp only [List.length_singleton] at hj'; omega
        subst hj0
        have hks0 := ksT_get (t := t) (a := (i : Int)) hj
        rw [List.getElem?_eq_getElem hj, Option.some.injEq] at hks0
        obtain ⟨q, hq1, hq2, hq3⟩ := ksT_gt hm hj
        rw [hks0]
        refine build_ok f (by rw [hq1]; exact nodeB_of hm hq3) (by rw [hq1, Int.toNat_natCast]; omega) (fun w hw => ?_) (by omega) k (by omega)
        obtain ⟨u, hu, hw⟩ := List.mem_flatMap.1 hw
        obtain ⟨hT, hul⟩ := hvs u hu
        rcases hT.k3 h3 with e | ⟨y, hy, hyt, e⟩
        · rw [e] at hw; simp [lstV] at hw
        · rw [e] at hw hul
          refine ⟨hyt w hw, ?_⟩
          obtain ⟨r, hr, rfl⟩ := List.mem_iff_getElem.1 hw
          rw [txt_l] at hul
          simp only [lstV] at hr
          have := take_flatten_le (vs := y.map Vl.txt) (r + 1)
          rw [cat_succ (by rw [List.length_map]; exact hr), List.getElem_map] at this
          unfold listT at hul
          simp only [List.length_append, List.length_cons, List.length_nil] at hul
          show y[r].txt.length ≤ 65536
          omega) 1 0 k [] (by rw [hk1]) (by omega) rfl
      rw [hk1] at this
      exact this
    rw [if_neg h3]
    have h4 : knd t i = 4 := by omega
    rw [rows4 (f := f) (k := k) hkf hi hm hf hvs (Nat.le_of_not_lt h64) (validT (vs.map Vl.txt)) h4]
    have := l6_ok (k := k) (t := t) (ks := kidsL t (i : Int)) (L := (List.range (kidsL t (i : Int)).length).map fun j => (vs.map (fldV f t (i : Int) j)).map Vl.txt) (by simp) hkl (B := fun j => bV f t (ksT t (i : Int) j) (vs.map (fldV f t (i : Int) j))) vs.length (validT (vs.map Vl.txt)) [] [] (fun j hj _ => by
        have hks0 := ksT_get (t := t) (a := (i : Int)) hj
        rw [List.getElem?_eq_getElem hj, Option.some.injEq] at hks0
        obtain ⟨q, hq1, hq2, hq3⟩ := ksT_gt hm hj
        rw [hks0, List.getElem_map, List.getElem_range]
        have hnq : nodeB t (ksT t (i : Int) j) = true := by rw [hq1]; exact nodeB_of hm hq3
        refine build_ok f hnq (by rw [hq1, Int.toNat_natCast]; omega) (fun w hw => ?_) (by rw [List.length_map]; omega) k (by rw [List.length_map]; omega)
        obtain ⟨u, hu, rfl⟩ := List.mem_map.1 hw
        obtain ⟨hT, hul⟩ := hvs u hu
        rcases hT.k4 h4 with e | ⟨y, hy, hyt, e⟩
        · rw [e]
          simp only [fldV]
          exact ⟨zero_typed f hnq (by rw [hq1, Int.toNat_natCast]; omega), by have := zero_short (f := f) hnq; omega⟩
        · rw [e] at hul ⊢
          have hjy : j < y.length := by omega
          have hg : fldV f t (i : Int) j (.r y) = y[j] := by simp [fldV, hjy]
          rw [hg]
          refine ⟨hyt j hjy, ?_⟩
          rw [txt_r] at hul
          have := take_flatten_le (vs := y.map Vl.txt) (j + 1)
          rw [cat_succ (by rw [List.length_map]; exact hjy), List.getElem_map] at this
          unfold structT at hul
          simp only [List.length_append, List.length_cons, List.length_nil] at hul
          omega) (kidsL t (i : Int)).length 0 k [] (by omega) (by omega) rfl
    exact this

end Go.Proofs.YtppmpfddcohkjaaGreatDoorP
