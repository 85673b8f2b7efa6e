/- Arrays: whether an array may be, by the document; no condition but the sizes that a machine has. -/
import Derived.Test.YtppmpfddcohkjaaPArr4
namespace Go.Proofs.YtppmpfddcohkjaaP
open Go Go.Proofs.YtppmpfddcohkjaaA

theorem bare_ok {k : Nat} (hk : 1 ≤ k) (x : Arr) : quiverref7_bare.f idb k x = some (x.ends == [] && decide (x.kids.length = 0)) := by
  obtain ⟨k, rfl⟩ : ∃ m, k = m + 1 := ⟨k - 1, by omega⟩
  rw [quiverref7_bare.f_eq, okF]
  congr 2
  by_cases h : x.kids.length = 0
  · rw [dT h, h]; rfl
  · rw [dF h]; simpa using h
theorem kids_none {t : List Nod} (hm : mayT t = true) {i : Nat} (hi : i < t.length) (h : inner (knd t i) = false) : kidsL t (i : Int) = [] := by
  have hst := mayT_stands hm
  cases hc : kidsL t (i : Int) with
  | nil => rfl
  | cons y l =>
    obtain ⟨j, hj, hj0, hp, _⟩ := mem_kidsL.1 (show y ∈ kidsL t (i : Int) by rw [hc]; exact List.mem_cons_self)
    have hs := hst j hj
    unfold standsB at hs
    rw [if_neg (by omega), hp, Int.toNat_natCast] at hs
    simp only [Bool.and_eq_true] at hs
    rw [h] at hs
    exact absurd hs.2 (by decide)
theorem range_all_nil {p : Nat → Bool} {n : Nat} (h : n = 0) : (List.range n).all p = true := by subst h; rfl
theorem ref_plainMay_ok {f : Nat} {t : List Nod} (hm : mayT t = true) {i : Nat} (hi : i < t.length) {x : Arr} (hb : Buf (nul t i) x) {k : Nat} (hk : 300 ≤ k)
    (ih : ∀ j, j < (kidsL t (i : Int)).length → j < x.kids.length → quiverref7_ArrayMay.f idb k t (ksT t (i : Int) j) (kidA x j) = some (mayA f t (ksT t (i : Int) j) (kidA x j)))
    (h64 : ∀ j, j < x.kids.length → mayA f t (ksT t (i : Int) j) (kidA x j) = true → 0 ≤ (kidA x j).length ∧ (kidA x j).length ≤ 64) :
    quiverref7_plainMay.f idb (k + 1) t (i : Int) x ((rowsN x : Nat) : Int) = some (decide (x.kids.length = (kidsL t (i : Int)).length) && ((List.range x.kids.length).all (fun j => mayA f t (ksT t (i : Int) j) (kidA x j)) && kindM t i x)) := by
  have hn := nodeB_of hm hi
  have hkl := kidsU_length t (i : Int) t.length
  have htl := mayT_length hm
  have hkb := (((mayT_iff t).1 hm).2.2 i hi).1
  have hkd := (((mayT_iff t).1 hm).2.1 i hi).1
  have hrw := hb.rowsEq
  have hrl := hb.rowsN_le
  rw [quiverref7_plainMay.f_eq, ref_Kids_ok (by omega), bS]
  unfold kidsT
  rw [if_pos hn, rd_get hi, bS, knd_get hi, bare_ok (by omega), bS, wi64 (8 * ((rowsN x : Nat) : Int)) (by omega)]
  unfold kindM
  have leaf : inner (knd t i) = false → (kidsL t (i : Int)).length = 0 := fun h => by rw [kids_none hm hi h]; rfl
  by_cases k0 : knd t i = 0
  · have hz := leaf (by rw [k0]; rfl)
    rw [k0, if_pos rfl, hz]
    simp only [BEq.rfl, cT]
    rw [okF]
    by_cases hl : x.kids.length = 0
    · rw [dT hl, range_all_nil hl]
      congr 1
      by_cases h : 8 * rowsN x ≤ x.data.length
      · rw [dT h, dT (by omega)]; cases x.ends == [] <;> rfl
      · rw [dF h, dF (by omega)]; cases x.ends == [] <;> rfl
    · rw [dF hl]; simp
  · rw [if_neg k0, show (knd t i == 0) = false by simpa using k0, cF]
    by_cases k1 : knd t i = 1
    · have hz := leaf (by rw [k1]; rfl)
      rw [k1, if_pos rfl, hz]
      simp only [BEq.rfl, cT]
      rw [BitBytes_ok (by omega) (by omega) (by omega)]
      simp only [bS]
      rw [okF, hrw]
      by_cases hl : x.kids.length = 0
      · rw [dT hl, range_all_nil hl]
        show some ((x.ends == [] && true) && decide (bitB (x.offset + x.length) ≤ (x.data.length : Int))) = _
        cases x.ends == [] <;> rfl
      · rw [dF hl]; simp
    · rw [if_neg k1, show (knd t i == 1) = false by simpa using k1, cF]
      by_cases k2 : knd t i = 2
      · have hz := leaf (by rw [k2]; rfl)
        rw [k2, if_pos rfl, hz]
        simp only [BEq.rfl, cT]
        rw [ref_mayEnds_ok (by omega) hb.ends (by omega) _ _ _ hb.off, bS, okF]
        by_cases hl : x.kids.length = 0
        · rw [dT hl, range_all_nil hl, hl]; rfl
        · rw [dF hl, show (((x.kids.length : Nat) : Int) == 0) = false by rw [beq_eq_false_iff_ne]; omega]; rfl
      · rw [if_neg k2, show (knd t i == 2) = false by simpa using k2, cF]
        by_cases k3 : knd t i = 3
        · have hk1 : (kidsL t (i : Int)).length = 1 := by
            unfold kidsB at hkb
            rw [k3] at hkb
            simpa using hkb
          rw [k3, if_pos rfl, hk1]
          simp only [BEq.rfl, cT]
          by_cases hl : x.kids.length = 1
          · have hr0 := rd_get (show 0 < x.kids.length by omega)
            rw [kidA_get (by omega), show ((0 : Nat) : Int) = 0 from rfl] at hr0
            have hk0 := ksT_get (t := t) (a := (i : Int)) (j := 0) (by omega)
            rw [hl, dT rfl, hr0, hk0]
            simp only [bS]
            rw [ih 0 (by omega) (by omega)]
            have e1 : (List.range 1).all (fun j => mayA f t (ksT t (i : Int) j) (kidA x j)) = mayA f t (ksT t (i : Int) 0) (kidA x 0) := by rw [range_all_succ]; simp
            rw [e1]
            cases hmk : mayA f t (ksT t (i : Int) 0) (kidA x 0) with
            | false => cases x.data == [] <;> rfl
            | true =>
              have hl64 := h64 0 (by omega) hmk
              rw [ref_mayEnds_ok (by omega) hb.ends (by omega) _ _ _ hb.off, endsB_apart (g := 0) (q := 64) (by omega) (by omega)]
              cases x.data == [] <;> rfl
          · rw [dF hl, show (((x.kids.length : Nat) : Int) == 1) = false by rw [beq_eq_false_iff_ne]; omega]
            cases x.data == [] <;> rfl
        · have k4 : knd t i = 4 := by
            unfold kindB at hkd
            simp only [Bool.and_eq_true, decide_eq_true_eq] at hkd
            omega
          rw [if_neg k3, show (knd t i == 3) = false by simpa using k3, cF]
          by_cases hl : x.kids.length = (kidsL t (i : Int)).length
          · have hl8 : x.kids.length ≤ 8 := by unfold kidsL at hl; omega
            rw [dT hl, Bool.true_and, show (((x.kids.length : Nat) : Int) != ((kidsL t (i : Int)).length : Int)) = false by rw [hl]; simp, cF]
            have key := loop_all (F := fun n j => quiverref7_plainMay.l1 idb k n ((rowsN x : Nat) : Int) (j : Int) t x.layout x.offset x.length x.valid x.ends x.data x.kids (kidsL t (i : Int)))
              (p := fun j => mayA f t (ksT t (i : Int) j) (kidA x j) && !decide ((kidA x j).length < x.offset + x.length)) (N := x.kids.length) (E := some true) (Z := some false) ?_ ?_ k (by omega)
            · rw [show ((0 : Nat) : Int) = 0 from rfl] at key
              rw [key]
              have e1 : (List.range x.kids.length).all (fun j => mayA f t (ksT t (i : Int) j) (kidA x j) && !decide ((kidA x j).length < x.offset + x.length)) =
                  ((List.range x.kids.length).all (fun j => mayA f t (ksT t (i : Int) j) (kidA x j)) && !x.kids.any fun c => decide (c.length < x.offset + x.length)) := by
                have e2 : (!x.kids.any fun c => decide (c.length < x.offset + x.length)) = (List.range x.kids.length).all (fun j => !decide ((kidA x j).length < x.offset + x.length)) := by
                  rw [Bool.eq_iff_iff, range_all_iff, Bool.not_eq_true', List.any_eq_false]
                  constructor
                  · intro h j hj
                    have := h _ (kidA_mem hj)
                    simpa using this
                  · intro h c hc
                    obtain ⟨j, hj, rfl⟩ := List.getElem_of_mem hc
                    rw [kidA_get hj]
                    have := h j hj
                    simpa using this
                rw [e2, Bool.eq_iff_iff, Bool.and_eq_true, range_all_iff, range_all_iff, range_all_iff]
                constructor
                · intro h
                  exact ⟨fun j hj => by have := h j hj; rw [Bool.and_eq_true] at this; exact this.1, fun j hj => by have := h j hj; rw [Bool.and_eq_true] at this; exact this.2⟩
                · rintro ⟨h1, h2⟩ j hj
                  rw [h1 j hj, h2 j hj]; rfl
              rw [e1]
              have e3 : (x.data != []) = !(x.data == []) := rfl
              have e4 : (x.ends != []) = !(x.ends == []) := rfl
              rw [e3, e4, Bool.not_not, Bool.not_not]
              generalize (List.range x.kids.length).all (fun j => mayA f t (ksT t (i : Int) j) (kidA x j)) = p1
              generalize (!x.kids.any fun c => decide (c.length < x.offset + x.length)) = p2
              generalize (x.data == []) = p3
              generalize (x.ends == []) = p4
              revert p1 p2 p3 p4; decide
            · intro n j hj _
              rw [quiverref7_plainMay.l1_eq, dT (by omega), cT, dT (show (0 : Int) ≤ (j : Int) by omega)]
              simp only [Bool.and_self, cT, Int.toNat_natCast]
              rw [ksT_get (by omega), bS, rd_get hj, bS, kidA_get hj, ih j (by omega) hj, bS, bS, wsucc (by omega), hrw]
              cases mayA f t (ksT t (i : Int) j) (kidA x j) with
              | false => rfl
              | true => cases decide ((kidA x j).length < x.offset + x.length) <;> rfl
            · intro _ n
              rw [quiverref7_plainMay.l1_eq, dF (by omega), cF]
          · rw [dF hl, Bool.false_and, show (((x.kids.length : Nat) : Int) != ((kidsL t (i : Int)).length : Int)) = true by rw [bne_iff_ne]; omega, cT]
            cases x.data != [] <;> cases x.ends != [] <;> rfl
theorem bufF {null : Bool} {x : Arr} (h : ¬ Buf null x) : bufB null x = false := by
  cases hb : bufB null x with
  | false => rfl
  | true => exact absurd (bufB_iff.1 hb) h
theorem ref_ArrayMay_ok : ∀ (f : Nat) (t : List Nod) (a : Int) (x : Arr), need t a x < f → RoomyA x → ∀ k, 400 + 5 * f ≤ k → quiverref7_ArrayMay.f idb k t a x = some (mayA f t a x)
  | 0, _, _, _, h, _, _, _ => absurd h (Nat.not_lt_zero _)
  | f + 1, t, a, x, hf, hx, k, hk => by
    obtain ⟨k, rfl⟩ : ∃ m, k = m + 2 := ⟨k - 2, by omega⟩
    rw [quiverref7_ArrayMay.f_eq, ref_NodeMay_ok (by omega), bS]
    unfold mayA
    cases hn : nodeB t a with
    | false => rfl
    | true =>
      obtain ⟨hm, i, hi, rfl⟩ := nodeB_may hn
      obtain ⟨⟨o1, o2⟩, ⟨l1, l2⟩, v1, e1, d1, k1⟩ := hx.one
      rw [Bool.not_true, Bool.not_false, cT, Bool.true_and, Int.toNat_natCast]
      by_cases hB : Buf (nul t i) x
      · have hoff := hB.off
        have hlen := hB.len
        have hrows := hB.rows
        have hrw := hB.rowsEq
        have hv := hB.valid
        have he := hB.ends
        have hd := hB.data
        rw [bufB_iff.2 hB, Bool.true_and, dF (show ¬ x.offset < 0 by omega), dF (show ¬ x.length < 0 by omega), dF (show ¬ x.offset > 64 by omega), wi64 (64 - x.offset) (by omega),
          dF (show ¬ x.length > 64 - x.offset by omega), dF (show ¬ (x.valid.length : Int) > 4096 by omega), dF (show ¬ (x.ends.length : Int) > 4096 by omega), dF (show ¬ (x.data.length : Int) > 4096 by omega)]
        rw [wi64 (x.offset + x.length) (by omega), BitBytes_ok (by omega) (by omega) (by omega), rd_get hi]
        simp only [Bool.not_false, cT, cF, bS, nul_get hi, knd_get hi]
        have two : ∀ X : Option Bool, (bif (x.valid != []) then (bif !(!nul t i) then (bif decide ((x.valid.length : Int) < bitB (x.offset + x.length)) then some false else X) else some false) else X) = X := by
          intro X
          rcases hB.there with h | ⟨h, h'⟩
          · rw [h]; rfl
          · cases hvv : x.valid != [] with
            | false => rfl
            | true => rw [cT, h, Bool.not_true, Bool.not_false, cT, dF (by omega), cF]
        rw [two]
        by_cases h0 : x.layout = 0
        · rw [if_pos h0, show (x.layout == 0) = true by simpa using h0, cT, ← hrw]
          rw [ref_plainMay_ok (f := f) hm hi hB (by omega) (fun j hj hj' => ref_ArrayMay_ok f t _ _ (by have := need_kid hm (x := x) (kidA x j) hj; omega) (hx.kid (kidA_mem hj')) _ (by omega)) (fun j _ h => mayA_len h)]
          rfl
        · rw [if_neg h0, show (x.layout == 0) = false by simpa using h0, cF, ref_IsLeaf_ok (by omega), bS]
          cases h1 : inner (knd t i) with
          | true => rfl
          | false =>
            simp only [Bool.not_false, Bool.not_true, cT, Bool.true_and]
            by_cases h2 : x.kids.length = 1
            · have hr0 := rd_get (show 0 < x.kids.length by omega)
              rw [kidA_get (by omega), show ((0 : Nat) : Int) = 0 from rfl] at hr0
              rw [show (((x.kids.length : Nat) : Int) != 1) = false by rw [h2]; rfl, Bool.not_false, cT, dT h2, Bool.true_and, hr0]
              simp only [bS]
              have e3 : (x.ends != []) = !(x.ends == []) := rfl
              have e4 : ((kidA x 0).layout != 0) = !((kidA x 0).layout == 0) := rfl
              rw [e3, Bool.not_not, e4, Bool.not_not]
              cases he : x.ends == [] with
              | false => rfl
              | true =>
                cases hl0 : (kidA x 0).layout == 0 with
                | false => rfl
                | true =>
                  have hl0' : (kidA x 0).layout = 0 := by simpa using hl0
                  simp only [cT, Bool.true_and]
                  rw [ref_ArrayMay_ok f t _ (kidA x 0) (by unfold need at hf ⊢; rw [if_neg h0] at hf; rw [if_pos hl0']; omega) (hx.kid (kidA_mem (by omega))) _ (by omega), bS]
                  cases hmk : mayA f t (i : Int) (kidA x 0) with
                  | false => rfl
                  | true =>
                    simp only [Bool.not_true, cF, Bool.true_and]
                    by_cases h3 : x.layout = 1
                    · rw [if_pos h3, show (x.layout == 1) = true by simpa using h3, cT, ref_dict_l0 hB (by omega) _ (by omega), wi64 (4 * (x.offset + x.length)) (by omega)]
                      unfold dictB
                      have e5 : ((kidA x 0).valid != []) = !((kidA x 0).valid == []) := rfl
                      have e6 : decide (((x.data).length : Int) < 4 * (x.offset + x.length)) = !decide (4 * rowsN x ≤ x.data.length) := by
                        by_cases h : 4 * rowsN x ≤ x.data.length
                        · rw [dT h, dF (by omega)]; rfl
                        · rw [dF h, dT (by omega)]; rfl
                      rw [e5, e6, Bool.not_not, okE, Bool.not_not, okF]
                      congr 1
                      generalize ((kidA x 0).valid == []) = p1
                      generalize decide (4 * rowsN x ≤ x.data.length) = p2
                      generalize ((List.range (rowsN x)).all _) = p3
                      revert p1 p2 p3; decide
                    · rw [if_neg h3, show (x.layout == 1) = false by simpa using h3, cF]
                      by_cases h4 : x.layout = 2
                      · have hkl := mayA_len hmk
                        have em : (kidA x 0).length = (((kidA x 0).length.toNat : Nat) : Int) := by omega
                        have hl0 := ref_run_l2 (x := x) (m := (kidA x 0).length.toNat) (by omega) hB.data (k := k + 1) (by omega) (k + 1) (by omega)
                        rw [← em] at hl0
                        rw [if_pos h4, show (x.layout != 2) = false by rw [h4]; rfl, hl0, wi64 _ (by omega)]
                        unfold runB
                        have e7 : (x.valid != []) = !(x.valid == []) := rfl
                        have e8 : (((x.data).length : Int) != 4 * (kidA x 0).length) = !(((x.data).length : Int) == 4 * (kidA x 0).length) := rfl
                        rw [e7, Bool.not_not, e8, Bool.not_false, cT, okE, Bool.not_not, okF]
                      · rw [if_neg h4, show (x.layout != 2) = true by simpa using h4]
                        rfl
            · rw [show (((x.kids.length : Nat) : Int) != 1) = true by rw [bne_iff_ne]; omega, Bool.not_true, cF, dF h2, Bool.false_and, Bool.and_false]
      · rw [bufF hB, Bool.false_and]
        by_cases h1 : 0 ≤ x.offset
        · rw [dF (show ¬ x.offset < 0 by omega), Bool.not_false, cT]
          by_cases h2 : 0 ≤ x.length
          · rw [dF (show ¬ x.length < 0 by omega), Bool.not_false, cT]
            by_cases h3 : x.offset ≤ 64
            · rw [dF (show ¬ x.offset > 64 by omega), Bool.not_false, cT, wi64 (64 - x.offset) (by omega)]
              by_cases h4 : x.offset + x.length ≤ 64
              · rw [dF (show ¬ x.length > 64 - x.offset by omega), Bool.not_false, cT]
                by_cases h5 : x.valid.length ≤ 4096
                · rw [dF (show ¬ (x.valid.length : Int) > 4096 by omega), Bool.not_false, cT]
                  by_cases h6 : x.ends.length ≤ 4096
                  · rw [dF (show ¬ (x.ends.length : Int) > 4096 by omega), Bool.not_false, cT]
                    by_cases h7 : x.data.length ≤ 4096
                    · rw [dF (show ¬ (x.data.length : Int) > 4096 by omega), cF]
                      have h8 : x.valid ≠ [] := fun h => hB ⟨h1, h2, h4, h5, h6, h7, .inl h⟩
                      rw [show (x.valid != []) = true by simpa using h8, cT, rd_get hi, bS, nul_get hi]
                      cases hnl : nul t i with
                      | false => rfl
                      | true =>
                        have h9 : ¬ bitB (x.offset + x.length) ≤ (x.valid.length : Int) := fun h => hB ⟨h1, h2, h4, h5, h6, h7, .inr ⟨hnl, h⟩⟩
                        rw [Bool.not_true, Bool.not_false, cT, wi64 (x.offset + x.length) (by omega), BitBytes_ok (by omega) (by omega) (by omega), bS, dT (by omega), cT]
                    · rw [dT (show (x.data.length : Int) > 4096 by omega), cT]
                  · rw [dT (show (x.ends.length : Int) > 4096 by omega), Bool.not_true, cF]
                · rw [dT (show (x.valid.length : Int) > 4096 by omega), Bool.not_true, cF]
              · rw [dT (show x.length > 64 - x.offset by omega), Bool.not_true, cF]
            · rw [dT (show x.offset > 64 by omega), Bool.not_true, cF]
          · rw [dT (show x.length < 0 by omega), Bool.not_true, cF]
        · rw [dT (show x.offset < 0 by omega), Bool.not_true, cF]
/-- The program and the document say the same of every array. -/
theorem May_ok {t : List Nod} {a : Int} {x : Arr} (hx : RoomyA x) {k : Nat} (hk : 1000 ≤ k) : array_May.f idb k t a x = some (arrB t a x) := by
  cases hn : nodeB t a with
  | true =>
    have h := need_lt (x := x) hn
    exact array_May_ok 20 t a x (by omega) hx k (by omega)
  | false =>
    obtain ⟨k, rfl⟩ : ∃ m, k = m + 1 := ⟨k - 1, by omega⟩
    rw [array_May.f_eq, types_Node_ok (by omega), bS, hn, arrB_eq, hn]; rfl
theorem ref_May_ok' {t : List Nod} {a : Int} {x : Arr} (hx : RoomyA x) {k : Nat} (hk : 1000 ≤ k) : quiverref7_ArrayMay.f idb k t a x = some (arrB t a x) := by
  cases hn : nodeB t a with
  | true =>
    have h := need_lt (x := x) hn
    exact ref_ArrayMay_ok 20 t a x (by omega) hx k (by omega)
  | false =>
    obtain ⟨k, rfl⟩ : ∃ m, k = m + 1 := ⟨k - 1, by omega⟩
    rw [quiverref7_ArrayMay.f_eq, ref_NodeMay_ok (by omega), bS, hn, arrB_eq, hn]; rfl

end Go.Proofs.YtppmpfddcohkjaaP
