/- Getting a page: what is got was put, and what was put is got; the law PageAgain; no condition but the sizes that a machine has. -/
import Derived.Test.YtjkokaockhecnaaGreatDoorPPg7
namespace Go.Proofs.YtjkokaockhecnaaGreatDoorP
open Go Go.Proofs.YtjkokaockhecnaaGreatDoorA

/-- Nothing got. -/
def noCol : List Int × List Int × List (List UInt8) := ([], [], [])
def colOf (c : Col) : List Int × List Int × List (List UInt8) := (c.reps, c.defs, c.values)
/-- What is got of a text is what was put there, or nothing. -/
def GotP (t : List Nod) (a : Int) (s : List UInt8) (res : (List Int × List Int × List (List UInt8)) × Int) : Prop :=
  res = (noCol, 2200) ∨ (res = (noCol, 2201) ∧ (nodeB t a && !inner (knd t a.toNat)) = true ∧ 4 ≤ s.length ∧ numOf (s.take 4) ≠ crcS (s.drop 4)) ∨ ∃ c, res = (colOf c, 0) ∧ putP t a c = (s, 0)
theorem putP_may {t : List Nod} {a : Int} {c : Col} {s : List UInt8} (h : putP t a c = (s, 0)) : colMay t a c = true := by
  cases hm : colMay t a c with
  | true => rfl
  | false => rw [putP_no hm] at h; cases h
/-- The end of getting. -/
theorem Get_end {k n : Nat} {t : List Nod} {a : Int} {s : List UInt8} {e f : Int} {m : Nat} {c : Col} {r : List UInt8} {bad : Bool} (hk : 1200100 + c.values.length ≤ k) (hl : c.values.length ≤ 20000000000000) (hd : c.reps.length ≤ 20000000000000 ∧ c.defs.length ≤ 20000000000000) :
    page_Get.l0 idb k (n + 1) a s e f (m : Int) (m : Int) t c.reps c.defs c.values r bad = some (if bad = false ∧ e = 0 ∧ f = 0 ∧ putP t a c = (s, 0) then (colOf c, 0) else (noCol, 2200)) := by
  rw [page_Get.l0_eq, dF (by omega), cF]
  have hc : (Col.mk c.reps c.defs c.values) = c := by cases c; rfl
  rw [hc, page_Put_ok hk hl hd, bS]
  cases bad with
  | true => rw [Bool.not_true, cF, if_neg (by simp)]; rfl
  | false =>
    rw [Bool.not_false, cT]
    by_cases h1 : e = 0
    · rw [h1, show ((0 : Int) != 0) = false from rfl, Bool.not_false, cT]
      by_cases h2 : f = 0
      · rw [h2, show ((0 : Int) != 0) = false from rfl, Bool.not_false, cT]
        by_cases h3 : (putP t a c).2 = 0
        · rw [h3, show ((0 : Int) != 0) = false from rfl, Bool.not_false, cT]
          by_cases h4 : (putP t a c).1 = s
          · rw [show ((putP t a c).1 != s) = false by rw [h4]; simp, cF, if_pos ⟨rfl, rfl, rfl, Prod.ext h4 h3⟩]; rfl
          · rw [show ((putP t a c).1 != s) = true by rw [bne_iff_ne]; exact h4, cT, if_neg (by rintro ⟨_, _, _, h⟩; exact h4 (by rw [h]))]; rfl
        · rw [show ((putP t a c).2 != 0) = true by rw [bne_iff_ne]; exact h3, Bool.not_true, cF, if_neg (by rintro ⟨_, _, _, h⟩; exact h3 (by rw [h]))]; rfl
      · rw [show (f != 0) = true by rw [bne_iff_ne]; exact h2, Bool.not_true, cF, if_neg (by rintro ⟨_, _, h, _⟩; exact h2 h)]; rfl
    · rw [show (e != 0) = true by rw [bne_iff_ne]; exact h1, Bool.not_true, cF, if_neg (by rintro ⟨_, h, _⟩; exact h1 h)]; rfl
theorem Get_l0 {k : Nat} {t : List Nod} {i : Nat} (hi : i < t.length) {s : List UInt8} {e f : Int} {m : Nat} (hm : m ≤ 5000) {R D : List Int} (hR : R.length ≤ 5000 ∧ D.length ≤ 5000) (hk : 1300000 ≤ k) :
    ∀ (d j n : Nat) (vs : List (List UInt8)) (r : List UInt8) (bad : Bool), j + d = m → d + 1 ≤ n → vs.length ≤ j → r.length ≤ 200000000000000 →
      ∃ res, page_Get.l0 idb k n (i : Int) s e f (m : Int) (j : Int) t R D vs r bad = some res ∧ (res = (noCol, 2200) ∨ ∃ c, res = (colOf c, 0) ∧ putP t (i : Int) c = (s, 0))
  | 0, j, n, vs, r, bad, hj, hn, hv, hr => by
    obtain ⟨n, rfl⟩ : ∃ q, n = q + 1 := ⟨n - 1, by omega⟩
    have hjm : j = m := by omega
    subst hjm
    have := Get_end (k := k) (n := n) (t := t) (a := (i : Int)) (s := s) (e := e) (f := f) (m := j) (c := ⟨R, D, vs⟩) (r := r) (bad := bad) (by simp only; omega) (by simp only; omega) (by simp only; omega)
    rw [this]
    refine ⟨_, rfl, ?_⟩
    split
    · rename_i h; exact .inr ⟨_, rfl, h.2.2.2⟩
    · exact .inl rfl
  | d + 1, j, n, vs, r, bad, hj, hn, hv, hr => by
    obtain ⟨n, rfl⟩ : ∃ q, n = q + 1 := ⟨n - 1, by omega⟩
    rw [page_Get.l0_eq, dT (by omega), cT]
    cases bad with
    | true =>
      rw [Bool.not_true, cF, wsucc (by omega)]
      exact Get_l0 hi hm hR hk d (j + 1) n vs r true (by omega) (by omega) (by omega) hr
    | false =>
      obtain ⟨v, r', b', h1, h2⟩ := tValue_any (k := k) (by omega) hr false (kd := knd t i)
      rw [Bool.not_false, cT, rd_get hi, bS, knd_get hi, h1, bS, dT (by simp only [List.length_cons, List.length_nil]; omega), cT, wsucc (by omega)]
      exact Get_l0 hi hm hR hk d (j + 1) n (vs ++ [v]) r' b' (by omega) (by omega) (by simp only [List.length_append, List.length_cons, List.length_nil]; omega) (by omega)
theorem good_len {w : Int} {s : List UInt8} {count : Int} {res : List Int × Int} (h : goodG w s count res) : res.1.length ≤ 4096 := by
  rcases h with rfl | ⟨xs, rfl, h, _⟩
  · simp
  · have := (putT_some h).2.2.1
    simp only; omega
theorem Get_tot {k : Nat} {t : List Nod} {a : Int} {s : List UInt8} (hk : 1400000 + s.length ≤ k) (hs : s.length ≤ 140737488351232) : ∃ res, page_Get.f idb k t a s = some res ∧ GotP t a s res := by
  obtain ⟨k, rfl⟩ : ∃ q, k = q + 1 := ⟨k - 1, by omega⟩
  rw [page_Get.f_eq, Leaf_ok (by omega), bS]
  cases hn : nodeB t a && !inner (knd t a.toNat) with
  | false => exact ⟨_, rfl, .inl rfl⟩
  | true =>
    rw [Bool.not_true, Bool.not_false, cT]
    by_cases h4 : s.length < 4
    · rw [dT (by omega), cT]; exact ⟨_, rfl, .inl rfl⟩
    · rw [dF (by omega), cF, dT (by omega), dT (by omega), Bool.and_self, cT, List.drop_zero, num_Of_ok (by omega) _ (by rw [List.length_take]; omega), bS, cT, List.take_length, crc_ok (by rw [List.length_drop]; omega) (by rw [List.length_drop]; omega), bS]
      by_cases hc : numOf (s.take 4) = crcS (s.drop 4)
      · rw [show (numOf (s.take 4) != crcS (s.drop 4)) = false by rw [hc]; simp, cF, types_Levels_ok (by omega), bS, cT]
        rw [Bool.and_eq_true] at hn
        obtain ⟨hmt, i, hi, rfl⟩ := nodeB_may hn.1
        obtain ⟨r0, r1, d0, d1⟩ := lev_range (t := t) (a := (i : Int))
        have hd : (s.drop 4).length ≤ 140737488351232 := by rw [List.length_drop]; omega
        have hN : ∀ (r : List UInt8) (bad : Bool), r.length ≤ 140737488351232 → ∃ x r' b', page_Taker_Number.f idb k r bad = some (x, (r', b')) ∧ r'.length ≤ 140737488351232 := by
          intro r bad hr
          rw [tNumber_ok (by omega) (by omega)]
          split
          · exact ⟨_, _, _, rfl, by rw [List.length_drop]; omega⟩
          · exact ⟨_, _, _, rfl, hr⟩
        have hB : ∀ (r : List UInt8) (bad : Bool) (n : Int), r.length ≤ 140737488351232 → ∃ u r' b', page_Taker_Bytes.f idb k r bad n = some (u, (r', b')) ∧ r'.length ≤ 140737488351232 ∧ u.length ≤ 140737488351232 := by
          intro r bad n hr
          rw [tBytes_ok (by omega)]
          split
          · exact ⟨_, _, _, rfl, by rw [List.length_drop]; omega, by rw [List.length_take]; omega⟩
          · exact ⟨_, _, _, rfl, hr, by simp⟩
        obtain ⟨x1, q1, b1, e1, l1⟩ := hN (s.drop 4) false hd
        rw [e1, bS]
        obtain ⟨x2, q2, b2, e2, l2⟩ := hN q1 b1 l1
        simp only [e2, bS]
        obtain ⟨x3, q3, b3, e3, l3⟩ := hN q2 b2 l2
        simp only [e3, bS]
        obtain ⟨u4, q4, b4, e4, l4, m4⟩ := hB q3 b3 x2 l3
        simp only [e4, bS]
        rw [Len_ok (by omega) r0 r1, bS]
        obtain ⟨g1, f1, p1⟩ := Get_total (k := k) (by omega) u4 (by omega) (bw (levT t (i : Int)).1) x1
        rw [f1, bS]
        obtain ⟨u5, q5, b5, e5, l5, m5⟩ := hB q4 b4 x3 l4
        simp only [e5, bS]
        rw [Len_ok (by omega) d0 d1, bS]
        obtain ⟨g2, f2, p2⟩ := Get_total (k := k) (by omega) u5 (by omega) (bw (levT t (i : Int)).2.1) x1
        have hg1 := good_len p1
        have hg2 := good_len p2
        have hcnt := cnt_le (levT t (i : Int)).2.1 g2.1
        rw [f2, bS, there_ok' (by omega) (by omega), bS]
        have := Get_l0 (k := k) (t := t) hi (s := s) (e := g1.2) (f := g2.2) (m := cnt (levT t (i : Int)).2.1 g2.1) (by omega) (R := g1.1) (D := g2.1) (by omega) (by omega) (cnt (levT t (i : Int)).2.1 g2.1) 0 k [] q5 b5 (by omega) (by omega) (by simp) (by omega)
        obtain ⟨res, h1, h2⟩ := this
        rw [show ((0 : Nat) : Int) = 0 from rfl] at h1
        refine ⟨res, h1, ?_⟩
        rcases h2 with h | h
        · exact .inl h
        · exact .inr (.inr h)
      · rw [show (numOf (s.take 4) != crcS (s.drop 4)) = true by rw [bne_iff_ne]; exact hc, cT]
        exact ⟨_, rfl, .inr (.inl ⟨rfl, hn, by omega, hc⟩)⟩
theorem pure_PageAgain (t : List Nod) (a : Int) (s : List UInt8) (hs : (s.length : Int) ≤ 140737488351232) : ∃ k, quiverlaw22_PageAgain.f idb k t a s = some true := by
  refine ⟨1500000 + s.length + 1, ?_⟩
  rw [quiverlaw22_PageAgain.f_eq, awake22' (by omega), bS, Bool.not_true, cF]
  obtain ⟨res, h1, h2⟩ := Get_tot (k := 1500000 + s.length) (t := t) (a := a) (s := s) (by omega) (by omega)
  rw [h1, bS, Num_ok (by omega), bS]
  rcases h2 with rfl | ⟨rfl, _⟩ | ⟨c, rfl, hc⟩
  · rw [show (((noCol, (2200 : Int)).2 != 0) = true) from rfl, cT, same_col (by simp [noCol]; omega) (by simp [noCol]), bS, noCol]
    simp
  · rw [show (((noCol, (2201 : Int)).2 != 0) = true) from rfl, cT, same_col (by simp [noCol]; omega) (by simp [noCol]), bS, noCol]
    simp
  · have hm := putP_may hc
    obtain ⟨i, _, _, _, _, _, c1, c2, _⟩ := colMay_parts hm
    have c3 := colMay_vlen hm
    have ec : Col.mk (colOf c, (0 : Int)).1.1 (colOf c, (0 : Int)).1.2.1 (colOf c, (0 : Int)).1.2.2 = c := by cases c; rfl
    rw [show (((colOf c, (0 : Int)).2 != 0) = false) from rfl, cF, ec, page_Put_ok (by omega) (by omega) (by omega), bS, hc, Num_ok (by omega), bS]
    simp only [show ((0 : Int) == 0) = true from rfl, cT]
    rw [show (s == s) = true by simp, cT, refMay_ok (by omega) (by omega), bS, hm]

end Go.Proofs.YtjkokaockhecnaaGreatDoorP
