/- Any text: where the reading of a value ends, whatever the text is; no condition but the sizes that a machine has. Any text: where a value ends: nowhere, or behind a value; no condition but the sizes that a machine has. -/
import Derived.Test.YtppmpfddcohkjaaGreatDoorPBase4
namespace Go.Proofs.YtppmpfddcohkjaaGreatDoorP
open Go Go.Proofs.YtppmpfddcohkjaaGreatDoorA

def In64 (x : Int) : Prop := -9223372036854775808 ≤ x ∧ x ≤ 9223372036854775807
theorem In64.wrap (x : Int) : In64 (IntKind.i64.wrap x) := by unfold In64; rw [IntKind.wrap_i64]; omega
theorem whole_l0 {k : Nat} (hk : 120 ≤ k) {s : List UInt8} (hs : s.length ≤ 1000) : ∀ (d i n : Nat) (x : Int), i + d = s.length → d + 1 ≤ n → In64 x →
    ∃ y b, quiverref7_whole.l0 idb k n s x (i : Int) = some (y, b) ∧ In64 y ∧ (b = true → s = digT y)
  | d, i, n, x, h, hn, hx => by
    obtain ⟨n, rfl⟩ : ∃ q, n = q + 1 := ⟨n - 1, by omega⟩
    have fin : ∃ y b, ((quiverref7_digits.f idb k x).bind fun r => some (x, r == s)) = some (y, b) ∧ In64 y ∧ (b = true → s = digT y) := by
      refine ⟨x, digT x == s, ?_, hx, fun e => ?_⟩
      · rw [digits_ok (by omega) hx.1 hx.2, bS]
      · exact (eq_of_beq e).symm
    have no : ∃ y b, (some (0, false) : Option (Int × Bool)) = some (y, b) ∧ In64 y ∧ (b = true → s = digT y) := ⟨0, false, rfl, by unfold In64; omega, fun e => by cases e⟩
    rw [quiverref7_whole.l0_eq]
    by_cases hi : i < s.length
    · have next : ∀ y, In64 y → ∃ z b, quiverref7_whole.l0 idb k n s y (IntKind.i64.wrap ((i : Int) + 1)) = some (z, b) ∧ In64 z ∧ (b = true → s = digT z) := by
        intro y hy
        obtain ⟨d, rfl⟩ : ∃ q, d = q + 1 := ⟨d - 1, by omega⟩
        rw [wsucc (by omega)]
        exact whole_l0 hk hs d (i + 1) n y (by omega) (by omega) hy
      have h0 : rd s 0 = some s[0] := rd_get (i := 0) (by omega)
      rw [dT (by omega), cT, rd_get hi, h0]
      simp only [bS]
      cases decide ((s.length : Int) < 21) with
      | false => exact fin
      | true =>
        rw [cT]
        cases ((s[i].toNat : Int) == 45) with
        | true =>
          rw [cT]
          cases ((i : Int) == 0) with
          | true => exact next x hx
          | false =>
            rw [cF]
            cases (!decide ((s[i].toNat : Int) < 48)) with
            | false => exact no
            | true =>
              rw [cT]
              cases decide ((s[i].toNat : Int) > 57) with
              | true => exact no
              | false =>
                rw [cF]
                cases ((s[0].toNat : Int) == 45) with
                | true => exact next _ (.wrap _)
                | false => exact next _ (.wrap _)
        | false =>
          rw [cF]
          cases (!decide ((s[i].toNat : Int) < 48)) with
          | false => exact no
          | true =>
            rw [cT]
            cases decide ((s[i].toNat : Int) > 57) with
            | true => exact no
            | false =>
              rw [cF]
              cases ((s[0].toNat : Int) == 45) with
              | true => exact next _ (.wrap _)
              | false => exact next _ (.wrap _)
    · rw [dF (by omega), cF]
      exact fin
theorem whole_any {k : Nat} (hk : 200 ≤ k) {s : List UInt8} (hs : s.length ≤ 50) : ∃ y b, quiverref7_whole.f idb k s = some (y, b) ∧ In64 y ∧ (b = true → s = digT y) := by
  obtain ⟨k, rfl⟩ : ∃ q, k = q + 1 := ⟨k - 1, by omega⟩
  rw [quiverref7_whole.f_eq]
  exact whole_l0 (by omega) (by omega) s.length 0 k 0 (by omega) (by omega) (by unfold In64; omega)

theorem At.of_take {s : List UInt8} {p q : Nat} (hpq : p ≤ q) (hq : q ≤ s.length) : At s p ((s.take q).drop p) := by
  refine ⟨s.take p, s.drop q, ?_, by rw [List.length_take]; omega⟩
  have h1 : s.take p = (s.take q).take p := by rw [List.take_take, Nat.min_eq_left hpq]
  rw [h1, List.take_append_drop, List.take_append_drop]
theorem upto_l0 {k : Nat} {s : List UInt8} (hs : s.length ≤ 1000000) {p : Nat} (c : UInt8) : ∀ (d i n : Nat), i + d = s.length → d + 1 ≤ n → p ≤ i → (∀ b ∈ (s.take i).drop p, b ≠ c) →
    ∃ r, quiverref7_upto.l0 idb k n s (p : Int) (c.toNat : Int) (i : Int) = some r ∧ (r = -1 ∨ ∃ m, At s p (m ++ [c]) ∧ m.length ≤ 21 ∧ (∀ b ∈ m, b ≠ c) ∧ r = ((p + m.length : Nat) : Int))
  | d, i, n, h, hn, hp, hm => by
    obtain ⟨n, rfl⟩ : ∃ q, n = q + 1 := ⟨n - 1, by omega⟩
    rw [quiverref7_upto.l0_eq]
    by_cases hi : i < s.length
    · rw [dT (by omega), cT, wi64 _ (by omega)]
      by_cases h22 : i < p + 22
      · rw [dT (by omega), cT, rd_get hi, bS]
        have hsnoc : (s.take (i + 1)).drop p = (s.take i).drop p ++ [s[i]] := by
          rw [List.take_succ_eq_append_getElem hi, List.drop_append_of_le_length (by rw [List.length_take]; omega)]
        by_cases he : s[i] = c
        · rw [he, BEq.rfl, cT]
          refine ⟨_, rfl, .inr ⟨(s.take i).drop p, ?_, ?_, hm, ?_⟩⟩
          · have := At.of_take (s := s) (p := p) (q := i + 1) (by omega) (by omega)
            rw [hsnoc, he] at this
            exact this
          · rw [List.length_drop, List.length_take]; omega
          · rw [List.length_drop, List.length_take]; omega
        · rw [show ((s[i].toNat : Int) == (c.toNat : Int)) = false by rw [beq_eq_false_iff_ne]; intro e; exact he (UInt8.toNat_inj.1 (by omega)), cF, wsucc (by omega)]
          obtain ⟨d, rfl⟩ : ∃ q, d = q + 1 := ⟨d - 1, by omega⟩
          refine upto_l0 hs c d (i + 1) n (by omega) (by omega) (by omega) fun b hb => ?_
          rw [hsnoc] at hb
          rcases List.mem_append.1 hb with hb | hb
          · exact hm b hb
          · rw [List.mem_singleton.1 hb]; exact he
      · rw [dF (by omega), cF]
        exact ⟨_, rfl, .inl rfl⟩
    · rw [dF (by omega), cF]
      exact ⟨_, rfl, .inl rfl⟩
theorem upto_any {k : Nat} {s : List UInt8} (hk : s.length + 3 ≤ k) (hs : s.length ≤ 1000000) {p : Nat} (hp : p ≤ s.length) (c : UInt8) :
    ∃ r, quiverref7_upto.f idb k s (p : Int) (c.toNat : Int) = some r ∧ (r = -1 ∨ ∃ m, At s p (m ++ [c]) ∧ m.length ≤ 21 ∧ (∀ b ∈ m, b ≠ c) ∧ r = ((p + m.length : Nat) : Int)) := by
  obtain ⟨k, rfl⟩ : ∃ q, k = q + 1 := ⟨k - 1, by omega⟩
  rw [quiverref7_upto.f_eq]
  exact upto_l0 hs c (s.length - p) p k (by omega) (by omega) (Nat.le_refl _) fun b hb => by
    rw [List.drop_eq_nil_of_le (by rw [List.length_take]; omega)] at hb; cases hb

end Go.Proofs.YtppmpfddcohkjaaGreatDoorP

namespace Go.Proofs.YtppmpfddcohkjaaGreatDoorP
open Go Go.Proofs.YtppmpfddcohkjaaGreatDoorA

theorem At.eq {s v : List UInt8} {p : Nat} (h : At s p v) : (s.drop p).take v.length = v := by
  obtain ⟨pre, post, rfl, rfl⟩ := h
  rw [List.append_assoc, List.drop_left, List.take_left]
theorem At.join {s a b : List UInt8} {p : Nat} (ha : At s p a) (hb : At s (p + a.length) b) : At s p (a ++ b) := by
  have h1 := ha.eq
  obtain ⟨pre, post, rfl, hl⟩ := ha
  obtain ⟨pre', post', e, hl'⟩ := hb
  refine ⟨pre, post', ?_, hl⟩
  have : pre ++ a = pre' := by
    have := congrArg (List.take (p + a.length)) e
    rw [List.take_left' (by rw [List.length_append, hl]), List.append_assoc, List.take_left' hl'] at this
    exact this
  rw [e, ← this]; simp
theorem At.one {s : List UInt8} {p : Nat} (h : p < s.length) : At s p [s[p]] := by
  refine ⟨s.take p, s.drop (p + 1), ?_, by rw [List.length_take]; omega⟩
  rw [List.append_assoc, List.singleton_append, ← List.drop_eq_getElem_cons h, List.take_append_drop]
theorem end_row {k : Nat} {s : List UInt8} (hs : s.length ≤ 100000) {p d : Nat} (hd : d ≤ 50) (c : UInt8) (hc : c = 93 ∨ c = 125)
    (ih : ∀ q, q ≤ s.length → ∃ r, quiverref7_end.f idb k s (q : Int) (d : Int) = some r ∧ (r = -1 ∨ ∃ v, Tx d v ∧ At s q v ∧ r = ((q + v.length : Nat) : Int))) :
    ∀ (m q n : Nat) (vs : List (List UInt8)), q + m = s.length → m + 1 ≤ n → (∀ w ∈ vs, Tx d w) → At s p vs.flatten → q = p + vs.flatten.length →
    ∃ r, quiverref7_end.l1 idb k n s (q : Int) ((d + 1 : Nat) : Int) (c.toNat : Int) = some r ∧ (r = -1 ∨ ∃ us : List (List UInt8), (∀ w ∈ us, Tx d w) ∧ At s p (us.flatten ++ [c]) ∧ r = ((p + us.flatten.length + 1 : Nat) : Int)) := by
  intro m
  induction m using Nat.strongRecOn with
  | _ m ihm =>
    intro q n vs hq hn hvs hat hqe
    obtain ⟨n, rfl⟩ : ∃ q, n = q + 1 := ⟨n - 1, by omega⟩
    rw [quiverref7_end.l1_eq, dT (show ((d + 1 : Nat) : Int) > 0 by omega), cT]
    by_cases hlt : q < s.length
    · rw [dT (by omega), cT, rd_get hlt, bS]
      by_cases hb : s[q] = c
      · rw [hb, bne_self_eq_false, cF, cT, bS, BEq.rfl, cT, wsucc (by omega)]
        refine ⟨_, rfl, .inr ⟨vs, hvs, hat.join ?_, by rw [hqe]⟩⟩
        rw [← hqe, ← hb]
        exact At.one hlt
      · rw [show ((s[q].toNat : Int) != (c.toNat : Int)) = true by rw [bne_iff_ne]; intro e; exact hb (UInt8.toNat_inj.1 (by omega)), cT, wi64 _ (by omega), show ((d + 1 : Nat) : Int) - 1 = (d : Int) by omega]
        obtain ⟨r, hr, hr'⟩ := ih q (by omega)
        rw [hr, bS]
        rcases hr' with rfl | ⟨v, hv, hav, rfl⟩
        · exact ⟨_, rfl, .inl rfl⟩
        · have hp := hv.pos
          have hle := hav.le
          rw [dF (by omega), cF]
          refine ihm (s.length - (q + v.length)) (by omega) (q + v.length) n (vs ++ [v]) (by omega) (by omega) ?_ ?_ ?_
          · intro w hw
            rcases List.mem_append.1 hw with hw | hw
            · exact hvs w hw
            · rw [List.mem_singleton.1 hw]; exact hv
          · rw [List.flatten_append, List.flatten_singleton]
            exact hat.join (by rw [← hqe]; exact hav)
          · rw [List.flatten_append, List.flatten_singleton, List.length_append]; omega
    · rw [dF (by omega), cF, cF]
      exact ⟨_, rfl, .inl rfl⟩
theorem end_shut {k n : Nat} {s : List UInt8} (hs : s.length ≤ 100000) {q : Nat} (c : UInt8) : ∃ r, quiverref7_end.l1 idb k (n + 1) s (q : Int) 0 (c.toNat : Int) = some r ∧ (r = -1 ∨ (At s q [c] ∧ r = ((q + 1 : Nat) : Int))) := by
  rw [quiverref7_end.l1_eq, dF (show ¬ ((0 : Int) > 0) by omega), cF]
  by_cases hlt : q < s.length
  · rw [dT (by omega), cT, rd_get hlt, bS]
    by_cases hb : s[q] = c
    · rw [hb, BEq.rfl, cT, wsucc (by omega)]
      exact ⟨_, rfl, .inr ⟨by rw [← hb]; exact At.one hlt, rfl⟩⟩
    · rw [show ((s[q].toNat : Int) == (c.toNat : Int)) = false by rw [beq_eq_false_iff_ne]; intro e; exact hb (UInt8.toNat_inj.1 (by omega)), cF]
      exact ⟨_, rfl, .inl rfl⟩
  · rw [dF (by omega), cF]
    exact ⟨_, rfl, .inl rfl⟩
theorem bq {b c : UInt8} (h : b ≠ c) {z : Int} (hz : z = (c.toNat : Int)) : ((b.toNat : Int) == z) = false := by
  rw [beq_eq_false_iff_ne, hz]; intro e; exact h (UInt8.toNat_inj.1 (by omega))
def Rows : Nat → List (List UInt8) → Prop
  | 0, us => us = []
  | d + 1, us => ∀ w ∈ us, Tx d w
theorem Rows.list {d : Nat} {us : List (List UInt8)} (h : Rows d us) : Tx d (listT us) := by
  cases d with
  | zero => rw [show us = [] from h]; exact .inr (.inl rfl)
  | succ d => exact .inr ⟨us, h, .inl rfl⟩
theorem Rows.struct {d : Nat} {us : List (List UInt8)} (h : Rows d us) : Tx d (structT us) := by
  cases d with
  | zero => rw [show us = [] from h]; exact .inr (.inr rfl)
  | succ d => exact .inr ⟨us, h, .inr rfl⟩
theorem end_anyD {d k : Nat} (hk : 100200 ≤ k) {s : List UInt8} (hs : s.length ≤ 100000) {p : Nat} (hp : p ≤ s.length)
    (row : ∀ c : UInt8, (c = 93 ∨ c = 125) → ∀ k', k = k' + 1 → ∀ q, q ≤ s.length → ∃ r, quiverref7_end.l1 idb k' k' s (q : Int) (d : Int) (c.toNat : Int) = some r ∧ (r = -1 ∨ ∃ us, Rows d us ∧ At s q (us.flatten ++ [c]) ∧ r = ((q + us.flatten.length + 1 : Nat) : Int))) :
    ∃ r, quiverref7_end.f idb k s (p : Int) (d : Int) = some r ∧ (r = -1 ∨ ∃ v, Tx d v ∧ At s p v ∧ r = ((p + v.length : Nat) : Int)) := by
  obtain ⟨k, rfl⟩ : ∃ q, k = q + 1 := ⟨k - 1, by omega⟩
  have no : ∃ r, (some (-1) : Option Int) = some r ∧ (r = -1 ∨ ∃ v, Tx d v ∧ At s p v ∧ r = ((p + v.length : Nat) : Int)) := ⟨-1, rfl, .inl rfl⟩
  rw [quiverref7_end.f_eq]
  by_cases hlt : p < s.length
  · have hone := At.one hlt
    rw [dF (by omega), cF, rd_get hlt]
    simp only [bS]
    have byte : ∀ b : UInt8, s[p] = b → Leafy [b] → ∃ r, (some (IntKind.i64.wrap ((p : Int) + 1)) : Option Int) = some r ∧ (r = -1 ∨ ∃ v, Tx d v ∧ At s p v ∧ r = ((p + v.length : Nat) : Int)) := by
      intro b hb hl
      rw [wsucc (by omega)]
      rw [hb] at hone
      exact ⟨_, rfl, .inr ⟨[b], hl.tx d, hone, rfl⟩⟩
    have join : ∀ b : UInt8, s[p] = b → ∀ u, At s (p + 1) u → At s p (b :: u) := by
      intro b hb u hu
      rw [hb] at hone
      exact hone.join hu
    by_cases h110 : s[p] = 110
    · rw [h110, show ((((110 : UInt8)).toNat : Int) == 110) = true from rfl, cT, cT]
      exact byte 110 h110 .n
    rw [bq h110 (z := 110) rfl, cF]
    by_cases h116 : s[p] = 116
    · rw [h116, show ((((116 : UInt8)).toNat : Int) == 116) = true from rfl, cT, cT]
      exact byte 116 h116 .t
    rw [bq h116 (z := 116) rfl, cF]
    by_cases h102 : s[p] = 102
    · rw [h102, show ((((102 : UInt8)).toNat : Int) == 102) = true from rfl, cT]
      exact byte 102 h102 .f
    rw [bq h102 (z := 102) rfl, cF]
    have upto : ∀ c : UInt8, s[p] ≠ c → ∃ r, quiverref7_upto.f idb k s (p : Int) (c.toNat : Int) = some r ∧ (r = -1 ∨ ∃ m, At s (p + 1) (m ++ [c]) ∧ m.length ≤ 20 ∧ r = ((p + 1 + m.length : Nat) : Int)) := by
      intro c hc
      obtain ⟨r, h1, h2⟩ := upto_any (k := k) (s := s) (by omega) (by omega) hp c
      refine ⟨r, h1, h2.imp_right fun ⟨m, m1, m2, m3, m4⟩ => ?_⟩
      cases m with
      | nil =>
        have := m1.get (j := 0) (by simp)
        rw [Nat.add_zero, List.getElem?_eq_getElem hlt] at this
        simp at this
        exact absurd this hc
      | cons b m =>
        have hr : At s (p + 1) (m ++ [c]) := At.right (a := [b]) m1
        simp only [List.length_cons] at m2 m4
        exact ⟨m, hr, by omega, by rw [m4]; congr 1; omega⟩
    by_cases h105 : s[p] = 105
    · rw [h105, show ((((105 : UInt8)).toNat : Int) == 105) = true from rfl, cT]
      obtain ⟨r, hr, hr'⟩ := upto 59 (by rw [h105]; decide)
      rw [show ((59 : Int)) = ((59 : UInt8).toNat : Int) from rfl, hr, bS]
      rcases hr' with rfl | ⟨m, m1, m2, rfl⟩
      · exact no
      · have hle := m1.le
        rw [List.length_append, List.length_singleton] at hle
        have hsl := m1.left.slice
        rw [dF (by omega), cF, wsucc (by omega), dT (by omega), dT (by omega), dT (by omega), dT (by omega)]
        simp only [Bool.and_self, cT, Int.toNat_natCast]
        rw [hsl]
        obtain ⟨y, b, hw, hy, hb⟩ := whole_any (k := k) (by omega) (s := m) (by omega)
        rw [hw, bS]
        cases b with
        | false => exact no
        | true =>
          have hm := hb rfl
          rw [Bool.not_true, cF, wsucc (by omega)]
          refine ⟨_, rfl, .inr ⟨intT y, (Leafy.i y hy.1 hy.2).tx d, ?_, ?_⟩⟩
          · have := join 105 h105 _ m1
            rw [hm] at this
            exact this
          · unfold intT
            rw [← hm]
            simp only [List.length_append, List.length_cons, List.length_nil]
            congr 1; omega
    rw [bq h105 (z := 105) rfl, cF]
    by_cases h115 : s[p] = 115
    · rw [h115, show ((((115 : UInt8)).toNat : Int) == 115) = true from rfl, cT]
      obtain ⟨r, hr, hr'⟩ := upto 58 (by rw [h115]; decide)
      rw [show ((58 : Int)) = ((58 : UInt8).toNat : Int) from rfl, hr, bS]
      rcases hr' with rfl | ⟨m, m1, m2, rfl⟩
      · exact no
      · have hle := m1.le
        rw [List.length_append, List.length_singleton] at hle
        have hsl := m1.left.slice
        rw [dF (by omega), cF, wsucc (by omega), dT (by omega), dT (by omega), dT (by omega), dT (by omega)]
        simp only [Bool.and_self, cT, Int.toNat_natCast]
        rw [hsl]
        obtain ⟨y, b, hw, hy, hb⟩ := whole_any (k := k) (by omega) (s := m) (by omega)
        rw [hw, bS]
        cases b with
        | false => exact no
        | true =>
          have hm := hb rfl
          simp only [Bool.not_true, Bool.not_false, cT]
          by_cases hneg : y < 0
          · rw [dT hneg, Bool.not_true, cF]; exact no
          rw [dF hneg, Bool.not_false, cT, wi64 ((s.length : Int) - ((p + 1 + m.length : Nat) : Int)) (by omega), wi64 _ (by omega)]
          by_cases hbig : y > (s.length : Int) - ((p + 1 + m.length : Nat) : Int) - 1
          · rw [dT hbig, cT]; exact no
          obtain ⟨y', rfl⟩ : ∃ q : Nat, y = (q : Int) := ⟨y.toNat, by omega⟩
          rw [dF hbig, cF, wsucc (by omega), wi64 _ (by omega)]
          have hq : p + 1 + m.length + 1 + y' ≤ s.length := by omega
          have hbody := At.of_take (s := s) (p := p + 1 + m.length + 1) (q := p + 1 + m.length + 1 + y') (by omega) hq
          have hbl : ((s.take (p + 1 + m.length + 1 + y')).drop (p + 1 + m.length + 1)).length = y' := by rw [List.length_drop, List.length_take]; omega
          generalize hl : (s.take (p + 1 + m.length + 1 + y')).drop (p + 1 + m.length + 1) = l at hbody hbl
          have hmd : m = dec l.length := by rw [hm, hbl]; exact digT_nat y'
          have hall := join 115 h115 _ (m1.join (by rw [List.length_append, List.length_singleton]; exact hbody))
          refine ⟨_, rfl, .inr ⟨bytesT l, (Leafy.s l (by omega)).tx d, ?_, ?_⟩⟩
          · rw [hmd] at hall
            unfold bytesT
            simpa using hall
          · unfold bytesT
            rw [← hmd]
            simp only [List.length_append, List.length_cons, List.length_nil, hbl]
            omega
    rw [bq h115 (z := 115) rfl, cF]
    by_cases h91 : s[p] = 91
    · rw [h91, show ((((91 : UInt8)).toNat : Int) == 91) = true from rfl, cT, cT, wsucc (by omega), show IntKind.u8.wrap ((((91 : UInt8)).toNat : Int) + 2) = (((93 : UInt8)).toNat : Int) from by decide]
      obtain ⟨r, hr, hr'⟩ := row 93 (.inl rfl) k rfl (p + 1) (by omega)
      rw [hr]
      refine ⟨r, rfl, hr'.imp_right fun ⟨us, h1, h2, h3⟩ => ⟨listT us, h1.list, ?_, ?_⟩⟩
      · have := join 91 h91 _ h2
        unfold listT
        simpa using this
      · rw [h3]; unfold listT
        simp only [List.length_append, List.length_cons, List.length_nil]
        congr 1; omega
    rw [bq h91 (z := 91) rfl, cF]
    by_cases h123 : s[p] = 123
    · rw [h123, show ((((123 : UInt8)).toNat : Int) == 123) = true from rfl, cT, wsucc (by omega), show IntKind.u8.wrap ((((123 : UInt8)).toNat : Int) + 2) = (((125 : UInt8)).toNat : Int) from by decide]
      obtain ⟨r, hr, hr'⟩ := row 125 (.inr rfl) k rfl (p + 1) (by omega)
      rw [hr]
      refine ⟨r, rfl, hr'.imp_right fun ⟨us, h1, h2, h3⟩ => ⟨structT us, h1.struct, ?_, ?_⟩⟩
      · have := join 123 h123 _ h2
        unfold structT
        simpa using this
      · rw [h3]; unfold structT
        simp only [List.length_append, List.length_cons, List.length_nil]
        congr 1; omega
    rw [bq h123 (z := 123) rfl, cF]
    exact no
  · rw [dT (by omega), cT]
    exact no
theorem end_any : ∀ (d : Nat), d ≤ 50 → ∀ {k : Nat}, 100200 + d ≤ k → ∀ {s : List UInt8}, s.length ≤ 100000 → ∀ {p : Nat}, p ≤ s.length →
    ∃ r, quiverref7_end.f idb k s (p : Int) (d : Int) = some r ∧ (r = -1 ∨ ∃ v, Tx d v ∧ At s p v ∧ r = ((p + v.length : Nat) : Int)) := by
  intro d
  induction d with
  | zero =>
    intro _ k hk s hs p hp
    refine end_anyD (d := 0) hk hs hp fun c _ k' hk' q hq => ?_
    obtain ⟨k', rfl⟩ : ∃ q, k' = q + 1 := ⟨k' - 1, by omega⟩
    obtain ⟨r, h1, h2⟩ := end_shut (k := k' + 1) (n := k') hs (q := q) c
    exact ⟨r, h1, h2.imp_right fun ⟨h3, h4⟩ => ⟨[], rfl, h3, h4⟩⟩
  | succ d ih =>
    intro hd k hk s hs p hp
    refine end_anyD (d := d + 1) (by omega) hs hp fun c hc k' hk' q hq => ?_
    exact end_row hs (p := q) (by omega) c hc (fun q' hq' => ih (by omega) (by omega) hs hq') (s.length - q) q k' [] (by omega) (by omega) (fun w hw => by cases hw) ⟨s.take q, s.drop q, by simp, by rw [List.length_take]; omega⟩ (by simp)

end Go.Proofs.YtppmpfddcohkjaaGreatDoorP
