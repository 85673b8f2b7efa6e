/- Types: the document's word on whether a type may be is the program's; no condition. -/
import Derived.Test.YtgedegmcbkligaaPType
namespace Go.Proofs.YtgedegmcbkligaaP
open Go Go.Proofs.YtgedegmcbkligaaA

def Ups (t : List Nod) (m : Nat) : Prop := ∀ q, q < m → par t q < (q : Int)
theorem wayF_ups {t : List Nod} {m : Nat} (h : Ups t m) : ∀ (f g : Nat) (a : Int), a < (m : Int) → a < (f : Int) → a < (g : Int) → wayF t f a = wayF t g a
  | 0, 0, _, _, _, _ => rfl
  | 0, g + 1, a, _, h1, _ => by
    have : ¬ 0 ≤ a := by omega
    simp [wayF, this]
  | f + 1, 0, a, _, _, h1 => by
    have : ¬ 0 ≤ a := by omega
    simp [wayF, this]
  | f + 1, g + 1, a, hl, h1, h2 => by
    simp only [wayF]
    split
    · rename_i h0
      have hup := h a.toNat (by omega)
      rw [wayF_ups h f g _ (by omega) (by omega) (by omega)]
    · rfl
theorem wayL_ups {t : List Nod} {m : Nat} (h : Ups t m) {i : Nat} (hi : i < m) : wayL t (i : Int) = (i : Int) :: wayL t (par t i) := by
  have hup := h i hi
  unfold wayL
  rw [show ((i : Int) + 1).toNat = i + 1 by omega]
  simp only [wayF]
  rw [if_pos (by omega), Int.toNat_natCast]
  by_cases hp : 0 ≤ par t i
  · rw [wayF_ups h i ((par t i + 1).toNat) (par t i) (by omega) (by omega) (by omega)]
  · rw [show (par t i + 1).toNat = 0 by omega]
    congr 1
    cases i with
    | zero => rfl
    | succ i => simp [wayF, hp]

def refB (t : List Nod) (i : Nat) : Bool :=
  kindB t i && (inner (knd t i) || (kidsL t (i : Int)).length == 0) && kidsB t i && (i == 0 || (decide (0 ≤ par t i) && decide (par t i < (i : Int)) && decide ((wayL t (par t i)).length ≤ 4)))

theorem ref_upTo_ok {k : Nat} (hk : 1 ≤ k) (x a b : Int) : quiverref1_upTo.f idb k x a b = some (decide (a ≤ x) && decide (x ≤ b)) := by
  obtain ⟨k, rfl⟩ : ∃ m, k = m + 1 := ⟨k - 1, by omega⟩
  rw [quiverref1_upTo.f_eq]
  by_cases h : a ≤ x
  · have : x ≥ a := h
    simp [h]
  · have : ¬ x ≥ a := h
    simp [h]

set_option maxHeartbeats 2000000 in
theorem ref_May_l0 (t : List Nod) (ht : t.length ≤ 8) (k : Nat) (hk : 20 ≤ k) (h0 : par t 0 = -1) : ∀ (j i : Nat), i + j = t.length → Ups t i → ∀ deep : List Int, deep.length = t.length → (i = 0 → deep[0]? = some 0) →
    (∀ q, q < i → deep[q]? = some (((wayL t (q : Int)).length : Int) - 1)) → ∀ n, j + 1 ≤ n → quiverref1_TypeMay.l0 idb k n (i : Int) t deep = some ((List.range' i (t.length - i)).all (refB t))
  | 0, i, hij, hu, deep, hdl, hd0, hd, n, hn => by
    obtain ⟨n, rfl⟩ : ∃ m, n = m + 1 := ⟨n - 1, by omega⟩
    rw [quiverref1_TypeMay.l0_eq]
    have h1 : ¬ ((i : Int) < (t.length : Int)) := by omega
    simp only [h1, decide_false, cond]
    rw [show t.length - i = 0 by omega]; rfl
  | j + 1, i, hij, hu, deep, hdl, hd0, hd, n, hn => by
    obtain ⟨n, rfl⟩ : ∃ m, n = m + 1 := ⟨n - 1, by omega⟩
    have hlt : i < t.length := by omega
    have h1 : ((i : Int) < (t.length : Int)) := by omega
    rw [quiverref1_TypeMay.l0_eq, all_drop _ _ _ hlt]
    simp only [h1, decide_true, cond, rd_get hlt, Option.bind_some, knd_get hlt, par_get hlt, ref_upTo_ok (show 1 ≤ k by omega), ref_kids_ok t _ (show t.length ≤ 17592186044415 by omega) (show t.length + 2 ≤ k by omega), ref_IsLeaf_ok (show 1 ≤ k by omega),
      wsucc (show (i : Int) ≤ _ by omega), wi64 ((i : Int) - 1) (by omega)]
    -- what comes behind the looks at the kind and the kids
    have rest : ∀ g : Bool, refB t i = (g && (i == 0 || (decide (0 ≤ par t i) && decide (par t i < (i : Int)) && decide ((wayL t (par t i)).length ≤ 4)))) → g = true →
        (bif ((i : Int) == 0) then quiverref1_TypeMay.l0 idb k n ((i + 1 : Nat) : Int) t deep
         else bif (!(!(decide (0 ≤ par t i) && decide (par t i ≤ (i : Int) - 1)))) then
          bif decide (0 ≤ par t i) && decide (par t i < (deep.length : Int)) then
           (deep[(par t i).toNat]?).bind fun e_6 =>
           bif decide (e_6 ≥ 4) then some false
           else
            bif decide (0 ≤ par t i) && decide (par t i < (deep.length : Int)) then
             (deep[(par t i).toNat]?).bind fun e_7 =>
             bif decide (0 ≤ (i : Int)) && decide ((i : Int) < (deep.length : Int)) then
              (deep[((i : Int)).toNat]?).bind fun e_8 =>
              quiverref1_TypeMay.l0 idb k n ((i + 1 : Nat) : Int) t (deep.set ((i : Int)).toNat (IntKind.i64.wrap (e_7 + 1)))
             else none
            else none
          else none
         else some false) = some (refB t i && (List.range' (i + 1) (t.length - (i + 1))).all (refB t)) := by
      intro g hg hgt
      subst hgt
      rw [Bool.true_and] at hg
      by_cases hi0 : i = 0
      · subst hi0
        have hr : refB t 0 = true := by rw [hg]; rfl
        have hu1 : Ups t 1 := fun q hq => by
          have : q = 0 := by omega
          subst this; rw [h0]; decide
        have hw : (wayL t ((0 : Nat) : Int)).length = 1 := by
          rw [wayL_ups hu1 (by omega), h0, wayL_neg (by decide)]; rfl
        have ih := ref_May_l0 t ht k hk h0 j 1 (by omega) hu1 deep hdl (fun h => by omega) (fun q hq => by
          have : q = 0 := by omega
          subst this
          rw [hd0 rfl, hw]; rfl) n (by omega)
        have b0 : (((0 : Nat) : Int) == 0) = true := rfl
        simp only [b0, cond, hr, Bool.true_and]
        exact ih
      · have b0 : ((i : Int) == 0) = false := beq_eq_false_iff_ne.2 (by omega)
        have bn : (i == 0) = false := beq_eq_false_iff_ne.2 hi0
        rw [bn, Bool.false_or] at hg
        simp only [b0, cond]
        by_cases hp : 0 ≤ par t i ∧ par t i < (i : Int)
        · obtain ⟨hp1, hp2⟩ := hp
          have hp3 : par t i ≤ (i : Int) - 1 := by omega
          have hp4 : par t i < (deep.length : Int) := by omega
          have hq : (par t i).toNat < i := by omega
          have e : (((par t i).toNat : Nat) : Int) = par t i := by omega
          have hv := hd _ hq
          rw [e] at hv
          have hi1 : (0 : Int) ≤ (i : Int) := by omega
          have hi2 : (i : Int) < (deep.length : Int) := by omega
          have hget : deep[((i : Int)).toNat]? = some (deep[i]'(by omega)) := by rw [Int.toNat_natCast]; exact List.getElem?_eq_getElem (by omega)
          simp only [hp1, hp2, hp3, hp4, decide_true, Bool.and_self, Bool.not_true, Bool.not_false, hv, Option.bind_some, hi1, hi2, hget]
          simp only [hp1, hp2, decide_true, Bool.true_and] at hg
          by_cases hw : (wayL t (par t i)).length ≤ 4
          · have hw' : ¬ (((wayL t (par t i)).length : Int) - 1 ≥ 4) := by omega
            have hr : refB t i = true := by rw [hg]; simpa using hw
            have hu1 : Ups t (i + 1) := fun q hq => by
              by_cases e : q = i
              · subst e; exact hp2
              · exact hu q (by omega)
            have hwl : wayL t (i : Int) = (i : Int) :: wayL t (par t i) := wayL_ups hu1 (by omega)
            have hs : IntKind.i64.wrap (((wayL t (par t i)).length : Int) - 1 + 1) = ((wayL t (i : Int)).length : Int) - 1 := by
              rw [wi64 _ (by omega), hwl, List.length_cons]; omega
            have ih := ref_May_l0 t ht k hk h0 j (i + 1) (by omega) hu1 (deep.set i (((wayL t (i : Int)).length : Int) - 1)) (by simpa using hdl) (fun h => by omega) (fun q hq => by
              by_cases e : q = i
              · subst e
                rw [List.getElem?_set_self (by omega)]
              · rw [List.getElem?_set_ne (fun h => e h.symm)]
                exact hd q (by omega)) n (by omega)
            simp only [hw', decide_false, hr, Bool.true_and, hs, Int.toNat_natCast]
            exact ih
          · have hw' : (((wayL t (par t i)).length : Int) - 1 ≥ 4) := by omega
            have hr : refB t i = false := by rw [hg]; simpa using hw
            simp only [hw', decide_true, hr, Bool.false_and]
        · have hr : refB t i = false := by
            rw [hg]
            by_cases hp1 : 0 ≤ par t i
            · have hp2 : ¬ par t i < (i : Int) := fun h => hp ⟨hp1, h⟩
              simp [hp2]
            · simp [hp1]
          have hb : (decide (0 ≤ par t i) && decide (par t i ≤ (i : Int) - 1)) = false := by
            by_cases hp1 : 0 ≤ par t i
            · have hp2 : ¬ par t i ≤ (i : Int) - 1 := fun h => hp ⟨hp1, by omega⟩
              simp [hp2]
            · simp [hp1]
          simp only [hb, Bool.not_false, Bool.not_true, hr, Bool.false_and]
    have e1 : (((kidsL t (i : Int)).length : Int) != 1) = !((kidsL t (i : Int)).length == 1) := by
      simp only [bne]
      congr 1
      exact natbeq _ 1
    have e2 : decide (((kidsL t (i : Int)).length : Int) < 1) = ((kidsL t (i : Int)).length == 0) := by
      by_cases hh : (kidsL t (i : Int)).length = 0
      · simp [hh]
      · have h3 : ¬ (((kidsL t (i : Int)).length : Int) < 1) := by omega
        rw [beq_eq_false_iff_ne.2 hh, decide_eq_false h3]
    have e3 : decide (((kidsL t (i : Int)).length : Int) > 0) = !((kidsL t (i : Int)).length == 0) := by
      by_cases hh : (kidsL t (i : Int)).length = 0
      · simp [hh]
      · have h3 : (((kidsL t (i : Int)).length : Int) > 0) := by omega
        rw [beq_eq_false_iff_ne.2 hh, decide_eq_true h3]
        rfl
    simp only [e1, e2, e3]
    have hrefl : refB t i = (kindB t i && (inner (knd t i) || (kidsL t (i : Int)).length == 0) && kidsB t i && (i == 0 || (decide (0 ≤ par t i) && decide (par t i < (i : Int)) && decide ((wayL t (par t i)).length ≤ 4)))) := rfl
    have hkb : (decide (0 ≤ knd t i) && decide (knd t i ≤ 4)) = kindB t i := rfl
    rw [hkb]
    have rest' := rest _ hrefl
    unfold kidsB inner at rest' hrefl
    unfold inner
    generalize kindB t i = bk at rest' hrefl ⊢
    generalize (knd t i == 3) = b3 at rest' hrefl ⊢
    generalize (knd t i == 4) = b4 at rest' hrefl ⊢
    generalize ((kidsL t (i : Int)).length == 0) = z at rest' hrefl ⊢
    generalize ((kidsL t (i : Int)).length == 1) = o at rest' hrefl ⊢
    generalize refB t i = rb at rest' hrefl ⊢
    cases bk with
    | false => simp only [Bool.false_and] at hrefl; subst hrefl; simp only [Bool.not_false, Bool.false_and]
    | true =>
      cases b3 <;> cases b4 <;> cases z <;> cases o <;> simp only [Bool.not_true, Bool.not_false, Bool.true_and, Bool.false_and, Bool.and_true, Bool.and_false, Bool.or_true, Bool.true_or, Bool.or_false, Bool.false_or, Bool.and_self, Bool.or_self] at rest' hrefl ⊢ <;>
        first | (exact rest' trivial) | (exact rest' rfl) | (subst hrefl; simp only [Bool.false_and]; done) | (subst hrefl; rfl)

theorem ref_May_ok {k : Nat} (hk : 21 ≤ k) (t : List Nod) : quiverref1_TypeMay.f idb k t = some (decide (1 ≤ t.length) && decide (t.length ≤ 8) && (par t 0 == -1) && (List.range t.length).all (refB t)) := by
  obtain ⟨k, rfl⟩ : ∃ m, k = m + 1 := ⟨k - 1, by omega⟩
  rw [quiverref1_TypeMay.f_eq]
  by_cases h1 : 1 ≤ t.length
  · have h1' : ¬ ((t.length : Int) < 1) := by omega
    by_cases h8 : t.length ≤ 8
    · have h8' : ¬ ((t.length : Int) > 8) := by omega
      have hr : rd t 0 = some t[0] := rd_get (i := 0) h1
      have hb : (((t.length : Int) == (t.length : Int)) && (decide (0 ≤ (t.length : Int)) && decide ((t.length : Int) * 8 ≤ 140737488355328))) = true := by simp; omega
      simp only [h1, h1', h8, h8', decide_true, decide_false, Bool.not_false, cond, hr, Option.bind_some, par_get h1, hb, Bool.true_and]
      by_cases hp : par t 0 = -1
      · have b1 : (par t 0 != -1) = false := by simp [hp]
        have b2 : (par t 0 == -1) = true := by simp [hp]
        have := ref_May_l0 t h8 k (by omega) hp t.length 0 (by omega) (fun q hq => absurd hq (Nat.not_lt_zero q)) (List.replicate ((t.length : Int)).toNat 0) (by simp) (fun _ => by
          rw [List.getElem?_replicate, if_pos (by omega)]) (fun q hq => absurd hq (Nat.not_lt_zero q)) k (by omega)
        rw [Nat.sub_zero, ← List.range_eq_range'] at this
        simp only [b1, b2, Bool.true_and]
        exact this
      · have b1 : (par t 0 != -1) = true := by simpa using hp
        have b2 : (par t 0 == -1) = false := by simpa using hp
        simp only [b1, b2, Bool.false_and]
    · have h8' : ((t.length : Int) > 8) := by omega
      simp only [h1', h8, h8', decide_true, decide_false, Bool.not_false, Bool.not_true, cond, Bool.false_and, Bool.and_false]
  · have h1' : ((t.length : Int) < 1) := by omega
    simp only [h1, h1', decide_true, decide_false, Bool.not_true, cond, Bool.false_and]

theorem mayT_iff (t : List Nod) : mayT t = true ↔ (1 ≤ t.length ∧ t.length ≤ 8) ∧ (∀ i, i < t.length → kindB t i = true ∧ standsB t i = true) ∧ ∀ i, i < t.length → kidsB t i = true ∧ (wayL t (i : Int)).length ≤ 5 := by
  unfold mayT
  simp only [Bool.and_eq_true, decide_eq_true_eq, List.all_eq_true, List.mem_range]
  constructor
  · rintro ⟨⟨⟨h1, h2⟩, h3⟩, h4⟩; exact ⟨⟨h1, h2⟩, h3, h4⟩
  · rintro ⟨⟨h1, h2⟩, h3, h4⟩; exact ⟨⟨⟨h1, h2⟩, h3⟩, h4⟩
theorem mayT_stands {t : List Nod} (h : mayT t = true) : Stands t := fun i hi => (((mayT_iff t).1 h).2.1 i hi).2

theorem may_same (t : List Nod) : (decide (1 ≤ t.length) && decide (t.length ≤ 8) && (par t 0 == -1) && (List.range t.length).all (refB t)) = mayT t := by
  apply Bool.eq_iff_iff.2
  rw [mayT_iff]
  simp only [Bool.and_eq_true, decide_eq_true_eq, List.all_eq_true, List.mem_range, beq_iff_eq]
  constructor
  · rintro ⟨⟨⟨h1, h2⟩, h0⟩, hall⟩
    have href : ∀ i, i < t.length → kindB t i = true ∧ (inner (knd t i) = true ∨ (kidsL t (i : Int)).length = 0) ∧ kidsB t i = true ∧ (i = 0 ∨ (0 ≤ par t i ∧ par t i < (i : Int) ∧ (wayL t (par t i)).length ≤ 4)) := by
      intro i hi
      have := hall i hi
      simp only [refB, Bool.and_eq_true, Bool.or_eq_true, beq_iff_eq, decide_eq_true_eq] at this
      obtain ⟨⟨⟨q1, q2⟩, q3⟩, q4⟩ := this
      refine ⟨q1, q2, q3, ?_⟩
      rcases q4 with q4 | ⟨⟨q5, q6⟩, q7⟩
      · exact .inl q4
      · exact .inr ⟨q5, q6, q7⟩
    have hst : Stands t := by
      intro i hi
      unfold standsB
      split
      · simpa using h0
      · rename_i hi0
        obtain ⟨_, _, _, q4⟩ := href i hi
        rcases q4 with q4 | ⟨q5, q6, q7⟩
        · exact absurd q4 hi0
        · have hp : (par t i).toNat < t.length := by omega
          have hm : (i : Int) ∈ kidsL t (((par t i).toNat : Nat) : Int) := mem_kidsL.2 ⟨i, hi, by omega, by omega, rfl⟩
          obtain ⟨_, q2, _, _⟩ := href _ hp
          have hin : inner (knd t (par t i).toNat) = true := by
            rcases q2 with q2 | q2
            · exact q2
            · rw [List.eq_nil_of_length_eq_zero q2] at hm; simp at hm
          simp [q5, q6, hin]
    refine ⟨⟨h1, h2⟩, fun i hi => ⟨(href i hi).1, hst i hi⟩, fun i hi => ⟨(href i hi).2.2.1, ?_⟩⟩
    rw [wayL_up hst hi, List.length_cons]
    rcases (href i hi).2.2.2 with q4 | ⟨_, _, q7⟩
    · subst q4
      rw [h0, wayL_neg (by decide)]; simp
    · omega
  · rintro ⟨⟨h1, h2⟩, h3, h4⟩
    have hst : Stands t := fun i hi => (h3 i hi).2
    have h0 : par t 0 = -1 := by
      have := hst 0 (by omega)
      simpa [standsB] using this
    refine ⟨⟨⟨h1, h2⟩, h0⟩, fun i hi => ?_⟩
    simp only [refB, Bool.and_eq_true, Bool.or_eq_true, beq_iff_eq, decide_eq_true_eq]
    refine ⟨⟨⟨(h3 i hi).1, ?_⟩, (h4 i hi).1⟩, ?_⟩
    · by_cases hk : (kidsL t (i : Int)).length = 0
      · exact .inr hk
      · refine .inl ?_
        obtain ⟨x, hx⟩ := List.exists_mem_of_length_pos (Nat.pos_of_ne_zero hk)
        obtain ⟨j, hj, hj0, hpj, _⟩ := mem_kidsL.1 hx
        have := hst j hj
        unfold standsB at this
        rw [if_neg (by omega)] at this
        simp only [Bool.and_eq_true] at this
        rw [hpj, Int.toNat_natCast] at this
        exact this.2
    · by_cases hi0 : i = 0
      · exact .inl hi0
      · refine .inr ?_
        have hs := hst i hi
        unfold standsB at hs
        rw [if_neg hi0] at hs
        simp only [Bool.and_eq_true, decide_eq_true_eq] at hs
        have hw := (h4 i hi).2
        rw [wayL_up hst hi, List.length_cons] at hw
        exact ⟨⟨hs.1.1, hs.1.2⟩, by omega⟩
theorem ref_TypeMay_ok {k : Nat} (hk : 21 ≤ k) (t : List Nod) : quiverref1_TypeMay.f idb k t = some (mayT t) := by rw [ref_May_ok hk, may_same]

end Go.Proofs.YtgedegmcbkligaaP
