/- Types: the laws TypesLevels, TypesForms, TypesDeep and TypesSchema, as the machine answers them; no condition but the sizes that a machine has. -/
import Derived.Test.YtgedegmcbkligaaPNode
namespace Go.Proofs.YtgedegmcbkligaaP
open Go Go.Proofs.YtgedegmcbkligaaA

theorem cT {α : Type} (x y : α) : (bif true then x else y) = x := cond_pos' rfl x y
theorem cF' {α : Type} {b : Bool} (h : b = false) (x y : α) : (bif b then x else y) = y := by subst h; rfl
theorem cF {α : Type} (x y : α) : (bif false then x else y) = y := cF' rfl x y
theorem bS' {α β : Type} {o : Option α} {a : α} (h : o = some a) (f : α → Option β) : o.bind f = f a := by subst h; rfl
theorem bS {α β : Type} (a : α) (f : α → Option β) : (some a).bind f = f a := bS' rfl f
theorem awake5' {k : Nat} (hk : 60 ≤ k) : quiverlaw5_awake.f idb k = some true := by
  obtain ⟨m, rfl⟩ : ∃ m, k = m + 60 := ⟨k - 60, by omega⟩
  exact awake5 m
theorem levT_no {t : List Nod} {a : Int} (h : nodeB t a = false) : levT t a = (0, 0, 500) := by unfold levT; rw [h]; rfl
theorem nodeB_bad {t : List Nod} (h : mayT t = false) (a : Int) : nodeB t a = false := by unfold nodeB; rw [h]; rfl
theorem levT_at {t : List Nod} (h : mayT t = true) {i : Nat} (hi : i < t.length) : levT t (i : Int) = (repW t (wayL t (i : Int)), defW t (wayL t (i : Int)), 0) := by unfold levT; rw [nodeB_of h hi]; rfl

theorem TL_j19 {t : List Nod} {k n : Nat} (hk : 60 ≤ k) {i : Nat} (hi : (i : Int) ≤ 4611686018427387904) (ih : quiverlaw5_TypesLevels.l0 idb k n ((i + 1 : Nat) : Int) t = some true) (x y : Int) : quiverlaw5_TypesLevels.j19 idb k n (i : Int) x y 0 x y 0 t = some true := by
  rw [quiverlaw5_TypesLevels.j19_eq]
  simp only [law0_Num (show 1 ≤ k by omega), bS, bne_self_eq_false, Bool.not_false, cT, wsucc hi]
  exact ih
theorem TL_j17 {t : List Nod} {k n : Nat} {i : Nat} (hlt : i < t.length) (x y d : Int) (hd : 0 ≤ d ∧ d ≤ 1000) (hy : y = d + b1 (nul t i)) (h : quiverlaw5_TypesLevels.j19 idb k n (i : Int) x y 0 x y 0 t = some true) : quiverlaw5_TypesLevels.j17 idb k n (i : Int) x y 0 x d 0 t = some true := by
  rw [quiverlaw5_TypesLevels.j17_eq]
  simp only [rd_get hlt, bS, nul_get hlt, bar_eq, wi64 (d + 1) (by omega)]
  cases hz : nul t i with
  | true =>
    rw [hz] at hy
    simp only [b1, if_true] at hy
    subst hy
    simp only [cT]
    exact h
  | false =>
    rw [hz] at hy
    simp only [b1, Bool.false_eq_true, if_false, Int.add_zero] at hy
    subst hy
    simp only [cF]
    exact h
theorem TL_j14 {t : List Nod} {k n : Nat} {i : Nat} (hlt : i < t.length) (x y r d : Int) (hr : 0 ≤ r ∧ r ≤ 1000) (hd : 0 ≤ d ∧ d ≤ 1000) (hx : x = r + b1 (knd t i == 3)) (h : quiverlaw5_TypesLevels.j17 idb k n (i : Int) x y 0 x (d + b1 (knd t i == 3)) 0 t = some true) : quiverlaw5_TypesLevels.j14 idb k n (i : Int) x y 0 r d 0 t = some true := by
  rw [quiverlaw5_TypesLevels.j14_eq]
  simp only [rd_get hlt, bS, knd_get hlt, bar_eq, wi64 (r + 1) (by omega), wi64 (d + 1) (by omega)]
  cases hz : (knd t i == 3) with
  | true =>
    rw [hz] at hx h
    simp only [b1, if_true] at hx h
    subst hx
    simp only [cT]
    exact h
  | false =>
    rw [hz] at hx h
    simp only [b1, Bool.false_eq_true, if_false, Int.add_zero] at hx h
    subst hx
    simp only [cF]
    exact h
theorem TL_l0 {t : List Nod} (hm : mayT t = true) {k n : Nat} (hk : 60 ≤ k) {i : Nat} (hlt : i < t.length) (ih : quiverlaw5_TypesLevels.l0 idb k n ((i + 1 : Nat) : Int) t = some true) : quiverlaw5_TypesLevels.l0 idb k (n + 1) (i : Int) t = some true := by
  have hl := mayT_length hm
  have hst := mayT_stands hm
  have h1 : ((i : Int) < (t.length : Int)) := by omega
  have hup := hst.up hlt
  have hw := wayL_up hst hlt
  have wl := wayL_length hst i hlt
  have r1 := repW_range t (wayL t (par t i))
  have r2 := defW_range t (wayL t (par t i))
  have r3 : (wayL t (par t i)).length ≤ 8 := by rw [hw, List.length_cons] at wl; omega
  have b3 := b1_range (knd t i == 3)
  have e1 : repW t (wayL t (i : Int)) = repW t (wayL t (par t i)) + b1 (knd t i == 3) := by rw [hw]; simp only [repW, Int.toNat_natCast]
  have e2 : defW t (wayL t (i : Int)) = defW t (wayL t (par t i)) + b1 (knd t i == 3) + b1 (nul t i) := by rw [hw]; simp only [defW, Int.toNat_natCast]
  have j14 := TL_j14 hlt _ _ _ _ (by omega) (by omega) e1 (TL_j17 hlt _ _ _ (by omega) e2 (TL_j19 hk (by omega) ih _ _))
  rw [quiverlaw5_TypesLevels.l0_eq, h1 |> decide_eq_true, types_Levels_ok (show 50 ≤ k by omega), levT_at hm hlt]
  simp only [cT, bS, rd_get hlt, par_get hlt, bar_eq]
  by_cases h0 : (i : Int) > 0
  · have hs := hst i hlt
    unfold standsB at hs
    rw [if_neg (by omega)] at hs
    simp only [Bool.and_eq_true, decide_eq_true_eq] at hs
    have e : par t i = (((par t i).toNat : Nat) : Int) := by omega
    have hp : levT t (par t i) = (repW t (wayL t (par t i)), defW t (wayL t (par t i)), 0) := by
      have h2 := levT_at hm (i := (par t i).toNat) (by omega)
      rw [← e] at h2
      exact h2
    rw [decide_eq_true h0, cT, types_Levels_ok (show 50 ≤ k by omega), hp]
    simp only [bS]
    exact j14
  · have hi0 : i = 0 := by omega
    subst hi0
    have hp : par t 0 = -1 := by
      have := hst 0 hlt
      simpa [standsB] using this
    have hp2 : wayL t (par t 0) = [] := by rw [hp]; exact wayL_neg (by decide)
    rw [hp2] at j14
    simp only [repW, defW] at j14
    rw [decide_eq_false h0, cF]
    exact j14
theorem TypesLevels_l0 {t : List Nod} (hm : mayT t = true) {k : Nat} (hk : 60 ≤ k) : ∀ (j i : Nat), i + j = t.length → ∀ n, j + 1 ≤ n → quiverlaw5_TypesLevels.l0 idb k n (i : Int) t = some true
  | 0, i, hij, n, hn => by
    obtain ⟨n, rfl⟩ : ∃ m, n = m + 1 := ⟨n - 1, by omega⟩
    rw [quiverlaw5_TypesLevels.l0_eq]
    have h1 : ¬ ((i : Int) < (t.length : Int)) := by omega
    simp only [h1, decide_false, cond]
  | j + 1, i, hij, n, hn => by
    obtain ⟨n, rfl⟩ : ∃ m, n = m + 1 := ⟨n - 1, by omega⟩
    exact TL_l0 hm hk (by omega) (TypesLevels_l0 hm hk j (i + 1) (by omega) n (by omega))
theorem pure_TypesLevels (t : List Nod) : ∃ k, quiverlaw5_TypesLevels.f idb k t = some true := by
  refine ⟨1000 + 1, ?_⟩
  rw [quiverlaw5_TypesLevels.f_eq]
  simp only [awake5' (show 60 ≤ 1000 by omega), Option.bind_some, Bool.not_true, cond, types_May_ok (show 21 ≤ 1000 by omega)]
  cases hm : mayT t with
  | false =>
    simp only [Bool.not_false, types_Levels_ok (show 50 ≤ 1000 by omega), levT_no (nodeB_bad hm 0), Option.bind_some, law0_Num (show 1 ≤ 1000 by omega)]; rfl
  | true =>
    have hl := mayT_length hm
    simp only [Bool.not_true]
    exact TypesLevels_l0 hm (by omega) t.length 0 (by omega) 1000 (by omega)

theorem pure_TypesSchema (t : List Nod) (ht : (t.length : Int) * 24 ≤ 140737488351232) : ∃ k, quiverlaw5_TypesSchema.f idb k t = some true := by
  refine ⟨1000 + 1, ?_⟩
  rw [quiverlaw5_TypesSchema.f_eq]
  simp only [awake5' (show 60 ≤ 1000 by omega), Option.bind_some, Bool.not_true, cond, types_May_ok (show 21 ≤ 1000 by omega), ref_PutSchema_ok (show 22 ≤ 1000 by omega)]
  cases hm : mayT t with
  | false =>
    have hb : ((600 : Int) != 0) = true := rfl
    simp only [putS, hm, Bool.false_eq_true, if_false, hb, Bool.not_false]
  | true =>
    have hl := mayT_length hm
    have hb : ((0 : Int) != 0) = false := rfl
    have hv := leavesT_length t
    have hlt : leavesT t = (leavesU t t.length, 0) := by unfold leavesT; rw [hm]; rfl
    rw [hlt] at hv
    have h1 : decide ((((leavesU t t.length).length : Nat) : Int) ≥ 1) = true := by
      apply decide_eq_true
      -- the last node is a leaf: none has it as its parent
      obtain ⟨m, hmm⟩ : ∃ m, t.length = m + 1 := ⟨t.length - 1, by omega⟩
      have hlf : inner (knd t m) = false := by
        cases hin : inner (knd t m) with
        | false => rfl
        | true =>
          have hkb := (((mayT_iff t).1 hm).2.2 m (by omega)).1
          have hz : (kidsL t (m : Int)).length = 0 := by
            cases hc : kidsL t (m : Int) with
            | nil => rfl
            | cons x l =>
              obtain ⟨j, hj, _, hp, _⟩ := mem_kidsL.1 (show x ∈ kidsL t (m : Int) by rw [hc]; exact List.mem_cons_self)
              have := (mayT_stands hm).up hj
              omega
          unfold kidsB at hkb
          rw [hz] at hkb
          unfold inner at hin
          generalize (knd t m == 3) = p at hkb hin
          generalize (knd t m == 4) = q at hkb hin
          revert hkb hin; revert p q; decide
      rw [hmm, leavesU_succ, hlf]
      simp
      omega
    simp only [putS, hm, if_true, hb, ref_GetSchema_ok (show 400 ≤ 1000 by omega) (textT t) (by rw [textT_length]; omega), getS_text hm, types_Leaves_ok (show 40 ≤ 1000 by omega), Option.bind_some, hlt, law0_Num (show 1 ≤ 1000 by omega), SameInts_ok (leavesU t t.length) (by simp only at hv; omega) (show (leavesU t t.length).length + 3 ≤ 1000 by simp only at hv; omega), beq_self_eq_true, h1]

end Go.Proofs.YtgedegmcbkligaaP
