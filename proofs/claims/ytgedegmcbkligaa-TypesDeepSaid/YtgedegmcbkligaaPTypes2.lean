/- Types: the laws TypesForms and TypesDeep, as the machine answers them; no condition. -/
import Derived.Test.YtgedegmcbkligaaPTypes
namespace Go.Proofs.YtgedegmcbkligaaP
open Go Go.Proofs.YtgedegmcbkligaaA

def good5 : List Nod := [(Nod.mk 4 (-1) false), (Nod.mk 3 0 false), (Nod.mk 0 1 false), (Nod.mk 2 0 false)]
theorem TF_j37 {k : Nat} (hk : 60 ≤ k) (d : Int) (hd : 1 ≤ d ∧ d ≤ 1024) (b : List Nod) (hb : mayT b = false) : quiverlaw5_TypesForms.j37 idb k d good5 b = some true := by
  have hg : mayT good5 = true := by decide +kernel
  have n1 : nodeB good5 (IntKind.i64.wrap (0 - d)) = false := by
    rw [wi64 _ (by omega)]
    have : ¬ ((0 : Int) ≤ 0 - d) := by omega
    unfold nodeB
    rw [decide_eq_false this]; simp
  have n2 : nodeB good5 (IntKind.i64.wrap (3 + d)) = false := by
    rw [wi64 _ (by omega)]
    have : ¬ (3 + d < (good5.length : Int)) := by have : (good5.length : Int) = 4 := rfl
                                                  omega
    unfold nodeB
    rw [decide_eq_false this]; simp
  have k1 : kidsT good5 (IntKind.i64.wrap (0 - d)) = ([], 500) := by unfold kidsT; rw [n1]; rfl
  have l2 := levT_no n2
  have k0 : kidsT b 0 = ([], 500) := by unfold kidsT; rw [nodeB_bad hb]; rfl
  have l0 := levT_no (nodeB_bad hb 0)
  have v0 : leavesT b = ([], 500) := by unfold leavesT; rw [hb]; rfl
  rw [quiverlaw5_TypesForms.j37_eq]
  rw [types_Kids_ok (by omega), k0, bS, types_Leaves_ok (by omega), v0, bS, types_Levels_ok (by omega), l0, bS, types_Kids_ok (by omega), k1, bS, types_Levels_ok (by omega), l2, bS, types_May_ok (by omega), hg, bS, cT, types_May_ok (by omega), hb, bS]
  simp only [law0_Num (show 1 ≤ k by omega), bS, beq_self_eq_true, cT, Bool.not_false]

theorem kindB_no {t : List Nod} {i : Nat} (h : knd t i < 0 ∨ 4 < knd t i) : kindB t i = false := by
  unfold kindB
  by_cases h0 : 0 ≤ knd t i
  · have : ¬ knd t i ≤ 4 := by omega
    simp [this]
  · simp [h0]
theorem l1_run {k : Nat} (d : Int) : ∀ (j : Nat) (b : List Nod) (i n : Nat), i + j = 5 → j + 1 ≤ n → b.length + j ≤ 100 → quiverlaw5_TypesForms.l1 idb k n d (i : Int) good5 b = quiverlaw5_TypesForms.j37 idb k d good5 (b ++ List.replicate j (Nod.mk 0 0 false))
  | 0, b, i, n, hij, hn, hb => by
    obtain ⟨n, rfl⟩ : ∃ m, n = m + 1 := ⟨n - 1, by omega⟩
    rw [quiverlaw5_TypesForms.l1_eq]
    have h1 : ¬ ((i : Int) < 5) := by omega
    rw [decide_eq_false h1, cF, bar_eq]
    rw [List.replicate_zero, List.append_nil]
  | j + 1, b, i, n, hij, hn, hb => by
    obtain ⟨n, rfl⟩ : ∃ m, n = m + 1 := ⟨n - 1, by omega⟩
    rw [quiverlaw5_TypesForms.l1_eq]
    have h1 : ((i : Int) < 5) := by omega
    have h2 : (b.length + [(Nod.mk 0 0 false)].length) * 24 ≤ 140737488355328 := by simp; omega
    rw [decide_eq_true h1, cT, decide_eq_true h2, cT, wsucc (by omega), l1_run d j _ (i + 1) n (by omega) (by omega) (by simp; omega), List.append_assoc]
    rfl
theorem pure_TypesForms (a0 a1 : Int) : ∃ k, quiverlaw5_TypesForms.f idb k a0 a1 = some true := by
  refine ⟨1000 + 1, ?_⟩
  rw [quiverlaw5_TypesForms.f_eq]
  obtain ⟨d, hd, hd1, hd2⟩ := dist_of a1
  rw [hd, awake5' (by omega), bS]
  have hc : quiverlaw0_CopyType.f idb 1000 [(Nod.mk 4 (-1) false), (Nod.mk 3 0 false), (Nod.mk 0 1 false), (Nod.mk 2 0 false)] = some good5 := CopyType_ok (by omega) _ (by decide)
  rw [hc, Bool.not_true, cF, bS]
  have hlen : (good5.length : Int) = 4 := rfl
  have hj := fun b hb => TF_j37 (k := 1000) (by omega) d ⟨hd1, hd2⟩ b hb
  have g0 : good5[0]? = some (Nod.mk 4 (-1) false) := rfl
  have g2 : good5[2]? = some (Nod.mk 0 1 false) := rfl
  have g3 : good5[3]? = some (Nod.mk 2 0 false) := rfl
  have hgo : [(Nod.mk 4 (-1) false), (Nod.mk 3 0 false), (Nod.mk 0 1 false), (Nod.mk 2 0 false)] = good5 := rfl
  simp only [hgo, hlen, decide_true, Int.reduceLT, g0, g2, g3, bS, bar_eq]
  have hl1 := l1_run (k := 1000) d 5 good5 0 1000 (by omega) (by omega) (by decide)
  rw [show ((0 : Nat) : Int) = 0 from rfl] at hl1
  have w0 : IntKind.i64.wrap (0 - d) = 0 - d := wi64 _ (by omega)
  have w4 : IntKind.i64.wrap (4 + d) = 4 + d := wi64 _ (by omega)
  have m1 : mayT (good5.set 2 (Nod.mk 0 (0 - d) false)) = false := mayT_bad (i := 2) (by rw [List.length_set]; decide) (.inr (by
    have : par (good5.set 2 (Nod.mk 0 (0 - d) false)) 2 = 0 - d := rfl
    have hn : ¬ (0 : Int) ≤ 0 - d := by omega
    unfold standsB
    rw [if_neg (by decide), this, decide_eq_false hn]; rfl))
  have m2 : mayT (good5.set 2 (Nod.mk (4 + d) 1 false)) = false := mayT_bad (i := 2) (by rw [List.length_set]; decide) (.inl (kindB_no (.inr (by
    have : knd (good5.set 2 (Nod.mk (4 + d) 1 false)) 2 = 4 + d := rfl
    omega))))
  have m3 : mayT (good5.set 2 (Nod.mk (0 - d) 1 false)) = false := mayT_bad (i := 2) (by rw [List.length_set]; decide) (.inl (kindB_no (.inl (by
    have : knd (good5.set 2 (Nod.mk (0 - d) 1 false)) 2 = 0 - d := rfl
    omega))))
  rw [w0, w4, hl1, hj _ m1, hj _ m2, hj _ m3, hj _ (show mayT _ = false by decide +kernel), hj _ (show mayT _ = false by decide +kernel), hj _ (show mayT _ = false by decide +kernel), hj _ (show mayT _ = false by decide +kernel), hj _ (show mayT _ = false by decide +kernel),
    hj _ (show mayT _ = false by decide +kernel), hj _ (show mayT _ = false by decide +kernel), hj _ (show mayT _ = false by decide +kernel), hj _ (show mayT _ = false by decide +kernel), hj _ (show mayT _ = false by decide +kernel), hj _ (show mayT _ = false by decide +kernel)]
  have e0 : decide ((0 : Nat) ≤ 0) = true := rfl
  have e2 : decide ((0 : Nat) ≤ 2) = true := rfl
  have e3 : decide ((0 : Nat) ≤ 3) = true := rfl
  rw [e0, e2, e3]
  simp only [Bool.and_self, cT, Bool.cond_self]

/-! ### Deep types -/
def preT (null : Bool) (k : Nat) : List Nod := (List.range k).map fun i : Nat => Nod.mk 3 ((i : Int) - 1) null
def deepT (null : Bool) (k : Nat) : List Nod := preT null k ++ [Nod.mk 0 ((k : Int) - 1) null]
theorem deep_fact : ∀ (null : Bool) (d : Fin 8), if 4 < d.val then mayT (deepT null d.val) = false else mayT (deepT null d.val) = true ∧ levT (deepT null d.val) (d.val : Int) = ((d.val : Int), (if null then 2 * (d.val : Int) + 1 else (d.val : Int)), 0) := by decide +kernel
theorem preT_succ (null : Bool) (i : Nat) : preT null (i + 1) = preT null i ++ [Nod.mk 3 ((i : Int) - 1) null] := by simp [preT, List.range_succ]
theorem TD_end {k n : Nat} (hk : 60 ≤ k) (null : Bool) (d : Nat) (hd : d < 8) : quiverlaw5_TypesDeep.l0 idb k (n + 1) null (d : Int) (d : Int) (preT null d) = some true := by
  have hf := deep_fact null ⟨d, hd⟩
  have h1 : ¬ ((d : Int) < (d : Int)) := by omega
  have h2 : ((preT null d).length + [(Nod.mk 0 (IntKind.i64.wrap ((d : Int) - 1)) null)].length) * 24 ≤ 140737488355328 := by simp [preT]; omega
  rw [quiverlaw5_TypesDeep.l0_eq, decide_eq_false h1, cF, decide_eq_true h2, cT, types_Levels_ok (by omega), bS, types_May_ok (by omega), bS, wi64 ((d : Int) - 1) (by omega)]
  rw [show preT null d ++ [Nod.mk 0 ((d : Int) - 1) null] = deepT null d from rfl]
  by_cases h4 : 4 < d
  · rw [if_pos h4] at hf
    have h4' : ((d : Int) > 4) := by omega
    rw [decide_eq_true h4', cT, hf, Bool.not_false, cT, levT_no (nodeB_bad hf _)]
    rw [law0_Num (by omega), bS]; rfl
  · rw [if_neg h4] at hf
    obtain ⟨hm, hl⟩ := hf
    have h4' : ¬ ((d : Int) > 4) := by omega
    rw [decide_eq_false h4', cF, hl, bar_eq, bar_eq]
    have j : ∀ w : Int, w = (if null then 2 * (d : Int) + 1 else (d : Int)) → quiverlaw5_TypesDeep.j16 idb k (d : Int) (d : Int) (if null then 2 * (d : Int) + 1 else (d : Int)) 0 w (deepT null d) = some true := by
      intro w hw
      rw [quiverlaw5_TypesDeep.j16_eq, types_May_ok (by omega), hm, bS, cT, law0_Num (by omega), bS, beq_self_eq_true, cT, beq_self_eq_true, cT, ← hw, beq_self_eq_true]
    rw [wi64 (2 * (d : Int)) (by omega), wi64 (2 * (d : Int) + 1) (by omega)]
    cases null with
    | true =>
      rw [cT]
      exact j _ (if_pos rfl).symm
    | false =>
      rw [cF]
      exact j _ (if_neg (by decide)).symm
theorem TD_l0 {k : Nat} (hk : 60 ≤ k) (null : Bool) (d : Nat) (hd : d < 8) : ∀ (j i : Nat), i + j = d → ∀ n, j + 1 ≤ n → quiverlaw5_TypesDeep.l0 idb k n null (d : Int) (i : Int) (preT null i) = some true
  | 0, i, hij, n, hn => by
    obtain ⟨n, rfl⟩ : ∃ m, n = m + 1 := ⟨n - 1, by omega⟩
    rw [show i = d by omega]
    exact TD_end hk null d hd
  | j + 1, i, hij, n, hn => by
    obtain ⟨n, rfl⟩ : ∃ m, n = m + 1 := ⟨n - 1, by omega⟩
    have ih := TD_l0 hk null d hd j (i + 1) (by omega) n (by omega)
    rw [preT_succ] at ih
    have h1 : ((i : Int) < (d : Int)) := by omega
    have h2 : ((preT null i).length + [(Nod.mk 3 ((i : Int) - 1) null)].length) * 24 ≤ 140737488355328 := by simp [preT]; omega
    rw [quiverlaw5_TypesDeep.l0_eq, decide_eq_true h1, cT, wi64 ((i : Int) - 1) (by omega), decide_eq_true h2, cT, wsucc (by omega)]
    exact ih
theorem pure_TypesDeep (a0 : Int) (a1 : Bool) : ∃ k, quiverlaw5_TypesDeep.f idb k a0 a1 = some true := by
  refine ⟨60 + 1, ?_⟩
  rw [quiverlaw5_TypesDeep.f_eq, awake5' (by omega), bS, Bool.not_true, cF]
  have h := and_mask a0 3 (by omega)
  rw [show (2 : Int) ^ 3 - 1 = 7 by decide, show (2 : Int) ^ 3 = 8 by decide] at h
  rw [h]
  have := TD_l0 (k := 60) (by omega) a1 (a0 % 8).toNat (by omega) (a0 % 8).toNat 0 (by omega) 60 (by omega)
  rw [show (((a0 % 8).toNat : Nat) : Int) = a0 % 8 by omega] at this
  exact this

end Go.Proofs.YtgedegmcbkligaaP
