/- Types: kids, leaves and levels, the program's and the document's; no condition but the sizes that a machine has. -/
import Derived.Test.YtgedegmcbkligaaPForm
namespace Go.Proofs.YtgedegmcbkligaaP
open Go Go.Proofs.YtgedegmcbkligaaA

def nodeB (t : List Nod) (a : Int) : Bool := mayT t && (decide (0 ≤ a) && decide (a < (t.length : Int)))
theorem types_Node_ok {k : Nat} (hk : 30 ≤ k) (t : List Nod) (a : Int) : types_Node.f idb k t a = some (nodeB t a) := by
  obtain ⟨k, rfl⟩ : ∃ m, k = m + 1 := ⟨k - 1, by omega⟩
  rw [types_Node.f_eq, types_May_ok (by omega)]
  unfold nodeB
  cases hm : mayT t with
  | false => simp
  | true =>
    by_cases h0 : 0 ≤ a
    · have h0' : a ≥ 0 := h0
      simp [h0]
    · have h0' : ¬ a ≥ 0 := h0
      simp [h0]
theorem ref_NodeMay_ok {k : Nat} (hk : 30 ≤ k) (t : List Nod) (a : Int) : quiverref1_NodeMay.f idb k t a = some (nodeB t a) := by
  obtain ⟨k, rfl⟩ : ∃ m, k = m + 1 := ⟨k - 1, by omega⟩
  rw [quiverref1_NodeMay.f_eq, ref_TypeMay_ok (by omega)]
  unfold nodeB
  cases hm : mayT t with
  | false => simp
  | true =>
    by_cases h0 : 0 ≤ a
    · have h0' : a ≥ 0 := h0
      simp [h0]
    · have h0' : ¬ a ≥ 0 := h0
      simp [h0]
theorem nodeB_may {t : List Nod} {a : Int} (h : nodeB t a = true) : mayT t = true ∧ ∃ i : Nat, i < t.length ∧ a = (i : Int) := by
  unfold nodeB at h
  simp only [Bool.and_eq_true, decide_eq_true_eq] at h
  exact ⟨h.1, a.toNat, by omega, by omega⟩
theorem nodeB_of {t : List Nod} (h : mayT t = true) {i : Nat} (hi : i < t.length) : nodeB t (i : Int) = true := by
  unfold nodeB
  simp [h, hi]

def kidsT (t : List Nod) (a : Int) : List Int × Int := if nodeB t a then (kidsL t a, 0) else ([], 500)
theorem types_Kids_ok {k : Nat} (hk : 40 ≤ k) (t : List Nod) (a : Int) : types_Kids.f idb k t a = some (kidsT t a) := by
  obtain ⟨k, rfl⟩ : ∃ m, k = m + 1 := ⟨k - 1, by omega⟩
  rw [types_Kids.f_eq, types_Node_ok (by omega)]
  unfold kidsT
  cases hn : nodeB t a with
  | false => simp
  | true =>
    have hl := mayT_length (nodeB_may hn).1
    simp [types_kids_ok t a (show t.length ≤ 17592186044415 by omega) (show t.length + 2 ≤ k by omega)]
theorem ref_Kids_ok {k : Nat} (hk : 40 ≤ k) (t : List Nod) (a : Int) : quiverref1_Kids.f idb k t a = some (kidsT t a) := by
  obtain ⟨k, rfl⟩ : ∃ m, k = m + 1 := ⟨k - 1, by omega⟩
  rw [quiverref1_Kids.f_eq, ref_NodeMay_ok (by omega)]
  unfold kidsT
  cases hn : nodeB t a with
  | false => simp
  | true =>
    have hl := mayT_length (nodeB_may hn).1
    simp [ref_kids_ok t a (show t.length ≤ 17592186044415 by omega) (show t.length + 2 ≤ k by omega)]

/-! ### Leaves -/
def leavesU (t : List Nod) (i : Nat) : List Int := ((List.range i).filter fun j => !inner (knd t j)).map fun j => ((j : Nat) : Int)
def leavesT (t : List Nod) : List Int × Int := if mayT t then (leavesU t t.length, 0) else ([], 500)
theorem leavesU_succ (t : List Nod) (i : Nat) : leavesU t (i + 1) = if inner (knd t i) then leavesU t i else leavesU t i ++ [(i : Int)] := by
  unfold leavesU
  rw [List.range_succ, List.filter_append, List.map_append]
  cases h : inner (knd t i) <;> simp [h]
theorem leavesU_length (t : List Nod) : ∀ i, (leavesU t i).length ≤ i
  | 0 => by simp [leavesU]
  | i + 1 => by
    have := leavesU_length t i
    rw [leavesU_succ]
    split <;> simp <;> omega
theorem types_Leaves_l0 (t : List Nod) (ht : t.length ≤ 8) (k : Nat) (hk : 1 ≤ k) : ∀ (j i : Nat), i + j = t.length → ∀ n, j + 1 ≤ n → types_Leaves.l0 idb k n t (t.length : Int) (i : Int) (leavesU t i) = some (leavesU t t.length, 0)
  | 0, i, hij, n, hn => by
    obtain ⟨n, rfl⟩ : ∃ m, n = m + 1 := ⟨n - 1, by omega⟩
    rw [types_Leaves.l0_eq]
    have h1 : ¬ ((i : Int) < (t.length : Int)) := by omega
    simp only [h1, decide_false, cond]
    rw [show i = t.length by omega]
  | j + 1, i, hij, n, hn => by
    obtain ⟨n, rfl⟩ : ∃ m, n = m + 1 := ⟨n - 1, by omega⟩
    rw [types_Leaves.l0_eq]
    have hlt : i < t.length := by omega
    have h1 : ((i : Int) < (t.length : Int)) := by omega
    have ih := types_Leaves_l0 t ht k hk j (i + 1) (by omega) n (by omega)
    rw [leavesU_succ] at ih
    have hl := leavesU_length t i
    have h2 : ((leavesU t i).length + [(i : Int)].length) * 8 ≤ 140737488355328 := by simp; omega
    simp only [h1, decide_true, cond, rd_get hlt, Option.bind_some, wsucc (show (i : Int) ≤ _ by omega), knd_get hlt, types_Inner_ok hk, h2]
    cases hz : inner (knd t i) with
    | true => rw [hz] at ih; exact ih
    | false => rw [hz] at ih; exact ih
theorem types_Leaves_ok {k : Nat} (hk : 40 ≤ k) (t : List Nod) : types_Leaves.f idb k t = some (leavesT t) := by
  obtain ⟨k, rfl⟩ : ∃ m, k = m + 1 := ⟨k - 1, by omega⟩
  rw [types_Leaves.f_eq, types_May_ok (by omega)]
  unfold leavesT
  cases hm : mayT t with
  | false => simp
  | true =>
    have hl := mayT_length hm
    have := types_Leaves_l0 t hl.2 k (by omega) t.length 0 (by omega) k (by omega)
    simp only [Option.bind_some, Bool.not_true, cond, if_true]
    exact this
theorem ref_Leaves_l0 (t : List Nod) (ht : t.length ≤ 8) (k : Nat) (hk : 1 ≤ k) : ∀ (j i : Nat), i + j = t.length → ∀ n, j + 1 ≤ n → quiverref1_Leaves.l0 idb k n (i : Int) t (leavesU t i) = some (leavesU t t.length, 0)
  | 0, i, hij, n, hn => by
    obtain ⟨n, rfl⟩ : ∃ m, n = m + 1 := ⟨n - 1, by omega⟩
    rw [quiverref1_Leaves.l0_eq]
    have h1 : ¬ ((i : Int) < (t.length : Int)) := by omega
    simp only [h1, decide_false, cond]
    rw [show i = t.length by omega]
  | j + 1, i, hij, n, hn => by
    obtain ⟨n, rfl⟩ : ∃ m, n = m + 1 := ⟨n - 1, by omega⟩
    rw [quiverref1_Leaves.l0_eq]
    have hlt : i < t.length := by omega
    have h1 : ((i : Int) < (t.length : Int)) := by omega
    have ih := ref_Leaves_l0 t ht k hk j (i + 1) (by omega) n (by omega)
    rw [leavesU_succ] at ih
    have hl := leavesU_length t i
    have h2 : ((leavesU t i).length + [(i : Int)].length) * 8 ≤ 140737488355328 := by simp; omega
    simp only [h1, decide_true, cond, rd_get hlt, Option.bind_some, wsucc (show (i : Int) ≤ _ by omega), knd_get hlt, ref_IsLeaf_ok hk, h2]
    cases hz : inner (knd t i) with
    | true => rw [hz] at ih; exact ih
    | false => rw [hz] at ih; exact ih
theorem ref_Leaves_ok {k : Nat} (hk : 40 ≤ k) (t : List Nod) : quiverref1_Leaves.f idb k t = some (leavesT t) := by
  obtain ⟨k, rfl⟩ : ∃ m, k = m + 1 := ⟨k - 1, by omega⟩
  rw [quiverref1_Leaves.f_eq, ref_TypeMay_ok (by omega)]
  unfold leavesT
  cases hm : mayT t with
  | false => simp
  | true =>
    have hl := mayT_length hm
    have := ref_Leaves_l0 t hl.2 k (by omega) t.length 0 (by omega) k (by omega)
    simp only [Option.bind_some, Bool.not_true, cond, if_true]
    exact this

/-! ### Levels -/
def b1 (b : Bool) : Int := if b then 1 else 0
theorem b1_range (b : Bool) : 0 ≤ b1 b ∧ b1 b ≤ 1 := by cases b <;> decide
def repW (t : List Nod) : List Int → Int
  | [] => 0
  | a :: ws => repW t ws + b1 (knd t a.toNat == 3)
def defW (t : List Nod) : List Int → Int
  | [] => 0
  | a :: ws => defW t ws + b1 (knd t a.toNat == 3) + b1 (nul t a.toNat)
theorem repW_range (t : List Nod) : ∀ ws, 0 ≤ repW t ws ∧ repW t ws ≤ (ws.length : Int)
  | [] => by simp [repW]
  | a :: ws => by
    have := repW_range t ws
    have := b1_range (knd t a.toNat == 3)
    simp only [repW, List.length_cons]; omega
theorem defW_range (t : List Nod) : ∀ ws, 0 ≤ defW t ws ∧ defW t ws ≤ 2 * (ws.length : Int)
  | [] => by simp [defW]
  | a :: ws => by
    have := defW_range t ws
    have := b1_range (knd t a.toNat == 3)
    have := b1_range (nul t a.toNat)
    simp only [defW, List.length_cons]; omega
def levT (t : List Nod) (a : Int) : Int × Int × Int := if nodeB t a then (repW t (wayL t a), defW t (wayL t a), 0) else (0, 0, 500)
theorem wayL_mem {t : List Nod} (h : Stands t) : ∀ i : Nat, i < t.length → ∀ x ∈ wayL t (i : Int), ∃ j : Nat, j < t.length ∧ x = (j : Int) := by
  intro i
  induction i using Nat.strongRecOn with
  | _ i ih =>
    intro hi x hx
    rw [wayL_up h hi] at hx
    rcases List.mem_cons.1 hx with rfl | hx
    · exact ⟨i, hi, rfl⟩
    · have hup := h.up hi
      by_cases hp : par t i < 0
      · rw [wayL_neg hp] at hx; exact absurd hx (by simp)
      · have e : par t i = (((par t i).toNat : Nat) : Int) := by omega
        rw [e] at hx
        exact ih (par t i).toNat (by omega) (by omega) x hx
theorem types_Levels_l0 (t : List Nod) (k : Nat) : ∀ (q p : List Int), (p ++ q).length ≤ 1000 → (∀ x ∈ q, ∃ j : Nat, j < t.length ∧ x = (j : Int)) → ∀ (r d : Int), 0 ≤ r → 0 ≤ d → r + q.length ≤ 10000 → d + 2 * q.length ≤ 10000 → ∀ n, q.length + 1 ≤ n →
    types_Levels.l0 idb k n r d ((p ++ q).length : Int) (p.length : Int) t (p ++ q) = some (r + repW t q, d + defW t q, 0)
  | [], p, hl, hq, r, d, hr, hd, hr2, hd2, n, hn => by
    obtain ⟨n, rfl⟩ : ∃ m, n = m + 1 := ⟨n - 1, by omega⟩
    rw [types_Levels.l0_eq]
    have h1 : ¬ ((p.length : Int) < ((p ++ ([] : List Int)).length : Int)) := by simp
    simp only [h1, decide_false, cond, repW, defW, Int.add_zero]
  | a :: q, p, hl, hq, r, d, hr, hd, hr2, hd2, n, hn => by
    obtain ⟨n, rfl⟩ : ∃ m, n = m + 1 := ⟨n - 1, by omega⟩
    rw [types_Levels.l0_eq]
    obtain ⟨j, hj, rfl⟩ := hq a List.mem_cons_self
    have hlen : (p ++ (j : Int) :: q).length = p.length + (q.length + 1) := by simp
    rw [List.length_cons] at hr2 hd2
    have h1 : ((p.length : Int) < ((p ++ (j : Int) :: q).length : Int)) := by rw [hlen]; omega
    have h0 : (0 : Int) ≤ (p.length : Int) := by omega
    have hg : (p ++ (j : Int) :: q)[((p.length : Nat) : Int).toNat]? = some (j : Int) := by simp
    have hstep : ∀ r' d' : Int, r' = r + b1 (knd t j == 3) → d' = d + b1 (knd t j == 3) + b1 (nul t j) →
        types_Levels.l0 idb k n r' d' ((p ++ (j : Int) :: q).length : Int) ((p.length + 1 : Nat) : Int) t (p ++ (j : Int) :: q) = some (r + repW t ((j : Int) :: q), d + defW t ((j : Int) :: q), 0) := by
      intro r' d' h5 h6
      have hb1 := b1_range (knd t j == 3)
      have hb2 := b1_range (nul t j)
      have ih := types_Levels_l0 t k q (p ++ [(j : Int)]) (by simpa using hl) (fun x hx => hq x (List.mem_cons_of_mem _ hx)) r' d' (by omega) (by omega) (by omega) (by omega) n (by simpa using hn)
      have e1 : p ++ [(j : Int)] ++ q = p ++ (j : Int) :: q := by simp
      have e2 : ((p ++ [(j : Int)]).length : Int) = ((p.length + 1 : Nat) : Int) := by simp
      rw [e1, e2] at ih
      rw [ih]
      simp only [repW, defW, Int.toNat_natCast, h5, h6]
      congr 1
      refine Prod.ext ?_ (Prod.ext ?_ rfl)
      · simp only; omega
      · simp only; omega
    simp only [h1, h0, decide_true, Bool.and_self, cond, hg, Option.bind_some, rd_get hj, knd_get hj, nul_get hj, wsucc (show (p.length : Int) ≤ _ by omega), wi64 (r + 1) (by omega), wi64 (d + 1) (by omega), wi64 (d + 1 + 1) (by omega)]
    have hs := hstep
    cases h3 : (knd t j == 3) <;> cases h4 : nul t j <;> rw [h3, h4] at hs <;> exact hs _ _ (by simp [b1]) (by simp [b1])
theorem types_Levels_ok {k : Nat} (hk : 50 ≤ k) (t : List Nod) (a : Int) : types_Levels.f idb k t a = some (levT t a) := by
  obtain ⟨k, rfl⟩ : ∃ m, k = m + 1 := ⟨k - 1, by omega⟩
  rw [types_Levels.f_eq, types_Node_ok (by omega)]
  unfold levT
  cases hn : nodeB t a with
  | false => simp
  | true =>
    obtain ⟨hm, i, hi, rfl⟩ := nodeB_may hn
    have hl := mayT_length hm
    have hst := mayT_stands hm
    have hw := wayL_length hst i hi
    have h := types_Levels_l0 t k (wayL t (i : Int)) [] (by simp; omega) (wayL_mem hst i hi) 0 0 (by omega) (by omega) (by omega) (by omega) k (by omega)
    simp only [Option.bind_some, Bool.not_true, cond, if_true, types_way_ok hst (show t.length ≤ 1000 by omega) i hi (show t.length + 3 ≤ k by omega)]
    simpa using h
theorem ref_Levels_l0 {t : List Nod} (hst : Stands t) (k : Nat) : ∀ (f : Nat) (a : Int), a < (t.length : Int) → a < (f : Int) → -1 ≤ a → ∀ (r d : Int), 0 ≤ r → 0 ≤ d → r + f ≤ 10000 → d + 2 * f ≤ 10000 → ∀ n, f + 1 ≤ n →
    quiverref1_Levels.l0 idb k n a r d t = some (r + repW t (wayL t a), d + defW t (wayL t a), 0)
  | 0, a, hl, hf, h0, r, d, hr, hd, hr2, hd2, n, hn => by
    obtain ⟨n, rfl⟩ : ∃ m, n = m + 1 := ⟨n - 1, by omega⟩
    rw [quiverref1_Levels.l0_eq]
    have h1 : ¬ a ≥ 0 := by omega
    simp only [h1, decide_false, cond, wayL_neg (show a < 0 by omega), repW, defW, Int.add_zero]
  | f + 1, a, hl, hf, h0, r, d, hr, hd, hr2, hd2, n, hn => by
    obtain ⟨n, rfl⟩ : ∃ m, n = m + 1 := ⟨n - 1, by omega⟩
    rw [quiverref1_Levels.l0_eq]
    by_cases h1 : a ≥ 0
    · obtain ⟨i, rfl⟩ : ∃ i : Nat, a = (i : Int) := ⟨a.toNat, by omega⟩
      have hi : i < t.length := by omega
      have hup := hst.up hi
      have hstep : ∀ r' d' : Int, r' = r + b1 (knd t i == 3) → d' = d + b1 (knd t i == 3) + b1 (nul t i) →
          quiverref1_Levels.l0 idb k n (par t i) r' d' t = some (r + repW t (wayL t (i : Int)), d + defW t (wayL t (i : Int)), 0) := by
        intro r' d' h5 h6
        have hb1 := b1_range (knd t i == 3)
        have hb2 := b1_range (nul t i)
        rw [ref_Levels_l0 hst k f (par t i) (by omega) (by omega) (by omega) r' d' (by omega) (by omega) (by omega) (by omega) n (by omega), wayL_up hst hi]
        simp only [repW, defW, Int.toNat_natCast, h5, h6]
        congr 1
        refine Prod.ext ?_ (Prod.ext ?_ rfl)
        · simp only; omega
        · simp only; omega
      have hj : ∀ r' d' : Int, 0 ≤ d' → d' ≤ 10000 → r' = r + b1 (knd t i == 3) → d' = d + b1 (knd t i == 3) → quiverref1_Levels.j8 idb k n (i : Int) r' d' t = some (r + repW t (wayL t (i : Int)), d + defW t (wayL t (i : Int)), 0) := by
        intro r' d' h7 h8 h5 h6
        rw [quiverref1_Levels.j8_eq]
        simp only [rd_get hi, Option.bind_some, nul_get hi, par_get hi, wi64 (d' + 1) (by omega)]
        have hs := hstep
        cases h4 : nul t i <;> rw [h4] at hs <;> exact hs _ _ (by simp [b1, h5]) (by simp [b1, h6])
      simp only [h1, decide_true, cond, rd_get hi, Option.bind_some, knd_get hi, bar_eq, wi64 (r + 1) (by omega), wi64 (d + 1) (by omega)]
      have hs := hj
      cases h3 : (knd t i == 3) <;> rw [h3] at hs <;> exact hs _ _ (by omega) (by omega) (by simp [b1]) (by simp [b1])
    · simp only [h1, decide_false, cond, wayL_neg (show a < 0 by omega), repW, defW, Int.add_zero]
theorem ref_Levels_ok {k : Nat} (hk : 50 ≤ k) (t : List Nod) (a : Int) : quiverref1_Levels.f idb k t a = some (levT t a) := by
  obtain ⟨k, rfl⟩ : ∃ m, k = m + 1 := ⟨k - 1, by omega⟩
  rw [quiverref1_Levels.f_eq, ref_NodeMay_ok (by omega)]
  unfold levT
  cases hn : nodeB t a with
  | false => simp
  | true =>
    obtain ⟨hm, i, hi, rfl⟩ := nodeB_may hn
    have hl := mayT_length hm
    have hst := mayT_stands hm
    have h := ref_Levels_l0 hst k 8 (i : Int) (by omega) (by omega) (by omega) 0 0 (by omega) (by omega) (by omega) (by omega) k (by omega)
    simp only [Option.bind_some, Bool.not_true, cond, if_true]
    simpa using h

/-! ### Lists of numbers -/
theorem SameInts_l0 (a : List Int) (ha : a.length ≤ 17592186044415) (k : Nat) : ∀ (j i : Nat), i + j = a.length → ∀ n, j + 1 ≤ n → quiverlaw0_SameInts.l0 idb k n a a (i : Int) = some true
  | 0, i, hij, n, hn => by
    obtain ⟨n, rfl⟩ : ∃ m, n = m + 1 := ⟨n - 1, by omega⟩
    rw [quiverlaw0_SameInts.l0_eq]
    have h1 : ¬ ((i : Int) < (a.length : Int)) := by omega
    simp only [h1, decide_false, cond]
  | j + 1, i, hij, n, hn => by
    obtain ⟨n, rfl⟩ : ∃ m, n = m + 1 := ⟨n - 1, by omega⟩
    rw [quiverlaw0_SameInts.l0_eq]
    have hlt : i < a.length := by omega
    have h1 : ((i : Int) < (a.length : Int)) := by omega
    simp only [h1, decide_true, cond, rd_get hlt, Option.bind_some, bne_self_eq_false, wsucc (show (i : Int) ≤ _ by omega)]
    exact SameInts_l0 a ha k j (i + 1) (by omega) n (by omega)
theorem SameInts_ok {k : Nat} (a : List Int) (ha : a.length ≤ 17592186044415) (hk : a.length + 3 ≤ k) : quiverlaw0_SameInts.f idb k a a = some true := by
  obtain ⟨k, rfl⟩ : ∃ m, k = m + 1 := ⟨k - 1, by omega⟩
  rw [quiverlaw0_SameInts.f_eq]
  simp only [bne_self_eq_false, cond]
  exact SameInts_l0 a ha k a.length 0 (by omega) k (by omega)
theorem SpoilInts_l0 (k : Nat) : ∀ (j i : Nat) (a : List Int), i + j = a.length → a.length ≤ 17592186044415 → ∀ n, j + 1 ≤ n → quiverlaw0_SpoilInts.l0 idb k n (i : Int) a = some ()
  | 0, i, a, hij, ha, n, hn => by
    obtain ⟨n, rfl⟩ : ∃ m, n = m + 1 := ⟨n - 1, by omega⟩
    rw [quiverlaw0_SpoilInts.l0_eq]
    have h1 : ¬ ((i : Int) < (a.length : Int)) := by omega
    simp only [h1, decide_false, cond]
  | j + 1, i, a, hij, ha, n, hn => by
    obtain ⟨n, rfl⟩ : ∃ m, n = m + 1 := ⟨n - 1, by omega⟩
    rw [quiverlaw0_SpoilInts.l0_eq]
    have hlt : i < a.length := by omega
    have h1 : ((i : Int) < (a.length : Int)) := by omega
    have h0 : (0 : Int) ≤ (i : Int) := by omega
    have hg : a[((i : Int)).toNat]? = some a[i] := by rw [Int.toNat_natCast]; exact List.getElem?_eq_getElem hlt
    simp only [h1, h0, decide_true, Bool.and_self, cond, hg, Option.bind_some, wsucc (show (i : Int) ≤ _ by omega)]
    exact SpoilInts_l0 k j (i + 1) _ (by simp; omega) (by simp; omega) n (by omega)
theorem SpoilInts_ok {k : Nat} (a : List Int) (ha : a.length ≤ 17592186044415) (hk : a.length + 3 ≤ k) : quiverlaw0_SpoilInts.f idb k a = some () := by
  obtain ⟨k, rfl⟩ : ∃ m, k = m + 1 := ⟨k - 1, by omega⟩
  rw [quiverlaw0_SpoilInts.f_eq]
  exact SpoilInts_l0 k a.length 0 a (by omega) (by omega) k (by omega)
theorem awake5 (m : Nat) : quiverlaw5_awake.f idb (m + 60) = some true := by kernel_rfl
theorem kidsT_length (t : List Nod) (a : Int) : (kidsT t a).1.length ≤ 8 := by
  unfold kidsT
  split
  · rename_i h
    have hl := mayT_length (nodeB_may h).1
    have := kidsU_length t a t.length
    exact Nat.le_trans this hl.2
  · simp
theorem leavesT_length (t : List Nod) : (leavesT t).1.length ≤ 8 := by
  unfold leavesT
  split
  · rename_i h
    have hl := mayT_length h
    have := leavesU_length t t.length
    exact Nat.le_trans this hl.2
  · simp

theorem pure_Types (t : List Nod) (a1 : Int) (ht : (t.length : Int) * 24 ≤ 140737488351232) : ∃ k, quiverlaw5_Types.f idb k t a1 = some true := by
  refine ⟨t.length + 1000 + 1, ?_⟩
  rw [quiverlaw5_Types.f_eq]
  have hk1 : 1 ≤ t.length + 1000 := by omega
  have hk : 50 ≤ t.length + 1000 := by omega
  have hc := kidsT_length t a1
  have hv := leavesT_length t
  simp only [CopyType_ok hk1 t ht, types_Kids_ok (show 40 ≤ t.length + 1000 by omega), ref_Kids_ok (show 40 ≤ t.length + 1000 by omega), types_Leaves_ok (show 40 ≤ t.length + 1000 by omega), ref_Leaves_ok (show 40 ≤ t.length + 1000 by omega), types_Levels_ok hk, ref_Levels_ok hk, Option.bind_some,
    SameInts_ok (kidsT t a1).1 (by omega) (show (kidsT t a1).1.length + 3 ≤ t.length + 1000 by omega), SameInts_ok (leavesT t).1 (by omega) (show (leavesT t).1.length + 3 ≤ t.length + 1000 by omega), law0_Num hk1, bne_self_eq_false, Bool.not_true, Bool.not_false, cond,
    types_May_ok (show 21 ≤ t.length + 1000 by omega), ref_TypeMay_ok (show 21 ≤ t.length + 1000 by omega), SpoilInts_ok (kidsT t a1).1 (by omega) (show (kidsT t a1).1.length + 3 ≤ t.length + 1000 by omega), SpoilInts_ok (leavesT t).1 (by omega) (show (leavesT t).1.length + 3 ≤ t.length + 1000 by omega),
    SameType_ok t t (by omega) (show t.length + 4 ≤ t.length + 1000 by omega), decide_true]
  rw [show t.length + 1000 = (t.length + 940) + 60 by omega, awake5]; rfl

end Go.Proofs.YtgedegmcbkligaaP
