/- Types: what the functions of the package types, and the document's, answer of a type; no condition but its length. -/
import Derived.Test.YtgedegmcbkligaaPNum4
namespace Go.Proofs.YtgedegmcbkligaaP
open Go Go.Proofs.YtgedegmcbkligaaA

/-! ### A type's parts -/
def par (t : List Nod) (i : Nat) : Int := match t[i]? with | some n => n.parent | none => -1
def knd (t : List Nod) (i : Nat) : Int := match t[i]? with | some n => n.kind | none => 0
def nul (t : List Nod) (i : Nat) : Bool := match t[i]? with | some n => n.null | none => false
theorem par_get {t : List Nod} {i : Nat} (h : i < t.length) : t[i].parent = par t i := by simp [par, h]
theorem knd_get {t : List Nod} {i : Nat} (h : i < t.length) : t[i].kind = knd t i := by simp [knd, h]
theorem nul_get {t : List Nod} {i : Nat} (h : i < t.length) : t[i].null = nul t i := by simp [nul, h]
def inner (k : Int) : Bool := k == 3 || k == 4
/-- The kids below a place. -/
def kidsU (t : List Nod) (a : Int) (i : Nat) : List Int := ((List.range i).filter fun j => decide (0 < j) && par t j == a).map fun j => ((j : Nat) : Int)
def kidsL (t : List Nod) (a : Int) : List Int := kidsU t a t.length
theorem kidsU_succ (t : List Nod) (a : Int) (i : Nat) : kidsU t a (i + 1) = if 0 < i ∧ par t i = a then kidsU t a i ++ [(i : Int)] else kidsU t a i := by
  unfold kidsU
  rw [List.range_succ, List.filter_append, List.map_append]
  by_cases h : 0 < i ∧ par t i = a
  · simp [h]
  · rw [if_neg h]
    have : (decide (0 < i) && par t i == a) = false := by
      simp only [Bool.and_eq_false_iff, decide_eq_false_iff_not, beq_eq_false_iff_ne]
      by_cases h0 : 0 < i
      · exact .inr fun e => h ⟨h0, e⟩
      · exact .inl h0
    simp [this]
theorem kidsU_length (t : List Nod) (a : Int) : ∀ i, (kidsU t a i).length ≤ i
  | 0 => by simp [kidsU]
  | i + 1 => by
    have := kidsU_length t a i
    rw [kidsU_succ]
    split <;> simp <;> omega
theorem mem_kidsL {t : List Nod} {a : Int} {x : Int} : x ∈ kidsL t a ↔ ∃ j : Nat, j < t.length ∧ 0 < j ∧ par t j = a ∧ x = (j : Int) := by
  unfold kidsL kidsU
  simp only [List.mem_map, List.mem_filter, List.mem_range, Bool.and_eq_true, decide_eq_true_eq, beq_iff_eq]
  constructor
  · rintro ⟨j, ⟨h1, h2, h3⟩, rfl⟩; exact ⟨j, h1, h2, h3, rfl⟩
  · rintro ⟨j, h1, h2, h3, rfl⟩; exact ⟨j, ⟨h1, h2, h3⟩, rfl⟩

theorem wsucc {i : Nat} (h : (i : Int) ≤ 4611686018427387904) : IntKind.i64.wrap ((i : Int) + 1) = ((i + 1 : Nat) : Int) := by rw [wi64 _ (by omega)]; push_cast; rfl
theorem types_kids_l0 (t : List Nod) (a : Int) (ht : t.length ≤ 17592186044415) (k : Nat) : ∀ (j i : Nat), i + j = t.length → ∀ n, j + 1 ≤ n → types_kids.l0 idb k n a t (t.length : Int) (i : Int) (kidsU t a i) = some (kidsL t a)
  | 0, i, hij, n, hn => by
    obtain ⟨n, rfl⟩ : ∃ m, n = m + 1 := ⟨n - 1, by omega⟩
    rw [types_kids.l0_eq]
    have h1 : ¬ ((i : Int) < (t.length : Int)) := by omega
    simp only [h1, decide_false, cond, kidsL]
    rw [show i = t.length by omega]
  | j + 1, i, hij, n, hn => by
    obtain ⟨n, rfl⟩ : ∃ m, n = m + 1 := ⟨n - 1, by omega⟩
    rw [types_kids.l0_eq]
    have hlt : i < t.length := by omega
    have h1 : ((i : Int) < (t.length : Int)) := by omega
    have ih := types_kids_l0 t a ht k j (i + 1) (by omega) n (by omega)
    rw [kidsU_succ] at ih
    have hl := kidsU_length t a i
    have h2 : ((kidsU t a i).length + [(i : Int)].length) * 8 ≤ 140737488355328 := by simp; omega
    simp only [h1, decide_true, cond, rd_get hlt, Option.bind_some, wsucc (show (i : Int) ≤ _ by omega), par_get hlt]
    by_cases h3 : (i : Int) > 0
    · have h3' : 0 < i := by omega
      by_cases h4 : par t i = a
      · rw [if_pos ⟨h3', h4⟩] at ih
        have hb : (par t i == a) = true := by simpa using h4
        simp only [h3, decide_true, hb, h2]
        exact ih
      · rw [if_neg (fun h => h4 h.2)] at ih
        have hb : (par t i == a) = false := by simpa using h4
        simp only [h3, decide_true, hb]
        exact ih
    · rw [if_neg (fun h => h3 (by omega))] at ih
      simp only [h3, decide_false]
      exact ih
theorem types_kids_ok {k : Nat} (t : List Nod) (a : Int) (ht : t.length ≤ 17592186044415) (hk : t.length + 2 ≤ k) : types_kids.f idb k t a = some (kidsL t a) := by
  obtain ⟨k, rfl⟩ : ∃ m, k = m + 1 := ⟨k - 1, by omega⟩
  rw [types_kids.f_eq]
  have := types_kids_l0 t a ht k t.length 0 (by omega) k (by omega)
  simpa [kidsU] using this
theorem ref_kids_l0 (t : List Nod) (a : Int) (ht : t.length ≤ 17592186044415) (k : Nat) : ∀ (j i : Nat), 0 < i → t.length ≤ i + j → ∀ n, j + 1 ≤ n → (i ≤ t.length ∨ kidsU t a i = kidsL t a) → quiverref1_kids.l0 idb k n a (i : Int) t (kidsU t a i) = some (kidsL t a)
  | 0, i, hi, hij, n, hn, hc => by
    obtain ⟨n, rfl⟩ : ∃ m, n = m + 1 := ⟨n - 1, by omega⟩
    rw [quiverref1_kids.l0_eq]
    have h1 : ¬ ((i : Int) < (t.length : Int)) := by omega
    simp only [h1, decide_false, cond]
    rcases hc with hc | hc
    · rw [show i = t.length by omega]; rfl
    · rw [hc]
  | j + 1, i, hi, hij, n, hn, hc => by
    obtain ⟨n, rfl⟩ : ∃ m, n = m + 1 := ⟨n - 1, by omega⟩
    rw [quiverref1_kids.l0_eq]
    by_cases hlt : i < t.length
    · have h1 : ((i : Int) < (t.length : Int)) := by omega
      have ih := ref_kids_l0 t a ht k j (i + 1) (by omega) (by omega) n (by omega) (.inl hlt)
      rw [kidsU_succ] at ih
      have hl := kidsU_length t a i
      have h2 : ((kidsU t a i).length + [(i : Int)].length) * 8 ≤ 140737488355328 := by simp; omega
      simp only [h1, decide_true, cond, rd_get hlt, Option.bind_some, wsucc (show (i : Int) ≤ _ by omega), par_get hlt]
      by_cases h4 : par t i = a
      · rw [if_pos ⟨hi, h4⟩] at ih
        have hb : (par t i == a) = true := by simpa using h4
        simp only [hb, h2, decide_true]
        exact ih
      · rw [if_neg (fun h => h4 h.2)] at ih
        have hb : (par t i == a) = false := by simpa using h4
        simp only [hb]
        exact ih
    · have h1 : ¬ ((i : Int) < (t.length : Int)) := by omega
      simp only [h1, decide_false, cond]
      rcases hc with hc | hc
      · rw [show i = t.length by omega]; rfl
      · rw [hc]
theorem ref_kids_ok {k : Nat} (t : List Nod) (a : Int) (ht : t.length ≤ 17592186044415) (hk : t.length + 2 ≤ k) : quiverref1_kids.f idb k t a = some (kidsL t a) := by
  obtain ⟨k, rfl⟩ : ∃ m, k = m + 1 := ⟨k - 1, by omega⟩
  rw [quiverref1_kids.f_eq]
  have := ref_kids_l0 t a ht k t.length 1 (by omega) (by omega) k (by omega) (by
    by_cases h : 1 ≤ t.length
    · exact .inl h
    · refine .inr ?_
      have : t = [] := List.eq_nil_of_length_eq_zero (by omega)
      subst this
      rfl)
  have e : kidsU t a 1 = [] := by rw [kidsU_succ, if_neg (by omega)]; rfl
  rw [e] at this
  exact this

/-- Who stands where it may. -/
def standsB (t : List Nod) (i : Nat) : Bool :=
  if i = 0 then par t 0 == -1 else decide (0 ≤ par t i) && decide (par t i < (i : Int)) && inner (knd t (par t i).toNat)
theorem types_Inner_ok {k : Nat} (hk : 1 ≤ k) (x : Int) : types_Inner.f idb k x = some (inner x) := by
  obtain ⟨k, rfl⟩ : ∃ m, k = m + 1 := ⟨k - 1, by omega⟩
  rw [types_Inner.f_eq]
  unfold inner
  cases h : (x == 3) <;> simp
theorem ref_IsLeaf_ok {k : Nat} (hk : 1 ≤ k) (x : Int) : quiverref1_IsLeaf.f idb k x = some (!inner x) := by
  obtain ⟨k, rfl⟩ : ∃ m, k = m + 1 := ⟨k - 1, by omega⟩
  rw [quiverref1_IsLeaf.f_eq]
  unfold inner
  simp only [bne]
  cases h : (x == 3) <;> simp
theorem types_stands_ok {k : Nat} (hk : 2 ≤ k) (t : List Nod) (i : Nat) (hi : i < t.length) : types_stands.f idb k t (i : Int) = some (standsB t i) := by
  obtain ⟨k, rfl⟩ : ∃ m, k = m + 1 := ⟨k - 1, by omega⟩
  rw [types_stands.f_eq]
  unfold standsB
  simp only [rd_get hi, Option.bind_some, par_get hi, types_Inner_ok (show 1 ≤ k by omega)]
  by_cases h0 : i = 0
  · subst h0; simp
  · have hb : ((i : Int) == 0) = false := by simp; omega
    rw [if_neg h0]
    simp only [hb, cond]
    by_cases h1 : 0 ≤ par t i
    · have h1' : par t i ≥ 0 := h1
      by_cases h2 : par t i < (i : Int)
      · have h3 : (par t i).toNat < t.length := by omega
        have e : par t i = (((par t i).toNat : Nat) : Int) := by omega
        have hr : rd t (par t i) = some t[(par t i).toNat] := by
          have := rd_get h3
          rw [← e] at this
          exact this
        simp only [h1', h1, h2, decide_true, hr, Option.bind_some, knd_get h3, Bool.true_and]
      · simp [h1, h2]
    · have h1' : ¬ par t i ≥ 0 := h1
      simp [h1]

/-! ### The way up -/
def wayF (t : List Nod) : Nat → Int → List Int
  | 0, _ => []
  | f + 1, a => if 0 ≤ a then a :: wayF t f (par t a.toNat) else []
def wayL (t : List Nod) (a : Int) : List Int := wayF t (a + 1).toNat a
def Stands (t : List Nod) : Prop := ∀ i, i < t.length → standsB t i = true
theorem Stands.up {t : List Nod} (h : Stands t) {i : Nat} (hi : i < t.length) : par t i < (i : Int) ∧ -1 ≤ par t i := by
  have := h i hi
  unfold standsB at this
  split at this
  · rename_i h0
    subst h0
    have : par t 0 = -1 := by simpa using this
    omega
  · simp only [Bool.and_eq_true, decide_eq_true_eq] at this
    omega
theorem wayF_more {t : List Nod} (h : Stands t) : ∀ (f g : Nat) (a : Int), a < (t.length : Int) → a < (f : Int) → a < (g : Int) → wayF t f a = wayF t g a
  | 0, 0, _, _, _, _ => rfl
  | 0, g + 1, a, _, h1, _ => by
    have : ¬ 0 ≤ a := by omega
    simp [wayF, this]
  | f + 1, 0, a, _, _, h1 => by
    have : ¬ 0 ≤ a := by omega
    simp [wayF, this]
  | f + 1, g + 1, a, hl, h1, h2 => by
    simp only [wayF]
    split
    · rename_i h0
      have hup := h.up (i := a.toNat) (by omega)
      rw [wayF_more h f g _ (by omega) (by omega) (by omega)]
    · rfl
theorem wayL_neg {t : List Nod} {a : Int} (h : a < 0) : wayL t a = [] := by
  unfold wayL
  rw [show (a + 1).toNat = 0 by omega]; rfl
theorem wayL_up {t : List Nod} (h : Stands t) {i : Nat} (hi : i < t.length) : wayL t (i : Int) = (i : Int) :: wayL t (par t i) := by
  have hup := h.up hi
  unfold wayL
  rw [show ((i : Int) + 1).toNat = i + 1 by omega]
  simp only [wayF]
  rw [if_pos (by omega), Int.toNat_natCast, wayF_more h i ((par t i + 1).toNat) (par t i) (by omega) (by omega) (by omega)]
theorem wayL_length {t : List Nod} (h : Stands t) : ∀ i : Nat, i < t.length → 1 ≤ (wayL t (i : Int)).length ∧ (wayL t (i : Int)).length ≤ i + 1 := by
  intro i
  induction i using Nat.strongRecOn with
  | _ i ih =>
    intro hi
    rw [wayL_up h hi]
    have hup := h.up hi
    by_cases hp : par t i < 0
    · rw [wayL_neg hp]; simp
    · have e : par t i = (((par t i).toNat : Nat) : Int) := by omega
      rw [e]
      have := ih (par t i).toNat (by omega) (by omega)
      simp only [List.length_cons]; omega
theorem types_way_l0 {t : List Nod} (h : Stands t) (ht : t.length ≤ 1000) (k : Nat) : ∀ (f : Nat) (a : Int) (out : List Int) (n : Nat), a < (t.length : Int) → a < (f : Int) → f + 1 ≤ n → out.length + f ≤ 10000 → types_way.l0 idb k n t a out = some (out ++ wayF t f a)
  | 0, a, out, n, hl, hf, hn, ho => by
    obtain ⟨n, rfl⟩ : ∃ m, n = m + 1 := ⟨n - 1, by omega⟩
    rw [types_way.l0_eq]
    have h1 : ¬ a ≥ 0 := by omega
    simp [h1, wayF]
  | f + 1, a, out, n, hl, hf, hn, ho => by
    obtain ⟨n, rfl⟩ : ∃ m, n = m + 1 := ⟨n - 1, by omega⟩
    rw [types_way.l0_eq]
    by_cases h0 : 0 ≤ a
    · have h1 : a ≥ 0 := h0
      have hlt : a.toNat < t.length := by omega
      have e : a = ((a.toNat : Nat) : Int) := by omega
      have hr : rd t a = some t[a.toNat] := by
        have := rd_get hlt
        rw [← e] at this
        exact this
      have h2 : (out.length + [a].length) * 8 ≤ 140737488355328 := by simp; omega
      have hup := h.up hlt
      simp only [h1, h2, decide_true, cond, hr, Option.bind_some, par_get hlt]
      rw [types_way_l0 h ht k f _ _ n (by omega) (by omega) (by omega) (by simp; omega)]
      simp [wayF, h0]
    · have h1 : ¬ a ≥ 0 := h0
      simp [h1, wayF, h0]
theorem types_way_ok {t : List Nod} (h : Stands t) (ht : t.length ≤ 1000) {k : Nat} (i : Nat) (hi : i < t.length) (hk : t.length + 3 ≤ k) : types_way.f idb k t (i : Int) = some (wayL t (i : Int)) := by
  obtain ⟨k, rfl⟩ : ∃ m, k = m + 1 := ⟨k - 1, by omega⟩
  rw [types_way.f_eq, types_way_l0 h ht k (i + 1) _ [] k (by omega) (by omega) (by omega) (by simp; omega)]
  unfold wayL
  rw [show ((i : Int) + 1).toNat = i + 1 by omega]
  rfl

/-! ### Whether a type may be -/
theorem natbeq (n m : Nat) : ((n : Int) == (m : Int)) = (n == m) := by
  by_cases h : n = m
  · simp [h]
  · have : ¬ ((n : Int) = (m : Int)) := by omega
    exact (beq_eq_false_iff_ne.2 this).trans (beq_eq_false_iff_ne.2 h).symm
def kindB (t : List Nod) (i : Nat) : Bool := decide (0 ≤ knd t i) && decide (knd t i ≤ 4)
def kidsB (t : List Nod) (i : Nat) : Bool := (!(knd t i == 3) || (kidsL t (i : Int)).length == 1) && (!(knd t i == 4) || !((kidsL t (i : Int)).length == 0))
def mayT (t : List Nod) : Bool :=
  decide (1 ≤ t.length) && decide (t.length ≤ 8) && (List.range t.length).all (fun i => kindB t i && standsB t i) && (List.range t.length).all (fun i => kidsB t i && decide ((wayL t (i : Int)).length ≤ 5))

theorem all_drop (p : Nat → Bool) (N i : Nat) (hi : i < N) : ((List.range' i (N - i)).all p) = (p i && (List.range' (i + 1) (N - (i + 1))).all p) := by
  rw [show N - i = (N - (i + 1)) + 1 by omega, List.range'_succ, List.all_cons]
theorem types_May_l2 (t : List Nod) (h : Stands t) (ht : t.length ≤ 8) (k : Nat) (hk : 20 ≤ k) : ∀ (j i : Nat), i + j = t.length → ∀ n, j + 1 ≤ n →
    types_May.l2 idb k n t (t.length : Int) (i : Int) = some ((List.range' i (t.length - i)).all fun i => kidsB t i && decide ((wayL t (i : Int)).length ≤ 5))
  | 0, i, hij, n, hn => by
    obtain ⟨n, rfl⟩ : ∃ m, n = m + 1 := ⟨n - 1, by omega⟩
    rw [types_May.l2_eq]
    have h1 : ¬ ((i : Int) < (t.length : Int)) := by omega
    simp only [h1, decide_false, cond]
    rw [show t.length - i = 0 by omega]; rfl
  | j + 1, i, hij, n, hn => by
    obtain ⟨n, rfl⟩ : ∃ m, n = m + 1 := ⟨n - 1, by omega⟩
    rw [types_May.l2_eq]
    have hlt : i < t.length := by omega
    have h1 : ((i : Int) < (t.length : Int)) := by omega
    have ih := types_May_l2 t h ht k hk j (i + 1) (by omega) n (by omega)
    rw [all_drop _ _ _ hlt]
    simp only [h1, decide_true, cond, rd_get hlt, Option.bind_some, knd_get hlt, types_kids_ok t _ (show t.length ≤ 17592186044415 by omega) (show t.length + 2 ≤ k by omega), types_way_ok h (show t.length ≤ 1000 by omega) i hlt (show t.length + 3 ≤ k by omega), wsucc (show (i : Int) ≤ _ by omega), ih]
    unfold kidsB
    have e1 : (((kidsL t (i : Int)).length : Int) != 1) = !((kidsL t (i : Int)).length == 1) := by
      simp only [bne]
      congr 1
      exact natbeq _ 1
    have e2 : (((kidsL t (i : Int)).length : Int) == 0) = ((kidsL t (i : Int)).length == 0) := natbeq _ 0
    have e3 : decide (((wayL t (i : Int)).length : Int) > 5) = !decide ((wayL t (i : Int)).length ≤ 5) := by
      by_cases hh : (wayL t (i : Int)).length ≤ 5
      · have : ¬ (((wayL t (i : Int)).length : Int) > 5) := by omega
        simp [hh, this]
      · have : (((wayL t (i : Int)).length : Int) > 5) := by omega
        simp [hh, this]
    simp only [e1, e2, e3]
    cases (knd t i == 3) <;> cases (knd t i == 4) <;> cases ((kidsL t (i : Int)).length == 1) <;> cases ((kidsL t (i : Int)).length == 0) <;> cases (decide ((wayL t (i : Int)).length ≤ 5)) <;> simp
theorem types_May_l0 (t : List Nod) (ht : t.length ≤ 8) (k : Nat) (hk : 20 ≤ k) : ∀ (j i : Nat), i + j = t.length → (∀ q, q < i → standsB t q = true) → ∀ n, j + 1 ≤ n →
    types_May.l0 idb k n t (t.length : Int) (i : Int) = some ((List.range' i (t.length - i)).all (fun i => kindB t i && standsB t i) && (List.range t.length).all (fun i => kidsB t i && decide ((wayL t (i : Int)).length ≤ 5)))
  | 0, i, hij, hst, n, hn => by
    obtain ⟨n, rfl⟩ : ∃ m, n = m + 1 := ⟨n - 1, by omega⟩
    rw [types_May.l0_eq]
    have h1 : ¬ ((i : Int) < (t.length : Int)) := by omega
    have := types_May_l2 t (fun q hq => hst q (by omega)) ht k hk t.length 0 (by omega) k (by omega)
    simp only [h1, decide_false, cond]
    rw [show t.length - i = 0 by omega]
    rw [Nat.sub_zero] at this
    rw [List.range_eq_range']
    simpa using this
  | j + 1, i, hij, hst, n, hn => by
    obtain ⟨n, rfl⟩ : ∃ m, n = m + 1 := ⟨n - 1, by omega⟩
    rw [types_May.l0_eq]
    have hlt : i < t.length := by omega
    have h1 : ((i : Int) < (t.length : Int)) := by omega
    rw [all_drop _ _ _ hlt]
    simp only [h1, decide_true, cond, rd_get hlt, Option.bind_some, knd_get hlt, types_stands_ok (show 2 ≤ k by omega) t i hlt, wsucc (show (i : Int) ≤ _ by omega)]
    unfold kindB
    by_cases h2 : 0 ≤ knd t i
    · have h2' : ¬ (knd t i < 0) := by omega
      by_cases h3 : knd t i ≤ 4
      · have h3' : ¬ (knd t i > 4) := by omega
        cases hs : standsB t i with
        | false => simp [h2, h2', h3, h3']
        | true =>
          have ih := types_May_l0 t ht k hk j (i + 1) (by omega) (fun q hq => by
            by_cases e : q = i
            · subst e; exact hs
            · exact hst q (by omega)) n (by omega)
          unfold kindB at ih
          simp only [h2, h2', h3, h3', decide_true, decide_false, Bool.not_false, Bool.not_true, Bool.true_and, ih]
      · have h3' : (knd t i > 4) := by omega
        simp [h2, h2', h3, h3']
    · have h2' : (knd t i < 0) := by omega
      simp [h2, h2']
theorem types_May_ok {k : Nat} (hk : 21 ≤ k) (t : List Nod) : types_May.f idb k t = some (mayT t) := by
  obtain ⟨k, rfl⟩ : ∃ m, k = m + 1 := ⟨k - 1, by omega⟩
  rw [types_May.f_eq]
  unfold mayT
  by_cases h0 : t.length = 0
  · simp [h0]
  · have b0 : ((t.length : Int) == 0) = false := beq_eq_false_iff_ne.2 (by omega)
    by_cases h8 : t.length ≤ 8
    · have b8 : ¬ ((t.length : Int) > 8) := by omega
      have h1 : 1 ≤ t.length := by omega
      have := types_May_l0 t h8 k (by omega) t.length 0 (by omega) (fun q hq => absurd hq (Nat.not_lt_zero q)) k (by omega)
      rw [Nat.sub_zero, ← List.range_eq_range'] at this
      simp only [b0, Bool.not_false, cond, b8, decide_false, h1, h8, decide_true, Bool.true_and]
      exact this
    · have b8 : ((t.length : Int) > 8) := by omega
      simp [b0, b8, h8]

end Go.Proofs.YtgedegmcbkligaaP
