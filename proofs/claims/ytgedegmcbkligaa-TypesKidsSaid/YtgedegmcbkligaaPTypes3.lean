/- Types: the law TypesKids, as the machine answers it; no condition. -/
import Derived.Test.YtgedegmcbkligaaPTypes
namespace Go.Proofs.YtgedegmcbkligaaP
open Go Go.Proofs.YtgedegmcbkligaaA

theorem mayT_kids {t : List Nod} (hm : mayT t = true) {i : Nat} (hi : i < t.length) : (kidsL t (i : Int) = []) ↔ inner (knd t i) = false := by
  have hst := mayT_stands hm
  have hkb := (((mayT_iff t).1 hm).2.2 i hi).1
  constructor
  · intro h
    unfold kidsB at hkb
    rw [h] at hkb
    unfold inner
    rw [show ([] : List Int).length = 0 from rfl] at hkb
    generalize (knd t i == 3) = p at hkb ⊢
    generalize (knd t i == 4) = q at hkb ⊢
    revert hkb; revert p q; decide
  · intro h
    cases hc : kidsL t (i : Int) with
    | nil => rfl
    | cons x l =>
      obtain ⟨j, hj, hj0, hp, _⟩ := mem_kidsL.1 (show x ∈ kidsL t (i : Int) by rw [hc]; exact List.mem_cons_self)
      have hs := hst j hj
      unfold standsB at hs
      rw [if_neg (by omega), hp, Int.toNat_natCast] at hs
      simp only [Bool.and_eq_true] at hs
      rw [h] at hs
      exact absurd hs.2 (by decide)
/-- Who has been seen. -/
def Seen (t : List Nod) (S : List Int) (P : Nat → Prop) : Prop := S.length = t.length ∧ ∀ x, x < t.length → (P x → S[x]? = some 1) ∧ (¬ P x → S[x]? = some 0)
theorem kids_sorted (t : List Nod) (a : Int) : (kidsL t a).Pairwise (· < ·) := by
  unfold kidsL kidsU
  rw [List.pairwise_map]
  refine List.Pairwise.imp (R := fun a b : Nat => a < b) (fun h => by omega) (List.Pairwise.filter _ List.pairwise_lt_range)

theorem TK_l2 {t : List Nod} (hm : mayT t = true) {k m1 : Nat} {i : Nat} (hi : i < t.length) (e4 lv : Int) (ls : List Int) :
    ∀ (q p : List Int), p ++ q = kidsL t (i : Int) → ∀ S, Seen t S (fun x => 0 < x ∧ (par t x < (i : Int) ∨ (x : Int) ∈ p)) → ∀ n, q.length + 1 ≤ n →
    (∀ S', Seen t S' (fun x => 0 < x ∧ par t x < ((i + 1 : Nat) : Int)) → quiverlaw5_TypesKids.l0 idb k m1 e4 lv ((i + 1 : Nat) : Int) t ls S' = some true) →
    quiverlaw5_TypesKids.l2 idb k m1 n e4 lv (i : Int) (p.length : Int) t ls S (p ++ q) = some true
  | [], p, hp, S, hS, n, hn, hK => by
    obtain ⟨n, rfl⟩ : ∃ m, n = m + 1 := ⟨n - 1, by omega⟩
    rw [quiverlaw5_TypesKids.l2_eq]
    have h1 : ¬ ((p.length : Int) < ((p ++ ([] : List Int)).length : Int)) := by simp
    have hl := mayT_length hm
    rw [decide_eq_false h1, cF, wsucc (by omega)]
    refine hK S ⟨hS.1, fun x hx => ?_⟩
    rw [List.append_nil] at hp
    have e : (0 < x ∧ par t x < ((i + 1 : Nat) : Int)) ↔ (0 < x ∧ (par t x < (i : Int) ∨ (x : Int) ∈ p)) := by
      rw [hp, mem_kidsL]
      constructor
      · rintro ⟨h0, h⟩
        refine ⟨h0, ?_⟩
        by_cases hh : par t x < (i : Int)
        · exact .inl hh
        · exact .inr ⟨x, hx, h0, by omega, rfl⟩
      · rintro ⟨h0, h⟩
        refine ⟨h0, ?_⟩
        rcases h with h | ⟨j, _, _, h, e⟩
        · omega
        · have : x = j := by omega
          subst this; omega
    have := hS.2 x hx
    constructor
    · intro h; exact this.1 (e.1 h)
    · intro h; exact this.2 (fun h' => h (e.2 h'))
  | a :: q, p, hp, S, hS, n, hn, hK => by
    obtain ⟨n, rfl⟩ : ∃ m, n = m + 1 := ⟨n - 1, by omega⟩
    have hl := mayT_length hm
    have hst := mayT_stands hm
    obtain ⟨x, hx, hx0, hpx, rfl⟩ := mem_kidsL.1 (show a ∈ kidsL t (i : Int) by rw [← hp]; exact List.mem_append_right _ List.mem_cons_self)
    have hup := hst.up hx
    have hsrt := kids_sorted t (i : Int)
    rw [← hp, List.pairwise_append] at hsrt
    obtain ⟨s1, s2, s3⟩ := hsrt
    have hkl := kidsU_length t (i : Int) t.length
    have hpl : (p ++ (x : Int) :: q).length ≤ t.length := by rw [hp]; exact hkl
    have hlen : (p ++ (x : Int) :: q).length = p.length + (q.length + 1) := by simp
    have h1 : ((p.length : Int) < ((p ++ (x : Int) :: q).length : Int)) := by rw [hlen]; omega
    have h0 : (0 : Int) ≤ (p.length : Int) := by omega
    have hg : (p ++ (x : Int) :: q)[((p.length : Nat) : Int).toNat]? = some (x : Int) := by simp
    have n1 : ¬ ((x : Int) ≤ (i : Int)) := by omega
    have n2 : ¬ ((x : Int) ≥ (t.length : Int)) := by omega
    have hpar : (t[x].parent != (i : Int)) = false := by rw [par_get hx, hpx]; simp
    have hsx : (decide ((0 : Int) ≤ (x : Int)) && decide ((x : Int) < (S.length : Int))) = true := by rw [hS.1]; simp; omega
    have hnot : (x : Int) ∉ p := fun h => by have := s3 _ h _ List.mem_cons_self; omega
    have hSx : S[((x : Nat) : Int).toNat]? = some 0 := by
      rw [Int.toNat_natCast]
      refine (hS.2 x hx).2 fun h => ?_
      rcases h.2 with h | h
      · omega
      · exact hnot h
    have hS' : Seen t (S.set ((x : Nat) : Int).toNat 1) (fun y => 0 < y ∧ (par t y < (i : Int) ∨ (y : Int) ∈ p ++ [(x : Int)])) := by
      refine ⟨by rw [List.length_set]; exact hS.1, fun y hy => ?_⟩
      rw [Int.toNat_natCast]
      by_cases e : y = x
      · subst e
        have e1 : (S.set y 1)[y]? = some 1 := List.getElem?_set_self (by rw [hS.1]; exact hy)
        refine ⟨fun _ => e1, fun h => absurd ⟨hx0, .inr (by simp)⟩ h⟩
      · rw [List.getElem?_set_ne (fun h => e h.symm)]
        have := hS.2 y hy
        have ee : ((y : Int) ∈ p ++ [(x : Int)]) ↔ (y : Int) ∈ p := by simp; intro h; omega
        simp only [ee]
        exact this
    have ih := TK_l2 hm hi e4 lv ls q (p ++ [(x : Int)]) (by rw [← hp]; simp) _ hS' n (by simpa using hn) hK
    have e1 : p ++ [(x : Int)] ++ q = p ++ (x : Int) :: q := by simp
    have e2 : ((p ++ [(x : Int)]).length : Int) = ((p.length + 1 : Nat) : Int) := by simp
    rw [e1, e2] at ih
    have w1 : IntKind.i64.wrap ((0 : Int) + 1) = 1 := by decide
    rw [quiverlaw5_TypesKids.l2_eq, decide_eq_true h1, cT]
    simp only [decide_eq_true h0, Bool.and_self, cT, hg, bS, decide_eq_false n1, decide_eq_false n2, Bool.not_false, rd_get hx, hpar, cF, hsx, hSx, wsucc (show (p.length : Int) ≤ _ by omega), w1]
    by_cases hp0 : (p.length : Int) > 0
    · have hpm : IntKind.i64.wrap ((p.length : Int) - 1) = ((p.length - 1 : Nat) : Int) := by rw [wi64 _ (by omega)]; omega
      have hb2 : (decide ((0 : Int) ≤ ((p.length - 1 : Nat) : Int)) && decide (((p.length - 1 : Nat) : Int) < ((p ++ (x : Int) :: q).length : Int))) = true := by simp; omega
      have hpl2 : p.length - 1 < p.length := by omega
      have hg2 : (p ++ (x : Int) :: q)[((p.length - 1 : Nat) : Int).toNat]? = some (p[p.length - 1]) := by
        rw [Int.toNat_natCast, List.getElem?_append_left hpl2]; exact List.getElem?_eq_getElem hpl2
      have n3 : ¬ ((x : Int) ≤ p[p.length - 1]) := by
        have := s3 _ (List.getElem_mem hpl2) _ List.mem_cons_self
        omega
      rw [decide_eq_true hp0, cT, hpm, hb2, cT, hg2, bS, decide_eq_false n3, Bool.not_false, cT]
      exact ih
    · rw [decide_eq_false hp0, cF]
      exact ih

theorem TK_l4 {t : List Nod} (hm : mayT t = true) {k : Nat} (hk : 1 ≤ k) {S : List Int} (hS : Seen t S (fun x => 0 < x)) (ls : List Int) (lv : Int) (hlv : lv = (ls.length : Int)) : ∀ (j i : Nat), 0 < i → i + j = t.length → ∀ n, j + 1 ≤ n →
    quiverlaw5_TypesKids.l4 idb k n 0 lv (i : Int) ls S = some true
  | 0, i, h0, hij, n, hn => by
    obtain ⟨n, rfl⟩ : ∃ m, n = m + 1 := ⟨n - 1, by omega⟩
    have hl := mayT_length hm
    have h1 : ¬ ((i : Int) < (S.length : Int)) := by rw [hS.1]; omega
    have h2 : ((S.length : Int) > 0) := by rw [hS.1]; omega
    have h3 : ((0 : Int) < (S.length : Int)) := by rw [hS.1]; omega
    have h4 : S[0]? = some 0 := (hS.2 0 (by omega)).2 (by omega)
    rw [quiverlaw5_TypesKids.l4_eq, decide_eq_false h1, cF, law0_Num hk, bS, beq_self_eq_true, cT, hlv, beq_self_eq_true, cT, decide_eq_true h2, cT, show (decide ((0 : Nat) ≤ 0) && true) = true from rfl, cT, h4, bS]; rfl
  | j + 1, i, h0, hij, n, hn => by
    obtain ⟨n, rfl⟩ : ∃ m, n = m + 1 := ⟨n - 1, by omega⟩
    have hl := mayT_length hm
    have h1 : ((i : Int) < (S.length : Int)) := by rw [hS.1]; omega
    have h2 : (0 : Int) ≤ (i : Int) := by omega
    have h4 : S[((i : Nat) : Int).toNat]? = some 1 := by rw [Int.toNat_natCast]; exact (hS.2 i (by omega)).1 h0
    rw [quiverlaw5_TypesKids.l4_eq, decide_eq_true h1, cT, decide_eq_true h2, Bool.and_self, cT, h4, bS, bne_self_eq_false, cF, wsucc (by omega)]
    exact TK_l4 hm hk hS ls lv hlv j (i + 1) (by omega) (by omega) n (by omega)

theorem leavesU_get (t : List Nod) : ∀ m i, i < m → inner (knd t i) = false → (leavesU t m)[(leavesU t i).length]? = some (i : Int)
  | 0, i, h, _ => absurd h (by omega)
  | m + 1, i, h, hi => by
    by_cases e : i = m
    · subst e
      rw [leavesU_succ, hi, if_neg (by decide)]
      simp
    · have ih := leavesU_get t m i (by omega) hi
      rw [leavesU_succ]
      split
      · exact ih
      · rw [List.getElem?_append_left (List.getElem?_eq_some_iff.mp ih).1]; exact ih
theorem TK_l0 {t : List Nod} (hm : mayT t = true) {k : Nat} (hk : 60 ≤ k) : ∀ (j i : Nat), i + j = t.length → ∀ S, Seen t S (fun x => 0 < x ∧ par t x < (i : Int)) → ∀ n, j + 1 ≤ n →
    quiverlaw5_TypesKids.l0 idb k n 0 ((leavesU t i).length : Int) (i : Int) t (leavesU t t.length) S = some true
  | 0, i, hij, S, hS, n, hn => by
    obtain ⟨n, rfl⟩ : ∃ m, n = m + 1 := ⟨n - 1, by omega⟩
    have hl := mayT_length hm
    have h1 : ¬ ((i : Int) < (t.length : Int)) := by omega
    rw [quiverlaw5_TypesKids.l0_eq, decide_eq_false h1, cF]
    have e : i = t.length := by omega
    have hS' : Seen t S (fun x => 0 < x) := ⟨hS.1, fun x hx => by
      have hup := (mayT_stands hm).up hx
      have := hS.2 x hx
      exact ⟨fun h => this.1 ⟨h, by omega⟩, fun h => this.2 fun h' => h h'.1⟩⟩
    exact TK_l4 hm (by omega) hS' _ _ (by rw [e]) (t.length - 1) 1 (by omega) (by omega) k (by omega)
  | j + 1, i, hij, S, hS, n, hn => by
    obtain ⟨n, rfl⟩ : ∃ m, n = m + 1 := ⟨n - 1, by omega⟩
    have hl := mayT_length hm
    have hi : i < t.length := by omega
    have h1 : ((i : Int) < (t.length : Int)) := by omega
    have hkt : kidsT t (i : Int) = (kidsL t (i : Int), 0) := by unfold kidsT; rw [nodeB_of hm hi]; rfl
    have hll := leavesU_length t i
    have j18 : ∀ lv : Int, lv = ((leavesU t (i + 1)).length : Int) → quiverlaw5_TypesKids.j18 idb k n 0 lv (i : Int) t (leavesU t t.length) S (kidsL t (i : Int)) = some true := by
      intro lv hlv
      rw [quiverlaw5_TypesKids.j18_eq]
      refine TK_l2 hm hi 0 lv (leavesU t t.length) (kidsL t (i : Int)) [] rfl S ⟨hS.1, fun x hx => ?_⟩ k (by have := kidsU_length t (i : Int) t.length; unfold kidsL; omega) fun S' hS' => ?_
      · have := hS.2 x hx
        have e : ((x : Int) ∈ ([] : List Int)) ↔ False := by simp
        simp only [e, or_false]
        exact this
      · rw [hlv]
        exact TK_l0 hm hk j (i + 1) (by omega) S' hS' n (by omega)
    rw [quiverlaw5_TypesKids.l0_eq, decide_eq_true h1, cT, types_Kids_ok (by omega), hkt, bS, law0_Num (by omega), bS, bne_self_eq_false, cF]
    have hlu := leavesU_succ t i
    by_cases hin : inner (knd t i) = false
    · have hnil := (mayT_kids hm hi).2 hin
      have hz : (((kidsL t (i : Int)).length : Int) == 0) = true := by rw [hnil]; rfl
      have hget := leavesU_get t t.length i hi hin
      have hlt := (List.getElem?_eq_some_iff.mp hget).1
      have n1 : ¬ (((leavesU t i).length : Int) ≥ ((leavesU t t.length).length : Int)) := by omega
      have h2 : (decide ((0 : Int) ≤ ((leavesU t i).length : Int)) && decide (((leavesU t i).length : Int) < ((leavesU t t.length).length : Int))) = true := by simp; omega
      have hg : (leavesU t t.length)[(((leavesU t i).length : Nat) : Int).toNat]? = some (i : Int) := by rw [Int.toNat_natCast]; exact hget
      rw [hin, if_neg (by decide)] at hlu
      rw [hz, cT, decide_eq_false n1, Bool.not_false, cT, h2, cT, hg, bS, bne_self_eq_false, cF, bar_eq]
      refine j18 _ ?_
      rw [hlu, wi64 _ (by omega), List.length_append]; simp
    · have hin' : inner (knd t i) = true := by cases h : inner (knd t i) with
        | true => rfl
        | false => exact absurd h hin
      have hz : (((kidsL t (i : Int)).length : Int) == 0) = false := by
        apply beq_eq_false_iff_ne.2
        intro h
        exact hin ((mayT_kids hm hi).1 (List.eq_nil_of_length_eq_zero (by omega)))
      rw [hin', if_pos rfl] at hlu
      rw [hz, cF, bar_eq]
      exact j18 _ (by rw [hlu])
theorem pure_TypesKids (t : List Nod) : ∃ k, quiverlaw5_TypesKids.f idb k t = some true := by
  refine ⟨1000 + 1, ?_⟩
  rw [quiverlaw5_TypesKids.f_eq, awake5' (by omega), bS, Bool.not_true, cF, types_May_ok (by omega), bS]
  cases hm : mayT t with
  | false => rw [Bool.not_false, cT]
  | true =>
    have hl := mayT_length hm
    have hlt : leavesT t = (leavesU t t.length, 0) := by unfold leavesT; rw [hm]; rfl
    have hb : (((t.length : Int) == (t.length : Int)) && (decide (0 ≤ (t.length : Int)) && decide ((t.length : Int) * 8 ≤ 140737488355328))) = true := by simp; omega
    rw [Bool.not_true, cF, types_Leaves_ok (by omega), hlt, bS, hb, cT]
    refine TK_l0 hm (by omega) t.length 0 (by omega) _ ⟨by simp, fun x hx => ?_⟩ 1000 (by omega)
    have e : (List.replicate ((t.length : Int)).toNat (0 : Int))[x]? = some 0 := by rw [List.getElem?_replicate, if_pos (by omega)]
    refine ⟨fun h => ?_, fun _ => e⟩
    have hs := (mayT_stands hm) x hx
    unfold standsB at hs
    rw [if_neg (by omega)] at hs
    simp only [Bool.and_eq_true, decide_eq_true_eq] at hs
    omega

end Go.Proofs.YtgedegmcbkligaaP
