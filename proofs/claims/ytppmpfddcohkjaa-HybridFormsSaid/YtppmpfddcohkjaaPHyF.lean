/- The law HybridForms, as the machine answers it; no condition but the sizes that a machine has. -/
import Derived.Test.YtppmpfddcohkjaaPHyM
namespace Go.Proofs.YtppmpfddcohkjaaP
open Go Go.Proofs.YtppmpfddcohkjaaA

def texts21 : List (List UInt8) := [[], [3], [3, 57], [3, 57, 0, 120], [5, 57, 0], [131, 0, 57, 0], [18], [6, 1], [0, 1], [1], [3, 57, 1]]
theorem bad0 (m : Nat) : hybrid_Get.f idb (m + 60) [] 2 3 = some ([], 2100) := by kernel_rfl
theorem bad1 (m : Nat) : hybrid_Get.f idb (m + 60) [3] 2 3 = some ([], 2100) := by kernel_rfl
theorem bad2 (m : Nat) : hybrid_Get.f idb (m + 60) [3, 57] 2 3 = some ([], 2100) := by kernel_rfl
theorem bad3 (m : Nat) : hybrid_Get.f idb (m + 60) [3, 57, 0, 120] 2 3 = some ([], 2100) := by kernel_rfl
theorem bad4 (m : Nat) : hybrid_Get.f idb (m + 60) [5, 57, 0] 2 3 = some ([], 2100) := by kernel_rfl
theorem bad5 (m : Nat) : hybrid_Get.f idb (m + 60) [131, 0, 57, 0] 2 3 = some ([], 2100) := by kernel_rfl
theorem bad6 (m : Nat) : hybrid_Get.f idb (m + 60) [18] 2 3 = some ([], 2100) := by kernel_rfl
theorem bad7 (m : Nat) : hybrid_Get.f idb (m + 60) [6, 1] 2 3 = some ([], 2100) := by kernel_rfl
theorem bad8 (m : Nat) : hybrid_Get.f idb (m + 60) [0, 1] 2 3 = some ([], 2100) := by kernel_rfl
theorem bad9 (m : Nat) : hybrid_Get.f idb (m + 60) [1] 2 3 = some ([], 2100) := by kernel_rfl
theorem bad10 (m : Nat) : hybrid_Get.f idb (m + 60) [3, 57, 1] 2 3 = some ([], 2100) := by kernel_rfl
theorem bad21 (m : Nat) : ∀ t ∈ texts21, hybrid_Get.f idb (m + 60) t 2 3 = some ([], 2100) := by
  intro t ht
  simp only [texts21, List.mem_cons, List.not_mem_nil, or_false] at ht
  rcases ht with h | h | h | h | h | h | h | h | h | h | h <;> subst h
  · exact bad0 m
  · exact bad1 m
  · exact bad2 m
  · exact bad3 m
  · exact bad4 m
  · exact bad5 m
  · exact bad6 m
  · exact bad7 m
  · exact bad8 m
  · exact bad9 m
  · exact bad10 m
theorem get_bad {k : Nat} (hk : 1 ≤ k) (s : List UInt8) {w c : Int} (h : w < 0 ∨ 16 < w ∨ c < 0 ∨ 4096 < c) : hybrid_Get.f idb k s w c = some ([], 2100) := by
  obtain ⟨k, rfl⟩ : ∃ q, k = q + 1 := ⟨k - 1, by omega⟩
  rw [hybrid_Get.f_eq]
  by_cases h0 : w < 0
  · rw [dT h0]; rfl
  · by_cases h1 : w > 16
    · rw [dF h0, dT h1]; rfl
    · by_cases h2 : c < 0
      · rw [dF h0, dF h1, dT h2]; rfl
      · rw [dF h0, dF h1, dF h2, dT (show c > 4096 by omega)]; rfl
theorem put_bad {w : Int} {xs : List Int} (h : mayH w xs = false) : putT w xs = ([], 2100) := by
  unfold putT; rw [h]; simp
theorem pure_HybridForms (a0 a1 : Int) : ∃ k, quiverlaw21_HybridForms.f idb k a0 a1 = some true := by
  refine ⟨2000060 + 1, ?_⟩
  obtain ⟨d, hd, d1, d2⟩ := dist_of a1
  have hb : bitsOp .and .i64 a0 1 = a0 % 2 := and1 a0
  obtain ⟨b, hb1⟩ : ∃ b : Nat, bitsOp .and .i64 a0 1 = (b : Int) := ⟨(a0 % 2).toNat, by omega⟩
  have hb2 : b = 0 ∨ b = 1 := by omega
  have hu := u64_mod a0 11 (by omega) (by omega)
  obtain ⟨i, hi⟩ : ∃ i : Nat, IntKind.i64.wrap (Int.tmod (IntKind.u64.wrap a0) 11) = (i : Int) := ⟨(IntKind.i64.wrap (Int.tmod (IntKind.u64.wrap a0) 11)).toNat, by have := hu.2.1; push_cast at this; omega⟩
  have hi11 : i < 11 := by
    have := hu.2.2
    push_cast at this
    rw [hi] at this; omega
  have w1 : IntKind.i64.wrap (0 - d) = -d := by rw [wi64 _ (by omega)]; omega
  have w2 : IntKind.i64.wrap (16 + d) = 16 + d := wi64 _ (by omega)
  have w3 : IntKind.i64.wrap (4096 + d) = 4096 + d := wi64 _ (by omega)
  obtain ⟨e, he, hee⟩ : ∃ e : Int, ([-d, 16 + d] : List Int)[b]? = some e ∧ (e < 0 ∨ 16 < e) := by
    rcases hb2 with rfl | rfl
    · exact ⟨-d, rfl, .inl (by omega)⟩
    · exact ⟨16 + d, rfl, .inr (by omega)⟩
  obtain ⟨g, hg, hgg⟩ : ∃ g : Int, ([-d, 8] : List Int)[b]? = some g ∧ (g < 0 ∨ 8 ≤ g) := by
    rcases hb2 with rfl | rfl
    · exact ⟨-d, rfl, .inl (by omega)⟩
    · exact ⟨8, rfl, .inr (by omega)⟩
  have hit : i < texts21.length := by show i < 11; exact hi11
  have hti : texts21[i]? = some texts21[i] := List.getElem?_eq_getElem hit
  have p1 : putT e [0] = ([], 2100) := put_bad (by
    unfold mayH
    rcases hee with h | h
    · rw [dF (show ¬ 0 ≤ e by omega)]; rfl
    · rw [dF (show ¬ e ≤ 16 by omega)]; simp)
  have p2 : putT 3 [g] = ([], 2100) := put_bad (by
    have : okL 3 [g] = false := by
      unfold okL okX
      have e8 : (2 : Int) ^ 3 = 8 := by decide
      simp only [List.all_cons, List.all_nil, Bool.and_true]
      rw [e8]
      rcases hgg with h | h
      · rw [dF (show ¬ 0 ≤ g by omega)]; rfl
      · rw [dF (show ¬ g < 8 by omega)]; simp
    unfold mayH
    rw [show (3 : Int).toNat = 3 from rfl, this]; simp)
  have p3 : putT 3 (List.replicate (4096 + d).toNat 0) = ([], 2100) := putT_long (by rw [List.length_replicate]; omega)
  have p4 : putT 2 [] = ([], 0) := rfl
  have g4 : hybrid_Get.f idb 2000060 [] 2 0 = some ([], 0) := Get_put (k := 2000060) (xs := []) (by omega) p4 (by simp)
  have hN : ∀ x, quiverlaw0_Num.f idb 2000060 x = some x := fun x => law0_Num (by omega) x
  have lt2 : ∀ x y : Int, decide ((b : Int) < ((([x, y] : List Int)).length : Int)) = true := fun x y => dT (by simp only [List.length_cons, List.length_nil]; omega)
  have l11 : decide ((i : Int) < ((texts21).length : Int)) = true := dT (by show (i : Int) < 11; omega)
  have hb0 : decide (0 ≤ (b : Int)) = true := dT (by omega)
  have hi0 : decide (0 ≤ (i : Int)) = true := dT (by omega)
  have r1 : decide (0 ≤ 4096 + d) = true := dT (by omega)
  have r2 : decide ((4096 + d) * 8 ≤ 140737488355328) = true := dT (by omega)
  rw [quiverlaw21_HybridForms.f_eq, awake21 (by omega), bS]
  simp only [Bool.not_true, cF, hd, hb1, w1, w2, w3, hi, hb0, lt2, Bool.and_self, cT, Int.toNat_natCast, he, hg, bS, BEq.rfl, r1, r2]
  rw [Put_any (by omega), bS, Put_any (by omega), bS, Put_any (by omega), bS, p1, p2, p3]
  rw [get_bad (by omega) [] (w := e) (c := 0) (by omega), bS, get_bad (by omega) [] (w := 3) (c := -d) (by omega), bS, get_bad (by omega) [] (w := 3) (c := 4096 + d) (by omega), bS]
  show (bif decide (0 ≤ (i : Int)) && decide ((i : Int) < ((texts21).length : Int)) then (texts21[i]?).bind _ else none) = _
  rw [hi0, l11, hti]
  simp only [Bool.and_self, cT, bS]
  have := bad21 2000000 texts21[i] (List.getElem_mem hit)
  rw [this]
  simp only [bS, g4, hN, BEq.rfl, cT]
  rfl
end Go.Proofs.YtppmpfddcohkjaaP
