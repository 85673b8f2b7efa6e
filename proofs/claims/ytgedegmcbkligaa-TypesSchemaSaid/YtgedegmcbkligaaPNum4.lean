/- Numbers: the laws NumForms and NumRow, as the machine answers them; no condition but the sizes that a machine has. -/
import Derived.Test.YtgedegmcbkligaaPNum3
namespace Go.Proofs.YtgedegmcbkligaaP
open Go Go.Proofs.YtgedegmcbkligaaA

theorem pick {α : Type} {l : List α} {Q : α → Prop} (hl : ∀ e ∈ l, Q e) {i : Int} (h0 : 0 ≤ i) (h1 : i < (l.length : Int)) : ∃ e, l[i.toNat]? = some e ∧ Q e := by
  have : i.toNat < l.length := by omega
  exact ⟨_, List.getElem?_eq_getElem this, hl _ (List.getElem_mem this)⟩

theorem pure_NumForms (a0 a1 : Int) : ∃ k, quiverlaw3_NumForms.f idb k a0 a1 = some true := by
  refine ⟨100 + 1, ?_⟩
  rw [quiverlaw3_NumForms.f_eq, awake3 60]
  have e1 : bitsOp .and .i64 a0 1 = a0 % 2 := and_mask a0 1 (by omega)
  have e2 : bitsOp .and .i64 a0 7 = a0 % 8 := and_mask a0 3 (by omega)
  have e3 : ∀ y, bitsOp .and .i64 y 7 = y % 8 := fun y => and_mask y 3 (by omega)
  have e4 : bitsOp .and .i64 a1 1023 = a1 % 1024 := and_mask a1 10 (by omega)
  generalize Int.fdiv a0 (2 ^ (min 3 IntKind.i64.bits)) = y
  simp only [e1, e2, e3, e4]
  obtain ⟨n, hn⟩ : ∃ n, n = a1 % 1024 := ⟨_, rfl⟩
  obtain ⟨b1, hb1⟩ : ∃ b, b = a0 % 2 := ⟨_, rfl⟩
  obtain ⟨b2, hb2⟩ : ∃ b, b = a0 % 8 := ⟨_, rfl⟩
  obtain ⟨b3, hb3⟩ : ∃ b, b = y % 8 := ⟨_, rfl⟩
  have n0 : 0 ≤ n ∧ n ≤ 1023 := by omega
  have c1 : 0 ≤ b1 ∧ b1 < 2 := by omega
  have c2 : 0 ≤ b2 ∧ b2 < 8 := by omega
  have c3 : 0 ≤ b3 ∧ b3 < 8 := by omega
  rw [← hn, ← hb1, ← hb2, ← hb3]
  clear hn hb1 hb2 hb3
  have w1 : IntKind.i64.wrap (1 + n) = 1 + n := wi64 _ (by omega)
  have w2 : IntKind.i64.wrap (0 - (1 + n)) = 0 - (1 + n) := wi64 _ (by omega)
  have w3 : IntKind.i64.wrap (2147483647 + (1 + n)) = 2147483647 + (1 + n) := wi64 _ (by omega)
  have w4' : IntKind.i64.wrap (8 + (1 + n)) = 8 + (1 + n) := wi64 _ (by omega)
  have w5 : IntKind.i64.wrap (4 + (1 + n)) = 4 + (1 + n) := wi64 _ (by omega)
  simp only [w1, w2, w3, w4', w5]
  -- what is drawn from the lists
  obtain ⟨x, hx, hxm⟩ := pick (l := [0 - (1 + n), 2147483647 + (1 + n)]) (Q := fun e => may e = false) (i := b1) (by
    intro e he
    have : ¬ may e = true := fun h => by
      have := may_iff.1 h
      simp at he
      omega
    simpa using this) c1.1 c1.2
  obtain ⟨z, hz, hz48⟩ := pick (l := [0, 1, 3, 5, 7, 9, (-4), 8 + (1 + n)]) (Q := fun e => e ≠ 4 ∧ e ≠ 8) (i := b2) (by
    intro e he
    simp only [List.mem_cons, List.not_mem_nil, or_false] at he
    omega) c2.1 c2.2
  obtain ⟨t, ht, htv⟩ := pick (l := [([] : List UInt8), ([128] : List UInt8), ([255, 255] : List UInt8), ([128, 0] : List UInt8), ([255, 255, 255, 255, 8] : List UInt8), ([255, 255, 255, 255, 255, 1] : List UInt8), ([129, 128, 0] : List UInt8), ([128, 128, 128, 128, 128, 0] : List UInt8)])
    (Q := fun e => (e.length : Int) ≤ 6 ∧ getVar e 0 = (0, 0, 300)) (i := b3) (by
      have : ∀ e ∈ [([] : List UInt8), ([128] : List UInt8), ([255, 255] : List UInt8), ([128, 0] : List UInt8), ([255, 255, 255, 255, 8] : List UInt8), ([255, 255, 255, 255, 255, 1] : List UInt8), ([129, 128, 0] : List UInt8), ([128, 128, 128, 128, 128, 0] : List UInt8)],
          (e.length : Int) ≤ 6 ∧ getVar e 0 = (0, 0, 300) := by decide +kernel
      exact this) c3.1 c3.2
  have d1 : (decide (0 ≤ b1) && decide (b1 < (([0 - (1 + n), 2147483647 + (1 + n)] : List Int).length : Int))) = true := by simp; omega
  have d2 : (decide (0 ≤ b2) && decide (b2 < (([0, 1, 3, 5, 7, 9, (-4), 8 + (1 + n)] : List Int).length : Int))) = true := by simp; omega
  have d3 : (decide (0 ≤ b3) && decide (b3 < ((([([] : List UInt8), ([128] : List UInt8), ([255, 255] : List UInt8), ([128, 0] : List UInt8), ([255, 255, 255, 255, 8] : List UInt8), ([255, 255, 255, 255, 255, 1] : List UInt8), ([129, 128, 0] : List UInt8), ([128, 128, 128, 128, 128, 0] : List UInt8)] : List (List UInt8))).length : Int))) = true := by simp; omega
  have p1 : num_Put.f idb 100 x 4 = some ([], 300) := by rw [num_Put_ok (by omega)]; simp [put, hxm]
  have p2 : num_Put.f idb 100 5 z = some ([], 300) := by rw [num_Put_ok (by omega)]; simp [put, hz48.1, hz48.2]
  have p3 : num_PutVar.f idb 100 x = some ([], 300) := by rw [num_PutVar_ok (by omega)]; simp [putVar, hxm]
  have L8 : (([1, 2, 3, 4, 5, 6, 7, 8] : List UInt8).length : Int) = 8 := rfl
  have g1 : num_Get.f idb 100 ([1, 2, 3, 4, 5, 6, 7, 8] : List UInt8) (0 - (1 + n)) 4 = some (0, 300) := by
    rw [num_Get_ok (by omega) _ (by rw [L8]; omega) _ _ (by omega)]
    unfold get
    rw [if_neg (by rw [L8]; omega)]
  have g2 : num_Get.f idb 100 ([1, 2, 3, 4, 5, 6, 7, 8] : List UInt8) (4 + (1 + n)) 4 = some (0, 300) := by
    rw [num_Get_ok (by omega) _ (by rw [L8]; omega) _ _ (by omega)]
    unfold get
    rw [if_neg (by rw [L8]; omega)]
  have g3 : num_Get.f idb 100 ([1, 2, 3, 4, 5, 6, 7, 8] : List UInt8) (1 + n) 8 = some (0, 300) := by
    rw [num_Get_ok (by omega) _ (by rw [L8]; omega) _ _ (by omega)]
    unfold get
    rw [if_neg (by rw [L8]; omega)]
  have g4 : num_Get.f idb 100 ([1, 2, 3, 4, 5, 6, 7, 8] : List UInt8) 0 z = some (0, 300) := by
    rw [num_Get_ok (by omega) _ (by rw [L8]; omega) _ _ (by omega)]
    unfold get
    rw [if_neg (fun h => by rcases h.1 with h | h; exact hz48.1 h; exact hz48.2 h)]
  have g5 : num_Get.f idb 100 ([0, 0, 0, 128] : List UInt8) 0 4 = some (0, 300) := by kernel_rfl
  have v1 : num_GetVar.f idb 100 t 0 = some (0, 0, 300) := by rw [num_GetVar_ok (by omega) _ (by omega), htv.2]
  have v2 : num_GetVar.f idb 100 ([1] : List UInt8) 1 = some (0, 0, 300) := by kernel_rfl
  have v3 : num_GetVar.f idb 100 ([1] : List UInt8) (0 - (1 + n)) = some (0, 0, 300) := by
    rw [num_GetVar_ok (by omega) _ (by decide)]
    unfold getVar
    rw [if_neg (by omega)]
  simp only [Option.bind_some, Bool.not_true, cond, d1, d2, d3, hx, hz, ht, p1, p2, p3, g1, g2, g3, g4, g5, v1, v2, v3, law0_Num (show 1 ≤ 100 by omega), beq_self_eq_true]

/-! ### A row of numbers -/
def msk (x : Int) : Int := bitsOp .and .i64 x 2147483647
def enc (l : List Int) : List UInt8 := l.flatMap fun x => pv (msk x)
theorem enc_append (l m : List Int) : enc (l ++ m) = enc l ++ enc m := by simp [enc]
theorem enc_cons (x : Int) (l : List Int) : enc (x :: l) = pv (msk x) ++ enc l := by simp [enc]
theorem enc_length : ∀ l : List Int, (enc l).length ≤ 5 * l.length
  | [] => by simp [enc]
  | x :: l => by
    have h1 := enc_length l
    have h2 := (pv_length (msk x)).2
    have e : enc (x :: l) = pv (msk x) ++ enc l := by simp [enc]
    rw [e, List.length_append, List.length_cons]; omega
theorem NumRow_l2 (xs : List Int) (hx : (xs.length : Int) ≤ 17592186044415) (k : Nat) (hk : 20 ≤ k) : ∀ (j i : Nat), i + j = xs.length → ∀ n, j + 1 ≤ n → quiverlaw3_NumRow.l2 idb k n xs (enc xs) ((enc (xs.take i)).length : Int) (i : Int) = some true
  | 0, i, hij, n, hn => by
    obtain ⟨n, rfl⟩ : ∃ m, n = m + 1 := ⟨n - 1, by omega⟩
    rw [quiverlaw3_NumRow.l2_eq]
    have h1 : ¬ ((i : Int) < (xs.length : Int)) := by omega
    rw [List.take_of_length_le (by omega)]
    simp [h1]
  | j + 1, i, hij, n, hn => by
    obtain ⟨n, rfl⟩ : ∃ m, n = m + 1 := ⟨n - 1, by omega⟩
    rw [quiverlaw3_NumRow.l2_eq]
    have hlt : i < xs.length := by omega
    have h1 : ((i : Int) < (xs.length : Int)) := by omega
    have hle := enc_length xs
    have esplit : enc xs = enc (xs.take i) ++ pv (msk xs[i]) ++ enc (xs.drop (i + 1)) := by
      have : xs = xs.take i ++ (xs[i] :: xs.drop (i + 1)) := by rw [← List.drop_eq_getElem_cons hlt, List.take_append_drop]
      calc enc xs = enc (xs.take i ++ (xs[i] :: xs.drop (i + 1))) := by rw [← this]
        _ = _ := by rw [enc_append, enc_cons, List.append_assoc]
    have g : num_GetVar.f idb k (enc xs) ((enc (xs.take i)).length : Int) = some (msk xs[i], ((enc (xs.take i)).length : Int) + ((pv (msk xs[i])).length : Int), 0) := by
      rw [num_GetVar_ok (by omega) _ (by omega)]
      rw [esplit, getVar_put _ _ (msk xs[i]) (mask_may xs[i])]
    have hp := (pv_length (msk xs[i])).1
    have h2 : ¬ (((enc (xs.take i)).length : Int) + ((pv (msk xs[i])).length : Int) ≤ ((enc (xs.take i)).length : Int)) := by omega
    have e9 : IntKind.i64.wrap ((i : Int) + 1) = ((i + 1 : Nat) : Int) := by rw [wi64 _ (by omega)]; push_cast; rfl
    have e10 : ((enc (xs.take i)).length : Int) + ((pv (msk xs[i])).length : Int) = ((enc (xs.take (i + 1))).length : Int) := by
      rw [List.take_succ_eq_append_getElem hlt, enc_append]
      simp [enc]
    rw [e10] at h2
    have hm : (msk xs[i] != bitsOp .and .i64 xs[i] 2147483647) = false := by simp [msk]
    simp only [h1, decide_true, cond, g, Option.bind_some, law0_Num (show 1 ≤ k by omega), rd_get hlt, hm, bne_self_eq_false, Bool.not_false, h2, decide_false, e9, e10]
    exact NumRow_l2 xs hx k hk j (i + 1) (by omega) n (by omega)
theorem NumRow_l0 (xs : List Int) (hx : (xs.length : Int) ≤ 17592186044415) (k : Nat) (hk : 20 ≤ k) (hk2 : xs.length + 1 ≤ k) : ∀ (j i : Nat), i + j = xs.length → ∀ n, j + 1 ≤ n → quiverlaw3_NumRow.l0 idb k n xs (enc (xs.take i)) (i : Int) = some true
  | 0, i, hij, n, hn => by
    obtain ⟨n, rfl⟩ : ∃ m, n = m + 1 := ⟨n - 1, by omega⟩
    rw [quiverlaw3_NumRow.l0_eq]
    have h1 : ¬ ((i : Int) < (xs.length : Int)) := by omega
    rw [List.take_of_length_le (by omega)]
    simp only [h1, decide_false, cond]
    have := NumRow_l2 xs hx k hk xs.length 0 (by omega) k (by omega)
    simpa [enc] using this
  | j + 1, i, hij, n, hn => by
    obtain ⟨n, rfl⟩ : ∃ m, n = m + 1 := ⟨n - 1, by omega⟩
    rw [quiverlaw3_NumRow.l0_eq]
    have hlt : i < xs.length := by omega
    have h1 : ((i : Int) < (xs.length : Int)) := by omega
    have hp : num_PutVar.f idb k (bitsOp .and .i64 xs[i] 2147483647) = some (pv (msk xs[i]), 0) := by
      rw [num_PutVar_ok (by omega), putVar_may (mask_may xs[i])]; rfl
    have hl := enc_length (xs.take i)
    rw [List.length_take] at hl
    have hpl := (pv_length (msk xs[i])).2
    have h2 : (enc (xs.take i)).length + (pv (msk xs[i])).length ≤ 9223372036854775807 := by omega
    have e9 : IntKind.i64.wrap ((i : Int) + 1) = ((i + 1 : Nat) : Int) := by rw [wi64 _ (by omega)]; push_cast; rfl
    have e10 : enc (xs.take i) ++ pv (msk xs[i]) = enc (xs.take (i + 1)) := by
      rw [List.take_succ_eq_append_getElem hlt, enc_append]
      simp [enc]
    simp only [h1, decide_true, cond, rd_get hlt, Option.bind_some, hp, law0_Num (show 1 ≤ k by omega), bne_self_eq_false, h2, e9, e10]
    exact NumRow_l0 xs hx k hk hk2 j (i + 1) (by omega) n (by omega)
theorem pure_NumRow (xs : List Int) (hx : (xs.length : Int) ≤ 17592186044415) : ∃ k, quiverlaw3_NumRow.f idb k xs = some true := by
  refine ⟨xs.length + 60 + 1, ?_⟩
  rw [quiverlaw3_NumRow.f_eq, show xs.length + 60 = (xs.length + 20) + 40 by omega, awake3]
  simp only [Option.bind_some, Bool.not_true, cond]
  have := NumRow_l0 xs hx (xs.length + 20 + 40) (by omega) (by omega) xs.length 0 (by omega) (xs.length + 20 + 40) (by omega)
  simpa [enc] using this

end Go.Proofs.YtgedegmcbkligaaP
