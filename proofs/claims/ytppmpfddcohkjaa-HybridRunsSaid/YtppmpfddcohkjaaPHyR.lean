/- The law HybridRuns, as the machine answers it; no condition but the sizes that a machine has. -/
import Derived.Test.YtppmpfddcohkjaaPHyM
namespace Go.Proofs.YtppmpfddcohkjaaP
open Go Go.Proofs.YtppmpfddcohkjaaA

theorem takeWhile_rep (v : Int) : ∀ k, (List.replicate k v).takeWhile (· == v) = List.replicate k v
  | 0 => rfl
  | k + 1 => by rw [List.replicate_succ, List.takeWhile_cons, BEq.rfl, if_pos rfl, takeWhile_rep v k]
theorem same_rep (v : Int) : ∀ k, same (List.replicate k v) = k
  | 0 => rfl
  | k + 1 => by
    rw [List.replicate_succ]
    simp only [same, takeWhile_rep, List.length_replicate]; omega
theorem and_n (x : Int) (m : Nat) (hm : m ≤ 16) (c : Int) (hc : c = 2 ^ m - 1) : 0 ≤ bitsOp .and .i64 x c ∧ bitsOp .and .i64 x c < 2 ^ m := by
  have hp := pow16 hm
  rw [hc, and_mask x m (by omega)]
  exact ⟨Int.emod_nonneg _ (by omega), Int.emod_lt_of_pos _ (by omega)⟩
/-- The bytes of so many same numbers. -/
def wantR (k : Nat) (v : Int) : List UInt8 :=
  if 8 ≤ k then strOfBytes [IntKind.u8.wrap (2 * (k : Int)), IntKind.u8.wrap v]
  else if 0 < k then strOfBytes (3 :: (List.replicate k (IntKind.u8.wrap v) ++ List.replicate (8 - k) 0))
  else []
theorem pv_small : ∀ k : Fin 64, pv (2 * (k.val : Int)) = strOfBytes [IntKind.u8.wrap (2 * (k.val : Int))] := by decide +kernel
theorem pv_three : pv 3 = strOfBytes [3] := by decide +kernel
theorem byteN_eq {xs : List Bool} {q : Nat} {x : Int} (hx : 0 ≤ x) : ∀ j, j ≤ 16 → (∀ n, n < j → xs[8 * q + n]? = some (tb x n)) → (byteN xs q j : Int) = x % 2 ^ j
  | 0, _, _ => by simp [byteN]
  | j + 1, hj, h => by
    have ih := byteN_eq (xs := xs) (q := q) hx j (by omega) fun n hn => h n (by omega)
    have e : (2 : Int) ^ (j + 1) = 2 ^ j * 2 := Int.pow_succ 2 j
    have hp : (0 : Int) < 2 ^ j := Int.pow_pos (by omega)
    rw [byteN, h j (by omega), tb_eq (by omega), e, emod_two x hp]
    have h2 : x / 2 ^ j % 2 = 0 ∨ x / 2 ^ j % 2 = 1 := by omega
    rcases h2 with h2 | h2
    · rw [h2, Int.mul_zero, if_neg (by simp)]; simpa using ih
    · rw [h2, Int.mul_one, if_pos (by simp)]
      push_cast
      rw [ih]
theorem bits8 {k : Nat} (h0 : 0 < k) (h8 : k < 8) {v : Int} (hv : 0 ≤ v ∧ v < 256) : bitsT (rows (List.replicate k v) 8) = strOfBytes (List.replicate k (IntKind.u8.wrap v) ++ List.replicate (8 - k) 0) := by
  have hp : pad8 (List.replicate k v).length = 8 := by rw [List.length_replicate]; unfold pad8; omega
  have hl : (rows (List.replicate k v) 8).length = 64 := by rw [rows_length, hp]
  have hb : ∀ q, q < 8 → UInt8.ofNat (byteN (rows (List.replicate k v) 8) q 8) = UInt8.ofNat (if q < k then v else 0).toNat := by
    intro q hq
    have hg : ∀ n, n < 8 → (rows (List.replicate k v) 8)[8 * q + n]? = some (tb (if q < k then v else 0) n) := by
      intro n hn
      have := rowsTo_get (List.replicate k v) 8 (pad8 (List.replicate k v).length) q n (by omega) hn
      rw [Nat.mul_comm q 8] at this
      unfold rows
      rw [this]
      congr 1
      by_cases h : q < k
      · rw [bitX_some (by simpa using h), if_pos h]; simp
      · rw [bitX_none (by simpa using h), if_neg h, tb_eq (by omega)]; simp
    have h := byteN_eq (x := if q < k then v else 0) (by split <;> omega) 8 (by omega) hg
    have e8 : (2 : Int) ^ 8 = 256 := by decide
    rw [e8] at h
    congr 1
    split at h <;> rename_i hc
    · rw [if_pos hc]; omega
    · rw [if_neg hc]; omega
  unfold bitsT strOfBytes
  rw [hl]
  refine List.ext_getElem (by simp; omega) fun q h1 h2 => ?_
  have hq : q < 8 := by simpa using h1
  rw [List.getElem_map, List.getElem_range, hb q hq, List.getElem_map, List.getElem_append]
  have wv : IntKind.u8.wrap v = v := by rw [wu8]; omega
  by_cases h : q < k
  · rw [if_pos h, dif_pos (by simpa using h), List.getElem_replicate, wv]
  · rw [if_neg h, dif_neg (by simpa using h), List.getElem_replicate]
theorem put_rep {k : Nat} (hk : k < 64) {v : Int} (hv : 0 ≤ v ∧ v < 256) : putH 8 (List.replicate k v) = wantR k v := by
  have hs := same_rep v k
  unfold wantR
  by_cases h8 : 8 ≤ k
  · have hx : List.replicate k v ≠ [] := fun e => by have := congrArg List.length e; simp at this; omega
    rw [if_pos h8, putH_run hx (by omega), hs]
    have hd : (List.replicate k v).headD 0 = v := by cases k with | zero => omega | succ k => rfl
    have hdr : (List.replicate k v).drop k = [] := by simp
    have hp := pv_small ⟨k, hk⟩
    dsimp only at hp
    have hw : wd v 8 = strOfBytes [IntKind.u8.wrap v] := by
      unfold wd wd1
      rw [if_neg (by omega), if_pos (by omega), fdiv_pos _ _ (by omega), Int.ediv_one]
    rw [hd, hdr, putH_nil, hp, hw]; rfl
  · rw [if_neg h8]
    by_cases h0 : 0 < k
    · have hx : List.replicate k v ≠ [] := fun e => by have := congrArg List.length e; simp at this; omega
      have hg : grp (List.replicate k v) = k := by rw [grp_eq, hs, if_neg h8, List.length_replicate, if_pos (by omega)]
      have htk : (List.replicate k v).take k = List.replicate k v := by rw [List.take_of_length_le (by simp)]
      have hdr : (List.replicate k v).drop k = [] := by simp
      rw [if_pos h0, putH_grp hx (by omega), hg, show (k + 7) / 8 = 1 by omega, htk, hdr, putH_nil, bits8 h0 (by omega) hv, List.append_nil]
      show pv 3 ++ _ = _
      rw [pv_three]; rfl
    · rw [if_neg h0, show k = 0 by omega]; rfl
theorem pure_HybridRuns (a0 a1 : Int) : ∃ k, quiverlaw21_HybridRuns.f idb k a0 a1 = some true := by
  refine ⟨2000000 + 1, ?_⟩
  have hk := and_n a0 6 (by omega) 63 (by decide)
  have hv := and_n a1 8 (by omega) 255 (by decide)
  generalize hv1 : bitsOp .and .i64 a1 255 = v at hv
  obtain ⟨k, hk1⟩ : ∃ k : Nat, bitsOp .and .i64 a0 63 = (k : Int) := ⟨(bitsOp .and .i64 a0 63).toNat, by omega⟩
  rw [hk1] at hk
  have e6 : (2 : Int) ^ 6 = 64 := by decide
  have e8 : (2 : Int) ^ 8 = 256 := by decide
  rw [e6] at hk
  rw [e8] at hv
  have hk64 : k < 64 := by omega
  rw [quiverlaw21_HybridRuns.f_eq, awake21 (by omega), bS, hk1, hv1]
  simp only [Bool.not_true, cF]
  have h0 : ([] : List Int) = List.replicate 0 v := rfl
  rw [h0]
  refine loop_up (F := fun n i => quiverlaw21_HybridRuns.l0 idb 2000000 n (k : Int) v (i : Int) (List.replicate i v)) (N := k) ?_ ?_ 2000000 0 (by omega) (by omega)
  · intro n i hi
    rw [quiverlaw21_HybridRuns.l0_eq, dT (by omega), cT, dT (by simp only [List.length_replicate, List.length_cons, List.length_nil]; omega), cT, wsucc (by omega), List.replicate_succ']
  · intro n
    have ho : okL 8 (List.replicate k v) = true := by
      unfold okL
      rw [List.all_eq_true]
      intro x hx
      rw [List.eq_of_mem_replicate hx]
      unfold okX
      rw [e8, dT hv.1, dT hv.2]; rfl
    have hp : putT 8 (List.replicate k v) = (putH 8 (List.replicate k v), 0) := putT_ok (w := 8) (by omega) (by simp; omega) ho
    have hN : ∀ x, quiverlaw0_Num.f idb 2000000 x = some x := fun x => law0_Num (by omega) x
    rw [quiverlaw21_HybridRuns.l0_eq, dF (by omega), cF, Put_any (by omega), bS, hp, put_rep hk64 hv]
    simp only [hN, bS, bne_self_eq_false, cF]
    unfold wantR
    by_cases h8 : 8 ≤ k
    · rw [dT (by omega), cT, if_pos h8, wi64 (2 * (k : Int)) (by omega), BEq.rfl]
    · rw [dF (by omega), cF, if_neg h8]
      by_cases hz : 0 < k
      · rw [dT (by omega), cT, if_pos hz]
        have hb0 : ([3, 0, 0, 0, 0, 0, 0, 0, 0] : List Int) = 3 :: (List.replicate 0 (IntKind.u8.wrap v) ++ List.replicate (8 - 0) 0) := rfl
        rw [hb0]
        refine loop_up (F := fun n i => quiverlaw21_HybridRuns.l2 idb 2000000 n (k : Int) v (strOfBytes (3 :: (List.replicate k (IntKind.u8.wrap v) ++ List.replicate (8 - k) 0))) (i : Int) (3 :: (List.replicate i (IntKind.u8.wrap v) ++ List.replicate (8 - i) 0))) (N := k) ?_ ?_ 2000000 0 (by omega) (by omega)
        · intro n i hi
          have hi1 : IntKind.i64.wrap (1 + (i : Int)) = ((i + 1 : Nat) : Int) := by rw [wi64 _ (by omega)]; push_cast; omega
          have hll : (3 :: (List.replicate i (IntKind.u8.wrap v) ++ List.replicate (8 - i) (0 : Int))).length = 9 := by simp; omega
          have hset := set_app (List.replicate i (IntKind.u8.wrap v)) (8 - (i + 1)) 0 (IntKind.u8.wrap v)
          rw [List.length_replicate, show 8 - (i + 1) + 1 = 8 - i by omega] at hset
          rw [quiverlaw21_HybridRuns.l2_eq, dT (by omega), cT, hi1, hll, dT (by omega), dT (by omega)]
          simp only [Bool.and_self, cT, Int.toNat_natCast]
          rw [List.getElem?_eq_getElem (by rw [hll]; omega)]
          simp only [bS]
          rw [List.set_cons_succ, hset, wsucc (by omega), List.replicate_succ']
        · intro n
          rw [quiverlaw21_HybridRuns.l2_eq, dF (by omega), cF, BEq.rfl]
      · rw [dF (by omega), cF, if_neg hz]; rfl
end Go.Proofs.YtppmpfddcohkjaaP
