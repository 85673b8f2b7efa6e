/- The law HybridMixed, as the machine answers it; no condition but the sizes that a machine has. -/
import Derived.Test.YtppmpfddcohkjaaPHyM
namespace Go.Proofs.YtppmpfddcohkjaaP
open Go Go.Proofs.YtppmpfddcohkjaaA

theorem Get_more {k w : Nat} (hk : 1400000 ≤ k) (hw : w ≤ 16) {ys : List Int} (hl : ys.length ≤ 4000) (ho : okL w ys = true) (b : UInt8) : ∃ res, hybrid_Get.f idb k (putH w ys ++ [b]) (w : Int) (ys.length : Int) = some res ∧ res.2 = 2100 := by
  have hpl := putH_length hw ys.length ys (Nat.le_refl _) (by omega)
  obtain ⟨res, e1, hg⟩ := Get_total (k := k) (by omega) (putH w ys ++ [b]) (by rw [List.length_append]; simp only [List.length_cons, List.length_nil]; omega) (w : Int) (ys.length : Int)
  rcases hg with rfl | ⟨zs, rfl, h1, h2⟩
  · exact ⟨_, e1, rfl⟩
  · exfalso
    obtain ⟨_, _, h3, h4, h5⟩ := putT_some h1
    rw [Int.toNat_natCast] at h4 h5
    have := putH_inj hw (xs := zs) (zs := ys) (t := []) (u := [b]) h4 ho (by omega) (by omega) (by rw [List.append_nil]; exact h5)
    cases this.2
theorem mixed_end {k w : Nat} (hk : 1400000 ≤ k) (hw : w ≤ 16) {ys : List Int} (hl : ys.length ≤ 400) (ho : okL w ys = true) :
    ((hybrid_Put.f idb k ys (w : Int)).bind fun r_2 =>
     (hybrid_Get.f idb k r_2.1 (w : Int) ((ys).length : Int)).bind fun r_3 =>
     bif decide ((r_2.1).length + (([0] : List UInt8)).length ≤ 9223372036854775807) then
      (hybrid_Get.f idb k (r_2.1 ++ ([0] : List UInt8)) (w : Int) ((ys).length : Int)).bind fun r_4 =>
      (quiverlaw0_Num.f idb k r_2.2).bind fun r_5 =>
      bif (r_5 == 0) then
       (quiverlaw0_Num.f idb k r_3.2).bind fun r_6 =>
       bif (r_6 == 0) then
        (quiverlaw0_SameInts.f idb k ys r_3.1).bind fun r_7 =>
        bif r_7 then
         (quiverlaw0_Num.f idb k r_4.2).bind fun r_8 =>
         some (r_8 == 2100)
        else
         some false
       else
        some false
      else
       some false
     else
      none) = some true := by
  have hpl := putH_length hw ys.length ys (Nat.le_refl _) (by omega)
  have hp := putT_ok hw (ys := ys) (by omega) ho
  obtain ⟨res, e1, e2⟩ := Get_more (k := k) (by omega) hw (ys := ys) (by omega) ho 0
  have hN : ∀ x, quiverlaw0_Num.f idb k x = some x := fun x => law0_Num (by omega) x
  have hS := SameInts_ok (k := k) ys (by omega) (by omega)
  rw [Put_any (by omega), bS, hp]
  dsimp only
  rw [Get_put (by omega) hp (by omega), bS, dT (by simp only [List.length_cons, List.length_nil]; omega), cT, e1, bS]
  simp only [hN, bS, BEq.rfl, cT, hS, e2]
theorem okL_snoc {w : Nat} {ys : List Int} {x : Int} (h : okL w ys = true) (hx : okX w x = true) : okL w (ys ++ [x]) = true := by
  unfold okL at *
  rw [List.all_append, h]
  simp [hx]
theorem mixed_l2 {w : Nat} (hw : w ≤ 16) {sizes : List Int} {i : Nat} (hi : i < sizes.length) (h12 : i < 12) (v : Int) (hv : okX w v = true) (m1 : Nat)
    (next : ∀ ys : List Int, okL w ys = true → ys.length ≤ 31 * (i + 1) → quiverlaw21_HybridMixed.l0 idb 2000000 m1 sizes (w : Int) ((i + 1 : Nat) : Int) ys = some true) :
    ∀ (d j : Nat) (ys : List Int) (m : Nat), j + d = (sizes[i] % 32).toNat → okL w ys = true → ys.length ≤ 31 * i + j → d < m → quiverlaw21_HybridMixed.l2 idb 2000000 m1 m sizes (w : Int) (i : Int) v (j : Int) ys = some true := by
  intro d
  have h31 : bitsOp .and .i64 sizes[i] 31 = sizes[i] % 32 := by
    have e := and_mask sizes[i] 5 (by omega)
    rw [show ((2 : Int) ^ 5 - 1) = 31 from rfl, show ((2 : Int) ^ 5) = 32 from rfl] at e
    exact e
  induction d with
  | zero =>
    intro j ys m h1 h2 h3 h4
    obtain ⟨m, rfl⟩ : ∃ q, m = q + 1 := ⟨m - 1, by omega⟩
    rw [quiverlaw21_HybridMixed.l2_eq, rd_get hi, bS, h31, dF (by omega), cF, wsucc (by omega)]
    exact next ys h2 (by omega)
  | succ d ih =>
    intro j ys m h1 h2 h3 h4
    obtain ⟨m, rfl⟩ : ∃ q, m = q + 1 := ⟨m - 1, by omega⟩
    rw [quiverlaw21_HybridMixed.l2_eq, rd_get hi, bS, h31, dT (by omega), cT, bS, mask_w hw, wsucc (by omega)]
    cases (bitsOp .and .i64 sizes[i] 1 == 0) with
    | true =>
      rw [cT, dT (by simp only [List.length_cons, List.length_nil]; omega), cT]
      exact ih (j + 1) _ m (by omega) (okL_snoc h2 hv) (by rw [List.length_append]; simp only [List.length_cons, List.length_nil]; omega) (by omega)
    | false =>
      rw [cF, dF (show ¬ ((w : Int) < 0) by omega), cF, dT (by simp only [List.length_cons, List.length_nil]; omega), cT]
      exact ih (j + 1) _ m (by omega) (okL_snoc h2 (mk_ok hw _)) (by rw [List.length_append]; simp only [List.length_cons, List.length_nil]; omega) (by omega)
theorem mixed_l0 {w : Nat} (hw : w ≤ 16) (sizes : List Int) : ∀ (d i : Nat) (ys : List Int) (n : Nat), i + d = min sizes.length 12 → okL w ys = true → ys.length ≤ 31 * i → d < n → quiverlaw21_HybridMixed.l0 idb 2000000 n sizes (w : Int) (i : Int) ys = some true := by
  intro d
  induction d with
  | zero =>
    intro i ys n h1 h2 h3 h4
    obtain ⟨n, rfl⟩ : ∃ q, n = q + 1 := ⟨n - 1, by omega⟩
    have he := mixed_end (k := 2000000) (by omega) hw (ys := ys) (by omega) h2
    rw [quiverlaw21_HybridMixed.l0_eq]
    by_cases h : sizes.length ≤ 12
    · rw [dF (by omega), cF]; exact he
    · rw [dT (by omega), cT, dF (by omega), cF]; exact he
  | succ d ih =>
    intro i ys n h1 h2 h3 h4
    obtain ⟨n, rfl⟩ : ∃ q, n = q + 1 := ⟨n - 1, by omega⟩
    have hi : i < sizes.length := by omega
    rw [quiverlaw21_HybridMixed.l0_eq, dT (by omega), cT, dT (by omega), cT, rd_get hi, bS, dF (show ¬ ((w : Int) < 0) by omega), cF, mask_w hw]
    exact mixed_l2 hw hi (by omega) _ (mk_ok hw _) n (fun ys q1 q2 => ih (i + 1) ys n (by omega) q1 q2 (by omega)) (sizes[i] % 32).toNat 0 ys 2000000 (by omega) h2 (by omega) (by omega)
theorem pure_HybridMixed (sizes : List Int) (wd : Int) : ∃ k, quiverlaw21_HybridMixed.f idb k sizes wd = some true := by
  refine ⟨2000000 + 1, ?_⟩
  have hu := u64_mod wd 16 (by omega) (by omega)
  obtain ⟨v, hv⟩ : ∃ v : Nat, IntKind.i64.wrap (Int.tmod (IntKind.u64.wrap wd) 16) = (v : Int) := ⟨(IntKind.i64.wrap (Int.tmod (IntKind.u64.wrap wd) 16)).toNat, by have := hu.2.1; push_cast at this; omega⟩
  have hv16 : v < 16 := by
    have := hu.2.2
    push_cast at this
    rw [hv] at this; omega
  have hwv : IntKind.i64.wrap (1 + (v : Int)) = ((1 + v : Nat) : Int) := by rw [wi64 _ (by omega)]; push_cast; rfl
  rw [quiverlaw21_HybridMixed.f_eq, awake21 (by omega), bS, hv, hwv]
  simp only [Bool.not_true, cF]
  exact mixed_l0 (by omega) sizes (min sizes.length 12) 0 [] 2000000 (by omega) rfl (by simp) (by omega)
end Go.Proofs.YtppmpfddcohkjaaP
