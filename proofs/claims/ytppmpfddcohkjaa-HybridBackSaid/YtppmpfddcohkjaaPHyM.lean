/- The law HybridBack, as the machine answers it; no condition but the sizes that a machine has. -/
import Derived.Test.YtppmpfddcohkjaaPHyL
namespace Go.Proofs.YtppmpfddcohkjaaP
open Go Go.Proofs.YtppmpfddcohkjaaA

theorem putH_length {w : Nat} (hw : w ≤ 16) : ∀ (m : Nat) (xs : List Int), xs.length ≤ m → xs.length ≤ 4096 → (putH w xs).length ≤ 25 * xs.length := by
  intro m
  induction m using Nat.strongRecOn with
  | _ m ih =>
    intro xs h1 h2
    by_cases hx : xs = []
    · subst hx; rw [putH_nil]; simp
    · have hl0 : xs.length ≠ 0 := fun e => hx (List.eq_nil_of_length_eq_zero e)
      by_cases h8 : 8 ≤ same xs
      · have hle := same_le xs
        have hpl := pv_length (2 * (same xs : Int))
        have hwl := wd_length (xs.headD 0) w
        have hdl : (xs.drop (same xs)).length = xs.length - same xs := List.length_drop
        have := ih (m - same xs) (by omega) (xs.drop (same xs)) (by omega) (by omega)
        rw [putH_run hx h8, List.length_append, List.length_append]; omega
      · have hg := grp_le xs
        have hgp := grp_pos hx (by omega)
        have hpl := pv_length (2 * (((grp xs + 7) / 8 : Nat) : Int) + 1)
        have hrl := rows_bytes hw (xs.take (grp xs))
        have htl : (xs.take (grp xs)).length = grp xs := by rw [List.length_take]; omega
        have hdl : (xs.drop (grp xs)).length = xs.length - grp xs := List.length_drop
        have := ih (m - grp xs) (by omega) (xs.drop (grp xs)) (by omega) (by omega)
        rw [putH_grp hx (by omega), List.length_append, List.length_append]; omega
/-- A number's low bits. -/
def mk (w : Nat) (x : Int) : Int := bitsOp .and .i64 x (2 ^ w - 1)
theorem mk_mod {w : Nat} (hw : w ≤ 16) (x : Int) : mk w x = x % 2 ^ w := and_mask x w (by omega)
theorem mk_ok {w : Nat} (hw : w ≤ 16) (x : Int) : okX w (mk w x) = true := by
  have hp := pow16 hw
  rw [mk_mod hw]
  unfold okX
  rw [dT (Int.emod_nonneg _ (by omega)), dT (Int.emod_lt_of_pos _ (by omega))]; rfl
theorem mask_w {w : Nat} (hw : w ≤ 16) : IntKind.i64.wrap ((IntKind.i64.wrap (1 * 2 ^ (min ((w : Int)).toNat IntKind.i64.bits))) - 1) = 2 ^ w - 1 := by
  have hp := pow16 hw
  rw [Int.toNat_natCast, min64 hw, Int.one_mul, wi64 (2 ^ w) (by omega), wi64 _ (by omega)]
theorem okL_map {w : Nat} (hw : w ≤ 16) (xs : List Int) : okL w (xs.map (mk w)) = true := by
  unfold okL
  rw [List.all_eq_true]
  intro x hx
  obtain ⟨y, _, rfl⟩ := List.mem_map.1 hx
  exact mk_ok hw y
theorem putT_ok {w : Nat} (hw : w ≤ 16) {ys : List Int} (hl : ys.length ≤ 4096) (ho : okL w ys = true) : putT (w : Int) ys = (putH w ys, 0) := by
  have hm : mayH (w : Int) ys = true := mayH_iff.2 ⟨by omega, by omega, by omega, by rw [Int.toNat_natCast]; exact ho⟩
  unfold putT
  rw [if_pos hm, Int.toNat_natCast]
theorem Get_over {k w : Nat} (hk : 1400000 ≤ k) (hw : w ≤ 16) {ys : List Int} (hl : ys.length ≤ 4000) (ho : okL w ys = true) {c : Nat} (hc : ys.length + 8 ≤ c) : ∃ res, hybrid_Get.f idb k (putH w ys) (w : Int) (c : Int) = some res ∧ res.2 = 2100 := by
  have hpl := putH_length hw ys.length ys (Nat.le_refl _) (by omega)
  obtain ⟨res, e1, hg⟩ := Get_total (k := k) (by omega) (putH w ys) (by omega) (w : Int) (c : Int)
  rcases hg with rfl | ⟨zs, rfl, h1, h2⟩
  · exact ⟨_, e1, rfl⟩
  · exfalso
    obtain ⟨_, _, h3, h4, h5⟩ := putT_some h1
    rw [Int.toNat_natCast] at h4 h5
    have d1 := decG_over hw ys.length ys [] c (zs.length + 1) (Nat.le_refl _) (by omega) ho (by simpa using hc)
    have d2 := decG_put hw [] zs.length zs [] c (zs.length + 1) (Nat.le_refl _) (by omega) h4 (by simp; omega) (by omega)
    rw [List.append_nil, h5, d1] at d2
    cases d2
theorem and15 (x : Int) : 0 ≤ bitsOp .and .i64 x 15 ∧ bitsOp .and .i64 x 15 ≤ 15 := by
  have e := and_mask x 4 (by omega)
  rw [show ((2 : Int) ^ 4 - 1) = 15 from rfl, show ((2 : Int) ^ 4) = 16 from rfl] at e
  rw [e]; omega
theorem back_end {k w : Nat} (hk : 1400000 ≤ k) (hw : w ≤ 16) {ys : List Int} (hl : ys.length ≤ 200) (ho : okL w ys = true) (more : Int) :
    ((hybrid_Put.f idb k ys (w : Int)).bind fun r_2 =>
     (hybrid_Get.f idb k r_2.1 (w : Int) ((ys).length : Int)).bind fun r_3 =>
     (hybrid_Get.f idb k r_2.1 (w : Int) (IntKind.i64.wrap ((IntKind.i64.wrap (((ys).length : Int) + 8)) + (bitsOp .and .i64 more 15)))).bind fun r_4 =>
     (quiverlaw0_Num.f idb k r_2.2).bind fun r_5 =>
     bif (r_5 == 0) then
      (quiverlaw0_Num.f idb k r_3.2).bind fun r_6 =>
      bif (r_6 == 0) then
       (quiverlaw0_SameInts.f idb k ys r_3.1).bind fun r_7 =>
       bif r_7 then
        (quiverlaw0_Num.f idb k r_4.2).bind fun r_8 =>
        some (r_8 == 2100)
       else
        some false
      else
       some false
     else
      some false) = some true := by
  have hpl := putH_length hw ys.length ys (Nat.le_refl _) (by omega)
  have hp := putT_ok hw (ys := ys) (by omega) ho
  have hm := and15 more
  obtain ⟨res, e1, e2⟩ := Get_over (k := k) (by omega) hw (ys := ys) (by omega) ho (c := ys.length + 8 + (bitsOp .and .i64 more 15).toNat) (by omega)
  have hc : IntKind.i64.wrap ((IntKind.i64.wrap (((ys).length : Int) + 8)) + (bitsOp .and .i64 more 15)) = ((ys.length + 8 + (bitsOp .and .i64 more 15).toNat : Nat) : Int) := by
    rw [wi64 ((ys.length : Int) + 8) (by omega), wi64 _ (by omega)]; omega
  rw [Put_any (by omega), bS, hp]
  dsimp only
  rw [Get_put (by omega) hp (by omega), bS, hc, e1, bS]
  have hN : ∀ x, quiverlaw0_Num.f idb k x = some x := fun x => law0_Num (by omega) x
  have hS := SameInts_ok (k := k) ys (by omega) (by omega)
  simp only [hN, bS, BEq.rfl, cT, hS, e2]
theorem pure_HybridBack (xs : List Int) (wd more : Int) (hx : xs.length * 8 ≤ 140737488351232) : ∃ k, quiverlaw21_HybridBack.f idb k xs wd more = some true := by
  refine ⟨2000000 + 1, ?_⟩
  have hu := u64_mod wd 17 (by omega) (by omega)
  obtain ⟨w, hw⟩ : ∃ w : Nat, IntKind.i64.wrap (Int.tmod (IntKind.u64.wrap wd) 17) = (w : Int) := ⟨(IntKind.i64.wrap (Int.tmod (IntKind.u64.wrap wd) 17)).toNat, by have := hu.2.1; push_cast at this; omega⟩
  have hw16 : w ≤ 16 := by
    have := hu.2.2
    push_cast at this
    rw [hw] at this; omega
  rw [quiverlaw21_HybridBack.f_eq, awake21 (by omega), bS, hw]
  simp only [Bool.not_true, cF]
  have h0 : ([] : List Int) = (xs.take 0).map (mk w) := by simp
  refine Eq.trans (congrArg (fun z => quiverlaw21_HybridBack.l0 idb 2000000 2000000 xs more (w : Int) 0 z) h0) ?_
  refine loop_up (F := fun n i => quiverlaw21_HybridBack.l0 idb 2000000 n xs more (w : Int) (i : Int) ((xs.take i).map (mk w))) (N := min xs.length 200) ?_ ?_ 2000000 0 (by omega) (by omega)
  · intro n i hi
    have hil : i < xs.length := by omega
    have ht : (xs.take (i + 1)).map (mk w) = (xs.take i).map (mk w) ++ [mk w xs[i]] := by
      rw [List.take_add_one, List.getElem?_eq_getElem hil, List.map_append]; rfl
    rw [quiverlaw21_HybridBack.l0_eq, dT (by omega), cT, dT (by omega), cT, rd_get hil, bS, dF (show ¬ ((w : Int) < 0) by omega), cF, mask_w hw16, dT (by simp only [List.length_map, List.length_take, List.length_cons, List.length_nil]; omega), cT, wsucc (by omega), ht]
    rfl
  · intro n
    have hl : ((xs.take (min xs.length 200)).map (mk w)).length ≤ 200 := by rw [List.length_map, List.length_take]; omega
    have he := back_end (k := 2000000) (by omega) hw16 (ys := (xs.take (min xs.length 200)).map (mk w)) hl (okL_map hw16 _) more
    rw [quiverlaw21_HybridBack.l0_eq]
    by_cases h : xs.length ≤ 200
    · rw [dF (by omega), cF]; exact he
    · rw [dT (by omega), cT, dF (by omega), cF]; exact he
end Go.Proofs.YtppmpfddcohkjaaP
