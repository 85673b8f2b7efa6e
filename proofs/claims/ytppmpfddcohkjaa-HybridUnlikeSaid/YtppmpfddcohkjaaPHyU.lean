/- The law HybridUnlike, as the machine answers it; no condition but the sizes that a machine has. -/
import Derived.Test.YtppmpfddcohkjaaPHyM
namespace Go.Proofs.YtppmpfddcohkjaaP
open Go Go.Proofs.YtppmpfddcohkjaaA

theorem bitsOp_xor (k : IntKind) (x y : Int) : bitsOp .xor k x y = k.wrap ((((x % (2 ^ k.bits : Int)).toNat ^^^ (y % (2 ^ k.bits : Int)).toNat : Nat)) : Int) := by
  show k.wrap _ = _
  rw [BitVec.toNat_xor, toNat_ofInt, toNat_ofInt]
theorem xor1 {x : Int} {w : Nat} (hw : w ≤ 16) (hw1 : 1 ≤ w) (h : okX w x = true) : okX w (bitsOp .xor .i64 x 1) = true ∧ bitsOp .xor .i64 x 1 ≠ x := by
  unfold okX at h
  simp only [Bool.and_eq_true, decide_eq_true_eq] at h
  have hp := pow16 hw
  obtain ⟨n, rfl⟩ : ∃ n : Nat, x = (n : Int) := ⟨x.toNat, by omega⟩
  have hn : n < 2 ^ w := by
    have e : ((2 : Int) ^ w) = ((2 ^ w : Nat) : Int) := by push_cast; rfl
    rw [e] at h; omega
  have hb : bitsOp .xor .i64 (n : Int) 1 = ((n ^^^ 1 : Nat) : Int) := by
    have hx : n ^^^ 1 < 2 ^ 16 := Nat.xor_lt_two_pow (Nat.lt_of_lt_of_le hn (Nat.pow_le_pow_right (by omega) hw)) (by omega)
    have e1 : ((n : Int) % (2 ^ IntKind.i64.bits : Int)).toNat = n := by
      have : n < 65536 := Nat.lt_of_lt_of_le hn (by have := Nat.pow_le_pow_right (n := 2) (by omega) hw; omega)
      simp only [IntKind.bits]; omega
    have e2 : ((1 : Int) % (2 ^ IntKind.i64.bits : Int)).toNat = 1 := by decide
    rw [bitsOp_xor, e1, e2, wi64 _ (by omega)]
  rw [hb]
  have hx : n ^^^ 1 < 2 ^ w := Nat.xor_lt_two_pow hn (Nat.lt_of_lt_of_le (by omega) (Nat.pow_le_pow_right (n := 2) (by omega) hw1))
  refine ⟨?_, ?_⟩
  · unfold okX
    have e : ((2 : Int) ^ w) = ((2 ^ w : Nat) : Int) := by push_cast; rfl
    rw [e, dT (by omega), dT (by omega)]; rfl
  · intro e
    have e' : n ^^^ 1 = n := by omega
    have h7 : n ^^^ (n ^^^ 1) = 1 := by rw [← Nat.xor_assoc, Nat.xor_self, Nat.zero_xor]
    rw [e', Nat.xor_self] at h7
    omega
theorem unlike_end {k w : Nat} (hk : 1400000 ≤ k) (hw : w ≤ 16) (hw1 : 1 ≤ w) {ys : List Int} (hl : ys.length ≤ 100) (ho : okL w ys = true) (at_ : Int) :
    (bif (((ys).length : Int) == 0) then some true
     else
      bif decide (((([] : List Int)).length + (ys).length) * 8 ≤ 140737488355328) then
       bif (IntKind.u64.wrap ((([] : List Int) ++ ys).length : Int) == 0) then none
       else
        bif decide (0 ≤ IntKind.i64.wrap (Int.tmod (IntKind.u64.wrap at_) (IntKind.u64.wrap ((([] : List Int) ++ ys).length : Int)))) && decide (IntKind.i64.wrap (Int.tmod (IntKind.u64.wrap at_) (IntKind.u64.wrap ((([] : List Int) ++ ys).length : Int))) < ((([] : List Int) ++ ys).length : Int)) then
         ((([] : List Int) ++ ys)[(IntKind.i64.wrap (Int.tmod (IntKind.u64.wrap at_) (IntKind.u64.wrap ((([] : List Int) ++ ys).length : Int)))).toNat]?).bind fun e_2 =>
         bif decide (0 ≤ IntKind.i64.wrap (Int.tmod (IntKind.u64.wrap at_) (IntKind.u64.wrap ((([] : List Int) ++ ys).length : Int)))) && decide (IntKind.i64.wrap (Int.tmod (IntKind.u64.wrap at_) (IntKind.u64.wrap ((([] : List Int) ++ ys).length : Int))) < ((([] : List Int) ++ ys).length : Int)) then
          ((([] : List Int) ++ ys)[(IntKind.i64.wrap (Int.tmod (IntKind.u64.wrap at_) (IntKind.u64.wrap ((([] : List Int) ++ ys).length : Int)))).toNat]?).bind fun _ =>
          (hybrid_Put.f idb k ys (w : Int)).bind fun r_4 =>
          (hybrid_Put.f idb k ((([] : List Int) ++ ys).set ((IntKind.i64.wrap (Int.tmod (IntKind.u64.wrap at_) (IntKind.u64.wrap ((([] : List Int) ++ ys).length : Int)))).toNat) (bitsOp .xor .i64 e_2 1)) (w : Int)).bind fun r_5 =>
          (quiverlaw0_Num.f idb k r_4.2).bind fun r_6 =>
          bif (r_6 == 0) then
           (quiverlaw0_Num.f idb k r_5.2).bind fun r_7 =>
           bif (r_7 == 0) then some (r_4.1 != r_5.1) else some false
          else some false
         else none
        else none
      else none) = some true := by
  by_cases hz : ys.length = 0
  · rw [hz]; rfl
  · have h1 : (((ys).length : Int) == 0) = false := by simpa using hz
    obtain ⟨e1, h2, h3⟩ := u64_mod at_ ys.length (by omega) (by omega)
    have h4 : (((ys.length : Nat) : Int) == 0) = false := h1
    simp only [List.nil_append]
    rw [h1, cF, dT (by simp only [List.length_nil]; omega), cT]
    simp only [e1]
    rw [h4, cF]
    obtain ⟨i, hi⟩ : ∃ i : Nat, IntKind.i64.wrap (Int.tmod (IntKind.u64.wrap at_) (ys.length : Int)) = (i : Int) := ⟨(IntKind.i64.wrap (Int.tmod (IntKind.u64.wrap at_) (ys.length : Int))).toNat, by omega⟩
    rw [hi] at h2 h3
    simp only [hi]
    have hil : i < ys.length := by omega
    simp only [h2, h3, decide_true, Bool.and_self, cT, Int.toNat_natCast]
    rw [List.getElem?_eq_getElem hil]
    simp only [bS]
    have hN : ∀ x, quiverlaw0_Num.f idb k x = some x := fun x => law0_Num (by omega) x
    have hoi : okX w ys[i] = true := List.all_eq_true.1 ho _ (List.getElem_mem hil)
    obtain ⟨x1, x2⟩ := xor1 hw hw1 hoi
    have ho2 : okL w (ys.set i (bitsOp .xor .i64 ys[i] 1)) = true := by
      unfold okL
      rw [List.all_eq_true]
      intro x hx
      rcases List.mem_or_eq_of_mem_set hx with h | h
      · exact List.all_eq_true.1 ho x h
      · rw [h]; exact x1
    rw [Put_any (by omega), Put_any (by omega), putT_ok hw (by omega) ho, putT_ok hw (by rw [List.length_set]; omega) ho2]
    simp only [bS, hN, BEq.rfl, cT]
    congr 1
    rw [bne_iff_ne]
    intro he
    have := putH_inj hw (xs := ys) (zs := ys.set i (bitsOp .xor .i64 ys[i] 1)) (t := []) (u := []) ho ho2 (by omega) (by rw [List.length_set]) (by rw [List.append_nil, List.append_nil]; exact he)
    have h5 := congrArg (fun l => l[i]?) this.1
    simp only [List.getElem?_set_self hil, List.getElem?_eq_getElem hil, Option.some.injEq] at h5
    exact x2 h5.symm
theorem pure_HybridUnlike (xs : List Int) (at_ wd : Int) (hx : xs.length * 8 ≤ 140737488351232) : ∃ k, quiverlaw21_HybridUnlike.f idb k xs at_ wd = some true := by
  refine ⟨2000000 + 1, ?_⟩
  have hu := u64_mod wd 16 (by omega) (by omega)
  obtain ⟨v, hv⟩ : ∃ v : Nat, IntKind.i64.wrap (Int.tmod (IntKind.u64.wrap wd) 16) = (v : Int) := ⟨(IntKind.i64.wrap (Int.tmod (IntKind.u64.wrap wd) 16)).toNat, by have := hu.2.1; push_cast at this; omega⟩
  have hv16 : v < 16 := by
    have := hu.2.2
    push_cast at this
    rw [hv] at this; omega
  obtain ⟨w, rfl⟩ : ∃ w, w = 1 + v := ⟨_, rfl⟩
  have hw16 : 1 + v ≤ 16 := by omega
  have hwv : IntKind.i64.wrap (1 + (v : Int)) = ((1 + v : Nat) : Int) := by rw [wi64 _ (by omega)]; push_cast; rfl
  rw [quiverlaw21_HybridUnlike.f_eq, awake21 (by omega), bS, hv, hwv]
  simp only [Bool.not_true, cF]
  have h0 : ([] : List Int) = (xs.take 0).map (mk (1 + v)) := by simp
  refine Eq.trans (congrArg (fun z => quiverlaw21_HybridUnlike.l0 idb 2000000 2000000 xs at_ ((1 + v : Nat) : Int) 0 z) h0) ?_
  refine loop_up (F := fun n i => quiverlaw21_HybridUnlike.l0 idb 2000000 n xs at_ ((1 + v : Nat) : Int) (i : Int) ((xs.take i).map (mk (1 + v)))) (N := min xs.length 100) ?_ ?_ 2000000 0 (by omega) (by omega)
  · intro n i hi
    have hil : i < xs.length := by omega
    have ht : (xs.take (i + 1)).map (mk (1 + v)) = (xs.take i).map (mk (1 + v)) ++ [mk (1 + v) xs[i]] := by
      rw [List.take_add_one, List.getElem?_eq_getElem hil, List.map_append]; rfl
    rw [quiverlaw21_HybridUnlike.l0_eq, dT (by omega), cT, dT (by omega), cT, rd_get hil, bS, dF (show ¬ (((1 + v : Nat) : Int) < 0) by omega), cF, mask_w hw16, dT (by simp only [List.length_map, List.length_take, List.length_cons, List.length_nil]; omega), cT, wsucc (by omega), ht]
    rfl
  · intro n
    have hl : ((xs.take (min xs.length 100)).map (mk (1 + v))).length ≤ 100 := by rw [List.length_map, List.length_take]; omega
    have he := unlike_end (k := 2000000) (by omega) hw16 (by omega) (ys := (xs.take (min xs.length 100)).map (mk (1 + v))) hl (okL_map hw16 _) at_
    rw [quiverlaw21_HybridUnlike.l0_eq]
    by_cases h : xs.length ≤ 100
    · rw [dF (by omega), cF]; exact he
    · rw [dT (by omega), cT, dF (by omega), cF]; exact he
end Go.Proofs.YtppmpfddcohkjaaP
