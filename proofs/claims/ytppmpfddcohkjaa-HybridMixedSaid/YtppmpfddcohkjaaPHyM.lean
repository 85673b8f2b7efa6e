/- The law HybridBack, as the machine answers it; no condition but the sizes that a machine has. -/
import Derived.Test.YtppmpfddcohkjaaPHyL
namespace Go.Proofs.YtppmpfddcohkjaaP
open Go Go.Proofs.YtppmpfddcohkjaaA

theorem putH_length {w : Nat} (hw : w ≤ 16) : ∀ (m : Nat) (xs : List Int), xs.length ≤ m → xs.length ≤ 4096 → (putH w xs).length ≤ 25 * xs.length := by
  intro m
  induction m using Nat.strongRecOn with
  | _ m ih =>
    intro xs h1 h2
    by_cases hx : xs = []
    · subst hx; rw [putH_nil]; simp
    · have hl0 : xs.length ≠ 0 := fun e => hx (List.eq_nil_of_length_eq_zero e)
      by_cases h8 : 8 ≤ same xs
      · have hle := same_le xs
        have hpl := pv_length (2 * (same xs : Int))
        have hwl := wd_length (xs.headD 0) w
        have hdl : (xs.drop (same xs)).length = xs.length - same xs := List.length_drop
        have := ih (m - same xs) (by omega) (xs.drop (same xs)) (by omega) (by omega)
        rw [putH_run hx h8, List.length_append, List.length_append]; omega
      · have hg := grp_le xs
        have hgp := grp_pos hx (by omega)
        have hpl := pv_length (2 * (((grp xs + 7) / 8 : Nat) : Int) + 1)
        have hrl := rows_bytes hw (xs.take (grp xs))
        have htl : (xs.take (grp xs)).length = grp xs := by rw [List.length_take]; omega
        have hdl : (xs.drop (grp xs)).length = xs.length - grp xs := List.length_drop
        have := ih (m - grp xs) (by omega) (xs.drop (grp xs)) (by omega) (by omega)
        rw [putH_grp hx (by omega), List.length_append, List.length_append]; omega
/-- A number's low bits. -/
def mk (w : Nat) (x : Int) : Int := bitsOp .and .i64 x (2 ^ w - 1)
theorem mk_mod {w : Nat} (hw : w ≤ 16) (x : Int) : mk w x = x % 2 ^ w := and_mask x w (by omega)
theorem mk_ok {w : Nat} (hw : w ≤ 16) (x : Int) : okX w (mk w x) = true := by
  have hp := pow16 hw
  rw [mk_mod hw]
  unfold okX
  rw [dT (Int.emod_nonneg _ (by omega)), dT (Int.emod_lt_of_pos _ (by omega))]; rfl
theorem mask_w {w : Nat} (hw : w ≤ 16) : IntKind.i64.wrap ((IntKind.i64.wrap (1 * 2 ^ (min ((w : Int)).toNat IntKind.i64.bits))) - 1) = 2 ^ w - 1 := by
  have hp := pow16 hw
  rw [Int.toNat_natCast, min64 hw, Int.one_mul, wi64 (2 ^ w) (by omega), wi64 _ (by omega)]
theorem putT_ok {w : Nat} (hw : w ≤ 16) {ys : List Int} (hl : ys.length ≤ 4096) (ho : okL w ys = true) : putT (w : Int) ys = (putH w ys, 0) := by
  have hm : mayH (w : Int) ys = true := mayH_iff.2 ⟨by omega, by omega, by omega, by rw [Int.toNat_natCast]; exact ho⟩
  unfold putT
  rw [if_pos hm, Int.toNat_natCast]
end Go.Proofs.YtppmpfddcohkjaaP
