/- The law HybridBack, as the machine answers it; no condition but the sizes that a machine has. -/
import Derived.Test.YtppmpfddcohkjaaPHyL
namespace Go.Proofs.YtppmpfddcohkjaaP
open Go Go.Proofs.YtppmpfddcohkjaaA

/-- A number's low bits. -/
def mk (w : Nat) (x : Int) : Int := bitsOp .and .i64 x (2 ^ w - 1)
theorem mk_mod {w : Nat} (hw : w ≤ 16) (x : Int) : mk w x = x % 2 ^ w := and_mask x w (by omega)
theorem mk_ok {w : Nat} (hw : w ≤ 16) (x : Int) : okX w (mk w x) = true := by
  have hp := pow16 hw
  rw [mk_mod hw]
  unfold okX
  rw [dT (Int.emod_nonneg _ (by omega)), dT (Int.emod_lt_of_pos _ (by omega))]; rfl
theorem mask_w {w : Nat} (hw : w ≤ 16) : IntKind.i64.wrap ((IntKind.i64.wrap (1 * 2 ^ (min ((w : Int)).toNat IntKind.i64.bits))) - 1) = 2 ^ w - 1 := by
  have hp := pow16 hw
  rw [Int.toNat_natCast, min64 hw, Int.one_mul, wi64 (2 ^ w) (by omega), wi64 _ (by omega)]
theorem okL_map {w : Nat} (hw : w ≤ 16) (xs : List Int) : okL w (xs.map (mk w)) = true := by
  unfold okL
  rw [List.all_eq_true]
  intro x hx
  obtain ⟨y, _, rfl⟩ := List.mem_map.1 hx
  exact mk_ok hw y
theorem putT_ok {w : Nat} (hw : w ≤ 16) {ys : List Int} (hl : ys.length ≤ 4096) (ho : okL w ys = true) : putT (w : Int) ys = (putH w ys, 0) := by
  have hm : mayH (w : Int) ys = true := mayH_iff.2 ⟨by omega, by omega, by omega, by rw [Int.toNat_natCast]; exact ho⟩
  unfold putT
  rw [if_pos hm, Int.toNat_natCast]
end Go.Proofs.YtppmpfddcohkjaaP
