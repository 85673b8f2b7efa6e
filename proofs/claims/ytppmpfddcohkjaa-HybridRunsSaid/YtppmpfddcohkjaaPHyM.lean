/- The law HybridBack, as the machine answers it; no condition but the sizes that a machine has. -/
import Derived.Test.YtppmpfddcohkjaaPHyL
namespace Go.Proofs.YtppmpfddcohkjaaP
open Go Go.Proofs.YtppmpfddcohkjaaA

theorem putT_ok {w : Nat} (hw : w ≤ 16) {ys : List Int} (hl : ys.length ≤ 4096) (ho : okL w ys = true) : putT (w : Int) ys = (putH w ys, 0) := by
  have hm : mayH (w : Int) ys = true := mayH_iff.2 ⟨by omega, by omega, by omega, by rw [Int.toNat_natCast]; exact ho⟩
  unfold putT
  rw [if_pos hm, Int.toNat_natCast]
end Go.Proofs.YtppmpfddcohkjaaP
