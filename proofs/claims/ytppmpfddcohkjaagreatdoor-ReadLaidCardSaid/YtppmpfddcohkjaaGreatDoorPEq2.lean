/- Equality by values: the law Equals, as the machine answers it; no condition but the sizes that a machine has. Equality by values: awake, the law Equals, as the machine answers them; no condition but the sizes that a machine has. -/
import Derived.Test.YtppmpfddcohkjaaGreatDoorPBase3
namespace Go.Proofs.YtppmpfddcohkjaaGreatDoorP
open Go Go.Proofs.YtppmpfddcohkjaaGreatDoorA

theorem valsA_len {t : List Nod} {a : Int} {x : Arr} (hb : arrB t a x = true) : (valsA t a x).length ≤ 64 := by
  have := arrB_len hb
  unfold valsA
  rw [List.length_map, List.length_range]; omega
end Go.Proofs.YtppmpfddcohkjaaGreatDoorP

namespace Go.Proofs.YtppmpfddcohkjaaGreatDoorP
open Go Go.Proofs.YtppmpfddcohkjaaGreatDoorA
end Go.Proofs.YtppmpfddcohkjaaGreatDoorP
