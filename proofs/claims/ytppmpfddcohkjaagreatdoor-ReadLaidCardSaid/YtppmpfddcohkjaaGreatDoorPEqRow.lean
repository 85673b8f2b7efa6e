/- Equality by values: the laws EqualRow and EqualParts, as the machine answers them; no condition but the sizes that a machine has. -/
import Derived.Test.YtppmpfddcohkjaaGreatDoorPEq2
import Derived.Test.YtppmpfddcohkjaaGreatDoorPBuilt3
namespace Go.Proofs.YtppmpfddcohkjaaGreatDoorP
open Go Go.Proofs.YtppmpfddcohkjaaGreatDoorA

end Go.Proofs.YtppmpfddcohkjaaGreatDoorP
