/- The law HybridBack, as the machine answers it; no condition but the sizes that a machine has. -/
import Derived.Test.YtppmpfddcohkjaaPHyL
namespace Go.Proofs.YtppmpfddcohkjaaP
open Go Go.Proofs.YtppmpfddcohkjaaA

/-- A number's low bits. -/
def mk (w : Nat) (x : Int) : Int := bitsOp .and .i64 x (2 ^ w - 1)
end Go.Proofs.YtppmpfddcohkjaaP
