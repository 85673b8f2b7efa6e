/- What the functions below the laws answer, in plain lists and numbers; no condition but the sizes that a machine has. -/
import Derived.Test.YtjkokaockhecnaaGreatDoorPPg0
import Derived.Laws.BitsLemmas
import Derived.KernelRfl
namespace Go.Proofs.YtjkokaockhecnaaGreatDoorP
open Go Go.Proofs.YtjkokaockhecnaaGreatDoorA

/-- How many are the same, from the first one on. -/
def same : List Int → Nat
  | [] => 0
  | x :: l => 1 + (l.takeWhile (· == x)).length
def wd1 (x : Int) : List UInt8 := strOfBytes [IntKind.u8.wrap (Int.fdiv x 1)]
theorem word1 (m : Nat) (x : Int) : num_Word.f idb (m + 12) x 1 = some (wd1 x) := by kernel_rfl
/-- A number's low bits. -/
def mk (w : Nat) (x : Int) : Int := bitsOp .and .i64 x (2 ^ w - 1)
end Go.Proofs.YtjkokaockhecnaaGreatDoorP
