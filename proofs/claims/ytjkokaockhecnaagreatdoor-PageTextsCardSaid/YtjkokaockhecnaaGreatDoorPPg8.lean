/- Getting a page: what is got was put, and what was put is got; the law PageAgain; no condition but the sizes that a machine has. -/
import Derived.Test.YtjkokaockhecnaaGreatDoorPPg7
namespace Go.Proofs.YtjkokaockhecnaaGreatDoorP
open Go Go.Proofs.YtjkokaockhecnaaGreatDoorA

/-- Nothing got. -/
def noCol : List Int × List Int × List (List UInt8) := ([], [], [])
end Go.Proofs.YtjkokaockhecnaaGreatDoorP
