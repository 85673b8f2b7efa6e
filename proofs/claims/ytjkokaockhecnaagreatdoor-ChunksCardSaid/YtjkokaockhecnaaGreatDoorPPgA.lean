/- What every program of pages answers that is one. -/
import Derived.Test.YtjkokaockhecnaaGreatDoorPLoop
namespace Go.Proofs.YtjkokaockhecnaaGreatDoorP
open Go Go.Proofs.YtjkokaockhecnaaGreatDoorA
end Go.Proofs.YtjkokaockhecnaaGreatDoorP
