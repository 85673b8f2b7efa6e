/- The sizes that a machine has, of an array and all beneath it: definitions alone. -/
import Derived.Test.YtjkokaockhecnaaGreatDoorAbs
namespace Go.Proofs.YtjkokaockhecnaaGreatDoorA
open Go
end Go.Proofs.YtjkokaockhecnaaGreatDoorA
