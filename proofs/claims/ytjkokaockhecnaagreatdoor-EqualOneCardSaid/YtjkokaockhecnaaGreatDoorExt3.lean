/- What the machine answers of strconv.Atoi and strings.Cut, the library answers. -/
import Derived.Test.YtjkokaockhecnaaGreatDoorExt2
import Derived.Lib.SmallJoins
namespace Go.Proofs.YtjkokaockhecnaaGreatDoorA
open Go
end Go.Proofs.YtjkokaockhecnaaGreatDoorA
