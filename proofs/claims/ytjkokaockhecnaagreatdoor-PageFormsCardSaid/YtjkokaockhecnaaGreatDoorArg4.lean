/- What a row's reading of an array says, in the machine's words; no condition. -/
import Derived.Test.YtjkokaockhecnaaGreatDoorArg3
import Derived.Test.YtjkokaockhecnaaGreatDoorRoom
import Derived.ChangeArms
namespace Go.Proofs.YtjkokaockhecnaaGreatDoorA
open Go Go.Proofs.YtjkokaockhecnaaGreatDoor
section
variable {H:Type}{enc:TypeId×Value→H}{P:Program}{W:World}
end
end Go.Proofs.YtjkokaockhecnaaGreatDoorA
