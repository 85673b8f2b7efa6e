/- What a row's reading of a type says, in the machine's words; no condition. -/
import Derived.Test.YtjkokaockhecnaaGreatDoorArg2
namespace Go.Proofs.YtjkokaockhecnaaGreatDoorA
open Go Go.Proofs.YtjkokaockhecnaaGreatDoor
section
variable {H:Type}{enc:TypeId×Value→H}{P:Program}{W:World}
end
end Go.Proofs.YtjkokaockhecnaaGreatDoorA
