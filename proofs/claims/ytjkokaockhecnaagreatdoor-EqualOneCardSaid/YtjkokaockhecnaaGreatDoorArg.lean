/- What a row's reading of the arguments says of them, in the machine's words; no condition. -/
import Derived.Test.YtjkokaockhecnaaGreatDoorRow
import Derived.WideShapes
import Derived.ChangeShapes
import Derived.ChangeMaps
import Derived.Deep.Slices
namespace Go.Proofs.YtjkokaockhecnaaGreatDoorA
open Go
section
variable {H:Type}{enc:TypeId×Value→H}{P:Program}{W:World}
end
end Go.Proofs.YtjkokaockhecnaaGreatDoorA
