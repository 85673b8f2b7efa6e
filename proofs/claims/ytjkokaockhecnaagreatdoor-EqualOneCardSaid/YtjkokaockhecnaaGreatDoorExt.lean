/- What the machine answers of functions of Go's library that it doesn't walk: definitions alone. -/
import Derived.Test.YtjkokaockhecnaaGreatDoorAbs
import Derived.Lib.ItoaNum
import Derived.Lib.Join
import Derived.Lib.AtoiAll
import Derived.Lib.IndexMore
namespace Go.Proofs.YtjkokaockhecnaaGreatDoorA
open Go
noncomputable def nf (n:Int):Option (List UInt8):=
 bif decide (-9223372036854775808≤n)&&decide (n≤9223372036854775807) then some (Lib.itoa n) else none
noncomputable def nv (xs:List (List UInt8))(s:List UInt8):Option (List UInt8):=
 bif decide (xs.length≤140737488355328)&&decide ((Lib.join xs s).length≤140737488355328) then some (Lib.join xs s) else none
noncomputable def sn:List mo→Option (List UInt8)
 |[.v (.int .i64 n)]=>nf n
 |_=>none
noncomputable def qN:List mo→Option (List UInt8)
 |[.v (.L .str xs),.v (.str s)]=>nv xs s
 |_=>none
end Go.Proofs.YtjkokaockhecnaaGreatDoorA
