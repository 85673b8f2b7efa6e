/- What a row's bounds say of the arguments, in the machine's words; no condition. -/
import Derived.Test.YtjkokaockhecnaaGreatDoorRows
import Derived.Test.YtjkokaockhecnaaGreatDoorArg
import Derived.SizedLaws
namespace Go.Proofs.YtjkokaockhecnaaGreatDoorA
open Go Go.Proofs.YtjkokaockhecnaaGreatDoor
theorem i64_wf {n:Int}(h:(Lit.int .i64 n).wf=true):-9223372036854775808≤n∧n≤9223372036854775807:=by
 simpa [Lit.wf,IntKind.min,IntKind.max,IntKind.signed,IntKind.bits] using h
end Go.Proofs.YtjkokaockhecnaaGreatDoorA
