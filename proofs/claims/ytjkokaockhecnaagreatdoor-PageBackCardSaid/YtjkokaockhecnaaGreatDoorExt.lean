/- What the machine answers of functions of Go's library that it doesn't walk: definitions alone. -/
import Derived.Test.YtjkokaockhecnaaGreatDoorAbs
import Derived.Lib.ItoaNum
import Derived.Lib.Join
import Derived.Lib.AtoiAll
import Derived.Lib.IndexMore
namespace Go.Proofs.YtjkokaockhecnaaGreatDoorA
open Go
noncomputable def mq (n:Int):Option (List UInt8):=
 bif decide (-9223372036854775808≤n)&&decide (n≤9223372036854775807) then some (Lib.itoa n) else none
noncomputable def pY:List kh→Option (List UInt8)
 |[.v (.int .i64 n)]=>mq n
 |_=>none
noncomputable def kr (l:List UInt8):Option (Int×Bool):=
 bif decide (l.length≤281474976710656) then
  (match Lib.atoiAll l with
  |.ok v=>some (v,false)
  |.«syntax»=>some (0,true)
  |.range=>some (Lib.atoiSat l,true))
 else none
noncomputable def oS (s sep:List UInt8):Option (List UInt8×List UInt8×Bool):=
 bif decide (s.length<4294967281) then some (Lib.cut s sep) else none
noncomputable def qc:List kh→Option (Int×Bool)
 |[.v (.str l)]=>kr l
 |_=>none
noncomputable def sf:List kh→Option (List UInt8×List UInt8×Bool)
 |[.v (.str s),.v (.str sep)]=>oS s sep
 |_=>none
end Go.Proofs.YtjkokaockhecnaaGreatDoorA
