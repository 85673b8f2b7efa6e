/- What the machine answers of functions of Go's library that it doesn't walk: definitions alone. -/
import Derived.Test.YtjkokaockhecnaaGreatDoorAbs
import Derived.Lib.ItoaNum
import Derived.Lib.Join
import Derived.Lib.AtoiAll
import Derived.Lib.IndexMore
namespace Go.Proofs.YtjkokaockhecnaaGreatDoorA
open Go

/-- strconv.Itoa. -/
noncomputable def extItoa (n : Int) : Option (List UInt8) :=
  bif decide (-9223372036854775808 ≤ n) && decide (n ≤ 9223372036854775807) then some (Lib.itoa n) else none
/-- strings.Join. -/
noncomputable def extJoin (xs : List (List UInt8)) (s : List UInt8) : Option (List UInt8) :=
  bif decide (xs.length ≤ 140737488355328) && decide ((Lib.join xs s).length ≤ 140737488355328) then some (Lib.join xs s) else none

noncomputable def extItoaA : List Arg → Option (List UInt8)
  | [.v (.int .i64 n)] => extItoa n
  | _ => none
noncomputable def extJoinA : List Arg → Option (List UInt8)
  | [.v (.L .str xs), .v (.str s)] => extJoin xs s
  | _ => none

/-- strconv.Atoi: the number, and whether there is an error. -/
noncomputable def extAtoi (l : List UInt8) : Option (Int × Bool) :=
  bif decide (l.length ≤ 281474976710656) then
    (match Lib.atoiAll l with
    | .ok v => some (v, false)
    | .«syntax» => some (0, true)
    | .range => some (Lib.atoiSat l, true))
  else none
/-- strings.Cut. -/
noncomputable def extCut (s sep : List UInt8) : Option (List UInt8 × List UInt8 × Bool) :=
  bif decide (s.length < 4294967281) then some (Lib.cut s sep) else none
noncomputable def extAtoiA : List Arg → Option (Int × Bool)
  | [.v (.str l)] => extAtoi l
  | _ => none
noncomputable def extCutA : List Arg → Option (List UInt8 × List UInt8 × Bool)
  | [.v (.str s), .v (.str sep)] => extCut s sep
  | _ => none

end Go.Proofs.YtjkokaockhecnaaGreatDoorA
