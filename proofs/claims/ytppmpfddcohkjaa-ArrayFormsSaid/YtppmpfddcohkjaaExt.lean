/- What the machine answers of functions of Go's library that it doesn't walk: definitions alone. -/
import Derived.Test.YtppmpfddcohkjaaAbs
import Derived.Lib.ItoaNum
import Derived.Lib.Join
namespace Go.Proofs.YtppmpfddcohkjaaA
open Go

/-- strconv.Itoa. -/
noncomputable def extItoa (n : Int) : Option (List UInt8) :=
  bif decide (-9223372036854775808 ≤ n) && decide (n ≤ 9223372036854775807) then some (Lib.itoa n) else none
/-- strings.Join. -/
noncomputable def extJoin (xs : List (List UInt8)) (s : List UInt8) : Option (List UInt8) :=
  bif decide (xs.length ≤ 140737488355328) && decide ((Lib.join xs s).length ≤ 140737488355328) then some (Lib.join xs s) else none

noncomputable def extItoaA : List Arg → Option (List UInt8)
  | [.v (.int .i64 n)] => extItoa n
  | _ => none
noncomputable def extJoinA : List Arg → Option (List UInt8)
  | [.v (.L .str xs), .v (.str s)] => extJoin xs s
  | _ => none

end Go.Proofs.YtppmpfddcohkjaaA
