/- The sizes that a machine has, of an array and all beneath it: definitions alone. -/
import Derived.Test.YtjkokaockhecnaaGreatDoorAbs
namespace Go.Proofs.YtjkokaockhecnaaGreatDoorA
open Go
structure RoomyC (c:Col):Prop where
 reps:c.reps.length*8≤140737488351232∧∀n∈c.reps,-9223372036854775808≤n∧n≤9223372036854775807
 defs:c.defs.length*8≤140737488351232∧∀n∈c.defs,-9223372036854775808≤n∧n≤9223372036854775807
 values:c.values.length*16≤140737488351232∧∀s∈c.values,s.length≤140737488351232
theorem RoomyC.short {c:Col}(h:RoomyC c):c.reps.length≤20000000000000∧c.defs.length≤20000000000000∧c.values.length≤20000000000000:=by
 have h1:=h.reps.1;have h2:=h.defs.1;have h3:=h.values.1
 omega
end Go.Proofs.YtjkokaockhecnaaGreatDoorA
