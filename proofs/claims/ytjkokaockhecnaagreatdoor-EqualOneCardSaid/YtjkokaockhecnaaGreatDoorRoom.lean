/- The sizes that a machine has, of an array and all beneath it: definitions alone. -/
import Derived.Test.YtjkokaockhecnaaGreatDoorAbs
namespace Go.Proofs.YtjkokaockhecnaaGreatDoorA
open Go
def uv:Nat→aO→Prop
 |0,_=>True
 |d+1,a=>(-9223372036854775808≤a.offset∧a.offset≤9223372036854775807)∧(-9223372036854775808≤a.length∧a.length≤9223372036854775807)∧
   (a.valid.length:Int)≤140737488351232∧(a.ends.length:Int)≤140737488351232∧(a.data.length:Int)≤140737488351232∧a.kids.length*96≤140737488351232∧∀k∈a.kids,uv d k
def RoomyA (a:aO):Prop:=∀d,uv d a
end Go.Proofs.YtjkokaockhecnaaGreatDoorA
