/- What every program of pages answers that is one. -/
import Derived.Test.YtjkokaockhecnaaGreatDoorPLoop
namespace Go.Proofs.YtjkokaockhecnaaGreatDoorP
open Go Go.Proofs.YtjkokaockhecnaaGreatDoorA
theorem BD (k:Nat):eO.f aT (k+400)=some true:=by kernel_rfl
end Go.Proofs.YtjkokaockhecnaaGreatDoorP
