/- ArrayForms: the samples, made; no condition. -/
import Derived.Test.YtppmpfddcohkjaaPAF
namespace Go.Proofs.YtppmpfddcohkjaaP
open Go Go.Proofs.YtppmpfddcohkjaaA
def tF : List Nod := [(Nod.mk 0 (-1) true)]
def gF : Arr := ⟨0, 0, 3, [5], [], [5, 0, 0, 0, 0, 0, 0, 0, 0, 0, 0, 0, 0, 0, 0, 0, 5, 0, 0, 0, 0, 0, 0, 0], []⟩
def kF : Arr := ⟨0, 0, 1, [], [], [5, 0, 0, 0, 0, 0, 0, 0], []⟩
def dF' : Arr := ⟨1, 0, 3, [5], [], [0, 0, 0, 0, 0, 0, 0, 0, 0, 0, 0, 0], [kF]⟩
def rF : Arr := ⟨2, 0, 3, [], [], [1, 0, 0, 0, 2, 0, 0, 0, 3, 0, 0, 0], [gF]⟩
theorem gF_ok (m : Nat) : quiverref7_Build.f idb (m + 100) tF 0 [([105, 53, 59] : List UInt8), ([110] : List UInt8), ([105, 53, 59] : List UInt8)] = some (gF, 0) := by kernel_rfl
theorem dF_ok (m : Nat) : quiverref11_DictOf.f idb (m + 100) tF 0 gF = some (dF', 0) := by kernel_rfl
theorem rF_ok (m : Nat) : quiverref11_RunsOf.f idb (m + 100) tF 0 gF = some (rF, 0) := by kernel_rfl
def tup (a : Arr) : Int × Int × Int × List UInt8 × List UInt8 × List UInt8 × List Arr := (a.layout, a.offset, a.length, a.valid, a.ends, a.data, a.kids)
theorem copyG (m : Nat) : quiverlaw0_CopyArray.f idb (m + 100) gF = some (tup gF) := by kernel_rfl
theorem copyD (m : Nat) : quiverlaw0_CopyArray.f idb (m + 100) dF' = some (tup dF') := by kernel_rfl
theorem copyR (m : Nat) : quiverlaw0_CopyArray.f idb (m + 100) rF = some (tup rF) := by kernel_rfl
theorem mayG (m : Nat) : array_May.f idb (m + 100) tF 0 gF = some true := by kernel_rfl
theorem mayD (m : Nat) : array_May.f idb (m + 100) tF 0 dF' = some true := by kernel_rfl
theorem mayR (m : Nat) : array_May.f idb (m + 100) tF 0 rF = some true := by kernel_rfl
end Go.Proofs.YtppmpfddcohkjaaP
