/- ArrayForms: the forms that may not be; no condition. -/
import Derived.Test.YtppmpfddcohkjaaPFm
namespace Go.Proofs.YtppmpfddcohkjaaP
open Go Go.Proofs.YtppmpfddcohkjaaA

def bF2 : Arr := ⟨0, 1, 3, [5], [], gF.data, []⟩
theorem noF2 (m : Nat) : array_May.f idb (m + 100) tF 0 bF2 = some false := by kernel_rfl
def bF4 : Arr := ⟨0, 0, 3, [5], [], gF.data.take 23, []⟩
theorem noF4 (m : Nat) : array_May.f idb (m + 100) tF 0 bF4 = some false := by kernel_rfl
def bF5 : Arr := ⟨0, 0, 3, [5], [120], gF.data, []⟩
theorem noF5 (m : Nat) : array_May.f idb (m + 100) tF 0 bF5 = some false := by kernel_rfl
def bF6 : Arr := ⟨0, 0, 3, [5], [], gF.data, [gF]⟩
theorem noF6 (m : Nat) : array_May.f idb (m + 100) tF 0 bF6 = some false := by kernel_rfl
def bF10 : Arr := ⟨1, 0, 3, [5], [], [1] ++ List.drop 1 dF'.data, [kF]⟩
theorem noF10 (m : Nat) : array_May.f idb (m + 100) tF 0 bF10 = some false := by kernel_rfl
def bF11 : Arr := ⟨1, 0, 3, [5], [], dF'.data, [⟨0, 0, 1, [1], [], kF.data, []⟩]⟩
theorem noF11 (m : Nat) : array_May.f idb (m + 100) tF 0 bF11 = some false := by kernel_rfl
def bF12 : Arr := ⟨1, 0, 3, [5], [], dF'.data.take 11, [kF]⟩
theorem noF12 (m : Nat) : array_May.f idb (m + 100) tF 0 bF12 = some false := by kernel_rfl
def bF13 : Arr := ⟨2, 0, 3, [7], [], rF.data, [gF]⟩
theorem noF13 (m : Nat) : array_May.f idb (m + 100) tF 0 bF13 = some false := by kernel_rfl
def bF14 : Arr := ⟨2, 0, 3, [], [], rF.data.take 8, [gF]⟩
theorem noF14 (m : Nat) : array_May.f idb (m + 100) tF 0 bF14 = some false := by kernel_rfl
def bF15 : Arr := ⟨2, 0, 3, [], [], rF.data.take 4 ++ rF.data.take 4 ++ rF.data.drop 8, [gF]⟩
theorem noF15 (m : Nat) : array_May.f idb (m + 100) tF 0 bF15 = some false := by kernel_rfl
def bF16 : Arr := ⟨2, 0, 4, [], [], rF.data, [gF]⟩
theorem noF16 (m : Nat) : array_May.f idb (m + 100) tF 0 bF16 = some false := by kernel_rfl
def bF17 : Arr := ⟨2, 0, 3, [], [], rF.data, [gF, gF]⟩
theorem noF17 (m : Nat) : array_May.f idb (m + 100) tF 0 bF17 = some false := by kernel_rfl
theorem roomF {l o n : Int} {v e d : List UInt8} (ho : -5000 ≤ o ∧ o ≤ 5000) (hn : -5000 ≤ n ∧ n ≤ 5000) (hv : v.length ≤ 6000) (he : e.length ≤ 6000) (hd : d.length ≤ 6000) : RoomyA ⟨l, o, n, v, e, d, []⟩ := by
  intro q
  cases q with
  | zero => trivial
  | succ q =>
    refine ⟨?_, ?_, ?_, ?_, ?_, ?_, ?_⟩
    · show -9223372036854775808 ≤ o ∧ o ≤ 9223372036854775807; omega
    · show -9223372036854775808 ≤ n ∧ n ≤ 9223372036854775807; omega
    · show (v.length : Int) ≤ 140737488351232; omega
    · show (e.length : Int) ≤ 140737488351232; omega
    · show (d.length : Int) ≤ 140737488351232; omega
    · show ([] : List Arr).length * 96 ≤ 140737488351232; decide
    · intro k hk; cases hk
theorem no_buf {x : Arr} (h : bufB true x = false) : arrB tF 0 x = false := by
  have e : nul tF (0 : Int).toNat = true := rfl
  unfold arrB
  rw [mayA, e, h, Bool.false_and, Bool.and_false]
theorem no_lay {x : Arr} (h0 : x.layout ≠ 0) (h1 : x.layout ≠ 1) (h2 : x.layout ≠ 2) : arrB tF 0 x = false := by
  unfold arrB
  rw [mayA, if_neg h0, if_neg h1, if_neg h2]
  simp
noncomputable def jArgs (k : Nat) (x : Arr) : Option Bool := quiverlaw8_ArrayForms.j53 idb k tF gF.layout gF.offset gF.length gF.valid gF.ends gF.data gF.kids dF'.layout dF'.offset dF'.length dF'.valid dF'.ends dF'.data dF'.kids rF.layout rF.offset rF.length rF.valid rF.ends rF.data rF.kids x.layout x.offset x.length x.valid x.ends x.data x.kids
theorem jF (m : Nat) (x : Arr) (h : array_May.f idb (m + 100) tF 0 x = some false) : jArgs (m + 100) x = some true := by
  have hg : Arr.mk gF.layout gF.offset gF.length gF.valid gF.ends gF.data gF.kids = gF := rfl
  have hd : Arr.mk dF'.layout dF'.offset dF'.length dF'.valid dF'.ends dF'.data dF'.kids = dF' := rfl
  have hr : Arr.mk rF.layout rF.offset rF.length rF.valid rF.ends rF.data rF.kids = rF := rfl
  unfold jArgs
  rw [quiverlaw8_ArrayForms.j53_eq, law0_Num (by omega), bS, BEq.rfl, cT, hg, hd, hr, Arr.eta, mayG, bS, cT, mayD, bS, cT, mayR, bS, cT, h, bS]
  rfl

end Go.Proofs.YtppmpfddcohkjaaP
