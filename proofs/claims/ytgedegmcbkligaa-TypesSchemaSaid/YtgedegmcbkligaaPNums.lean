/- The law quiverlaw3.Nums, as the machine answers it. -/
import Derived.Test.YtgedegmcbkligaaPNum2
namespace Go.Proofs.YtgedegmcbkligaaP
open Go Go.Proofs.YtgedegmcbkligaaA
theorem law0_Num {k : Nat} (hk : 1 ≤ k) (x : Int) : quiverlaw0_Num.f idb k x = some x := by
  obtain ⟨k, rfl⟩ : ∃ m, k = m + 1 := ⟨k - 1, by omega⟩
  rw [quiverlaw0_Num.f_eq]
theorem awake3 (m : Nat) : quiverlaw3_awake.f idb (m + 40) = some true := by kernel_rfl
theorem pure_Nums (a0 a1 : Int) (s : List UInt8) (a3 : Int) (hs : (s.length : Int) ≤ 140737488351232) (h3 : -9223372036854775808 ≤ a3 ∧ a3 ≤ 9223372036854775807) : ∃ k, quiverlaw3_Nums.f idb k a0 a1 s a3 = some true := by
  refine ⟨100 + 1, ?_⟩
  rw [quiverlaw3_Nums.f_eq, num_Put_ok (by omega), ref_Put_ok (by omega), num_Get_ok (by omega) _ (by omega) _ _ h3, ref_Get_ok (by omega) _ (by omega) _ _ h3, num_PutVar_ok (by omega), ref_PutVar_ok (by omega), num_GetVar_ok (by omega) _ (by omega), ref_GetVar_ok (by omega) _ (by omega)]
  simp only [Option.bind_some, law0_Num (show 1 ≤ 100 by omega), beq_self_eq_true, cond]
  rw [awake3 60]; rfl
end Go.Proofs.YtgedegmcbkligaaP
