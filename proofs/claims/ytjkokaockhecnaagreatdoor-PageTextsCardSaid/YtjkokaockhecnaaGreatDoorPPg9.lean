/- Getting a page: what is refused at once; small numbers; the document's sum; no condition but the sizes that a machine has. -/
import Derived.Test.YtjkokaockhecnaaGreatDoorPPg8
namespace Go.Proofs.YtjkokaockhecnaaGreatDoorP
open Go Go.Proofs.YtjkokaockhecnaaGreatDoorA

theorem Get_leaf {k : Nat} (hk : 40 ≤ k) {t : List Nod} {a : Int} {s : List UInt8} (hn : (nodeB t a && !inner (knd t a.toNat)) = false) : page_Get.f idb k t a s = some (noCol, 2200) := by
  obtain ⟨k, rfl⟩ : ∃ q, k = q + 1 := ⟨k - 1, by omega⟩
  rw [page_Get.f_eq, Leaf_ok (by omega), bS, hn]; rfl
theorem Get_less {k : Nat} (hk : 40 ≤ k) {t : List Nod} {a : Int} {s : List UInt8} (h4 : s.length < 4) : page_Get.f idb k t a s = some (noCol, 2200) := by
  obtain ⟨k, rfl⟩ : ∃ q, k = q + 1 := ⟨k - 1, by omega⟩
  rw [page_Get.f_eq, Leaf_ok (by omega), bS]
  cases hn : nodeB t a && !inner (knd t a.toNat) with
  | false => rfl
  | true => rw [Bool.not_true, Bool.not_false, cT, dT (by omega), cT]; rfl
theorem Get_sum {k : Nat} {t : List Nod} {a : Int} {s : List UInt8} (hk : s.length + 40 ≤ k) (hs : s.length ≤ 140737488351232) (h4 : 4 ≤ s.length) (hn : (nodeB t a && !inner (knd t a.toNat)) = true) (hc : numOf (s.take 4) ≠ crcS (s.drop 4)) : page_Get.f idb k t a s = some (noCol, 2201) := by
  obtain ⟨k, rfl⟩ : ∃ q, k = q + 1 := ⟨k - 1, by omega⟩
  rw [page_Get.f_eq, Leaf_ok (by omega), bS, hn, Bool.not_true, Bool.not_false, cT, dF (by omega), cF, dT (by omega), dT (by omega), Bool.and_self, cT, List.drop_zero, num_Of_ok (by omega) _ (by rw [List.length_take]; omega), bS, cT, List.take_length, crc_ok (by rw [List.length_drop]; omega) (by rw [List.length_drop]; omega), bS,
    show (numOf (s.take 4) != crcS (s.drop 4)) = true by rw [bne_iff_ne]; exact hc, cT]
  rfl
theorem bitsOp_xor (k : IntKind) (x y : Int) : bitsOp .xor k x y = k.wrap ((((x % (2 ^ k.bits : Int)).toNat ^^^ (y % (2 ^ k.bits : Int)).toNat : Nat)) : Int) := by
  unfold bitsOp
  simp only [BitVec.toNat_xor, toNat_ofInt]
theorem and3 (x : Int) : 0 ≤ bitsOp .and .i64 x 3 ∧ bitsOp .and .i64 x 3 ≤ 3 := by
  have := and_mask x 2 (by omega)
  rw [show ((2 : Int) ^ 2 - 1) = 3 from rfl, show ((2 : Int) ^ 2) = 4 from rfl] at this
  rw [this]; omega
theorem xor22 (S : Int) (hS : 0 ≤ S ∧ S ≤ 4294967295) (a : Int) : bitsOp .xor .i64 S (IntKind.i64.wrap (1 + (bitsOp .and .i64 a 65535))) ≠ S ∧ 0 ≤ bitsOp .xor .i64 S (IntKind.i64.wrap (1 + (bitsOp .and .i64 a 65535))) ∧ bitsOp .xor .i64 S (IntKind.i64.wrap (1 + (bitsOp .and .i64 a 65535))) ≤ 4294967295 := by
  have := and_mask a 16 (by omega)
  rw [show ((2 : Int) ^ 16 - 1) = 65535 from rfl, show ((2 : Int) ^ 16) = 65536 from rfl] at this
  rw [this, wi64 _ (by omega), bitsOp_xor]
  have e64 : (2 ^ IntKind.i64.bits : Int) = 18446744073709551616 := by decide
  rw [e64]
  obtain ⟨x, rfl⟩ : ∃ x : Nat, S = (x : Int) := ⟨S.toNat, by omega⟩
  obtain ⟨d, hd⟩ : ∃ d : Nat, 1 + a % 65536 = (d : Int) := ⟨(1 + a % 65536).toNat, by omega⟩
  rw [hd]
  have h1 : ((x : Int) % 18446744073709551616).toNat = x := by omega
  have h2 : ((d : Int) % 18446744073709551616).toNat = d := by omega
  rw [h1, h2]
  have h3 : x ^^^ d < 2 ^ 32 := Nat.xor_lt_two_pow (by omega) (by omega)
  rw [wi64 _ (by omega)]
  refine ⟨fun e => ?_, by omega, by omega⟩
  have e' : x ^^^ d = x := by omega
  have : d = 0 := by
    have := congrArg (x ^^^ ·) e'
    simp only [← Nat.xor_assoc, Nat.xor_self, Nat.zero_xor] at this
    exact this
  omega
theorem idx22 (a : Int) : 0 ≤ IntKind.i64.wrap (Int.tmod (IntKind.u64.wrap a) 11) ∧ IntKind.i64.wrap (Int.tmod (IntKind.u64.wrap a) 11) < 11 := by
  have h : 0 ≤ IntKind.u64.wrap a := by simp [IntKind.wrap, IntKind.bits, IntKind.signed]; omega
  rw [Int.tmod_eq_emod_of_nonneg h, wi64 _ (by omega)]; omega

/-! ### The document's sum -/
end Go.Proofs.YtjkokaockhecnaaGreatDoorP
