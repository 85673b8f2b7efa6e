/- The law PageTexts: texts whose sum is right, and that are no pages, one by one (printed by pgt.py); no condition. -/
import Derived.Test.YtjkokaockhecnaaGreatDoorPPg8
namespace Go.Proofs.YtjkokaockhecnaaGreatDoorP
open Go Go.Proofs.YtjkokaockhecnaaGreatDoorA

def pgs : List UInt8 := [236, 3, 174, 97, 2, 0, 0, 0, 1, 0, 0, 0, 2, 0, 0, 0, 3, 3, 1, 2, 1, 0, 0, 0, 0, 0, 0]
def one22 : List Nod := [Nod.mk 0 (-1) true]
theorem Put_one (k : Nat) : page_Put.f idb (k + 300) one22 0 (Col.mk [0, 0] [1, 0] [[105, 50, 53, 56, 59]]) = some (pgs, 0) := by kernel_rfl
theorem ints22 {k : Nat} (hk : 1 ≤ k) : quiverlaw22_ints.f idb k = some one22 := by
  obtain ⟨k, rfl⟩ : ∃ q, k = q + 1 := ⟨k - 1, by omega⟩
  rw [quiverlaw22_ints.f_eq]; rfl
theorem crc_0 (k : Nat) : quiverref1_Crc.f idb (k + 60) ([] : List UInt8) = some 0 := by kernel_rfl
theorem own_0 : crcS ([] : List UInt8) = 0 := by kernel_rfl
theorem got_0 (k : Nat) : page_Get.f idb (k + 300) one22 0 (w4 0 ++ ([] : List UInt8)) = some (noCol, 2200) := by kernel_rfl
theorem crc_1 (k : Nat) : quiverref1_Crc.f idb (k + 60) ([2, 0, 0, 0, 1, 0, 0, 0, 2, 0, 0, 0, 3, 3, 1, 2, 1, 0, 0, 0, 0, 0] : List UInt8) = some 3398848504 := by kernel_rfl
theorem own_1 : crcS ([2, 0, 0, 0, 1, 0, 0, 0, 2, 0, 0, 0, 3, 3, 1, 2, 1, 0, 0, 0, 0, 0] : List UInt8) = 3398848504 := by kernel_rfl
theorem got_1 (k : Nat) : page_Get.f idb (k + 300) one22 0 (w4 3398848504 ++ ([2, 0, 0, 0, 1, 0, 0, 0, 2, 0, 0, 0, 3, 3, 1, 2, 1, 0, 0, 0, 0, 0] : List UInt8)) = some (noCol, 2200) := by kernel_rfl
theorem crc_2 (k : Nat) : quiverref1_Crc.f idb (k + 60) ([2, 0, 0, 0, 1, 0, 0, 0, 2, 0, 0, 0, 3, 3, 1, 2, 1, 0, 0, 0, 0, 0, 0, 120] : List UInt8) = some 620828371 := by kernel_rfl
theorem own_2 : crcS ([2, 0, 0, 0, 1, 0, 0, 0, 2, 0, 0, 0, 3, 3, 1, 2, 1, 0, 0, 0, 0, 0, 0, 120] : List UInt8) = 620828371 := by kernel_rfl
theorem got_2 (k : Nat) : page_Get.f idb (k + 300) one22 0 (w4 620828371 ++ ([2, 0, 0, 0, 1, 0, 0, 0, 2, 0, 0, 0, 3, 3, 1, 2, 1, 0, 0, 0, 0, 0, 0, 120] : List UInt8)) = some (noCol, 2200) := by kernel_rfl
theorem crc_3 (k : Nat) : quiverref1_Crc.f idb (k + 60) ([10, 0, 0, 0, 1, 0, 0, 0, 2, 0, 0, 0, 3, 3, 1, 2, 1, 0, 0, 0, 0, 0, 0] : List UInt8) = some 1628913866 := by kernel_rfl
theorem own_3 : crcS ([10, 0, 0, 0, 1, 0, 0, 0, 2, 0, 0, 0, 3, 3, 1, 2, 1, 0, 0, 0, 0, 0, 0] : List UInt8) = 1628913866 := by kernel_rfl
theorem got_3 (k : Nat) : page_Get.f idb (k + 300) one22 0 (w4 1628913866 ++ ([10, 0, 0, 0, 1, 0, 0, 0, 2, 0, 0, 0, 3, 3, 1, 2, 1, 0, 0, 0, 0, 0, 0] : List UInt8)) = some (noCol, 2200) := by kernel_rfl
theorem crc_4 (k : Nat) : quiverref1_Crc.f idb (k + 60) ([2, 0, 0, 0, 2, 0, 0, 0, 2, 0, 0, 0, 3, 3, 1, 2, 1, 0, 0, 0, 0, 0, 0] : List UInt8) = some 3271066949 := by kernel_rfl
theorem own_4 : crcS ([2, 0, 0, 0, 2, 0, 0, 0, 2, 0, 0, 0, 3, 3, 1, 2, 1, 0, 0, 0, 0, 0, 0] : List UInt8) = 3271066949 := by kernel_rfl
theorem got_4 (k : Nat) : page_Get.f idb (k + 300) one22 0 (w4 3271066949 ++ ([2, 0, 0, 0, 2, 0, 0, 0, 2, 0, 0, 0, 3, 3, 1, 2, 1, 0, 0, 0, 0, 0, 0] : List UInt8)) = some (noCol, 2200) := by kernel_rfl
theorem crc_5 (k : Nat) : quiverref1_Crc.f idb (k + 60) ([2, 0, 0, 0, 1, 0, 0, 0, 1, 0, 0, 0, 3, 3, 1, 2, 1, 0, 0, 0, 0, 0, 0] : List UInt8) = some 1892903317 := by kernel_rfl
theorem own_5 : crcS ([2, 0, 0, 0, 1, 0, 0, 0, 1, 0, 0, 0, 3, 3, 1, 2, 1, 0, 0, 0, 0, 0, 0] : List UInt8) = 1892903317 := by kernel_rfl
theorem got_5 (k : Nat) : page_Get.f idb (k + 300) one22 0 (w4 1892903317 ++ ([2, 0, 0, 0, 1, 0, 0, 0, 1, 0, 0, 0, 3, 3, 1, 2, 1, 0, 0, 0, 0, 0, 0] : List UInt8)) = some (noCol, 2200) := by kernel_rfl
theorem crc_6 (k : Nat) : quiverref1_Crc.f idb (k + 60) ([2, 0, 0, 128, 1, 0, 0, 0, 2, 0, 0, 0, 3, 3, 1, 2, 1, 0, 0, 0, 0, 0, 0] : List UInt8) = some 174015424 := by kernel_rfl
theorem own_6 : crcS ([2, 0, 0, 128, 1, 0, 0, 0, 2, 0, 0, 0, 3, 3, 1, 2, 1, 0, 0, 0, 0, 0, 0] : List UInt8) = 174015424 := by kernel_rfl
theorem got_6 (k : Nat) : page_Get.f idb (k + 300) one22 0 (w4 174015424 ++ ([2, 0, 0, 128, 1, 0, 0, 0, 2, 0, 0, 0, 3, 3, 1, 2, 1, 0, 0, 0, 0, 0, 0] : List UInt8)) = some (noCol, 2200) := by kernel_rfl
theorem crc_7 (k : Nat) : quiverref1_Crc.f idb (k + 60) ([2, 0, 0, 0, 1, 0, 0, 0, 2, 0, 0, 0, 2, 3, 1, 2, 1, 0, 0, 0, 0, 0, 0] : List UInt8) = some 2686508076 := by kernel_rfl
theorem own_7 : crcS ([2, 0, 0, 0, 1, 0, 0, 0, 2, 0, 0, 0, 2, 3, 1, 2, 1, 0, 0, 0, 0, 0, 0] : List UInt8) = 2686508076 := by kernel_rfl
theorem got_7 (k : Nat) : page_Get.f idb (k + 300) one22 0 (w4 2686508076 ++ ([2, 0, 0, 0, 1, 0, 0, 0, 2, 0, 0, 0, 2, 3, 1, 2, 1, 0, 0, 0, 0, 0, 0] : List UInt8)) = some (noCol, 2200) := by kernel_rfl
theorem crc_8 (k : Nat) : quiverref1_Crc.f idb (k + 60) ([2, 0, 0, 0, 1, 0, 0, 0, 2, 0, 0, 0, 3, 2, 1, 2, 1, 0, 0, 0, 0, 0, 0] : List UInt8) = some 2389469394 := by kernel_rfl
theorem own_8 : crcS ([2, 0, 0, 0, 1, 0, 0, 0, 2, 0, 0, 0, 3, 2, 1, 2, 1, 0, 0, 0, 0, 0, 0] : List UInt8) = 2389469394 := by kernel_rfl
theorem got_8 (k : Nat) : page_Get.f idb (k + 300) one22 0 (w4 2389469394 ++ ([2, 0, 0, 0, 1, 0, 0, 0, 2, 0, 0, 0, 3, 2, 1, 2, 1, 0, 0, 0, 0, 0, 0] : List UInt8)) = some (noCol, 2200) := by kernel_rfl
theorem crc_9 (k : Nat) : quiverref1_Crc.f idb (k + 60) ([2, 0, 0, 0, 1, 0, 0, 0, 2, 0, 0] : List UInt8) = some 2518210551 := by kernel_rfl
theorem own_9 : crcS ([2, 0, 0, 0, 1, 0, 0, 0, 2, 0, 0] : List UInt8) = 2518210551 := by kernel_rfl
theorem got_9 (k : Nat) : page_Get.f idb (k + 300) one22 0 (w4 2518210551 ++ ([2, 0, 0, 0, 1, 0, 0, 0, 2, 0, 0] : List UInt8)) = some (noCol, 2200) := by kernel_rfl
theorem crc_10 (k : Nat) : quiverref1_Crc.f idb (k + 60) ([2, 0, 0, 0, 1, 0, 0, 0, 2, 0, 0, 0, 3, 3, 3, 2, 1, 0, 0, 0, 0, 0, 0] : List UInt8) = some 1331178346 := by kernel_rfl
theorem own_10 : crcS ([2, 0, 0, 0, 1, 0, 0, 0, 2, 0, 0, 0, 3, 3, 3, 2, 1, 0, 0, 0, 0, 0, 0] : List UInt8) = 1331178346 := by kernel_rfl
theorem got_10 (k : Nat) : page_Get.f idb (k + 300) one22 0 (w4 1331178346 ++ ([2, 0, 0, 0, 1, 0, 0, 0, 2, 0, 0, 0, 3, 3, 3, 2, 1, 0, 0, 0, 0, 0, 0] : List UInt8)) = some (noCol, 2200) := by kernel_rfl
def txt22 : List (List UInt8) := [[], [2, 0, 0, 0, 1, 0, 0, 0, 2, 0, 0, 0, 3, 3, 1, 2, 1, 0, 0, 0, 0, 0], [2, 0, 0, 0, 1, 0, 0, 0, 2, 0, 0, 0, 3, 3, 1, 2, 1, 0, 0, 0, 0, 0, 0, 120], [10, 0, 0, 0, 1, 0, 0, 0, 2, 0, 0, 0, 3, 3, 1, 2, 1, 0, 0, 0, 0, 0, 0], [2, 0, 0, 0, 2, 0, 0, 0, 2, 0, 0, 0, 3, 3, 1, 2, 1, 0, 0, 0, 0, 0, 0], [2, 0, 0, 0, 1, 0, 0, 0, 1, 0, 0, 0, 3, 3, 1, 2, 1, 0, 0, 0, 0, 0, 0], [2, 0, 0, 128, 1, 0, 0, 0, 2, 0, 0, 0, 3, 3, 1, 2, 1, 0, 0, 0, 0, 0, 0], [2, 0, 0, 0, 1, 0, 0, 0, 2, 0, 0, 0, 2, 3, 1, 2, 1, 0, 0, 0, 0, 0, 0], [2, 0, 0, 0, 1, 0, 0, 0, 2, 0, 0, 0, 3, 2, 1, 2, 1, 0, 0, 0, 0, 0, 0], [2, 0, 0, 0, 1, 0, 0, 0, 2, 0, 0], [2, 0, 0, 0, 1, 0, 0, 0, 2, 0, 0, 0, 3, 3, 3, 2, 1, 0, 0, 0, 0, 0, 0]]
end Go.Proofs.YtjkokaockhecnaaGreatDoorP
