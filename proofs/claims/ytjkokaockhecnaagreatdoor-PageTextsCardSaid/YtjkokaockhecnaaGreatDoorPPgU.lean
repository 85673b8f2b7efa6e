/- The law PageTexts, put together (printed by pgt.py); no condition. -/
import Derived.Test.YtjkokaockhecnaaGreatDoorPPgT
import Derived.Test.YtjkokaockhecnaaGreatDoorPPg9
namespace Go.Proofs.YtjkokaockhecnaaGreatDoorP
open Go Go.Proofs.YtjkokaockhecnaaGreatDoorA

theorem head22 (k : Nat) (a0 a1 : Int) :
 (bif decide (0 ≤ 4) && decide (4 ≤ (((pgs).length : Nat) : Int)) then
  bif decide (0 ≤ 22) && decide (22 ≤ (((List.drop 4 (List.take ((pgs).length) pgs)).length : Nat) : Int)) then
   bif decide ((List.drop 4 (List.take ((pgs).length) pgs)).length + (([120] : List UInt8)).length ≤ 9223372036854775807) then
    bif decide (0 ≤ 1) && decide (1 ≤ (((List.drop 4 (List.take ((pgs).length) pgs)).length : Nat) : Int)) then
     bif decide ((([10] : List UInt8)).length + (List.drop 1 (List.take ((List.drop 4 (List.take ((pgs).length) pgs)).length) (List.drop 4 (List.take ((pgs).length) pgs)))).length ≤ 9223372036854775807) then
      bif decide (0 ≤ 4) && decide (4 ≤ (((List.drop 4 (List.take ((pgs).length) pgs)).length : Nat) : Int)) then
       bif decide ((List.drop 0 (List.take 4 (List.drop 4 (List.take ((pgs).length) pgs)))).length + (([2] : List UInt8)).length ≤ 9223372036854775807) then
        bif decide (0 ≤ 5) && decide (5 ≤ (((List.drop 4 (List.take ((pgs).length) pgs)).length : Nat) : Int)) then
         bif decide (((List.drop 0 (List.take 4 (List.drop 4 (List.take ((pgs).length) pgs)))) ++ ([2] : List UInt8)).length + (List.drop 5 (List.take ((List.drop 4 (List.take ((pgs).length) pgs)).length) (List.drop 4 (List.take ((pgs).length) pgs)))).length ≤ 9223372036854775807) then
          bif decide (0 ≤ 8) && decide (8 ≤ (((List.drop 4 (List.take ((pgs).length) pgs)).length : Nat) : Int)) then
           bif decide ((List.drop 0 (List.take 8 (List.drop 4 (List.take ((pgs).length) pgs)))).length + (([1] : List UInt8)).length ≤ 9223372036854775807) then
            bif decide (0 ≤ 9) && decide (9 ≤ (((List.drop 4 (List.take ((pgs).length) pgs)).length : Nat) : Int)) then
             bif decide (((List.drop 0 (List.take 8 (List.drop 4 (List.take ((pgs).length) pgs)))) ++ ([1] : List UInt8)).length + (List.drop 9 (List.take ((List.drop 4 (List.take ((pgs).length) pgs)).length) (List.drop 4 (List.take ((pgs).length) pgs)))).length ≤ 9223372036854775807) then
              bif decide (0 ≤ 3) && decide (3 ≤ (((List.drop 4 (List.take ((pgs).length) pgs)).length : Nat) : Int)) then
               bif decide ((List.drop 0 (List.take 3 (List.drop 4 (List.take ((pgs).length) pgs)))).length + (([128] : List UInt8)).length ≤ 9223372036854775807) then
                bif decide (0 ≤ 4) && decide (4 ≤ (((List.drop 4 (List.take ((pgs).length) pgs)).length : Nat) : Int)) then
                 bif decide (((List.drop 0 (List.take 3 (List.drop 4 (List.take ((pgs).length) pgs)))) ++ ([128] : List UInt8)).length + (List.drop 4 (List.take ((List.drop 4 (List.take ((pgs).length) pgs)).length) (List.drop 4 (List.take ((pgs).length) pgs)))).length ≤ 9223372036854775807) then
                  bif decide (0 ≤ 12) && decide (12 ≤ (((List.drop 4 (List.take ((pgs).length) pgs)).length : Nat) : Int)) then
                   bif decide ((List.drop 0 (List.take 12 (List.drop 4 (List.take ((pgs).length) pgs)))).length + (([2] : List UInt8)).length ≤ 9223372036854775807) then
                    bif decide (0 ≤ 13) && decide (13 ≤ (((List.drop 4 (List.take ((pgs).length) pgs)).length : Nat) : Int)) then
                     bif decide (((List.drop 0 (List.take 12 (List.drop 4 (List.take ((pgs).length) pgs)))) ++ ([2] : List UInt8)).length + (List.drop 13 (List.take ((List.drop 4 (List.take ((pgs).length) pgs)).length) (List.drop 4 (List.take ((pgs).length) pgs)))).length ≤ 9223372036854775807) then
                      bif decide (0 ≤ 13) && decide (13 ≤ (((List.drop 4 (List.take ((pgs).length) pgs)).length : Nat) : Int)) then
                       bif decide ((List.drop 0 (List.take 13 (List.drop 4 (List.take ((pgs).length) pgs)))).length + (([2] : List UInt8)).length ≤ 9223372036854775807) then
                        bif decide (0 ≤ 14) && decide (14 ≤ (((List.drop 4 (List.take ((pgs).length) pgs)).length : Nat) : Int)) then
                         bif decide (((List.drop 0 (List.take 13 (List.drop 4 (List.take ((pgs).length) pgs)))) ++ ([2] : List UInt8)).length + (List.drop 14 (List.take ((List.drop 4 (List.take ((pgs).length) pgs)).length) (List.drop 4 (List.take ((pgs).length) pgs)))).length ≤ 9223372036854775807) then
                          bif decide (0 ≤ 11) && decide (11 ≤ (((List.drop 4 (List.take ((pgs).length) pgs)).length : Nat) : Int)) then
                           bif decide (0 ≤ 14) && decide (14 ≤ (((List.drop 4 (List.take ((pgs).length) pgs)).length : Nat) : Int)) then
                            bif decide ((List.drop 0 (List.take 14 (List.drop 4 (List.take ((pgs).length) pgs)))).length + (([3] : List UInt8)).length ≤ 9223372036854775807) then
                             bif decide (0 ≤ 15) && decide (15 ≤ (((List.drop 4 (List.take ((pgs).length) pgs)).length : Nat) : Int)) then
                              bif decide (((List.drop 0 (List.take 14 (List.drop 4 (List.take ((pgs).length) pgs)))) ++ ([3] : List UInt8)).length + (List.drop 15 (List.take ((List.drop 4 (List.take ((pgs).length) pgs)).length) (List.drop 4 (List.take ((pgs).length) pgs)))).length ≤ 9223372036854775807) then
                               bif decide (0 ≤ IntKind.i64.wrap (Int.tmod (IntKind.u64.wrap a0) 11)) && decide (IntKind.i64.wrap (Int.tmod (IntKind.u64.wrap a0) 11) < ((([([] : List UInt8), List.drop 0 (List.take 22 (List.drop 4 (List.take ((pgs).length) pgs))), (List.drop 4 (List.take ((pgs).length) pgs)) ++ ([120] : List UInt8), ([10] : List UInt8) ++ (List.drop 1 (List.take ((List.drop 4 (List.take ((pgs).length) pgs)).length) (List.drop 4 (List.take ((pgs).length) pgs)))), ((List.drop 0 (List.take 4 (List.drop 4 (List.take ((pgs).length) pgs)))) ++ ([2] : List UInt8)) ++ (List.drop 5 (List.take ((List.drop 4 (List.take ((pgs).length) pgs)).length) (List.drop 4 (List.take ((pgs).length) pgs)))), ((List.drop 0 (List.take 8 (List.drop 4 (List.take ((pgs).length) pgs)))) ++ ([1] : List UInt8)) ++ (List.drop 9 (List.take ((List.drop 4 (List.take ((pgs).length) pgs)).length) (List.drop 4 (List.take ((pgs).length) pgs)))), ((List.drop 0 (List.take 3 (List.drop 4 (List.take ((pgs).length) pgs)))) ++ ([128] : List UInt8)) ++ (List.drop 4 (List.take ((List.drop 4 (List.take ((pgs).length) pgs)).length) (List.drop 4 (List.take ((pgs).length) pgs)))), ((List.drop 0 (List.take 12 (List.drop 4 (List.take ((pgs).length) pgs)))) ++ ([2] : List UInt8)) ++ (List.drop 13 (List.take ((List.drop 4 (List.take ((pgs).length) pgs)).length) (List.drop 4 (List.take ((pgs).length) pgs)))), ((List.drop 0 (List.take 13 (List.drop 4 (List.take ((pgs).length) pgs)))) ++ ([2] : List UInt8)) ++ (List.drop 14 (List.take ((List.drop 4 (List.take ((pgs).length) pgs)).length) (List.drop 4 (List.take ((pgs).length) pgs)))), List.drop 0 (List.take 11 (List.drop 4 (List.take ((pgs).length) pgs))), ((List.drop 0 (List.take 14 (List.drop 4 (List.take ((pgs).length) pgs)))) ++ ([3] : List UInt8)) ++ (List.drop 15 (List.take ((List.drop 4 (List.take ((pgs).length) pgs)).length) (List.drop 4 (List.take ((pgs).length) pgs))))] : List (List UInt8))).length : Int)) then
                                (([([] : List UInt8), List.drop 0 (List.take 22 (List.drop 4 (List.take ((pgs).length) pgs))), (List.drop 4 (List.take ((pgs).length) pgs)) ++ ([120] : List UInt8), ([10] : List UInt8) ++ (List.drop 1 (List.take ((List.drop 4 (List.take ((pgs).length) pgs)).length) (List.drop 4 (List.take ((pgs).length) pgs)))), ((List.drop 0 (List.take 4 (List.drop 4 (List.take ((pgs).length) pgs)))) ++ ([2] : List UInt8)) ++ (List.drop 5 (List.take ((List.drop 4 (List.take ((pgs).length) pgs)).length) (List.drop 4 (List.take ((pgs).length) pgs)))), ((List.drop 0 (List.take 8 (List.drop 4 (List.take ((pgs).length) pgs)))) ++ ([1] : List UInt8)) ++ (List.drop 9 (List.take ((List.drop 4 (List.take ((pgs).length) pgs)).length) (List.drop 4 (List.take ((pgs).length) pgs)))), ((List.drop 0 (List.take 3 (List.drop 4 (List.take ((pgs).length) pgs)))) ++ ([128] : List UInt8)) ++ (List.drop 4 (List.take ((List.drop 4 (List.take ((pgs).length) pgs)).length) (List.drop 4 (List.take ((pgs).length) pgs)))), ((List.drop 0 (List.take 12 (List.drop 4 (List.take ((pgs).length) pgs)))) ++ ([2] : List UInt8)) ++ (List.drop 13 (List.take ((List.drop 4 (List.take ((pgs).length) pgs)).length) (List.drop 4 (List.take ((pgs).length) pgs)))), ((List.drop 0 (List.take 13 (List.drop 4 (List.take ((pgs).length) pgs)))) ++ ([2] : List UInt8)) ++ (List.drop 14 (List.take ((List.drop 4 (List.take ((pgs).length) pgs)).length) (List.drop 4 (List.take ((pgs).length) pgs)))), List.drop 0 (List.take 11 (List.drop 4 (List.take ((pgs).length) pgs))), ((List.drop 0 (List.take 14 (List.drop 4 (List.take ((pgs).length) pgs)))) ++ ([3] : List UInt8)) ++ (List.drop 15 (List.take ((List.drop 4 (List.take ((pgs).length) pgs)).length) (List.drop 4 (List.take ((pgs).length) pgs))))] : List (List UInt8))[(IntKind.i64.wrap (Int.tmod (IntKind.u64.wrap a0) 11)).toNat]?).bind fun e_5 =>
                                (quiverref1_Crc.f idb k e_5).bind fun r_6 =>
                                (quiverlaw22_ints.f idb k).bind fun r_7 =>
                                (quiverref1_Low.f idb k r_6 4).bind fun r_8 =>
                                bif decide ((r_8).length + (e_5).length ≤ 9223372036854775807) then
                                 (page_Get.f idb k r_7 0 (r_8 ++ e_5)).bind fun r_9 =>
                                 (quiverlaw22_ints.f idb k).bind fun r_10 =>
                                 (quiverref1_Low.f idb k (bitsOp .xor .i64 r_6 (IntKind.i64.wrap (1 + (bitsOp .and .i64 a1 65535)))) 4).bind fun r_11 =>
                                 bif decide ((r_11).length + (e_5).length ≤ 9223372036854775807) then
                                  (page_Get.f idb k r_10 0 (r_11 ++ e_5)).bind fun r_12 =>
                                  (quiverlaw22_ints.f idb k).bind fun r_13 =>
                                  bif decide (0 ≤ bitsOp .and .i64 a0 3) && decide (bitsOp .and .i64 a0 3 ≤ (((pgs).length : Nat) : Int)) then
                                   (page_Get.f idb k r_13 0 (List.drop 0 (List.take ((bitsOp .and .i64 a0 3).toNat) pgs))).bind fun r_14 =>
                                   (quiverlaw22_ints.f idb k).bind fun r_15 =>
                                   (page_Get.f idb k r_15 1 pgs).bind fun r_16 =>
                                   (quiverlaw0_Num.f idb k r_9.2).bind fun r_17 =>
                                   bif (r_17 == 2200) then
                                    (quiverlaw0_Num.f idb k r_12.2).bind fun r_18 =>
                                    bif (r_18 == 2201) then
                                     (quiverlaw0_Num.f idb k r_14.2).bind fun r_19 =>
                                     bif (r_19 == 2200) then
                                      (quiverlaw0_Num.f idb k r_16.2).bind fun r_20 =>
                                      some (r_20 == 2200)
                                     else
                                      some false
                                    else
                                     some false
                                   else
                                    some false
                                  else
                                   none
                                 else
                                  none
                                else
                                 none
                               else
                                none
                              else
                               none
                             else
                              none
                            else
                             none
                           else
                            none
                          else
                           none
                         else
                          none
                        else
                         none
                       else
                        none
                      else
                       none
                     else
                      none
                    else
                     none
                   else
                    none
                  else
                   none
                 else
                  none
                else
                 none
               else
                none
              else
               none
             else
              none
            else
             none
           else
            none
          else
           none
         else
          none
        else
         none
       else
        none
      else
       none
     else
      none
    else
     none
   else
    none
  else
   none
 else
  none) =
 (bif decide (0 ≤ IntKind.i64.wrap (Int.tmod (IntKind.u64.wrap a0) 11)) && decide (IntKind.i64.wrap (Int.tmod (IntKind.u64.wrap a0) 11) < (11 : Int)) then
  (txt22[(IntKind.i64.wrap (Int.tmod (IntKind.u64.wrap a0) 11)).toNat]?).bind fun e_5 =>
  (quiverref1_Crc.f idb k e_5).bind fun r_6 =>
  (quiverlaw22_ints.f idb k).bind fun r_7 =>
  (quiverref1_Low.f idb k r_6 4).bind fun r_8 =>
  bif decide ((r_8).length + (e_5).length ≤ 9223372036854775807) then
   (page_Get.f idb k r_7 0 (r_8 ++ e_5)).bind fun r_9 =>
   (quiverlaw22_ints.f idb k).bind fun r_10 =>
   (quiverref1_Low.f idb k (bitsOp .xor .i64 r_6 (IntKind.i64.wrap (1 + (bitsOp .and .i64 a1 65535)))) 4).bind fun r_11 =>
   bif decide ((r_11).length + (e_5).length ≤ 9223372036854775807) then
    (page_Get.f idb k r_10 0 (r_11 ++ e_5)).bind fun r_12 =>
    (quiverlaw22_ints.f idb k).bind fun r_13 =>
    bif decide (0 ≤ bitsOp .and .i64 a0 3) && decide (bitsOp .and .i64 a0 3 ≤ (((pgs).length : Nat) : Int)) then
     (page_Get.f idb k r_13 0 (List.drop 0 (List.take ((bitsOp .and .i64 a0 3).toNat) pgs))).bind fun r_14 =>
     (quiverlaw22_ints.f idb k).bind fun r_15 =>
     (page_Get.f idb k r_15 1 pgs).bind fun r_16 =>
     (quiverlaw0_Num.f idb k r_9.2).bind fun r_17 =>
     bif (r_17 == 2200) then
      (quiverlaw0_Num.f idb k r_12.2).bind fun r_18 =>
      bif (r_18 == 2201) then
       (quiverlaw0_Num.f idb k r_14.2).bind fun r_19 =>
       bif (r_19 == 2200) then
        (quiverlaw0_Num.f idb k r_16.2).bind fun r_20 =>
        some (r_20 == 2200)
       else
        some false
      else
       some false
     else
      some false
    else
     none
   else
    none
  else
   none
 else
  none) := by kernel_rfl
theorem tail22 (k : Nat) (a0 a1 : Int) (e_5 : List UInt8) (S : Int) (h1 : quiverref1_Crc.f idb k e_5 = some S) (h2 : crcS e_5 = S) (h3 : page_Get.f idb k one22 0 (w4 S ++ e_5) = some (noCol, 2200)) (hl : e_5.length ≤ 100) (hS : 0 ≤ S ∧ S ≤ 4294967295) (hk : 2000000 ≤ k) :
 ((quiverref1_Crc.f idb k e_5).bind fun r_6 =>
 (quiverlaw22_ints.f idb k).bind fun r_7 =>
 (quiverref1_Low.f idb k r_6 4).bind fun r_8 =>
 bif decide ((r_8).length + (e_5).length ≤ 9223372036854775807) then
  (page_Get.f idb k r_7 0 (r_8 ++ e_5)).bind fun r_9 =>
  (quiverlaw22_ints.f idb k).bind fun r_10 =>
  (quiverref1_Low.f idb k (bitsOp .xor .i64 r_6 (IntKind.i64.wrap (1 + (bitsOp .and .i64 a1 65535)))) 4).bind fun r_11 =>
  bif decide ((r_11).length + (e_5).length ≤ 9223372036854775807) then
   (page_Get.f idb k r_10 0 (r_11 ++ e_5)).bind fun r_12 =>
   (quiverlaw22_ints.f idb k).bind fun r_13 =>
   bif decide (0 ≤ bitsOp .and .i64 a0 3) && decide (bitsOp .and .i64 a0 3 ≤ (((pgs).length : Nat) : Int)) then
    (page_Get.f idb k r_13 0 (List.drop 0 (List.take ((bitsOp .and .i64 a0 3).toNat) pgs))).bind fun r_14 =>
    (quiverlaw22_ints.f idb k).bind fun r_15 =>
    (page_Get.f idb k r_15 1 pgs).bind fun r_16 =>
    (quiverlaw0_Num.f idb k r_9.2).bind fun r_17 =>
    bif (r_17 == 2200) then
     (quiverlaw0_Num.f idb k r_12.2).bind fun r_18 =>
     bif (r_18 == 2201) then
      (quiverlaw0_Num.f idb k r_14.2).bind fun r_19 =>
      bif (r_19 == 2200) then
       (quiverlaw0_Num.f idb k r_16.2).bind fun r_20 =>
       some (r_20 == 2200)
      else
       some false
     else
      some false
    else
     some false
   else
    none
  else
   none
 else
  none) = some true := by
  simp only [h1, bS]
  have hx := xor22 S hS a1
  generalize bitsOp .xor .i64 S (IntKind.i64.wrap (1 + (bitsOp .and .i64 a1 65535))) = Y at hx ⊢
  have ha := and3 a0
  generalize bitsOp .and .i64 a0 3 = q at ha ⊢
  have hq : ((List.drop 0 (List.take (q).toNat pgs)).length) < 4 := by
    rw [List.drop_zero, List.length_take]; omega
  have e12 : page_Get.f idb k one22 0 (w4 Y ++ e_5) = some (noCol, 2201) := Get_sum (by rw [List.length_append, w4_length]; omega) (by rw [List.length_append, w4_length]; omega) (by rw [List.length_append, w4_length]; omega) (by kernel_rfl) (by
    rw [show (4 : Nat) = (w4 Y).length from rfl, List.take_left', List.drop_left', numOf_w4' hx.2, h2]
    · exact hx.1
    · rfl
    · rfl)
  have e14 : page_Get.f idb k one22 0 (List.drop 0 (List.take (q).toNat pgs)) = some (noCol, 2200) := Get_less (by omega) hq
  have e16 : page_Get.f idb k one22 1 pgs = some (noCol, 2200) := Get_leaf (by omega) (by kernel_rfl)
  have h8 : ∀ z, quiverref1_Low.f idb k z 4 = some (w4 z) := fun z => by
    obtain ⟨k, rfl⟩ : ∃ q, k = q + 12 := ⟨k - 12, by omega⟩
    exact low4 k z
  simp only [bS, ints22 (show 1 ≤ k by omega), h8, h3, e12, e14, e16, Num_ok (show 1 ≤ k by omega)]
  rw [dT (by rw [w4_length]; omega), cT, dT (by rw [w4_length]; omega), cT, dT (by omega), dT (show q ≤ ((pgs.length : Nat) : Int) by show q ≤ 27; omega), Bool.and_self, cT]
  rfl
theorem pure_PageTexts (a0 a1 : Int) : ∃ k, quiverlaw22_PageTexts.f idb k a0 a1 = some true := by
  refine ⟨2000100 + 1, ?_⟩
  rw [quiverlaw22_PageTexts.f_eq, awake22' (by omega), bS, Bool.not_true, cF, ints22 (by omega), bS]
  rw [show page_Put.f idb 2000100 one22 0 (Col.mk ([0, 0] : List Int) ([1, 0] : List Int) ([([105, 50, 53, 56, 59] : List UInt8)] : List (List UInt8))) = some (pgs, 0) from Put_one 1999800, bS, Num_ok (by omega), bS]
  simp only [show ((0 : Int) != 0) = false from rfl, Bool.not_false, cT]
  rw [show ((((pgs.length : Nat) : Int)) != 27) = false from by kernel_rfl, cF]
  have hh := head22 2000100 a0 a1
  refine hh.trans ?_
  have hi : 0 ≤ IntKind.i64.wrap (Int.tmod (IntKind.u64.wrap a0) 11) ∧ IntKind.i64.wrap (Int.tmod (IntKind.u64.wrap a0) 11) < 11 := idx22 a0
  generalize IntKind.i64.wrap (Int.tmod (IntKind.u64.wrap a0) 11) = j at hi
  rw [dT hi.1, dT hi.2, Bool.and_self, cT]
  obtain ⟨n, rfl⟩ : ∃ n : Nat, j = (n : Int) := ⟨j.toNat, by omega⟩
  rw [Int.toNat_natCast]
  have hn : n < 11 := by omega
  clear hh hi
  have hc : n = 0 ∨ n = 1 ∨ n = 2 ∨ n = 3 ∨ n = 4 ∨ n = 5 ∨ n = 6 ∨ n = 7 ∨ n = 8 ∨ n = 9 ∨ n = 10 := by omega
  rcases hc with rfl | rfl | rfl | rfl | rfl | rfl | rfl | rfl | rfl | rfl | rfl
  · exact (bS' (show txt22[0]? = some ([] : List UInt8) from rfl) _).trans (tail22 2000100 a0 a1 _ 0 (crc_0 2000040) own_0 (got_0 1999800) (by decide) (by decide) (by omega))
  · exact (bS' (show txt22[1]? = some ([2, 0, 0, 0, 1, 0, 0, 0, 2, 0, 0, 0, 3, 3, 1, 2, 1, 0, 0, 0, 0, 0] : List UInt8) from rfl) _).trans (tail22 2000100 a0 a1 _ 3398848504 (crc_1 2000040) own_1 (got_1 1999800) (by decide) (by decide) (by omega))
  · exact (bS' (show txt22[2]? = some ([2, 0, 0, 0, 1, 0, 0, 0, 2, 0, 0, 0, 3, 3, 1, 2, 1, 0, 0, 0, 0, 0, 0, 120] : List UInt8) from rfl) _).trans (tail22 2000100 a0 a1 _ 620828371 (crc_2 2000040) own_2 (got_2 1999800) (by decide) (by decide) (by omega))
  · exact (bS' (show txt22[3]? = some ([10, 0, 0, 0, 1, 0, 0, 0, 2, 0, 0, 0, 3, 3, 1, 2, 1, 0, 0, 0, 0, 0, 0] : List UInt8) from rfl) _).trans (tail22 2000100 a0 a1 _ 1628913866 (crc_3 2000040) own_3 (got_3 1999800) (by decide) (by decide) (by omega))
  · exact (bS' (show txt22[4]? = some ([2, 0, 0, 0, 2, 0, 0, 0, 2, 0, 0, 0, 3, 3, 1, 2, 1, 0, 0, 0, 0, 0, 0] : List UInt8) from rfl) _).trans (tail22 2000100 a0 a1 _ 3271066949 (crc_4 2000040) own_4 (got_4 1999800) (by decide) (by decide) (by omega))
  · exact (bS' (show txt22[5]? = some ([2, 0, 0, 0, 1, 0, 0, 0, 1, 0, 0, 0, 3, 3, 1, 2, 1, 0, 0, 0, 0, 0, 0] : List UInt8) from rfl) _).trans (tail22 2000100 a0 a1 _ 1892903317 (crc_5 2000040) own_5 (got_5 1999800) (by decide) (by decide) (by omega))
  · exact (bS' (show txt22[6]? = some ([2, 0, 0, 128, 1, 0, 0, 0, 2, 0, 0, 0, 3, 3, 1, 2, 1, 0, 0, 0, 0, 0, 0] : List UInt8) from rfl) _).trans (tail22 2000100 a0 a1 _ 174015424 (crc_6 2000040) own_6 (got_6 1999800) (by decide) (by decide) (by omega))
  · exact (bS' (show txt22[7]? = some ([2, 0, 0, 0, 1, 0, 0, 0, 2, 0, 0, 0, 2, 3, 1, 2, 1, 0, 0, 0, 0, 0, 0] : List UInt8) from rfl) _).trans (tail22 2000100 a0 a1 _ 2686508076 (crc_7 2000040) own_7 (got_7 1999800) (by decide) (by decide) (by omega))
  · exact (bS' (show txt22[8]? = some ([2, 0, 0, 0, 1, 0, 0, 0, 2, 0, 0, 0, 3, 2, 1, 2, 1, 0, 0, 0, 0, 0, 0] : List UInt8) from rfl) _).trans (tail22 2000100 a0 a1 _ 2389469394 (crc_8 2000040) own_8 (got_8 1999800) (by decide) (by decide) (by omega))
  · exact (bS' (show txt22[9]? = some ([2, 0, 0, 0, 1, 0, 0, 0, 2, 0, 0] : List UInt8) from rfl) _).trans (tail22 2000100 a0 a1 _ 2518210551 (crc_9 2000040) own_9 (got_9 1999800) (by decide) (by decide) (by omega))
  · exact (bS' (show txt22[10]? = some ([2, 0, 0, 0, 1, 0, 0, 0, 2, 0, 0, 0, 3, 3, 3, 2, 1, 0, 0, 0, 0, 0, 0] : List UInt8) from rfl) _).trans (tail22 2000100 a0 a1 _ 1331178346 (crc_10 2000040) own_10 (got_10 1999800) (by decide) (by decide) (by omega))
end Go.Proofs.YtjkokaockhecnaaGreatDoorP
