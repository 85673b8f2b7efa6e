/- Each function and each loop of the program answers as its equation says; no condition. -/
import Derived.Test.YtjkokaockhecnaaGreatDoorFns
namespace Go.Proofs.YtjkokaockhecnaaGreatDoorA
open Go
set_option linter.unusedVariables false
theorem quiverlaw22_PageTexts.f_eq (bar : Bar) (k : Nat) (a0 : Int) (a1 : Int) : quiverlaw22_PageTexts.f bar (k + 1) a0 a1 =
 (quiverlaw22_awake.f bar k).bind fun r_1 =>
 bif (!r_1) then
  some false
 else
  (quiverlaw22_ints.f bar k).bind fun r_2 =>
  (page_Put.f bar k r_2 0 (Col.mk ([0, 0] : List Int) ([1, 0] : List Int) ([([105, 50, 53, 56, 59] : List UInt8)] : List (List UInt8)))).bind fun r_3 =>
  (quiverlaw0_Num.f bar k r_3.2).bind fun r_4 =>
  bif (!(r_4 != 0)) then
   bif (((r_3.1).length : Int) != 27) then
    some false
   else
    bif decide (0 ≤ 4) && decide (4 ≤ (((r_3.1).length : Nat) : Int)) then
     bif decide (0 ≤ 22) && decide (22 ≤ (((List.drop 4 (List.take ((r_3.1).length) r_3.1)).length : Nat) : Int)) then
      bif decide ((List.drop 4 (List.take ((r_3.1).length) r_3.1)).length + (([120] : List UInt8)).length ≤ 9223372036854775807) then
       bif decide (0 ≤ 1) && decide (1 ≤ (((List.drop 4 (List.take ((r_3.1).length) r_3.1)).length : Nat) : Int)) then
        bif decide ((([10] : List UInt8)).length + (List.drop 1 (List.take ((List.drop 4 (List.take ((r_3.1).length) r_3.1)).length) (List.drop 4 (List.take ((r_3.1).length) r_3.1)))).length ≤ 9223372036854775807) then
         bif decide (0 ≤ 4) && decide (4 ≤ (((List.drop 4 (List.take ((r_3.1).length) r_3.1)).length : Nat) : Int)) then
          bif decide ((List.drop 0 (List.take 4 (List.drop 4 (List.take ((r_3.1).length) r_3.1)))).length + (([2] : List UInt8)).length ≤ 9223372036854775807) then
           bif decide (0 ≤ 5) && decide (5 ≤ (((List.drop 4 (List.take ((r_3.1).length) r_3.1)).length : Nat) : Int)) then
            bif decide (((List.drop 0 (List.take 4 (List.drop 4 (List.take ((r_3.1).length) r_3.1)))) ++ ([2] : List UInt8)).length + (List.drop 5 (List.take ((List.drop 4 (List.take ((r_3.1).length) r_3.1)).length) (List.drop 4 (List.take ((r_3.1).length) r_3.1)))).length ≤ 9223372036854775807) then
             bif decide (0 ≤ 8) && decide (8 ≤ (((List.drop 4 (List.take ((r_3.1).length) r_3.1)).length : Nat) : Int)) then
              bif decide ((List.drop 0 (List.take 8 (List.drop 4 (List.take ((r_3.1).length) r_3.1)))).length + (([1] : List UInt8)).length ≤ 9223372036854775807) then
               bif decide (0 ≤ 9) && decide (9 ≤ (((List.drop 4 (List.take ((r_3.1).length) r_3.1)).length : Nat) : Int)) then
                bif decide (((List.drop 0 (List.take 8 (List.drop 4 (List.take ((r_3.1).length) r_3.1)))) ++ ([1] : List UInt8)).length + (List.drop 9 (List.take ((List.drop 4 (List.take ((r_3.1).length) r_3.1)).length) (List.drop 4 (List.take ((r_3.1).length) r_3.1)))).length ≤ 9223372036854775807) then
                 bif decide (0 ≤ 3) && decide (3 ≤ (((List.drop 4 (List.take ((r_3.1).length) r_3.1)).length : Nat) : Int)) then
                  bif decide ((List.drop 0 (List.take 3 (List.drop 4 (List.take ((r_3.1).length) r_3.1)))).length + (([128] : List UInt8)).length ≤ 9223372036854775807) then
                   bif decide (0 ≤ 4) && decide (4 ≤ (((List.drop 4 (List.take ((r_3.1).length) r_3.1)).length : Nat) : Int)) then
                    bif decide (((List.drop 0 (List.take 3 (List.drop 4 (List.take ((r_3.1).length) r_3.1)))) ++ ([128] : List UInt8)).length + (List.drop 4 (List.take ((List.drop 4 (List.take ((r_3.1).length) r_3.1)).length) (List.drop 4 (List.take ((r_3.1).length) r_3.1)))).length ≤ 9223372036854775807) then
                     bif decide (0 ≤ 12) && decide (12 ≤ (((List.drop 4 (List.take ((r_3.1).length) r_3.1)).length : Nat) : Int)) then
                      bif decide ((List.drop 0 (List.take 12 (List.drop 4 (List.take ((r_3.1).length) r_3.1)))).length + (([2] : List UInt8)).length ≤ 9223372036854775807) then
                       bif decide (0 ≤ 13) && decide (13 ≤ (((List.drop 4 (List.take ((r_3.1).length) r_3.1)).length : Nat) : Int)) then
                        bif decide (((List.drop 0 (List.take 12 (List.drop 4 (List.take ((r_3.1).length) r_3.1)))) ++ ([2] : List UInt8)).length + (List.drop 13 (List.take ((List.drop 4 (List.take ((r_3.1).length) r_3.1)).length) (List.drop 4 (List.take ((r_3.1).length) r_3.1)))).length ≤ 9223372036854775807) then
                         bif decide (0 ≤ 13) && decide (13 ≤ (((List.drop 4 (List.take ((r_3.1).length) r_3.1)).length : Nat) : Int)) then
                          bif decide ((List.drop 0 (List.take 13 (List.drop 4 (List.take ((r_3.1).length) r_3.1)))).length + (([2] : List UInt8)).length ≤ 9223372036854775807) then
                           bif decide (0 ≤ 14) && decide (14 ≤ (((List.drop 4 (List.take ((r_3.1).length) r_3.1)).length : Nat) : Int)) then
                            bif decide (((List.drop 0 (List.take 13 (List.drop 4 (List.take ((r_3.1).length) r_3.1)))) ++ ([2] : List UInt8)).length + (List.drop 14 (List.take ((List.drop 4 (List.take ((r_3.1).length) r_3.1)).length) (List.drop 4 (List.take ((r_3.1).length) r_3.1)))).length ≤ 9223372036854775807) then
                             bif decide (0 ≤ 11) && decide (11 ≤ (((List.drop 4 (List.take ((r_3.1).length) r_3.1)).length : Nat) : Int)) then
                              bif decide (0 ≤ 14) && decide (14 ≤ (((List.drop 4 (List.take ((r_3.1).length) r_3.1)).length : Nat) : Int)) then
                               bif decide ((List.drop 0 (List.take 14 (List.drop 4 (List.take ((r_3.1).length) r_3.1)))).length + (([3] : List UInt8)).length ≤ 9223372036854775807) then
                                bif decide (0 ≤ 15) && decide (15 ≤ (((List.drop 4 (List.take ((r_3.1).length) r_3.1)).length : Nat) : Int)) then
                                 bif decide (((List.drop 0 (List.take 14 (List.drop 4 (List.take ((r_3.1).length) r_3.1)))) ++ ([3] : List UInt8)).length + (List.drop 15 (List.take ((List.drop 4 (List.take ((r_3.1).length) r_3.1)).length) (List.drop 4 (List.take ((r_3.1).length) r_3.1)))).length ≤ 9223372036854775807) then
                                  bif decide (0 ≤ IntKind.i64.wrap (Int.tmod (IntKind.u64.wrap a0) 11)) && decide (IntKind.i64.wrap (Int.tmod (IntKind.u64.wrap a0) 11) < ((([([] : List UInt8), List.drop 0 (List.take 22 (List.drop 4 (List.take ((r_3.1).length) r_3.1))), (List.drop 4 (List.take ((r_3.1).length) r_3.1)) ++ ([120] : List UInt8), ([10] : List UInt8) ++ (List.drop 1 (List.take ((List.drop 4 (List.take ((r_3.1).length) r_3.1)).length) (List.drop 4 (List.take ((r_3.1).length) r_3.1)))), ((List.drop 0 (List.take 4 (List.drop 4 (List.take ((r_3.1).length) r_3.1)))) ++ ([2] : List UInt8)) ++ (List.drop 5 (List.take ((List.drop 4 (List.take ((r_3.1).length) r_3.1)).length) (List.drop 4 (List.take ((r_3.1).length) r_3.1)))), ((List.drop 0 (List.take 8 (List.drop 4 (List.take ((r_3.1).length) r_3.1)))) ++ ([1] : List UInt8)) ++ (List.drop 9 (List.take ((List.drop 4 (List.take ((r_3.1).length) r_3.1)).length) (List.drop 4 (List.take ((r_3.1).length) r_3.1)))), ((List.drop 0 (List.take 3 (List.drop 4 (List.take ((r_3.1).length) r_3.1)))) ++ ([128] : List UInt8)) ++ (List.drop 4 (List.take ((List.drop 4 (List.take ((r_3.1).length) r_3.1)).length) (List.drop 4 (List.take ((r_3.1).length) r_3.1)))), ((List.drop 0 (List.take 12 (List.drop 4 (List.take ((r_3.1).length) r_3.1)))) ++ ([2] : List UInt8)) ++ (List.drop 13 (List.take ((List.drop 4 (List.take ((r_3.1).length) r_3.1)).length) (List.drop 4 (List.take ((r_3.1).length) r_3.1)))), ((List.drop 0 (List.take 13 (List.drop 4 (List.take ((r_3.1).length) r_3.1)))) ++ ([2] : List UInt8)) ++ (List.drop 14 (List.take ((List.drop 4 (List.take ((r_3.1).length) r_3.1)).length) (List.drop 4 (List.take ((r_3.1).length) r_3.1)))), List.drop 0 (List.take 11 (List.drop 4 (List.take ((r_3.1).length) r_3.1))), ((List.drop 0 (List.take 14 (List.drop 4 (List.take ((r_3.1).length) r_3.1)))) ++ ([3] : List UInt8)) ++ (List.drop 15 (List.take ((List.drop 4 (List.take ((r_3.1).length) r_3.1)).length) (List.drop 4 (List.take ((r_3.1).length) r_3.1))))] : List (List UInt8))).length : Int)) then
                                   (([([] : List UInt8), List.drop 0 (List.take 22 (List.drop 4 (List.take ((r_3.1).length) r_3.1))), (List.drop 4 (List.take ((r_3.1).length) r_3.1)) ++ ([120] : List UInt8), ([10] : List UInt8) ++ (List.drop 1 (List.take ((List.drop 4 (List.take ((r_3.1).length) r_3.1)).length) (List.drop 4 (List.take ((r_3.1).length) r_3.1)))), ((List.drop 0 (List.take 4 (List.drop 4 (List.take ((r_3.1).length) r_3.1)))) ++ ([2] : List UInt8)) ++ (List.drop 5 (List.take ((List.drop 4 (List.take ((r_3.1).length) r_3.1)).length) (List.drop 4 (List.take ((r_3.1).length) r_3.1)))), ((List.drop 0 (List.take 8 (List.drop 4 (List.take ((r_3.1).length) r_3.1)))) ++ ([1] : List UInt8)) ++ (List.drop 9 (List.take ((List.drop 4 (List.take ((r_3.1).length) r_3.1)).length) (List.drop 4 (List.take ((r_3.1).length) r_3.1)))), ((List.drop 0 (List.take 3 (List.drop 4 (List.take ((r_3.1).length) r_3.1)))) ++ ([128] : List UInt8)) ++ (List.drop 4 (List.take ((List.drop 4 (List.take ((r_3.1).length) r_3.1)).length) (List.drop 4 (List.take ((r_3.1).length) r_3.1)))), ((List.drop 0 (List.take 12 (List.drop 4 (List.take ((r_3.1).length) r_3.1)))) ++ ([2] : List UInt8)) ++ (List.drop 13 (List.take ((List.drop 4 (List.take ((r_3.1).length) r_3.1)).length) (List.drop 4 (List.take ((r_3.1).length) r_3.1)))), ((List.drop 0 (List.take 13 (List.drop 4 (List.take ((r_3.1).length) r_3.1)))) ++ ([2] : List UInt8)) ++ (List.drop 14 (List.take ((List.drop 4 (List.take ((r_3.1).length) r_3.1)).length) (List.drop 4 (List.take ((r_3.1).length) r_3.1)))), List.drop 0 (List.take 11 (List.drop 4 (List.take ((r_3.1).length) r_3.1))), ((List.drop 0 (List.take 14 (List.drop 4 (List.take ((r_3.1).length) r_3.1)))) ++ ([3] : List UInt8)) ++ (List.drop 15 (List.take ((List.drop 4 (List.take ((r_3.1).length) r_3.1)).length) (List.drop 4 (List.take ((r_3.1).length) r_3.1))))] : List (List UInt8))[(IntKind.i64.wrap (Int.tmod (IntKind.u64.wrap a0) 11)).toNat]?).bind fun e_5 =>
                                   (quiverref1_Crc.f bar k e_5).bind fun r_6 =>
                                   (quiverlaw22_ints.f bar k).bind fun r_7 =>
                                   (quiverref1_Low.f bar k r_6 4).bind fun r_8 =>
                                   bif decide ((r_8).length + (e_5).length ≤ 9223372036854775807) then
                                    (page_Get.f bar k r_7 0 (r_8 ++ e_5)).bind fun r_9 =>
                                    (quiverlaw22_ints.f bar k).bind fun r_10 =>
                                    (quiverref1_Low.f bar k (bitsOp .xor .i64 r_6 (IntKind.i64.wrap (1 + (bitsOp .and .i64 a1 65535)))) 4).bind fun r_11 =>
                                    bif decide ((r_11).length + (e_5).length ≤ 9223372036854775807) then
                                     (page_Get.f bar k r_10 0 (r_11 ++ e_5)).bind fun r_12 =>
                                     (quiverlaw22_ints.f bar k).bind fun r_13 =>
                                     bif decide (0 ≤ bitsOp .and .i64 a0 3) && decide (bitsOp .and .i64 a0 3 ≤ (((r_3.1).length : Nat) : Int)) then
                                      (page_Get.f bar k r_13 0 (List.drop 0 (List.take ((bitsOp .and .i64 a0 3).toNat) r_3.1))).bind fun r_14 =>
                                      (quiverlaw22_ints.f bar k).bind fun r_15 =>
                                      (page_Get.f bar k r_15 1 r_3.1).bind fun r_16 =>
                                      (quiverlaw0_Num.f bar k r_9.2).bind fun r_17 =>
                                      bif (r_17 == 2200) then
                                       (quiverlaw0_Num.f bar k r_12.2).bind fun r_18 =>
                                       bif (r_18 == 2201) then
                                        (quiverlaw0_Num.f bar k r_14.2).bind fun r_19 =>
                                        bif (r_19 == 2200) then
                                         (quiverlaw0_Num.f bar k r_16.2).bind fun r_20 =>
                                         some (r_20 == 2200)
                                        else
                                         some false
                                       else
                                        some false
                                      else
                                       some false
                                     else
                                      none
                                    else
                                     none
                                   else
                                    none
                                  else
                                   none
                                 else
                                  none
                                else
                                 none
                               else
                                none
                              else
                               none
                             else
                              none
                            else
                             none
                           else
                            none
                          else
                           none
                         else
                          none
                        else
                         none
                       else
                        none
                      else
                       none
                     else
                      none
                    else
                     none
                   else
                    none
                  else
                   none
                 else
                  none
                else
                 none
               else
                none
              else
               none
             else
              none
            else
             none
           else
            none
          else
           none
         else
          none
        else
         none
       else
        none
      else
       none
     else
      none
    else
     none
  else
   some false := by kernel_rfl
theorem quiverlaw22_PageAgain.f_eq (bar : Bar) (k : Nat) (a0 : List Nod) (a1 : Int) (a2 : List UInt8) : quiverlaw22_PageAgain.f bar (k + 1) a0 a1 a2 =
 (quiverlaw22_awake.f bar k).bind fun r_1 =>
 bif (!r_1) then
  some false
 else
  (page_Get.f bar k a0 a1 a2).bind fun r_2 =>
  (quiverlaw0_Num.f bar k r_2.2).bind fun r_3 =>
  bif (r_3 != 0) then
   (quiverlaw0_SameColumn.f bar k (Col.mk r_2.1.1 r_2.1.2.1 r_2.1.2.2) (Col.mk ([] : List Int) ([] : List Int) ([] : List (List UInt8)))).bind fun r_4 =>
   some r_4
  else
   (page_Put.f bar k a0 a1 (Col.mk r_2.1.1 r_2.1.2.1 r_2.1.2.2)).bind fun r_5 =>
   (quiverlaw0_Num.f bar k r_5.2).bind fun r_6 =>
   bif (r_6 == 0) then
    bif (r_5.1 == a2) then
     (quiverref21_ColumnMay.f bar k a0 a1 (Col.mk r_2.1.1 r_2.1.2.1 r_2.1.2.2)).bind fun r_7 =>
     some r_7
    else
     some false
   else
    some false := by kernel_rfl
theorem quiverlaw22_PageUnlike.f_eq (bar : Bar) (k : Nat) (a0 : List Nod) (a1 : Int) (a2 : Col) (a3 : Col) : quiverlaw22_PageUnlike.f bar (k + 1) a0 a1 a2 a3 =
 (quiverlaw22_awake.f bar k).bind fun r_1 =>
 bif (!r_1) then
  some false
 else
  (page_Put.f bar k a0 a1 a2).bind fun r_2 =>
  (page_Put.f bar k a0 a1 a3).bind fun r_3 =>
  (quiverlaw0_Num.f bar k r_2.2).bind fun r_4 =>
  bif (!(r_4 != 0)) then
   (quiverlaw0_Num.f bar k r_3.2).bind fun r_5 =>
   bif (r_5 != 0) then
    (quiverlaw0_Num.f bar k r_2.2).bind fun r_6 =>
    bif (!(r_6 == 0)) then
     bif (r_2.1 == ([] : List UInt8)) then
      (quiverlaw0_Num.f bar k r_3.2).bind fun r_7 =>
      bif (!(r_7 == 0)) then
       some (r_3.1 == ([] : List UInt8))
      else
       some true
     else
      some false
    else
     (quiverlaw0_Num.f bar k r_3.2).bind fun r_8 =>
     bif (!(r_8 == 0)) then
      some (r_3.1 == ([] : List UInt8))
     else
      some true
   else
    (quiverlaw0_SameColumn.f bar k a2 a3).bind fun r_9 =>
    some ((r_2.1 == r_3.1) == r_9)
  else
   (quiverlaw0_Num.f bar k r_2.2).bind fun r_10 =>
   bif (!(r_10 == 0)) then
    bif (r_2.1 == ([] : List UInt8)) then
     (quiverlaw0_Num.f bar k r_3.2).bind fun r_11 =>
     bif (!(r_11 == 0)) then
      some (r_3.1 == ([] : List UInt8))
     else
      some true
    else
     some false
   else
    (quiverlaw0_Num.f bar k r_3.2).bind fun r_12 =>
    bif (!(r_12 == 0)) then
     some (r_3.1 == ([] : List UInt8))
    else
     some true := by kernel_rfl
theorem quiverlaw0_Num.f_eq (bar : Bar) (k : Nat) (a0 : Int) : quiverlaw0_Num.f bar (k + 1) a0 =
 some a0 := by kernel_rfl
theorem page_Put.f_eq (bar : Bar) (k : Nat) (a0 : List Nod) (a1 : Int) (a2 : Col) : page_Put.f bar (k + 1) a0 a1 a2 =
 (page_May.f bar k a0 a1 a2).bind fun r_1 =>
 bif (!r_1) then
  some (([] : List UInt8), 2200)
 else
  (types_Levels.f bar k a0 a1).bind fun r_2 =>
  (page_levels.f bar k a2.reps r_2.1).bind fun r_3 =>
  (page_levels.f bar k a2.defs r_2.2.1).bind fun r_4 =>
  page_Put.l0 bar k k r_3 r_4 ((([((a2.reps).length : Int), ((r_3).length : Int), ((r_4).length : Int)] : List Int)).length : Int) 0 a2.reps a2.defs a2.values ([] : List Int) ([((a2.reps).length : Int), ((r_3).length : Int), ((r_4).length : Int)] : List Int) := by kernel_rfl
theorem page_Put.l0_eq (bar : Bar) (k : Nat) (n : Nat) (reps11 : List UInt8) (defs12 : List UInt8) (x46 : Int) (x47 : Int) (c5 : List Int) (c5_1 : List Int) (c5_2 : List (List UInt8)) (body13 : List Int) (x2045 : List Int) : page_Put.l0 bar k (n + 1) reps11 defs12 x46 x47 c5 c5_1 c5_2 body13 x2045 =
 bif decide (x47 < x46) then
  bif decide (0 ≤ x47) && decide (x47 < ((x2045).length : Int)) then
   (x2045[(x47).toNat]?).bind fun e_1 =>
   (num_Word.f bar k e_1 4).bind fun r_2 =>
   bif decide ((body13).length + (r_2).length ≤ 140737488355328) then
    page_Put.l0 bar k n reps11 defs12 x46 (IntKind.i64.wrap (x47 + 1)) c5 c5_1 c5_2 (body13 ++ bytesOfStr r_2) x2045
   else
    none
  else
   none
 else
  bif decide ((reps11).length + (defs12).length ≤ 9223372036854775807) then
   bif decide ((body13).length + (reps11 ++ defs12).length ≤ 140737488355328) then
    page_Put.l2 bar k k c5_2 ((c5_2).length : Int) 0 (body13 ++ bytesOfStr (reps11 ++ defs12))
   else
    none
  else
   none := by kernel_rfl
theorem page_Put.l2_eq (bar : Bar) (k : Nat) (n : Nat) (x60 : List (List UInt8)) (x61 : Int) (x62 : Int) (body13 : List Int) : page_Put.l2 bar k (n + 1) x60 x61 x62 body13 =
 bif decide (x62 < x61) then
  (rd x60 x62).bind fun e_1 =>
  (page_bytes.f bar k e_1).bind fun r_2 =>
  bif decide ((body13).length + (r_2).length ≤ 140737488355328) then
   page_Put.l2 bar k n x60 x61 (IntKind.i64.wrap (x62 + 1)) (body13 ++ bytesOfStr r_2)
  else
   none
 else
  (crc_Sum.f bar k (strOfBytes body13)).bind fun r_3 =>
  (num_Word.f bar k r_3 4).bind fun r_4 =>
  bif decide ((r_4).length + (strOfBytes body13).length ≤ 9223372036854775807) then
   some (r_4 ++ (strOfBytes body13), 0)
  else
   none := by kernel_rfl
theorem page_Get.f_eq (bar : Bar) (k : Nat) (a0 : List Nod) (a1 : Int) (a2 : List UInt8) : page_Get.f bar (k + 1) a0 a1 a2 =
 (types_Leaf.f bar k a0 a1).bind fun r_1 =>
 bif (!(!r_1)) then
  bif decide (((a2).length : Int) < 4) then
   some ((([] : List Int), ([] : List Int), ([] : List (List UInt8))), 2200)
  else
   bif decide (0 ≤ 4) && decide (4 ≤ (((a2).length : Nat) : Int)) then
    (num_Of.f bar k (List.drop 0 (List.take 4 a2))).bind fun r_2 =>
    bif decide (0 ≤ 4) && decide (4 ≤ (((a2).length : Nat) : Int)) then
     (crc_Sum.f bar k (List.drop 4 (List.take ((a2).length) a2))).bind fun r_3 =>
     bif (r_2 != r_3) then
      some ((([] : List Int), ([] : List Int), ([] : List (List UInt8))), 2201)
     else
      (types_Levels.f bar k a0 a1).bind fun r_4 =>
      bif decide (0 ≤ 4) && decide (4 ≤ (((a2).length : Nat) : Int)) then
       (page_Taker_Number.f bar k (List.drop 4 (List.take ((a2).length) a2)) false).bind fun r_5 =>
       (page_Taker_Number.f bar k r_5.2.1 r_5.2.2).bind fun r_6 =>
       (page_Taker_Number.f bar k r_6.2.1 r_6.2.2).bind fun r_7 =>
       (page_Taker_Bytes.f bar k r_7.2.1 r_7.2.2 r_6.1).bind fun r_8 =>
       (math_bits_Len.f bar k (IntKind.u64.wrap r_4.1)).bind fun r_9 =>
       (hybrid_Get.f bar k r_8.1 r_9 r_5.1).bind fun r_10 =>
       (page_Taker_Bytes.f bar k r_8.2.1 r_8.2.2 r_7.1).bind fun r_11 =>
       (math_bits_Len.f bar k (IntKind.u64.wrap r_4.2.1)).bind fun r_12 =>
       (hybrid_Get.f bar k r_11.1 r_12 r_5.1).bind fun r_13 =>
       (page_there.f bar k r_13.1 r_4.2.1).bind fun r_14 =>
       page_Get.l0 bar k k a1 a2 r_10.2 r_13.2 r_14 0 a0 r_10.1 r_13.1 ([] : List (List UInt8)) r_11.2.1 r_11.2.2
      else
       none
    else
     none
   else
    none
 else
  some ((([] : List Int), ([] : List Int), ([] : List (List UInt8))), 2200) := by kernel_rfl
theorem page_Get.l0_eq (bar : Bar) (k : Nat) (n : Nat) (leaf1 : Int) (s2 : List UInt8) (e16 : Int) (f17 : Int) (x82 : Int) (x83 : Int) (t3 : List Nod) (out15 : List Int) (out15_1 : List Int) (out15_2 : List (List UInt8)) (x48 : List UInt8) (x48_1 : Bool) : page_Get.l0 bar k (n + 1) leaf1 s2 e16 f17 x82 x83 t3 out15 out15_1 out15_2 x48 x48_1 =
 bif decide (x83 < x82) then
  bif (!x48_1) then
   (rd t3 leaf1).bind fun e_1 =>
   (page_Taker_value.f bar k x48 x48_1 e_1.kind).bind fun r_2 =>
   bif decide (((out15_2).length + (([r_2.1] : List (List UInt8))).length) * 16 ≤ 140737488355328) then
    page_Get.l0 bar k n leaf1 s2 e16 f17 x82 (IntKind.i64.wrap (x83 + 1)) t3 out15 out15_1 (out15_2 ++ ([r_2.1] : List (List UInt8))) r_2.2.1 r_2.2.2
   else
    none
  else
   page_Get.l0 bar k n leaf1 s2 e16 f17 x82 (IntKind.i64.wrap (x83 + 1)) t3 out15 out15_1 out15_2 x48 x48_1
 else
  (page_Put.f bar k t3 leaf1 (Col.mk out15 out15_1 out15_2)).bind fun r_3 =>
  bif (!x48_1) then
   bif (!(e16 != 0)) then
    bif (!(f17 != 0)) then
     bif (!(r_3.2 != 0)) then
      bif (r_3.1 != s2) then
       some ((([] : List Int), ([] : List Int), ([] : List (List UInt8))), 2200)
      else
       some ((out15, out15_1, out15_2), 0)
     else
      some ((([] : List Int), ([] : List Int), ([] : List (List UInt8))), 2200)
    else
     some ((([] : List Int), ([] : List Int), ([] : List (List UInt8))), 2200)
   else
    some ((([] : List Int), ([] : List Int), ([] : List (List UInt8))), 2200)
  else
   some ((([] : List Int), ([] : List Int), ([] : List (List UInt8))), 2200) := by kernel_rfl
theorem quiverlaw22_awake.f_eq (bar : Bar) (k : Nat) : quiverlaw22_awake.f bar (k + 1) =
 (quiverlaw22_ints.f bar k).bind fun r_1 =>
 (page_Put.f bar k r_1 0 (Col.mk ([0, 0] : List Int) ([1, 0] : List Int) ([([105, 50, 53, 56, 59] : List UInt8)] : List (List UInt8)))).bind fun r_2 =>
 (quiverlaw22_ints.f bar k).bind fun r_3 =>
 (page_Get.f bar k r_3 0 r_2.1).bind fun r_4 =>
 bif (((r_2.1).length : Int) != 27) then
  some false
 else
  (quiverlaw22_ints.f bar k).bind fun r_5 =>
  bif decide (0 ≤ 26) && decide (26 ≤ (((r_2.1).length : Nat) : Int)) then
   bif decide ((List.drop 0 (List.take 26 r_2.1)).length + (([1] : List UInt8)).length ≤ 9223372036854775807) then
    (page_Get.f bar k r_5 0 ((List.drop 0 (List.take 26 r_2.1)) ++ ([1] : List UInt8))).bind fun r_6 =>
    (quiverlaw22_ints.f bar k).bind fun r_7 =>
    (page_Get.f bar k r_7 0 ([] : List UInt8)).bind fun r_8 =>
    (quiverlaw22_ints.f bar k).bind fun r_9 =>
    (page_Put.f bar k r_9 1 (Col.mk ([0, 0] : List Int) ([1, 0] : List Int) ([([105, 50, 53, 56, 59] : List UInt8)] : List (List UInt8)))).bind fun r_10 =>
    bif decide (0 ≤ 16) && decide (16 ≤ (((r_2.1).length : Nat) : Int)) then
     bif decide (0 ≤ 4) && decide (4 ≤ ((16 : Nat) : Int)) then
      bif ((List.drop 4 (List.take 16 r_2.1)) == ([2, 0, 0, 0, 1, 0, 0, 0, 2, 0, 0, 0] : List UInt8)) then
       (quiverlaw0_Num.f bar k r_2.2).bind fun r_11 =>
       bif (r_11 == 0) then
        (quiverlaw0_SameColumn.f bar k (Col.mk ([0, 0] : List Int) ([1, 0] : List Int) ([([105, 50, 53, 56, 59] : List UInt8)] : List (List UInt8))) (Col.mk r_4.1.1 r_4.1.2.1 r_4.1.2.2)).bind fun r_12 =>
        bif r_12 then
         (quiverlaw0_Num.f bar k r_4.2).bind fun r_13 =>
         bif (r_13 == 0) then
          (quiverlaw0_Num.f bar k r_6.2).bind fun r_14 =>
          bif (r_14 == 2201) then
           (quiverlaw0_Num.f bar k r_8.2).bind fun r_15 =>
           bif (r_15 == 2200) then
            (quiverlaw0_Num.f bar k r_10.2).bind fun r_16 =>
            bif (r_16 == 2200) then
             (quiverlaw22_ints.f bar k).bind fun r_17 =>
             (quiverref1_TypeMay.f bar k r_17).bind fun r_18 =>
             some r_18
            else
             some false
           else
            some false
          else
           some false
         else
          some false
        else
         some false
       else
        some false
      else
       some false
     else
      none
    else
     none
   else
    none
  else
   none := by kernel_rfl
theorem quiverlaw22_ints.f_eq (bar : Bar) (k : Nat) : quiverlaw22_ints.f bar (k + 1) =
 some ([(Nod.mk 0 (-1) true)] : List Nod) := by kernel_rfl
theorem quiverref1_Crc.f_eq (bar : Bar) (k : Nat) (a0 : List UInt8) : quiverref1_Crc.f bar (k + 1) a0 =
 quiverref1_Crc.l0 bar k k a0 4294967295 0 := by kernel_rfl
theorem quiverref1_Crc.l0_eq (bar : Bar) (k : Nat) (n : Nat) (s0 : List UInt8) (x3 : Int) (i4 : Int) : quiverref1_Crc.l0 bar k (n + 1) s0 x3 i4 =
 bif decide (i4 < ((s0).length : Int)) then
  (rd s0 i4).bind fun b_1 =>
  quiverref1_Crc.l2 bar k n k s0 (bitsOp .xor .u32 x3 (IntKind.u32.wrap (b_1.toNat : Int))) i4 0
 else
  some (IntKind.i64.wrap (bitsOp .xor .u32 (IntKind.u32.max) x3)) := by kernel_rfl
theorem quiverref1_Crc.l2_eq (bar : Bar) (k : Nat) (m1 : Nat) (n : Nat) (s0 : List UInt8) (x3 : Int) (i4 : Int) (j5 : Int) : quiverref1_Crc.l2 bar k m1 (n + 1) s0 x3 i4 j5 =
 bif decide (j5 < 8) then
  bif ((bitsOp .and .u32 x3 1) == 1) then
   quiverref1_Crc.l2 bar k m1 n s0 (bitsOp .xor .u32 (Int.fdiv x3 (2 ^ (min 1 IntKind.u32.bits))) 3988292384) i4 (IntKind.i64.wrap (j5 + 1))
  else
   quiverref1_Crc.l2 bar k m1 n s0 (Int.fdiv x3 (2 ^ (min 1 IntKind.u32.bits))) i4 (IntKind.i64.wrap (j5 + 1))
 else
  quiverref1_Crc.l0 bar k m1 s0 x3 (IntKind.i64.wrap (i4 + 1)) := by kernel_rfl
theorem quiverref1_Low.f_eq (bar : Bar) (k : Nat) (a0 : Int) (a1 : Int) : quiverref1_Low.f bar (k + 1) a0 a1 =
 bif (a1 == a1) && (decide (0 ≤ a1) && decide (a1 * 1 ≤ 140737488355328)) then
  quiverref1_Low.l0 bar k k a0 a1 0 (List.replicate (a1).toNat (0 : Int) : List Int)
 else
  none := by kernel_rfl
theorem quiverref1_Low.l0_eq (bar : Bar) (k : Nat) (n : Nat) (x0 : Int) (size1 : Int) (i6 : Int) (x2005 : List Int) : quiverref1_Low.l0 bar k (n + 1) x0 size1 i6 x2005 =
 bif decide (i6 < size1) then
  bif decide (IntKind.i64.wrap (8 * i6) < 0) then
   none
  else
   bif decide (0 ≤ i6) && decide (i6 < ((x2005).length : Int)) then
    (x2005[(i6).toNat]?).bind fun e_1 =>
    quiverref1_Low.l0 bar k n x0 size1 (IntKind.i64.wrap (i6 + 1)) ((x2005).set ((i6).toNat) (IntKind.u8.wrap (Int.fdiv x0 (2 ^ (min (IntKind.i64.wrap (8 * i6)).toNat IntKind.i64.bits)))))
   else
    none
 else
  some (strOfBytes x2005) := by kernel_rfl
theorem quiverlaw0_SameColumn.f_eq (bar : Bar) (k : Nat) (a0 : Col) (a1 : Col) : quiverlaw0_SameColumn.f bar (k + 1) a0 a1 =
 (quiverlaw0_SameInts.f bar k a0.reps a1.reps).bind fun r_1 =>
 bif r_1 then
  (quiverlaw0_SameInts.f bar k a0.defs a1.defs).bind fun r_2 =>
  bif r_2 then
   (quiverlaw0_SameTexts.f bar k a0.values a1.values).bind fun r_3 =>
   some r_3
  else
   some false
 else
  some false := by kernel_rfl
theorem quiverref21_ColumnMay.f_eq (bar : Bar) (k : Nat) (a0 : List Nod) (a1 : Int) (a2 : Col) : quiverref21_ColumnMay.f bar (k + 1) a0 a1 a2 =
 (quiverref21_leafMay.f bar k a0 a1).bind fun r_1 =>
 bif (!(!r_1)) then
  bif (!(((a2.reps).length : Int) != ((a2.defs).length : Int))) then
   bif decide (((a2.reps).length : Int) > 4096) then
    some false
   else
    (quiverref1_Levels.f bar k a0 a1).bind fun r_2 =>
    quiverref21_ColumnMay.l0 bar k k a1 r_2.1 r_2.2.1 0 0 a0 a2.reps a2.defs a2.values
  else
   some false
 else
  some false := by kernel_rfl
theorem quiverref21_ColumnMay.l0_eq (bar : Bar) (k : Nat) (n : Nat) (leaf1 : Int) (rep7 : Int) (def_8 : Int) (k_10 : Int) (i11 : Int) (t3 : List Nod) (c5 : List Int) (c5_1 : List Int) (c5_2 : List (List UInt8)) : quiverref21_ColumnMay.l0 bar k (n + 1) leaf1 rep7 def_8 k_10 i11 t3 c5 c5_1 c5_2 =
 bif decide (i11 < ((c5).length : Int)) then
  (rd c5 i11).bind fun e_1 =>
  bif (!(decide (e_1 < 0))) then
   (rd c5 i11).bind fun e_2 =>
   bif (!(decide (e_2 > rep7))) then
    (rd c5_1 i11).bind fun e_3 =>
    bif (!(decide (e_3 < 0))) then
     (rd c5_1 i11).bind fun e_4 =>
     bif decide (e_4 > def_8) then
      some false
     else
      (rd c5_1 i11).bind fun e_5 =>
      bif (e_5 == def_8) then
       quiverref21_ColumnMay.l0 bar k n leaf1 rep7 def_8 (IntKind.i64.wrap (k_10 + 1)) (IntKind.i64.wrap (i11 + 1)) t3 c5 c5_1 c5_2
      else
       quiverref21_ColumnMay.l0 bar k n leaf1 rep7 def_8 k_10 (IntKind.i64.wrap (i11 + 1)) t3 c5 c5_1 c5_2
    else
     some false
   else
    some false
  else
   some false
 else
  quiverref21_ColumnMay.l2 bar k k leaf1 k_10 0 t3 c5 c5_1 c5_2 := by kernel_rfl
theorem quiverref21_ColumnMay.l2_eq (bar : Bar) (k : Nat) (n : Nat) (leaf1 : Int) (k_10 : Int) (i12 : Int) (t3 : List Nod) (c5 : List Int) (c5_1 : List Int) (c5_2 : List (List UInt8)) : quiverref21_ColumnMay.l2 bar k (n + 1) leaf1 k_10 i12 t3 c5 c5_1 c5_2 =
 bif decide (i12 < ((c5_2).length : Int)) then
  (rd c5_2 i12).bind fun e_1 =>
  bif (!(e_1 == ([110] : List UInt8))) then
   (rd c5_2 i12).bind fun e_2 =>
   (quiverref7_Fits.f bar k t3 leaf1 e_2).bind fun r_3 =>
   bif (!r_3) then
    some false
   else
    quiverref21_ColumnMay.l2 bar k n leaf1 k_10 (IntKind.i64.wrap (i12 + 1)) t3 c5 c5_1 c5_2
  else
   some false
 else
  some (k_10 == ((c5_2).length : Int)) := by kernel_rfl
theorem page_May.f_eq (bar : Bar) (k : Nat) (a0 : List Nod) (a1 : Int) (a2 : Col) : page_May.f bar (k + 1) a0 a1 a2 =
 (types_Levels.f bar k a0 a1).bind fun r_1 =>
 (types_Leaf.f bar k a0 a1).bind fun r_2 =>
 bif (!(!r_2)) then
  bif (!(((a2.reps).length : Int) != ((a2.defs).length : Int))) then
   bif (!(decide (((a2.reps).length : Int) > 4096))) then
    (page_within.f bar k a2.reps r_1.1).bind fun r_3 =>
    bif (!(!r_3)) then
     (page_within.f bar k a2.defs r_1.2.1).bind fun r_4 =>
     bif (!r_4) then
      some false
     else
      page_May.l0 bar k k a1 r_1.2.1 a2.values ((a2.values).length : Int) 0 a0 a2.reps a2.defs
    else
     some false
   else
    some false
  else
   some false
 else
  some false := by kernel_rfl
theorem page_May.l0_eq (bar : Bar) (k : Nat) (n : Nat) (leaf1 : Int) (def_8 : Int) (x53 : List (List UInt8)) (x54 : Int) (x55 : Int) (t3 : List Nod) (c5 : List Int) (c5_1 : List Int) : page_May.l0 bar k (n + 1) leaf1 def_8 x53 x54 x55 t3 c5 c5_1 =
 bif decide (x55 < x54) then
  (rd x53 x55).bind fun e_1 =>
  (value_Null.f bar k).bind fun r_2 =>
  bif (!(e_1 == r_2)) then
   (value_Fits.f bar k t3 leaf1 e_1).bind fun r_3 =>
   bif (!r_3) then
    some false
   else
    page_May.l0 bar k n leaf1 def_8 x53 x54 (IntKind.i64.wrap (x55 + 1)) t3 c5 c5_1
  else
   some false
 else
  (page_there.f bar k c5_1 def_8).bind fun r_4 =>
  some (((x53).length : Int) == r_4) := by kernel_rfl
theorem types_Levels.f_eq (bar : Bar) (k : Nat) (a0 : List Nod) (a1 : Int) : types_Levels.f bar (k + 1) a0 a1 =
 (types_Node.f bar k a0 a1).bind fun r_1 =>
 bif (!r_1) then
  some (0, 0, 500)
 else
  (types_way.f bar k a0 a1).bind fun r_2 =>
  types_Levels.l0 bar k k 0 0 ((r_2).length : Int) 0 a0 r_2 := by kernel_rfl
theorem types_Levels.l0_eq (bar : Bar) (k : Nat) (n : Nat) (rep7 : Int) (def_8 : Int) (x17 : Int) (x18 : Int) (t2 : List Nod) (x2016 : List Int) : types_Levels.l0 bar k (n + 1) rep7 def_8 x17 x18 t2 x2016 =
 bif decide (x18 < x17) then
  bif decide (0 ≤ x18) && decide (x18 < ((x2016).length : Int)) then
   (x2016[(x18).toNat]?).bind fun e_1 =>
   (rd t2 e_1).bind fun e_2 =>
   bif (e_2.kind == 3) then
    (rd t2 e_1).bind fun e_3 =>
    bif e_3.null then
     types_Levels.l0 bar k n (IntKind.i64.wrap (rep7 + 1)) (IntKind.i64.wrap ((IntKind.i64.wrap (def_8 + 1)) + 1)) x17 (IntKind.i64.wrap (x18 + 1)) t2 x2016
    else
     types_Levels.l0 bar k n (IntKind.i64.wrap (rep7 + 1)) (IntKind.i64.wrap (def_8 + 1)) x17 (IntKind.i64.wrap (x18 + 1)) t2 x2016
   else
    (rd t2 e_1).bind fun e_4 =>
    bif e_4.null then
     types_Levels.l0 bar k n rep7 (IntKind.i64.wrap (def_8 + 1)) x17 (IntKind.i64.wrap (x18 + 1)) t2 x2016
    else
     types_Levels.l0 bar k n rep7 def_8 x17 (IntKind.i64.wrap (x18 + 1)) t2 x2016
  else
   none
 else
  some (rep7, def_8, 0) := by kernel_rfl
theorem page_levels.f_eq (bar : Bar) (k : Nat) (a0 : List Int) (a1 : Int) : page_levels.f bar (k + 1) a0 a1 =
 (math_bits_Len.f bar k (IntKind.u64.wrap a1)).bind fun r_1 =>
 (hybrid_Put.f bar k a0 r_1).bind fun r_2 =>
 some r_2.1 := by kernel_rfl
theorem num_Word.f_eq (bar : Bar) (k : Nat) (a0 : Int) (a1 : Int) : num_Word.f bar (k + 1) a0 a1 =
 bif (a1 == a1) && (decide (0 ≤ a1) && decide (a1 * 1 ≤ 140737488355328)) then
  num_Word.l0 bar k k a0 (((List.replicate (a1).toNat (0 : Int) : List Int)).length : Int) 0 (List.replicate (a1).toNat (0 : Int) : List Int)
 else
  none := by kernel_rfl
theorem num_Word.l0_eq (bar : Bar) (k : Nat) (n : Nat) (x0 : Int) (x10 : Int) (x11 : Int) (x2005 : List Int) : num_Word.l0 bar k (n + 1) x0 x10 x11 x2005 =
 bif decide (x11 < x10) then
  bif decide (IntKind.i64.wrap (8 * x11) < 0) then
   none
  else
   bif decide (0 ≤ x11) && decide (x11 < ((x2005).length : Int)) then
    (x2005[(x11).toNat]?).bind fun e_1 =>
    num_Word.l0 bar k n x0 x10 (IntKind.i64.wrap (x11 + 1)) ((x2005).set ((x11).toNat) (IntKind.u8.wrap (Int.fdiv x0 (2 ^ (min (IntKind.i64.wrap (8 * x11)).toNat IntKind.i64.bits)))))
   else
    none
 else
  some (strOfBytes x2005) := by kernel_rfl
theorem page_bytes.f_eq (bar : Bar) (k : Nat) (a0 : List UInt8) : page_bytes.f bar (k + 1) a0 =
 (value_Parts.f bar k a0).bind fun r_1 =>
 bif (r_1.1 == 0) then
  bif decide (0 ≤ 0) && decide (0 < ((r_1.2.1).length : Int)) then
   (r_1.2.1[0]?).bind fun e_2 =>
   (strconv_Atoi.f bar k e_2).bind fun r_3 =>
   (num_Word.f bar k r_3.1 8).bind fun r_4 =>
   some r_4
  else
   none
 else
  bif (r_1.1 == 1) then
   bif decide (0 ≤ 0) && decide (0 < ((r_1.2.1).length : Int)) then
    (r_1.2.1[0]?).bind fun e_5 =>
    (rd e_5 0).bind fun b_6 =>
    (page_there.f bar k ([IntKind.i64.wrap (b_6.toNat : Int)] : List Int) 116).bind fun r_7 =>
    (num_Word.f bar k r_7 1).bind fun r_8 =>
    some r_8
   else
    none
  else
   bif decide (0 ≤ 0) && decide (0 < ((r_1.2.1).length : Int)) then
    (r_1.2.1[0]?).bind fun e_9 =>
    (num_Word.f bar k ((e_9).length : Int) 4).bind fun r_10 =>
    bif decide (0 ≤ 0) && decide (0 < ((r_1.2.1).length : Int)) then
     (r_1.2.1[0]?).bind fun e_11 =>
     bif decide ((r_10).length + (e_11).length ≤ 9223372036854775807) then
      some (r_10 ++ e_11)
     else
      none
    else
     none
   else
    none := by kernel_rfl
theorem crc_Sum.f_eq (bar : Bar) (k : Nat) (a0 : List UInt8) : crc_Sum.f bar (k + 1) a0 =
 crc_Sum.l0 bar k k a0 4294967295 ((a0).length : Int) 0 := by kernel_rfl
theorem crc_Sum.l0_eq (bar : Bar) (k : Nat) (n : Nat) (s0 : List UInt8) (sum3 : Int) (x7 : Int) (x8 : Int) : crc_Sum.l0 bar k (n + 1) s0 sum3 x7 x8 =
 bif decide (x8 < x7) then
  (rd s0 x8).bind fun b_1 =>
  crc_Sum.l2 bar k n k s0 (bitsOp .xor .u32 sum3 (IntKind.u32.wrap (b_1.toNat : Int))) x7 x8 0
 else
  some (IntKind.i64.wrap (bitsOp .xor .u32 sum3 4294967295)) := by kernel_rfl
theorem crc_Sum.l2_eq (bar : Bar) (k : Nat) (m1 : Nat) (n : Nat) (s0 : List UInt8) (sum3 : Int) (x7 : Int) (x8 : Int) (x17 : Int) : crc_Sum.l2 bar k m1 (n + 1) s0 sum3 x7 x8 x17 =
 bif decide (x17 < 8) then
  crc_Sum.l2 bar k m1 n s0 (bitsOp .xor .u32 (Int.fdiv sum3 (2 ^ (min 1 IntKind.u32.bits))) (IntKind.u32.wrap (3988292384 * (bitsOp .and .u32 sum3 1)))) x7 x8 (IntKind.i64.wrap (x17 + 1))
 else
  crc_Sum.l0 bar k m1 s0 sum3 x7 (IntKind.i64.wrap (x8 + 1)) := by kernel_rfl
theorem types_Leaf.f_eq (bar : Bar) (k : Nat) (a0 : List Nod) (a1 : Int) : types_Leaf.f bar (k + 1) a0 a1 =
 (types_Node.f bar k a0 a1).bind fun r_1 =>
 bif r_1 then
  (rd a0 a1).bind fun e_2 =>
  (types_Inner.f bar k e_2.kind).bind fun r_3 =>
  some (!r_3)
 else
  some false := by kernel_rfl
theorem num_Of.f_eq (bar : Bar) (k : Nat) (a0 : List UInt8) : num_Of.f bar (k + 1) a0 =
 num_Of.l0 bar k k a0 0 ((a0).length : Int) 0 := by kernel_rfl
theorem num_Of.l0_eq (bar : Bar) (k : Nat) (n : Nat) (s0 : List UInt8) (out3 : Int) (x6 : Int) (x7 : Int) : num_Of.l0 bar k (n + 1) s0 out3 x6 x7 =
 bif decide (x7 < x6) then
  (rd s0 x7).bind fun b_1 =>
  bif decide (IntKind.i64.wrap (8 * x7) < 0) then
   none
  else
   num_Of.l0 bar k n s0 (bitsOp .or .u64 out3 (IntKind.u64.wrap ((IntKind.u64.wrap (b_1.toNat : Int)) * 2 ^ (min (IntKind.i64.wrap (8 * x7)).toNat IntKind.u64.bits)))) x6 (IntKind.i64.wrap (x7 + 1))
 else
  some (IntKind.i64.wrap out3) := by kernel_rfl
theorem page_Taker_Number.f_eq (bar : Bar) (k : Nat) (a0_0 : List UInt8) (a0_1 : Bool) : page_Taker_Number.f bar (k + 1) a0_0 a0_1 =
 (num_Get.f bar k a0_0 0 4).bind fun r_1 =>
 bif (!a0_1) then
  (page_Taker_Bytes.f bar k a0_0 (r_1.2 != 0) 4).bind fun r_2 =>
  some (r_1.1, (r_2.2.1, r_2.2.2))
 else
  (page_Taker_Bytes.f bar k a0_0 true 4).bind fun r_3 =>
  some (r_1.1, (r_3.2.1, r_3.2.2)) := by kernel_rfl
theorem hybrid_Get.f_eq (bar : Bar) (k : Nat) (a0 : List UInt8) (a1 : Int) (a2 : Int) : hybrid_Get.f bar (k + 1) a0 a1 a2 =
 bif (!(decide (a1 < 0))) then
  bif (!(decide (a1 > 16))) then
   bif (!(decide (a2 < 0))) then
    bif decide (a2 > 4096) then
     some (([] : List Int), 2100)
    else
     hybrid_Get.l0 bar k k a0 a1 a2 a0 a1 ([] : List Int) false
   else
    some (([] : List Int), 2100)
  else
   some (([] : List Int), 2100)
 else
  some (([] : List Int), 2100) := by kernel_rfl
theorem hybrid_Get.l0_eq (bar : Bar) (k : Nat) (n : Nat) (s0 : List UInt8) (width1 : Int) (count2 : Int) (x32 : List UInt8) (x32_1 : Int) (x32_2 : List Int) (x32_3 : Bool) : hybrid_Get.l0 bar k (n + 1) s0 width1 count2 x32 x32_1 x32_2 x32_3 =
 bif (!x32_3) then
  bif decide (((x32_2).length : Int) < count2) then
   (num_GetVar.f bar k x32 0).bind fun r_1 =>
   bif decide (0 ≤ r_1.2.1) && decide (r_1.2.1 ≤ (((x32).length : Nat) : Int)) then
    bif ((Int.tmod r_1.1 2) == 0) then
     (hybrid_taker_run.f bar k (List.drop ((r_1.2.1).toNat) (List.take ((x32).length) x32)) x32_1 x32_2 (r_1.2.2 != 0) (IntKind.i64.wrap (Int.tdiv r_1.1 2)) (IntKind.i64.wrap (count2 - ((x32_2).length : Int)))).bind fun r_2 =>
     bar _ (hybrid_Get.j12 bar k n s0 width1 count2 r_1.1 r_2.1 r_2.2.1 r_2.2.2.1 r_2.2.2.2)
    else
     (hybrid_taker_groups.f bar k (List.drop ((r_1.2.1).toNat) (List.take ((x32).length) x32)) x32_1 x32_2 (r_1.2.2 != 0) (IntKind.i64.wrap (Int.tdiv r_1.1 2)) (IntKind.i64.wrap (count2 - ((x32_2).length : Int)))).bind fun r_3 =>
     bar _ (hybrid_Get.j12 bar k n s0 width1 count2 r_1.1 r_3.1 r_3.2.1 r_3.2.2.1 r_3.2.2.2)
   else
    none
  else
   (hybrid_Put.f bar k x32_2 width1).bind fun r_4 =>
   bif (!x32_3) then
    bif (!(r_4.2 != 0)) then
     bif (!(r_4.1 != s0)) then
      bif (((x32_2).length : Int) != count2) then
       some (([] : List Int), 2100)
      else
       some (x32_2, 0)
     else
      some (([] : List Int), 2100)
    else
     some (([] : List Int), 2100)
   else
    some (([] : List Int), 2100)
 else
  (hybrid_Put.f bar k x32_2 width1).bind fun r_5 =>
  bif (!x32_3) then
   bif (!(r_5.2 != 0)) then
    bif (!(r_5.1 != s0)) then
     bif (((x32_2).length : Int) != count2) then
      some (([] : List Int), 2100)
     else
      some (x32_2, 0)
    else
     some (([] : List Int), 2100)
   else
    some (([] : List Int), 2100)
  else
   some (([] : List Int), 2100) := by kernel_rfl
theorem hybrid_Get.j12_eq (bar : Bar) (k : Nat) (m1 : Nat) (s0 : List UInt8) (width1 : Int) (count2 : Int) (head9 : Int) (x32 : List UInt8) (x32_1 : Int) (x32_2 : List Int) (x32_3 : Bool) : hybrid_Get.j12 bar k m1 s0 width1 count2 head9 x32 x32_1 x32_2 x32_3 =
 bif (!x32_3) then
  hybrid_Get.l0 bar k m1 s0 width1 count2 x32 x32_1 x32_2 (decide (head9 < 2))
 else
  hybrid_Get.l0 bar k m1 s0 width1 count2 x32 x32_1 x32_2 true := by kernel_rfl
theorem page_Taker_Bytes.f_eq (bar : Bar) (k : Nat) (a0_0 : List UInt8) (a0_1 : Bool) (a1 : Int) : page_Taker_Bytes.f bar (k + 1) a0_0 a0_1 a1 =
 bif (!a0_1) then
  bif (!(decide (a1 < 0))) then
   bif decide (a1 > ((a0_0).length : Int)) then
    some (([] : List UInt8), (a0_0, true))
   else
    bif decide (0 ≤ a1) && decide (a1 ≤ (((a0_0).length : Nat) : Int)) then
     bif decide (0 ≤ a1) && decide (a1 ≤ (((a0_0).length : Nat) : Int)) then
      some (List.drop 0 (List.take ((a1).toNat) a0_0), (List.drop ((a1).toNat) (List.take ((a0_0).length) a0_0), a0_1))
     else
      none
    else
     none
  else
   some (([] : List UInt8), (a0_0, true))
 else
  some (([] : List UInt8), (a0_0, true)) := by kernel_rfl
theorem math_bits_Len.f_eq (bar : Bar) (k : Nat) (a0 : Int) : math_bits_Len.f bar (k + 1) a0 =
 (math_bits_Len64.f bar k a0).bind fun r_1 =>
 some r_1 := by kernel_rfl
theorem page_there.f_eq (bar : Bar) (k : Nat) (a0 : List Int) (a1 : Int) : page_there.f bar (k + 1) a0 a1 =
 page_there.l0 bar k k a1 0 a0 ((a0).length : Int) 0 := by kernel_rfl
theorem page_there.l0_eq (bar : Bar) (k : Nat) (n : Nat) (one1 : Int) (out5 : Int) (x8 : List Int) (x9 : Int) (x10 : Int) : page_there.l0 bar k (n + 1) one1 out5 x8 x9 x10 =
 bif decide (x10 < x9) then
  (rd x8 x10).bind fun e_1 =>
  bif (e_1 == one1) then
   page_there.l0 bar k n one1 (IntKind.i64.wrap (out5 + 1)) x8 x9 (IntKind.i64.wrap (x10 + 1))
  else
   page_there.l0 bar k n one1 out5 x8 x9 (IntKind.i64.wrap (x10 + 1))
 else
  some out5 := by kernel_rfl
theorem page_Taker_value.f_eq (bar : Bar) (k : Nat) (a0_0 : List UInt8) (a0_1 : Bool) (a1 : Int) : page_Taker_value.f bar (k + 1) a0_0 a0_1 a1 =
 bif (a1 == 0) then
  (page_Taker_Bytes.f bar k a0_0 a0_1 8).bind fun r_1 =>
  (num_Of.f bar k r_1.1).bind fun r_2 =>
  (value_Int.f bar k r_2).bind fun r_3 =>
  some (r_3, (r_1.2.1, r_1.2.2))
 else
  bif (a1 == 1) then
   (page_Taker_Bytes.f bar k a0_0 a0_1 1).bind fun r_4 =>
   (num_Of.f bar k r_4.1).bind fun r_5 =>
   (value_Bool.f bar k (r_5 == 1)).bind fun r_6 =>
   some (r_6, (r_4.2.1, r_4.2.2))
  else
   (page_Taker_Text.f bar k a0_0 a0_1).bind fun r_7 =>
   (value_Bytes.f bar k r_7.1).bind fun r_8 =>
   some (r_8, (r_7.2.1, r_7.2.2)) := by kernel_rfl
theorem quiverref1_TypeMay.f_eq (bar : Bar) (k : Nat) (a0 : List Nod) : quiverref1_TypeMay.f bar (k + 1) a0 =
 bif (!(decide (((a0).length : Int) < 1))) then
  bif (!(decide (((a0).length : Int) > 8))) then
   (rd a0 0).bind fun e_1 =>
   bif (e_1.parent != (-1)) then
    some false
   else
    bif (((a0).length : Int) == ((a0).length : Int)) && (decide (0 ≤ ((a0).length : Int)) && decide (((a0).length : Int) * 8 ≤ 140737488355328)) then
     quiverref1_TypeMay.l0 bar k k 0 a0 (List.replicate (((a0).length : Int)).toNat (0 : Int) : List Int)
    else
     none
  else
   some false
 else
  some false := by kernel_rfl
theorem quiverref1_TypeMay.l0_eq (bar : Bar) (k : Nat) (n : Nat) (i4 : Int) (t1 : List Nod) (x2003 : List Int) : quiverref1_TypeMay.l0 bar k (n + 1) i4 t1 x2003 =
 bif decide (i4 < ((t1).length : Int)) then
  (rd t1 i4).bind fun e_1 =>
  (quiverref1_upTo.f bar k e_1.kind 0 4).bind fun r_2 =>
  bif (!r_2) then
   some false
  else
   (quiverref1_kids.f bar k t1 i4).bind fun r_3 =>
   (quiverref1_IsLeaf.f bar k e_1.kind).bind fun r_4 =>
   bif r_4 then
    bif (!(decide (((r_3).length : Int) > 0))) then
     bif (e_1.kind == 3) then
      bif (!(((r_3).length : Int) != 1)) then
       bif (e_1.kind == 4) then
        bif decide (((r_3).length : Int) < 1) then
         some false
        else
         bif (i4 == 0) then
          quiverref1_TypeMay.l0 bar k n (IntKind.i64.wrap (i4 + 1)) t1 x2003
         else
          (quiverref1_upTo.f bar k e_1.parent 0 (IntKind.i64.wrap (i4 - 1))).bind fun r_5 =>
          bif (!(!r_5)) then
           bif decide (0 ≤ e_1.parent) && decide (e_1.parent < ((x2003).length : Int)) then
            (x2003[(e_1.parent).toNat]?).bind fun e_6 =>
            bif decide (e_6 ≥ 4) then
             some false
            else
             bif decide (0 ≤ e_1.parent) && decide (e_1.parent < ((x2003).length : Int)) then
              (x2003[(e_1.parent).toNat]?).bind fun e_7 =>
              bif decide (0 ≤ i4) && decide (i4 < ((x2003).length : Int)) then
               (x2003[(i4).toNat]?).bind fun e_8 =>
               quiverref1_TypeMay.l0 bar k n (IntKind.i64.wrap (i4 + 1)) t1 ((x2003).set ((i4).toNat) (IntKind.i64.wrap (e_7 + 1)))
              else
               none
             else
              none
           else
            none
          else
           some false
       else
        bif (i4 == 0) then
         quiverref1_TypeMay.l0 bar k n (IntKind.i64.wrap (i4 + 1)) t1 x2003
        else
         (quiverref1_upTo.f bar k e_1.parent 0 (IntKind.i64.wrap (i4 - 1))).bind fun r_9 =>
         bif (!(!r_9)) then
          bif decide (0 ≤ e_1.parent) && decide (e_1.parent < ((x2003).length : Int)) then
           (x2003[(e_1.parent).toNat]?).bind fun e_10 =>
           bif decide (e_10 ≥ 4) then
            some false
           else
            bif decide (0 ≤ e_1.parent) && decide (e_1.parent < ((x2003).length : Int)) then
             (x2003[(e_1.parent).toNat]?).bind fun e_11 =>
             bif decide (0 ≤ i4) && decide (i4 < ((x2003).length : Int)) then
              (x2003[(i4).toNat]?).bind fun e_12 =>
              quiverref1_TypeMay.l0 bar k n (IntKind.i64.wrap (i4 + 1)) t1 ((x2003).set ((i4).toNat) (IntKind.i64.wrap (e_11 + 1)))
             else
              none
            else
             none
          else
           none
         else
          some false
      else
       some false
     else
      bif (e_1.kind == 4) then
       bif decide (((r_3).length : Int) < 1) then
        some false
       else
        bif (i4 == 0) then
         quiverref1_TypeMay.l0 bar k n (IntKind.i64.wrap (i4 + 1)) t1 x2003
        else
         (quiverref1_upTo.f bar k e_1.parent 0 (IntKind.i64.wrap (i4 - 1))).bind fun r_13 =>
         bif (!(!r_13)) then
          bif decide (0 ≤ e_1.parent) && decide (e_1.parent < ((x2003).length : Int)) then
           (x2003[(e_1.parent).toNat]?).bind fun e_14 =>
           bif decide (e_14 ≥ 4) then
            some false
           else
            bif decide (0 ≤ e_1.parent) && decide (e_1.parent < ((x2003).length : Int)) then
             (x2003[(e_1.parent).toNat]?).bind fun e_15 =>
             bif decide (0 ≤ i4) && decide (i4 < ((x2003).length : Int)) then
              (x2003[(i4).toNat]?).bind fun e_16 =>
              quiverref1_TypeMay.l0 bar k n (IntKind.i64.wrap (i4 + 1)) t1 ((x2003).set ((i4).toNat) (IntKind.i64.wrap (e_15 + 1)))
             else
              none
            else
             none
          else
           none
         else
          some false
      else
       bif (i4 == 0) then
        quiverref1_TypeMay.l0 bar k n (IntKind.i64.wrap (i4 + 1)) t1 x2003
       else
        (quiverref1_upTo.f bar k e_1.parent 0 (IntKind.i64.wrap (i4 - 1))).bind fun r_17 =>
        bif (!(!r_17)) then
         bif decide (0 ≤ e_1.parent) && decide (e_1.parent < ((x2003).length : Int)) then
          (x2003[(e_1.parent).toNat]?).bind fun e_18 =>
          bif decide (e_18 ≥ 4) then
           some false
          else
           bif decide (0 ≤ e_1.parent) && decide (e_1.parent < ((x2003).length : Int)) then
            (x2003[(e_1.parent).toNat]?).bind fun e_19 =>
            bif decide (0 ≤ i4) && decide (i4 < ((x2003).length : Int)) then
             (x2003[(i4).toNat]?).bind fun e_20 =>
             quiverref1_TypeMay.l0 bar k n (IntKind.i64.wrap (i4 + 1)) t1 ((x2003).set ((i4).toNat) (IntKind.i64.wrap (e_19 + 1)))
            else
             none
           else
            none
         else
          none
        else
         some false
    else
     some false
   else
    bif (e_1.kind == 3) then
     bif (!(((r_3).length : Int) != 1)) then
      bif (e_1.kind == 4) then
       bif decide (((r_3).length : Int) < 1) then
        some false
       else
        bif (i4 == 0) then
         quiverref1_TypeMay.l0 bar k n (IntKind.i64.wrap (i4 + 1)) t1 x2003
        else
         (quiverref1_upTo.f bar k e_1.parent 0 (IntKind.i64.wrap (i4 - 1))).bind fun r_21 =>
         bif (!(!r_21)) then
          bif decide (0 ≤ e_1.parent) && decide (e_1.parent < ((x2003).length : Int)) then
           (x2003[(e_1.parent).toNat]?).bind fun e_22 =>
           bif decide (e_22 ≥ 4) then
            some false
           else
            bif decide (0 ≤ e_1.parent) && decide (e_1.parent < ((x2003).length : Int)) then
             (x2003[(e_1.parent).toNat]?).bind fun e_23 =>
             bif decide (0 ≤ i4) && decide (i4 < ((x2003).length : Int)) then
              (x2003[(i4).toNat]?).bind fun e_24 =>
              quiverref1_TypeMay.l0 bar k n (IntKind.i64.wrap (i4 + 1)) t1 ((x2003).set ((i4).toNat) (IntKind.i64.wrap (e_23 + 1)))
             else
              none
            else
             none
          else
           none
         else
          some false
      else
       bif (i4 == 0) then
        quiverref1_TypeMay.l0 bar k n (IntKind.i64.wrap (i4 + 1)) t1 x2003
       else
        (quiverref1_upTo.f bar k e_1.parent 0 (IntKind.i64.wrap (i4 - 1))).bind fun r_25 =>
        bif (!(!r_25)) then
         bif decide (0 ≤ e_1.parent) && decide (e_1.parent < ((x2003).length : Int)) then
          (x2003[(e_1.parent).toNat]?).bind fun e_26 =>
          bif decide (e_26 ≥ 4) then
           some false
          else
           bif decide (0 ≤ e_1.parent) && decide (e_1.parent < ((x2003).length : Int)) then
            (x2003[(e_1.parent).toNat]?).bind fun e_27 =>
            bif decide (0 ≤ i4) && decide (i4 < ((x2003).length : Int)) then
             (x2003[(i4).toNat]?).bind fun e_28 =>
             quiverref1_TypeMay.l0 bar k n (IntKind.i64.wrap (i4 + 1)) t1 ((x2003).set ((i4).toNat) (IntKind.i64.wrap (e_27 + 1)))
            else
             none
           else
            none
         else
          none
        else
         some false
     else
      some false
    else
     bif (e_1.kind == 4) then
      bif decide (((r_3).length : Int) < 1) then
       some false
      else
       bif (i4 == 0) then
        quiverref1_TypeMay.l0 bar k n (IntKind.i64.wrap (i4 + 1)) t1 x2003
       else
        (quiverref1_upTo.f bar k e_1.parent 0 (IntKind.i64.wrap (i4 - 1))).bind fun r_29 =>
        bif (!(!r_29)) then
         bif decide (0 ≤ e_1.parent) && decide (e_1.parent < ((x2003).length : Int)) then
          (x2003[(e_1.parent).toNat]?).bind fun e_30 =>
          bif decide (e_30 ≥ 4) then
           some false
          else
           bif decide (0 ≤ e_1.parent) && decide (e_1.parent < ((x2003).length : Int)) then
            (x2003[(e_1.parent).toNat]?).bind fun e_31 =>
            bif decide (0 ≤ i4) && decide (i4 < ((x2003).length : Int)) then
             (x2003[(i4).toNat]?).bind fun e_32 =>
             quiverref1_TypeMay.l0 bar k n (IntKind.i64.wrap (i4 + 1)) t1 ((x2003).set ((i4).toNat) (IntKind.i64.wrap (e_31 + 1)))
            else
             none
           else
            none
         else
          none
        else
         some false
     else
      bif (i4 == 0) then
       quiverref1_TypeMay.l0 bar k n (IntKind.i64.wrap (i4 + 1)) t1 x2003
      else
       (quiverref1_upTo.f bar k e_1.parent 0 (IntKind.i64.wrap (i4 - 1))).bind fun r_33 =>
       bif (!(!r_33)) then
        bif decide (0 ≤ e_1.parent) && decide (e_1.parent < ((x2003).length : Int)) then
         (x2003[(e_1.parent).toNat]?).bind fun e_34 =>
         bif decide (e_34 ≥ 4) then
          some false
         else
          bif decide (0 ≤ e_1.parent) && decide (e_1.parent < ((x2003).length : Int)) then
           (x2003[(e_1.parent).toNat]?).bind fun e_35 =>
           bif decide (0 ≤ i4) && decide (i4 < ((x2003).length : Int)) then
            (x2003[(i4).toNat]?).bind fun e_36 =>
            quiverref1_TypeMay.l0 bar k n (IntKind.i64.wrap (i4 + 1)) t1 ((x2003).set ((i4).toNat) (IntKind.i64.wrap (e_35 + 1)))
           else
            none
          else
           none
        else
         none
       else
        some false
 else
  some true := by kernel_rfl
theorem quiverlaw0_SameTexts.f_eq (bar : Bar) (k : Nat) (a0 : List (List UInt8)) (a1 : List (List UInt8)) : quiverlaw0_SameTexts.f bar (k + 1) a0 a1 =
 bif (((a0).length : Int) != ((a1).length : Int)) then
  some false
 else
  quiverlaw0_SameTexts.l0 bar k k a0 a1 0 := by kernel_rfl
theorem quiverlaw0_SameTexts.l0_eq (bar : Bar) (k : Nat) (n : Nat) (a0 : List (List UInt8)) (b1 : List (List UInt8)) (i5 : Int) : quiverlaw0_SameTexts.l0 bar k (n + 1) a0 b1 i5 =
 bif decide (i5 < ((a0).length : Int)) then
  (rd a0 i5).bind fun e_1 =>
  (rd b1 i5).bind fun e_2 =>
  bif (e_1 != e_2) then
   some false
  else
   quiverlaw0_SameTexts.l0 bar k n a0 b1 (IntKind.i64.wrap (i5 + 1))
 else
  some true := by kernel_rfl
theorem quiverlaw0_SameInts.f_eq (bar : Bar) (k : Nat) (a0 : List Int) (a1 : List Int) : quiverlaw0_SameInts.f bar (k + 1) a0 a1 =
 bif (((a0).length : Int) != ((a1).length : Int)) then
  some false
 else
  quiverlaw0_SameInts.l0 bar k k a0 a1 0 := by kernel_rfl
theorem quiverlaw0_SameInts.l0_eq (bar : Bar) (k : Nat) (n : Nat) (a0 : List Int) (b1 : List Int) (i5 : Int) : quiverlaw0_SameInts.l0 bar k (n + 1) a0 b1 i5 =
 bif decide (i5 < ((a0).length : Int)) then
  (rd a0 i5).bind fun e_1 =>
  (rd b1 i5).bind fun e_2 =>
  bif (e_1 != e_2) then
   some false
  else
   quiverlaw0_SameInts.l0 bar k n a0 b1 (IntKind.i64.wrap (i5 + 1))
 else
  some true := by kernel_rfl
theorem quiverref7_Fits.f_eq (bar : Bar) (k : Nat) (a0 : List Nod) (a1 : Int) (a2 : List UInt8) : quiverref7_Fits.f bar (k + 1) a0 a1 a2 =
 (quiverref1_NodeMay.f bar k a0 a1).bind fun r_1 =>
 bif (!r_1) then
  some false
 else
  (rd a0 a1).bind fun e_2 =>
  (quiverref7_Parts.f bar k a2).bind fun r_3 =>
  bif (r_3.2.2 != 0) then
   some false
  else
   bif decide (r_3.1 < 0) then
    some e_2.null
   else
    (quiverref1_Kids.f bar k a0 a1).bind fun r_4 =>
    bif (!(r_3.1 != e_2.kind)) then
     bif (r_3.1 == 2) then
      bif decide (0 ≤ 0) && decide (0 < ((r_3.2.1).length : Int)) then
       (r_3.2.1[0]?).bind fun e_5 =>
       bif (!(decide (((e_5).length : Int) > 16))) then
        bif (r_3.1 == 3) then
         bif (!(decide (((r_3.2.1).length : Int) > 64))) then
          bif (r_3.1 == 4) then
           bif (((r_3.2.1).length : Int) != ((r_4.1).length : Int)) then
            some false
           else
            quiverref7_Fits.l0 bar k k r_3.1 0 a0 r_3.2.1 r_4.1
          else
           quiverref7_Fits.l0 bar k k r_3.1 0 a0 r_3.2.1 r_4.1
         else
          some false
        else
         bif (r_3.1 == 4) then
          bif (((r_3.2.1).length : Int) != ((r_4.1).length : Int)) then
           some false
          else
           quiverref7_Fits.l0 bar k k r_3.1 0 a0 r_3.2.1 r_4.1
         else
          quiverref7_Fits.l0 bar k k r_3.1 0 a0 r_3.2.1 r_4.1
       else
        some false
      else
       none
     else
      bif (r_3.1 == 3) then
       bif (!(decide (((r_3.2.1).length : Int) > 64))) then
        bif (r_3.1 == 4) then
         bif (((r_3.2.1).length : Int) != ((r_4.1).length : Int)) then
          some false
         else
          quiverref7_Fits.l0 bar k k r_3.1 0 a0 r_3.2.1 r_4.1
        else
         quiverref7_Fits.l0 bar k k r_3.1 0 a0 r_3.2.1 r_4.1
       else
        some false
      else
       bif (r_3.1 == 4) then
        bif (((r_3.2.1).length : Int) != ((r_4.1).length : Int)) then
         some false
        else
         quiverref7_Fits.l0 bar k k r_3.1 0 a0 r_3.2.1 r_4.1
       else
        quiverref7_Fits.l0 bar k k r_3.1 0 a0 r_3.2.1 r_4.1
    else
     some false := by kernel_rfl
theorem quiverref7_Fits.l0_eq (bar : Bar) (k : Nat) (n : Nat) (kind8 : Int) (i13 : Int) (t3 : List Nod) (x2009 : List (List UInt8)) (x2011 : List Int) : quiverref7_Fits.l0 bar k (n + 1) kind8 i13 t3 x2009 x2011 =
 bif decide (i13 < ((x2009).length : Int)) then
  (quiverref1_IsLeaf.f bar k kind8).bind fun r_1 =>
  bif (!r_1) then
   bif decide (0 ≤ 0) && decide (0 < ((x2011).length : Int)) then
    (x2011[0]?).bind fun e_2 =>
    bif (kind8 == 4) then
     bif decide (0 ≤ i13) && decide (i13 < ((x2011).length : Int)) then
      (x2011[(i13).toNat]?).bind fun e_3 =>
      bif decide (0 ≤ i13) && decide (i13 < ((x2009).length : Int)) then
       (x2009[(i13).toNat]?).bind fun e_4 =>
       (quiverref7_Fits.f bar k t3 e_3 e_4).bind fun r_5 =>
       bif (!r_5) then
        some false
       else
        quiverref7_Fits.l0 bar k n kind8 (IntKind.i64.wrap (i13 + 1)) t3 x2009 x2011
      else
       none
     else
      none
    else
     bif decide (0 ≤ i13) && decide (i13 < ((x2009).length : Int)) then
      (x2009[(i13).toNat]?).bind fun e_6 =>
      (quiverref7_Fits.f bar k t3 e_2 e_6).bind fun r_7 =>
      bif (!r_7) then
       some false
      else
       quiverref7_Fits.l0 bar k n kind8 (IntKind.i64.wrap (i13 + 1)) t3 x2009 x2011
     else
      none
   else
    none
  else
   some true
 else
  some true := by kernel_rfl
theorem quiverref1_Levels.f_eq (bar : Bar) (k : Nat) (a0 : List Nod) (a1 : Int) : quiverref1_Levels.f bar (k + 1) a0 a1 =
 (quiverref1_NodeMay.f bar k a0 a1).bind fun r_1 =>
 bif (!r_1) then
  some (0, 0, 500)
 else
  quiverref1_Levels.l0 bar k k a1 0 0 a0 := by kernel_rfl
theorem quiverref1_Levels.l0_eq (bar : Bar) (k : Nat) (n : Nat) (at_1 : Int) (rep7 : Int) (def_8 : Int) (t2 : List Nod) : quiverref1_Levels.l0 bar k (n + 1) at_1 rep7 def_8 t2 =
 bif decide (at_1 ≥ 0) then
  (rd t2 at_1).bind fun e_1 =>
  bif (e_1.kind == 3) then
   bar _ (quiverref1_Levels.j8 bar k n at_1 (IntKind.i64.wrap (rep7 + 1)) (IntKind.i64.wrap (def_8 + 1)) t2)
  else
   bar _ (quiverref1_Levels.j8 bar k n at_1 rep7 def_8 t2)
 else
  some (rep7, def_8, 0) := by kernel_rfl
theorem quiverref1_Levels.j8_eq (bar : Bar) (k : Nat) (m1 : Nat) (at_1 : Int) (rep7 : Int) (def_8 : Int) (t2 : List Nod) : quiverref1_Levels.j8 bar k m1 at_1 rep7 def_8 t2 =
 (rd t2 at_1).bind fun e_1 =>
 bif e_1.null then
  (rd t2 at_1).bind fun e_2 =>
  quiverref1_Levels.l0 bar k m1 e_2.parent rep7 (IntKind.i64.wrap (def_8 + 1)) t2
 else
  (rd t2 at_1).bind fun e_3 =>
  quiverref1_Levels.l0 bar k m1 e_3.parent rep7 def_8 t2 := by kernel_rfl
theorem quiverref21_leafMay.f_eq (bar : Bar) (k : Nat) (a0 : List Nod) (a1 : Int) : quiverref21_leafMay.f bar (k + 1) a0 a1 =
 (quiverref1_NodeMay.f bar k a0 a1).bind fun r_1 =>
 bif r_1 then
  (rd a0 a1).bind fun e_2 =>
  (quiverref1_IsLeaf.f bar k e_2.kind).bind fun r_3 =>
  some r_3
 else
  some false := by kernel_rfl
theorem page_within.f_eq (bar : Bar) (k : Nat) (a0 : List Int) (a1 : Int) : page_within.f bar (k + 1) a0 a1 =
 page_within.l0 bar k k a1 a0 ((a0).length : Int) 0 := by kernel_rfl
theorem page_within.l0_eq (bar : Bar) (k : Nat) (n : Nat) (most1 : Int) (x7 : List Int) (x8 : Int) (x9 : Int) : page_within.l0 bar k (n + 1) most1 x7 x8 x9 =
 bif decide (x9 < x8) then
  (rd x7 x9).bind fun e_1 =>
  bif (!(decide (e_1 < 0))) then
   bif decide (e_1 > most1) then
    some false
   else
    page_within.l0 bar k n most1 x7 x8 (IntKind.i64.wrap (x9 + 1))
  else
   some false
 else
  some true := by kernel_rfl
theorem value_Null.f_eq (bar : Bar) (k : Nat) : value_Null.f bar (k + 1) =
 some ([110] : List UInt8) := by kernel_rfl
theorem value_Fits.f_eq (bar : Bar) (k : Nat) (a0 : List Nod) (a1 : Int) (a2 : List UInt8) : value_Fits.f bar (k + 1) a0 a1 a2 =
 (types_Node.f bar k a0 a1).bind fun r_1 =>
 bif (!r_1) then
  some false
 else
  (value_Parts.f bar k a2).bind fun r_2 =>
  (rd a0 a1).bind fun e_3 =>
  bif (!(r_2.2.2 != 0)) then
   bif (r_2.1 == (-1)) then
    bif (r_2.2.2 == 0) then
     some e_3.null
    else
     some false
   else
    (types_Kids.f bar k a0 a1).bind fun r_4 =>
    bif (r_2.1 != e_3.kind) then
     some false
    else
     bif (r_2.1 == 2) then
      bif decide (0 ≤ 0) && decide (0 < ((r_2.2.1).length : Int)) then
       (r_2.2.1[0]?).bind fun e_5 =>
       some (decide (((e_5).length : Int) ≤ 16))
      else
       none
     else
      bif (r_2.1 == 4) then
       (value_all_int_string_value_Fits_1.f bar k r_4.1 r_2.2.1 a0).bind fun r_6 =>
       some r_6
      else
       value_Fits.l1 bar k k r_2.2.1 r_2.1 ((r_2.2.1).length : Int) 0 a0 r_4.1
  else
   bif (r_2.2.2 == 0) then
    some e_3.null
   else
    some false := by kernel_rfl

end Go.Proofs.YtjkokaockhecnaaGreatDoorA
