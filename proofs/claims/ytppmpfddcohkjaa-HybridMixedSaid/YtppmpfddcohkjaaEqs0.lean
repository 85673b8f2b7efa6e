/- Each function and each loop of the program answers as its equation says; no condition. -/
import Derived.Test.YtppmpfddcohkjaaFns
namespace Go.Proofs.YtppmpfddcohkjaaA
open Go
set_option linter.unusedVariables false
theorem quiverlaw21_Hybrids.f_eq (bar : Bar) (k : Nat) (a0 : List Int) (a1 : Int) (a2 : List UInt8) (a3 : Int) : quiverlaw21_Hybrids.f bar (k + 1) a0 a1 a2 a3 =
 (quiverlaw0_LendInts.f bar k a0).bind fun r_1 =>
 (hybrid_Put.f bar k r_1.1 a1).bind fun r_2 =>
 (quiverref21_PutHybrid.f bar k a0 a1).bind fun r_3 =>
 (hybrid_Get.f bar k a2 a1 a3).bind fun r_4 =>
 (quiverref21_GetHybrid.f bar k a2 a1 a3).bind fun r_5 =>
 bif (!(r_2.1 != r_3.1)) then
  (quiverlaw0_Num.f bar k r_2.2).bind fun r_6 =>
  bif (!(r_6 != r_3.2)) then
   (quiverlaw0_SameInts.f bar k r_4.1 r_5.1).bind fun r_7 =>
   bif (!(!r_7)) then
    (quiverlaw0_Num.f bar k r_4.2).bind fun r_8 =>
    bif (r_8 != r_5.2) then
     some false
    else
     (quiverlaw0_SpoilInts.f bar k r_4.1).bind fun r_9 =>
     (quiverlaw0_KeptInts.f bar k (r_1.1, r_1.2) a0).bind fun r_10 =>
     bif r_10 then
      (quiverlaw21_awake.f bar k).bind fun r_11 =>
      some r_11
     else
      some false
   else
    some false
  else
   some false
 else
  some false := by kernel_rfl
theorem quiverlaw21_HybridBack.f_eq (bar : Bar) (k : Nat) (a0 : List Int) (a1 : Int) (a2 : Int) : quiverlaw21_HybridBack.f bar (k + 1) a0 a1 a2 =
 (quiverlaw21_awake.f bar k).bind fun r_1 =>
 bif (!r_1) then
  some false
 else
  quiverlaw21_HybridBack.l0 bar k k a0 a2 (IntKind.i64.wrap (Int.tmod (IntKind.u64.wrap a1) 17)) 0 ([] : List Int) := by kernel_rfl
theorem quiverlaw21_HybridBack.l0_eq (bar : Bar) (k : Nat) (n : Nat) (xs0 : List Int) (more2 : Int) (w7 : Int) (i9 : Int) (x2008 : List Int) : quiverlaw21_HybridBack.l0 bar k (n + 1) xs0 more2 w7 i9 x2008 =
 bif decide (i9 < ((xs0).length : Int)) then
  bif decide (i9 < 200) then
   (rd xs0 i9).bind fun e_1 =>
   bif decide (w7 < 0) then
    none
   else
    bif decide (((x2008).length + (([bitsOp .and .i64 e_1 (IntKind.i64.wrap ((IntKind.i64.wrap (1 * 2 ^ (min (w7).toNat IntKind.i64.bits))) - 1))] : List Int)).length) * 8 ≤ 140737488355328) then
     quiverlaw21_HybridBack.l0 bar k n xs0 more2 w7 (IntKind.i64.wrap (i9 + 1)) (x2008 ++ ([bitsOp .and .i64 e_1 (IntKind.i64.wrap ((IntKind.i64.wrap (1 * 2 ^ (min (w7).toNat IntKind.i64.bits))) - 1))] : List Int))
    else
     none
  else
   (hybrid_Put.f bar k x2008 w7).bind fun r_2 =>
   (hybrid_Get.f bar k r_2.1 w7 ((x2008).length : Int)).bind fun r_3 =>
   (hybrid_Get.f bar k r_2.1 w7 (IntKind.i64.wrap ((IntKind.i64.wrap (((x2008).length : Int) + 8)) + (bitsOp .and .i64 more2 15)))).bind fun r_4 =>
   (quiverlaw0_Num.f bar k r_2.2).bind fun r_5 =>
   bif (r_5 == 0) then
    (quiverlaw0_Num.f bar k r_3.2).bind fun r_6 =>
    bif (r_6 == 0) then
     (quiverlaw0_SameInts.f bar k x2008 r_3.1).bind fun r_7 =>
     bif r_7 then
      (quiverlaw0_Num.f bar k r_4.2).bind fun r_8 =>
      some (r_8 == 2100)
     else
      some false
    else
     some false
   else
    some false
 else
  (hybrid_Put.f bar k x2008 w7).bind fun r_9 =>
  (hybrid_Get.f bar k r_9.1 w7 ((x2008).length : Int)).bind fun r_10 =>
  (hybrid_Get.f bar k r_9.1 w7 (IntKind.i64.wrap ((IntKind.i64.wrap (((x2008).length : Int) + 8)) + (bitsOp .and .i64 more2 15)))).bind fun r_11 =>
  (quiverlaw0_Num.f bar k r_9.2).bind fun r_12 =>
  bif (r_12 == 0) then
   (quiverlaw0_Num.f bar k r_10.2).bind fun r_13 =>
   bif (r_13 == 0) then
    (quiverlaw0_SameInts.f bar k x2008 r_10.1).bind fun r_14 =>
    bif r_14 then
     (quiverlaw0_Num.f bar k r_11.2).bind fun r_15 =>
     some (r_15 == 2100)
    else
     some false
   else
    some false
  else
   some false := by kernel_rfl
theorem quiverlaw21_HybridForms.f_eq (bar : Bar) (k : Nat) (a0 : Int) (a1 : Int) : quiverlaw21_HybridForms.f bar (k + 1) a0 a1 =
 (quiverlaw21_awake.f bar k).bind fun r_1 =>
 bif (!r_1) then
  some false
 else
  bif decide (0 ≤ bitsOp .and .i64 a0 1) && decide (bitsOp .and .i64 a0 1 < ((([IntKind.i64.wrap (0 - (IntKind.i64.wrap (1 + (bitsOp .and .i64 a1 1023)))), IntKind.i64.wrap (16 + (IntKind.i64.wrap (1 + (bitsOp .and .i64 a1 1023))))] : List Int)).length : Int)) then
   (([IntKind.i64.wrap (0 - (IntKind.i64.wrap (1 + (bitsOp .and .i64 a1 1023)))), IntKind.i64.wrap (16 + (IntKind.i64.wrap (1 + (bitsOp .and .i64 a1 1023))))] : List Int)[(bitsOp .and .i64 a0 1).toNat]?).bind fun e_2 =>
   (hybrid_Put.f bar k ([0] : List Int) e_2).bind fun r_3 =>
   bif decide (0 ≤ bitsOp .and .i64 a0 1) && decide (bitsOp .and .i64 a0 1 < ((([IntKind.i64.wrap (0 - (IntKind.i64.wrap (1 + (bitsOp .and .i64 a1 1023)))), 8] : List Int)).length : Int)) then
    (([IntKind.i64.wrap (0 - (IntKind.i64.wrap (1 + (bitsOp .and .i64 a1 1023)))), 8] : List Int)[(bitsOp .and .i64 a0 1).toNat]?).bind fun e_4 =>
    (hybrid_Put.f bar k ([e_4] : List Int) 3).bind fun r_5 =>
    bif (IntKind.i64.wrap (4096 + (IntKind.i64.wrap (1 + (bitsOp .and .i64 a1 1023)))) == IntKind.i64.wrap (4096 + (IntKind.i64.wrap (1 + (bitsOp .and .i64 a1 1023))))) && (decide (0 ≤ IntKind.i64.wrap (4096 + (IntKind.i64.wrap (1 + (bitsOp .and .i64 a1 1023))))) && decide ((IntKind.i64.wrap (4096 + (IntKind.i64.wrap (1 + (bitsOp .and .i64 a1 1023))))) * 8 ≤ 140737488355328)) then
     (hybrid_Put.f bar k (List.replicate (IntKind.i64.wrap (4096 + (IntKind.i64.wrap (1 + (bitsOp .and .i64 a1 1023))))).toNat (0 : Int) : List Int) 3).bind fun r_6 =>
     bif decide (0 ≤ bitsOp .and .i64 a0 1) && decide (bitsOp .and .i64 a0 1 < ((([IntKind.i64.wrap (0 - (IntKind.i64.wrap (1 + (bitsOp .and .i64 a1 1023)))), IntKind.i64.wrap (16 + (IntKind.i64.wrap (1 + (bitsOp .and .i64 a1 1023))))] : List Int)).length : Int)) then
      (([IntKind.i64.wrap (0 - (IntKind.i64.wrap (1 + (bitsOp .and .i64 a1 1023)))), IntKind.i64.wrap (16 + (IntKind.i64.wrap (1 + (bitsOp .and .i64 a1 1023))))] : List Int)[(bitsOp .and .i64 a0 1).toNat]?).bind fun e_7 =>
      (hybrid_Get.f bar k ([] : List UInt8) e_7 0).bind fun r_8 =>
      (hybrid_Get.f bar k ([] : List UInt8) 3 (IntKind.i64.wrap (0 - (IntKind.i64.wrap (1 + (bitsOp .and .i64 a1 1023)))))).bind fun r_9 =>
      (hybrid_Get.f bar k ([] : List UInt8) 3 (IntKind.i64.wrap (4096 + (IntKind.i64.wrap (1 + (bitsOp .and .i64 a1 1023)))))).bind fun r_10 =>
      bif decide (0 ≤ IntKind.i64.wrap (Int.tmod (IntKind.u64.wrap a0) 11)) && decide (IntKind.i64.wrap (Int.tmod (IntKind.u64.wrap a0) 11) < ((([([] : List UInt8), ([3] : List UInt8), ([3, 57] : List UInt8), ([3, 57, 0, 120] : List UInt8), ([5, 57, 0] : List UInt8), ([131, 0, 57, 0] : List UInt8), ([18] : List UInt8), ([6, 1] : List UInt8), ([0, 1] : List UInt8), ([1] : List UInt8), ([3, 57, 1] : List UInt8)] : List (List UInt8))).length : Int)) then
       (([([] : List UInt8), ([3] : List UInt8), ([3, 57] : List UInt8), ([3, 57, 0, 120] : List UInt8), ([5, 57, 0] : List UInt8), ([131, 0, 57, 0] : List UInt8), ([18] : List UInt8), ([6, 1] : List UInt8), ([0, 1] : List UInt8), ([1] : List UInt8), ([3, 57, 1] : List UInt8)] : List (List UInt8))[(IntKind.i64.wrap (Int.tmod (IntKind.u64.wrap a0) 11)).toNat]?).bind fun e_11 =>
       (hybrid_Get.f bar k e_11 2 3).bind fun r_12 =>
       (hybrid_Get.f bar k ([] : List UInt8) 2 0).bind fun r_13 =>
       (quiverlaw0_Num.f bar k r_3.2).bind fun r_14 =>
       bif (r_14 == 2100) then
        (quiverlaw0_Num.f bar k r_5.2).bind fun r_15 =>
        bif (r_15 == 2100) then
         (quiverlaw0_Num.f bar k r_6.2).bind fun r_16 =>
         bif (r_16 == 2100) then
          (quiverlaw0_Num.f bar k r_8.2).bind fun r_17 =>
          bif (r_17 == 2100) then
           (quiverlaw0_Num.f bar k r_9.2).bind fun r_18 =>
           bif (r_18 == 2100) then
            (quiverlaw0_Num.f bar k r_10.2).bind fun r_19 =>
            bif (r_19 == 2100) then
             (quiverlaw0_Num.f bar k r_12.2).bind fun r_20 =>
             bif (r_20 == 2100) then
              bif (((r_13.1).length : Int) == 0) then
               (quiverlaw0_Num.f bar k r_13.2).bind fun r_21 =>
               some (r_21 == 0)
              else
               some false
             else
              some false
            else
             some false
           else
            some false
          else
           some false
         else
          some false
        else
         some false
       else
        some false
      else
       none
     else
      none
    else
     none
   else
    none
  else
   none := by kernel_rfl
theorem quiverlaw21_HybridRuns.f_eq (bar : Bar) (k : Nat) (a0 : Int) (a1 : Int) : quiverlaw21_HybridRuns.f bar (k + 1) a0 a1 =
 (quiverlaw21_awake.f bar k).bind fun r_1 =>
 bif (!r_1) then
  some false
 else
  quiverlaw21_HybridRuns.l0 bar k k (bitsOp .and .i64 a0 63) (bitsOp .and .i64 a1 255) 0 ([] : List Int) := by kernel_rfl
theorem quiverlaw21_HybridRuns.l0_eq (bar : Bar) (k : Nat) (n : Nat) (k_5 : Int) (v6 : Int) (i8 : Int) (x2007 : List Int) : quiverlaw21_HybridRuns.l0 bar k (n + 1) k_5 v6 i8 x2007 =
 bif decide (i8 < k_5) then
  bif decide (((x2007).length + (([v6] : List Int)).length) * 8 ≤ 140737488355328) then
   quiverlaw21_HybridRuns.l0 bar k n k_5 v6 (IntKind.i64.wrap (i8 + 1)) (x2007 ++ ([v6] : List Int))
  else
   none
 else
  (hybrid_Put.f bar k x2007 8).bind fun r_1 =>
  (quiverlaw0_Num.f bar k r_1.2).bind fun r_2 =>
  bif (r_2 != 0) then
   some false
  else
   bif decide (k_5 ≥ 8) then
    some (r_1.1 == (strOfBytes ([IntKind.u8.wrap (IntKind.i64.wrap (2 * k_5)), IntKind.u8.wrap v6] : List Int)))
   else
    bif decide (k_5 > 0) then
     quiverlaw21_HybridRuns.l2 bar k k k_5 v6 r_1.1 0 ([3, 0, 0, 0, 0, 0, 0, 0, 0] : List Int)
    else
     some (r_1.1 == ([] : List UInt8)) := by kernel_rfl
theorem quiverlaw21_HybridRuns.l2_eq (bar : Bar) (k : Nat) (n : Nat) (k_5 : Int) (v6 : Int) (s9 : List UInt8) (i13 : Int) (x2012 : List Int) : quiverlaw21_HybridRuns.l2 bar k (n + 1) k_5 v6 s9 i13 x2012 =
 bif decide (i13 < k_5) then
  bif decide (0 ≤ IntKind.i64.wrap (1 + i13)) && decide (IntKind.i64.wrap (1 + i13) < ((x2012).length : Int)) then
   (x2012[(IntKind.i64.wrap (1 + i13)).toNat]?).bind fun e_1 =>
   quiverlaw21_HybridRuns.l2 bar k n k_5 v6 s9 (IntKind.i64.wrap (i13 + 1)) ((x2012).set ((IntKind.i64.wrap (1 + i13)).toNat) (IntKind.u8.wrap v6))
  else
   none
 else
  some (s9 == (strOfBytes x2012)) := by kernel_rfl
theorem quiverlaw21_HybridUnlike.f_eq (bar : Bar) (k : Nat) (a0 : List Int) (a1 : Int) (a2 : Int) : quiverlaw21_HybridUnlike.f bar (k + 1) a0 a1 a2 =
 (quiverlaw21_awake.f bar k).bind fun r_1 =>
 bif (!r_1) then
  some false
 else
  quiverlaw21_HybridUnlike.l0 bar k k a0 a1 (IntKind.i64.wrap (1 + (IntKind.i64.wrap (Int.tmod (IntKind.u64.wrap a2) 16)))) 0 ([] : List Int) := by kernel_rfl
theorem quiverlaw21_HybridUnlike.l0_eq (bar : Bar) (k : Nat) (n : Nat) (xs0 : List Int) (at_1 : Int) (w7 : Int) (i9 : Int) (x2008 : List Int) : quiverlaw21_HybridUnlike.l0 bar k (n + 1) xs0 at_1 w7 i9 x2008 =
 bif decide (i9 < ((xs0).length : Int)) then
  bif decide (i9 < 100) then
   (rd xs0 i9).bind fun e_1 =>
   bif decide (w7 < 0) then
    none
   else
    bif decide (((x2008).length + (([bitsOp .and .i64 e_1 (IntKind.i64.wrap ((IntKind.i64.wrap (1 * 2 ^ (min (w7).toNat IntKind.i64.bits))) - 1))] : List Int)).length) * 8 ≤ 140737488355328) then
     quiverlaw21_HybridUnlike.l0 bar k n xs0 at_1 w7 (IntKind.i64.wrap (i9 + 1)) (x2008 ++ ([bitsOp .and .i64 e_1 (IntKind.i64.wrap ((IntKind.i64.wrap (1 * 2 ^ (min (w7).toNat IntKind.i64.bits))) - 1))] : List Int))
    else
     none
  else
   bif (((x2008).length : Int) == 0) then
    some true
   else
    bif decide (((([] : List Int)).length + (x2008).length) * 8 ≤ 140737488355328) then
     bif (IntKind.u64.wrap ((([] : List Int) ++ x2008).length : Int) == 0) then
      none
     else
      bif decide (0 ≤ IntKind.i64.wrap (Int.tmod (IntKind.u64.wrap at_1) (IntKind.u64.wrap ((([] : List Int) ++ x2008).length : Int)))) && decide (IntKind.i64.wrap (Int.tmod (IntKind.u64.wrap at_1) (IntKind.u64.wrap ((([] : List Int) ++ x2008).length : Int))) < ((([] : List Int) ++ x2008).length : Int)) then
       ((([] : List Int) ++ x2008)[(IntKind.i64.wrap (Int.tmod (IntKind.u64.wrap at_1) (IntKind.u64.wrap ((([] : List Int) ++ x2008).length : Int)))).toNat]?).bind fun e_2 =>
       bif decide (0 ≤ IntKind.i64.wrap (Int.tmod (IntKind.u64.wrap at_1) (IntKind.u64.wrap ((([] : List Int) ++ x2008).length : Int)))) && decide (IntKind.i64.wrap (Int.tmod (IntKind.u64.wrap at_1) (IntKind.u64.wrap ((([] : List Int) ++ x2008).length : Int))) < ((([] : List Int) ++ x2008).length : Int)) then
        ((([] : List Int) ++ x2008)[(IntKind.i64.wrap (Int.tmod (IntKind.u64.wrap at_1) (IntKind.u64.wrap ((([] : List Int) ++ x2008).length : Int)))).toNat]?).bind fun e_3 =>
        (hybrid_Put.f bar k x2008 w7).bind fun r_4 =>
        (hybrid_Put.f bar k ((([] : List Int) ++ x2008).set ((IntKind.i64.wrap (Int.tmod (IntKind.u64.wrap at_1) (IntKind.u64.wrap ((([] : List Int) ++ x2008).length : Int)))).toNat) (bitsOp .xor .i64 e_2 1)) w7).bind fun r_5 =>
        (quiverlaw0_Num.f bar k r_4.2).bind fun r_6 =>
        bif (r_6 == 0) then
         (quiverlaw0_Num.f bar k r_5.2).bind fun r_7 =>
         bif (r_7 == 0) then
          some (r_4.1 != r_5.1)
         else
          some false
        else
         some false
       else
        none
      else
       none
    else
     none
 else
  bif (((x2008).length : Int) == 0) then
   some true
  else
   bif decide (((([] : List Int)).length + (x2008).length) * 8 ≤ 140737488355328) then
    bif (IntKind.u64.wrap ((([] : List Int) ++ x2008).length : Int) == 0) then
     none
    else
     bif decide (0 ≤ IntKind.i64.wrap (Int.tmod (IntKind.u64.wrap at_1) (IntKind.u64.wrap ((([] : List Int) ++ x2008).length : Int)))) && decide (IntKind.i64.wrap (Int.tmod (IntKind.u64.wrap at_1) (IntKind.u64.wrap ((([] : List Int) ++ x2008).length : Int))) < ((([] : List Int) ++ x2008).length : Int)) then
      ((([] : List Int) ++ x2008)[(IntKind.i64.wrap (Int.tmod (IntKind.u64.wrap at_1) (IntKind.u64.wrap ((([] : List Int) ++ x2008).length : Int)))).toNat]?).bind fun e_8 =>
      bif decide (0 ≤ IntKind.i64.wrap (Int.tmod (IntKind.u64.wrap at_1) (IntKind.u64.wrap ((([] : List Int) ++ x2008).length : Int)))) && decide (IntKind.i64.wrap (Int.tmod (IntKind.u64.wrap at_1) (IntKind.u64.wrap ((([] : List Int) ++ x2008).length : Int))) < ((([] : List Int) ++ x2008).length : Int)) then
       ((([] : List Int) ++ x2008)[(IntKind.i64.wrap (Int.tmod (IntKind.u64.wrap at_1) (IntKind.u64.wrap ((([] : List Int) ++ x2008).length : Int)))).toNat]?).bind fun e_9 =>
       (hybrid_Put.f bar k x2008 w7).bind fun r_10 =>
       (hybrid_Put.f bar k ((([] : List Int) ++ x2008).set ((IntKind.i64.wrap (Int.tmod (IntKind.u64.wrap at_1) (IntKind.u64.wrap ((([] : List Int) ++ x2008).length : Int)))).toNat) (bitsOp .xor .i64 e_8 1)) w7).bind fun r_11 =>
       (quiverlaw0_Num.f bar k r_10.2).bind fun r_12 =>
       bif (r_12 == 0) then
        (quiverlaw0_Num.f bar k r_11.2).bind fun r_13 =>
        bif (r_13 == 0) then
         some (r_10.1 != r_11.1)
        else
         some false
       else
        some false
      else
       none
     else
      none
   else
    none := by kernel_rfl
theorem quiverlaw21_HybridMixed.f_eq (bar : Bar) (k : Nat) (a0 : List Int) (a1 : Int) : quiverlaw21_HybridMixed.f bar (k + 1) a0 a1 =
 (quiverlaw21_awake.f bar k).bind fun r_1 =>
 bif (!r_1) then
  some false
 else
  quiverlaw21_HybridMixed.l0 bar k k a0 (IntKind.i64.wrap (1 + (IntKind.i64.wrap (Int.tmod (IntKind.u64.wrap a1) 16)))) 0 ([] : List Int) := by kernel_rfl
theorem quiverlaw21_HybridMixed.l0_eq (bar : Bar) (k : Nat) (n : Nat) (sizes0 : List Int) (w5 : Int) (i7 : Int) (x2006 : List Int) : quiverlaw21_HybridMixed.l0 bar k (n + 1) sizes0 w5 i7 x2006 =
 bif decide (i7 < ((sizes0).length : Int)) then
  bif decide (i7 < 12) then
   (rd sizes0 i7).bind fun e_1 =>
   bif decide (w5 < 0) then
    none
   else
    quiverlaw21_HybridMixed.l2 bar k n k sizes0 w5 i7 (bitsOp .and .i64 (Int.fdiv e_1 (2 ^ (min 5 IntKind.i64.bits))) (IntKind.i64.wrap ((IntKind.i64.wrap (1 * 2 ^ (min (w5).toNat IntKind.i64.bits))) - 1))) 0 x2006
  else
   (hybrid_Put.f bar k x2006 w5).bind fun r_2 =>
   (hybrid_Get.f bar k r_2.1 w5 ((x2006).length : Int)).bind fun r_3 =>
   bif decide ((r_2.1).length + (([0] : List UInt8)).length ≤ 9223372036854775807) then
    (hybrid_Get.f bar k (r_2.1 ++ ([0] : List UInt8)) w5 ((x2006).length : Int)).bind fun r_4 =>
    (quiverlaw0_Num.f bar k r_2.2).bind fun r_5 =>
    bif (r_5 == 0) then
     (quiverlaw0_Num.f bar k r_3.2).bind fun r_6 =>
     bif (r_6 == 0) then
      (quiverlaw0_SameInts.f bar k x2006 r_3.1).bind fun r_7 =>
      bif r_7 then
       (quiverlaw0_Num.f bar k r_4.2).bind fun r_8 =>
       some (r_8 == 2100)
      else
       some false
     else
      some false
    else
     some false
   else
    none
 else
  (hybrid_Put.f bar k x2006 w5).bind fun r_9 =>
  (hybrid_Get.f bar k r_9.1 w5 ((x2006).length : Int)).bind fun r_10 =>
  bif decide ((r_9.1).length + (([0] : List UInt8)).length ≤ 9223372036854775807) then
   (hybrid_Get.f bar k (r_9.1 ++ ([0] : List UInt8)) w5 ((x2006).length : Int)).bind fun r_11 =>
   (quiverlaw0_Num.f bar k r_9.2).bind fun r_12 =>
   bif (r_12 == 0) then
    (quiverlaw0_Num.f bar k r_10.2).bind fun r_13 =>
    bif (r_13 == 0) then
     (quiverlaw0_SameInts.f bar k x2006 r_10.1).bind fun r_14 =>
     bif r_14 then
      (quiverlaw0_Num.f bar k r_11.2).bind fun r_15 =>
      some (r_15 == 2100)
     else
      some false
    else
     some false
   else
    some false
  else
   none := by kernel_rfl
theorem quiverlaw21_HybridMixed.l2_eq (bar : Bar) (k : Nat) (m1 : Nat) (n : Nat) (sizes0 : List Int) (w5 : Int) (i7 : Int) (v8 : Int) (j9 : Int) (x2006 : List Int) : quiverlaw21_HybridMixed.l2 bar k m1 (n + 1) sizes0 w5 i7 v8 j9 x2006 =
 (rd sizes0 i7).bind fun e_1 =>
 bif decide (j9 < (bitsOp .and .i64 e_1 31)) then
  (rd sizes0 i7).bind fun e_2 =>
  bif ((bitsOp .and .i64 e_2 1) == 0) then
   bif decide (((x2006).length + (([v8] : List Int)).length) * 8 ≤ 140737488355328) then
    quiverlaw21_HybridMixed.l2 bar k m1 n sizes0 w5 i7 v8 (IntKind.i64.wrap (j9 + 1)) (x2006 ++ ([v8] : List Int))
   else
    none
  else
   bif decide (w5 < 0) then
    none
   else
    bif decide (((x2006).length + (([bitsOp .and .i64 (IntKind.i64.wrap (v8 + j9)) (IntKind.i64.wrap ((IntKind.i64.wrap (1 * 2 ^ (min (w5).toNat IntKind.i64.bits))) - 1))] : List Int)).length) * 8 ≤ 140737488355328) then
     quiverlaw21_HybridMixed.l2 bar k m1 n sizes0 w5 i7 v8 (IntKind.i64.wrap (j9 + 1)) (x2006 ++ ([bitsOp .and .i64 (IntKind.i64.wrap (v8 + j9)) (IntKind.i64.wrap ((IntKind.i64.wrap (1 * 2 ^ (min (w5).toNat IntKind.i64.bits))) - 1))] : List Int))
    else
     none
 else
  quiverlaw21_HybridMixed.l0 bar k m1 sizes0 w5 (IntKind.i64.wrap (i7 + 1)) x2006 := by kernel_rfl
theorem quiverlaw0_Num.f_eq (bar : Bar) (k : Nat) (a0 : Int) : quiverlaw0_Num.f bar (k + 1) a0 =
 some a0 := by kernel_rfl
theorem quiverlaw0_LendInts.f_eq (bar : Bar) (k : Nat) (a0 : List Int) : quiverlaw0_LendInts.f bar (k + 1) a0 =
 (quiverlaw0_CopyInts.f bar k a0).bind fun r_1 =>
 bif decide (((r_1).length + (([(-7777), (-8888)] : List Int)).length) * 8 ≤ 140737488355328) then
  bif decide (0 ≤ ((a0).length : Int)) && decide (((a0).length : Int) ≤ (((r_1 ++ ([(-7777), (-8888)] : List Int)).length : Nat) : Int)) then
   some (List.take ((((a0).length : Int)).toNat) (r_1 ++ ([(-7777), (-8888)] : List Int)), List.drop ((((a0).length : Int)).toNat) (r_1 ++ ([(-7777), (-8888)] : List Int)))
  else
   none
 else
  none := by kernel_rfl
theorem hybrid_Put.f_eq (bar : Bar) (k : Nat) (a0 : List Int) (a1 : Int) : hybrid_Put.f bar (k + 1) a0 a1 =
 (hybrid_may.f bar k a0 a1).bind fun r_1 =>
 bif (!r_1) then
  some (([] : List UInt8), 2100)
 else
  hybrid_Put.l0 bar k k a0 a1 ([] : List Int) := by kernel_rfl
theorem hybrid_Put.l0_eq (bar : Bar) (k : Nat) (n : Nat) (xs0 : List Int) (width1 : Int) (out6 : List Int) : hybrid_Put.l0 bar k (n + 1) xs0 width1 out6 =
 bif decide (((xs0).length : Int) > 0) then
  (hybrid_same.f bar k xs0).bind fun r_1 =>
  bif decide (r_1 ≥ 8) then
   (num_PutVar.f bar k (IntKind.i64.wrap (2 * r_1))).bind fun r_2 =>
   (rd xs0 0).bind fun e_3 =>
   (bits_Bytes.f bar k width1).bind fun r_4 =>
   (num_Word.f bar k e_3 r_4).bind fun r_5 =>
   bif decide ((r_2.1).length + (r_5).length ≤ 9223372036854775807) then
    bif decide ((out6).length + (r_2.1 ++ r_5).length ≤ 140737488355328) then
     bif decide (0 ≤ r_1) && decide (r_1 ≤ (((xs0).length : Nat) : Int)) then
      hybrid_Put.l0 bar k n (List.drop ((r_1).toNat) (List.take ((xs0).length) xs0)) width1 (out6 ++ bytesOfStr (r_2.1 ++ r_5))
     else
      none
    else
     none
   else
    none
  else
   (hybrid_groups.f bar k xs0).bind fun r_6 =>
   (num_PutVar.f bar k (IntKind.i64.wrap ((IntKind.i64.wrap (2 * (IntKind.i64.wrap (Int.tdiv (IntKind.i64.wrap ((IntKind.i64.wrap (r_6 + 8)) - 1)) 8)))) + 1))).bind fun r_7 =>
   bif decide (0 ≤ r_6) && decide (r_6 ≤ (((xs0).length : Nat) : Int)) then
    (hybrid_wide.f bar k (List.drop 0 (List.take ((r_6).toNat) xs0)) width1).bind fun r_8 =>
    bif decide ((r_7.1).length + (r_8).length ≤ 9223372036854775807) then
     bif decide ((out6).length + (r_7.1 ++ r_8).length ≤ 140737488355328) then
      bif decide (0 ≤ r_6) && decide (r_6 ≤ (((xs0).length : Nat) : Int)) then
       hybrid_Put.l0 bar k n (List.drop ((r_6).toNat) (List.take ((xs0).length) xs0)) width1 (out6 ++ bytesOfStr (r_7.1 ++ r_8))
      else
       none
     else
      none
    else
     none
   else
    none
 else
  some (strOfBytes out6, 0) := by kernel_rfl
theorem quiverref21_PutHybrid.f_eq (bar : Bar) (k : Nat) (a0 : List Int) (a1 : Int) : quiverref21_PutHybrid.f bar (k + 1) a0 a1 =
 bif (!(decide (a1 < 0))) then
  bif (!(decide (a1 > 16))) then
   bif decide (((a0).length : Int) > 4096) then
    some (([] : List UInt8), 2100)
   else
    quiverref21_PutHybrid.l0 bar k k a0 a1 0
  else
   some (([] : List UInt8), 2100)
 else
  some (([] : List UInt8), 2100) := by kernel_rfl
theorem quiverref21_PutHybrid.l0_eq (bar : Bar) (k : Nat) (n : Nat) (xs0 : List Int) (width1 : Int) (i6 : Int) : quiverref21_PutHybrid.l0 bar k (n + 1) xs0 width1 i6 =
 bif decide (i6 < ((xs0).length : Int)) then
  (rd xs0 i6).bind fun e_1 =>
  bif (!(decide (e_1 < 0))) then
   (rd xs0 i6).bind fun e_2 =>
   bif decide (width1 < 0) then
    none
   else
    bif decide (e_2 ≥ (IntKind.i64.wrap (1 * 2 ^ (min (width1).toNat IntKind.i64.bits)))) then
     some (([] : List UInt8), 2100)
    else
     quiverref21_PutHybrid.l0 bar k n xs0 width1 (IntKind.i64.wrap (i6 + 1))
  else
   some (([] : List UInt8), 2100)
 else
  quiverref21_PutHybrid.l2 bar k k xs0 width1 ([] : List UInt8) 0 := by kernel_rfl
theorem quiverref21_PutHybrid.l2_eq (bar : Bar) (k : Nat) (n : Nat) (xs0 : List Int) (width1 : Int) (s7 : List UInt8) (at_8 : Int) : quiverref21_PutHybrid.l2 bar k (n + 1) xs0 width1 s7 at_8 =
 bif decide (at_8 < ((xs0).length : Int)) then
  (quiverref21_run.f bar k xs0 at_8).bind fun r_1 =>
  bif decide (r_1 ≥ 8) then
   (quiverref1_PutVar.f bar k (IntKind.i64.wrap (2 * r_1))).bind fun r_2 =>
   bif decide ((s7).length + (r_2.1).length ≤ 9223372036854775807) then
    (rd xs0 at_8).bind fun e_3 =>
    (quiverref1_BitBytes.f bar k width1).bind fun r_4 =>
    (quiverref1_Low.f bar k e_3 r_4).bind fun r_5 =>
    bif decide ((s7 ++ r_2.1).length + (r_5).length ≤ 9223372036854775807) then
     quiverref21_PutHybrid.l2 bar k n xs0 width1 ((s7 ++ r_2.1) ++ r_5) (IntKind.i64.wrap (at_8 + r_1))
    else
     none
   else
    none
  else
   quiverref21_PutHybrid.l4 bar k n k xs0 width1 s7 at_8 (bif decide (((xs0).length : Int) < (IntKind.i64.wrap (at_8 + 8))) then ((xs0).length : Int) else IntKind.i64.wrap (at_8 + 8))
 else
  some (s7, 0) := by kernel_rfl
theorem quiverref21_PutHybrid.l4_eq (bar : Bar) (k : Nat) (m1 : Nat) (n : Nat) (xs0 : List Int) (width1 : Int) (s7 : List UInt8) (at_8 : Int) (to12 : Int) : quiverref21_PutHybrid.l4 bar k m1 (n + 1) xs0 width1 s7 at_8 to12 =
 bif decide (to12 < ((xs0).length : Int)) then
  (quiverref21_run.f bar k xs0 to12).bind fun r_1 =>
  bif decide (r_1 < 8) then
   quiverref21_PutHybrid.l4 bar k m1 n xs0 width1 s7 at_8 (bif decide (((xs0).length : Int) < (IntKind.i64.wrap (to12 + 8))) then ((xs0).length : Int) else IntKind.i64.wrap (to12 + 8))
  else
   (quiverref1_PutVar.f bar k (IntKind.i64.wrap ((IntKind.i64.wrap (2 * (IntKind.i64.wrap (Int.tdiv (IntKind.i64.wrap ((IntKind.i64.wrap (to12 - at_8)) + 7)) 8)))) + 1))).bind fun r_2 =>
   bif decide ((s7).length + (r_2.1).length ≤ 9223372036854775807) then
    bif decide (0 ≤ to12) && decide (to12 ≤ (((xs0).length : Nat) : Int)) then
     bif decide (0 ≤ at_8) && decide (at_8 ≤ (((to12).toNat : Nat) : Int)) then
      (quiverref21_pack.f bar k (List.drop ((at_8).toNat) (List.take ((to12).toNat) xs0)) width1).bind fun r_3 =>
      bif decide ((s7 ++ r_2.1).length + (r_3).length ≤ 9223372036854775807) then
       quiverref21_PutHybrid.l2 bar k m1 xs0 width1 ((s7 ++ r_2.1) ++ r_3) to12
      else
       none
     else
      none
    else
     none
   else
    none
 else
  (quiverref1_PutVar.f bar k (IntKind.i64.wrap ((IntKind.i64.wrap (2 * (IntKind.i64.wrap (Int.tdiv (IntKind.i64.wrap ((IntKind.i64.wrap (to12 - at_8)) + 7)) 8)))) + 1))).bind fun r_4 =>
  bif decide ((s7).length + (r_4.1).length ≤ 9223372036854775807) then
   bif decide (0 ≤ to12) && decide (to12 ≤ (((xs0).length : Nat) : Int)) then
    bif decide (0 ≤ at_8) && decide (at_8 ≤ (((to12).toNat : Nat) : Int)) then
     (quiverref21_pack.f bar k (List.drop ((at_8).toNat) (List.take ((to12).toNat) xs0)) width1).bind fun r_5 =>
     bif decide ((s7 ++ r_4.1).length + (r_5).length ≤ 9223372036854775807) then
      quiverref21_PutHybrid.l2 bar k m1 xs0 width1 ((s7 ++ r_4.1) ++ r_5) to12
     else
      none
    else
     none
   else
    none
  else
   none := by kernel_rfl
theorem hybrid_Get.f_eq (bar : Bar) (k : Nat) (a0 : List UInt8) (a1 : Int) (a2 : Int) : hybrid_Get.f bar (k + 1) a0 a1 a2 =
 bif (!(decide (a1 < 0))) then
  bif (!(decide (a1 > 16))) then
   bif (!(decide (a2 < 0))) then
    bif decide (a2 > 4096) then
     some (([] : List Int), 2100)
    else
     hybrid_Get.l0 bar k k a0 a1 a2 a0 a1 ([] : List Int) false
   else
    some (([] : List Int), 2100)
  else
   some (([] : List Int), 2100)
 else
  some (([] : List Int), 2100) := by kernel_rfl
theorem hybrid_Get.l0_eq (bar : Bar) (k : Nat) (n : Nat) (s0 : List UInt8) (width1 : Int) (count2 : Int) (x32 : List UInt8) (x32_1 : Int) (x32_2 : List Int) (x32_3 : Bool) : hybrid_Get.l0 bar k (n + 1) s0 width1 count2 x32 x32_1 x32_2 x32_3 =
 bif (!x32_3) then
  bif decide (((x32_2).length : Int) < count2) then
   (num_GetVar.f bar k x32 0).bind fun r_1 =>
   bif decide (0 ≤ r_1.2.1) && decide (r_1.2.1 ≤ (((x32).length : Nat) : Int)) then
    bif ((Int.tmod r_1.1 2) == 0) then
     (hybrid_taker_run.f bar k (List.drop ((r_1.2.1).toNat) (List.take ((x32).length) x32)) x32_1 x32_2 (r_1.2.2 != 0) (IntKind.i64.wrap (Int.tdiv r_1.1 2)) (IntKind.i64.wrap (count2 - ((x32_2).length : Int)))).bind fun r_2 =>
     bar _ (hybrid_Get.j12 bar k n s0 width1 count2 r_1.1 r_2.1 r_2.2.1 r_2.2.2.1 r_2.2.2.2)
    else
     (hybrid_taker_groups.f bar k (List.drop ((r_1.2.1).toNat) (List.take ((x32).length) x32)) x32_1 x32_2 (r_1.2.2 != 0) (IntKind.i64.wrap (Int.tdiv r_1.1 2)) (IntKind.i64.wrap (count2 - ((x32_2).length : Int)))).bind fun r_3 =>
     bar _ (hybrid_Get.j12 bar k n s0 width1 count2 r_1.1 r_3.1 r_3.2.1 r_3.2.2.1 r_3.2.2.2)
   else
    none
  else
   (hybrid_Put.f bar k x32_2 width1).bind fun r_4 =>
   bif (!x32_3) then
    bif (!(r_4.2 != 0)) then
     bif (!(r_4.1 != s0)) then
      bif (((x32_2).length : Int) != count2) then
       some (([] : List Int), 2100)
      else
       some (x32_2, 0)
     else
      some (([] : List Int), 2100)
    else
     some (([] : List Int), 2100)
   else
    some (([] : List Int), 2100)
 else
  (hybrid_Put.f bar k x32_2 width1).bind fun r_5 =>
  bif (!x32_3) then
   bif (!(r_5.2 != 0)) then
    bif (!(r_5.1 != s0)) then
     bif (((x32_2).length : Int) != count2) then
      some (([] : List Int), 2100)
     else
      some (x32_2, 0)
    else
     some (([] : List Int), 2100)
   else
    some (([] : List Int), 2100)
  else
   some (([] : List Int), 2100) := by kernel_rfl
theorem hybrid_Get.j12_eq (bar : Bar) (k : Nat) (m1 : Nat) (s0 : List UInt8) (width1 : Int) (count2 : Int) (head9 : Int) (x32 : List UInt8) (x32_1 : Int) (x32_2 : List Int) (x32_3 : Bool) : hybrid_Get.j12 bar k m1 s0 width1 count2 head9 x32 x32_1 x32_2 x32_3 =
 bif (!x32_3) then
  hybrid_Get.l0 bar k m1 s0 width1 count2 x32 x32_1 x32_2 (decide (head9 < 2))
 else
  hybrid_Get.l0 bar k m1 s0 width1 count2 x32 x32_1 x32_2 true := by kernel_rfl
theorem quiverref21_GetHybrid.f_eq (bar : Bar) (k : Nat) (a0 : List UInt8) (a1 : Int) (a2 : Int) : quiverref21_GetHybrid.f bar (k + 1) a0 a1 a2 =
 bif (!(decide (a1 < 0))) then
  bif (!(decide (a1 > 16))) then
   bif (!(decide (a2 < 0))) then
    bif decide (a2 > 4096) then
     some (([] : List Int), 2100)
    else
     quiverref21_GetHybrid.l0 bar k k a0 a1 a2 0 ([] : List Int)
   else
    some (([] : List Int), 2100)
  else
   some (([] : List Int), 2100)
 else
  some (([] : List Int), 2100) := by kernel_rfl
theorem quiverref21_GetHybrid.l0_eq (bar : Bar) (k : Nat) (n : Nat) (s0 : List UInt8) (width1 : Int) (count2 : Int) (at_9 : Int) (x2008 : List Int) : quiverref21_GetHybrid.l0 bar k (n + 1) s0 width1 count2 at_9 x2008 =
 bif decide (at_9 < ((s0).length : Int)) then
  bif decide (((x2008).length : Int) < count2) then
   (quiverref1_GetVar.f bar k s0 at_9).bind fun r_1 =>
   bif (r_1.2.2 != 0) then
    some (([] : List Int), 2100)
   else
    (quiverref1_BitBytes.f bar k width1).bind fun r_2 =>
    bif ((bitsOp .and .i64 r_1.1 1) == 1) then
     bar _ (quiverref21_GetHybrid.j13 bar k n s0 width1 count2 r_1.1 r_1.2.1 (IntKind.i64.wrap (8 * (IntKind.i64.wrap (Int.tdiv r_1.1 2)))) (IntKind.i64.wrap ((IntKind.i64.wrap (Int.tdiv r_1.1 2)) * width1)) x2008)
    else
     bar _ (quiverref21_GetHybrid.j13 bar k n s0 width1 count2 r_1.1 r_1.2.1 (IntKind.i64.wrap (Int.tdiv r_1.1 2)) r_2 x2008)
  else
   (quiverref21_PutHybrid.f bar k x2008 width1).bind fun r_3 =>
   bif (!(r_3.2 != 0)) then
    bif (!(r_3.1 != s0)) then
     bif (((x2008).length : Int) != count2) then
      some (([] : List Int), 2100)
     else
      some (x2008, 0)
    else
     some (([] : List Int), 2100)
   else
    some (([] : List Int), 2100)
 else
  (quiverref21_PutHybrid.f bar k x2008 width1).bind fun r_4 =>
  bif (!(r_4.2 != 0)) then
   bif (!(r_4.1 != s0)) then
    bif (((x2008).length : Int) != count2) then
     some (([] : List Int), 2100)
    else
     some (x2008, 0)
   else
    some (([] : List Int), 2100)
  else
   some (([] : List Int), 2100) := by kernel_rfl
theorem quiverref21_GetHybrid.j13_eq (bar : Bar) (k : Nat) (m1 : Nat) (s0 : List UInt8) (width1 : Int) (count2 : Int) (head10 : Int) (to11 : Int) (k_13 : Int) (size14 : Int) (x2008 : List Int) : quiverref21_GetHybrid.j13 bar k m1 s0 width1 count2 head10 to11 k_13 size14 x2008 =
 bif (!(decide (k_13 > 4104))) then
  bif decide (size14 > (IntKind.i64.wrap (((s0).length : Int) - to11))) then
   some (([] : List Int), 2100)
  else
   quiverref21_GetHybrid.l2 bar k m1 k s0 width1 count2 head10 to11 k_13 size14 0 x2008
 else
  some (([] : List Int), 2100) := by kernel_rfl
theorem quiverref21_GetHybrid.l2_eq (bar : Bar) (k : Nat) (m1 : Nat) (n : Nat) (s0 : List UInt8) (width1 : Int) (count2 : Int) (head10 : Int) (to11 : Int) (k_13 : Int) (size14 : Int) (i15 : Int) (x2008 : List Int) : quiverref21_GetHybrid.l2 bar k m1 (n + 1) s0 width1 count2 head10 to11 k_13 size14 i15 x2008 =
 bif decide (i15 < k_13) then
  bif decide (((x2008).length : Int) < count2) then
   bif ((bitsOp .and .i64 head10 1) == 0) then
    bif decide (0 ≤ IntKind.i64.wrap (to11 + size14)) && decide (IntKind.i64.wrap (to11 + size14) ≤ (((s0).length : Nat) : Int)) then
     bif decide (0 ≤ to11) && decide (to11 ≤ (((IntKind.i64.wrap (to11 + size14)).toNat : Nat) : Int)) then
      (quiverref1_Num.f bar k (List.drop ((to11).toNat) (List.take ((IntKind.i64.wrap (to11 + size14)).toNat) s0))).bind fun r_1 =>
      bar _ (quiverref21_GetHybrid.j21 bar k m1 n s0 width1 count2 head10 to11 k_13 size14 i15 r_1 x2008)
     else
      none
    else
     none
   else
    bar _ (quiverref21_GetHybrid.j21 bar k m1 n s0 width1 count2 head10 to11 k_13 size14 i15 0 x2008)
  else
   quiverref21_GetHybrid.l0 bar k m1 s0 width1 count2 (IntKind.i64.wrap (to11 + size14)) x2008
 else
  quiverref21_GetHybrid.l0 bar k m1 s0 width1 count2 (IntKind.i64.wrap (to11 + size14)) x2008 := by kernel_rfl
theorem quiverref21_GetHybrid.j21_eq (bar : Bar) (k : Nat) (m1 : Nat) (m2 : Nat) (s0 : List UInt8) (width1 : Int) (count2 : Int) (head10 : Int) (to11 : Int) (k_13 : Int) (size14 : Int) (i15 : Int) (x16 : Int) (x2008 : List Int) : quiverref21_GetHybrid.j21 bar k m1 m2 s0 width1 count2 head10 to11 k_13 size14 i15 x16 x2008 =
 quiverref21_GetHybrid.l4 bar k m1 m2 k s0 width1 count2 head10 to11 k_13 size14 i15 x16 0 x2008 := by kernel_rfl
theorem quiverref21_GetHybrid.l4_eq (bar : Bar) (k : Nat) (m1 : Nat) (m2 : Nat) (n : Nat) (s0 : List UInt8) (width1 : Int) (count2 : Int) (head10 : Int) (to11 : Int) (k_13 : Int) (size14 : Int) (i15 : Int) (x16 : Int) (j17 : Int) (x2008 : List Int) : quiverref21_GetHybrid.l4 bar k m1 m2 (n + 1) s0 width1 count2 head10 to11 k_13 size14 i15 x16 j17 x2008 =
 bif decide (j17 < width1) then
  bif ((bitsOp .and .i64 head10 1) == 1) then
   bif decide (0 ≤ IntKind.i64.wrap (to11 + size14)) && decide (IntKind.i64.wrap (to11 + size14) ≤ (((s0).length : Nat) : Int)) then
    bif decide (0 ≤ to11) && decide (to11 ≤ (((IntKind.i64.wrap (to11 + size14)).toNat : Nat) : Int)) then
     (quiverref1_Bit.f bar k (List.drop ((to11).toNat) (List.take ((IntKind.i64.wrap (to11 + size14)).toNat) s0)) (IntKind.i64.wrap ((IntKind.i64.wrap (i15 * width1)) + j17))).bind fun r_1 =>
     bif r_1 then
      bif decide (j17 < 0) then
       none
      else
       quiverref21_GetHybrid.l4 bar k m1 m2 n s0 width1 count2 head10 to11 k_13 size14 i15 (bitsOp .or .i64 x16 (IntKind.i64.wrap (1 * 2 ^ (min (j17).toNat IntKind.i64.bits)))) (IntKind.i64.wrap (j17 + 1)) x2008
     else
      quiverref21_GetHybrid.l4 bar k m1 m2 n s0 width1 count2 head10 to11 k_13 size14 i15 x16 (IntKind.i64.wrap (j17 + 1)) x2008
    else
     none
   else
    none
  else
   bif decide (((x2008).length + (([x16] : List Int)).length) * 8 ≤ 140737488355328) then
    quiverref21_GetHybrid.l2 bar k m1 m2 s0 width1 count2 head10 to11 k_13 size14 (IntKind.i64.wrap (i15 + 1)) (x2008 ++ ([x16] : List Int))
   else
    none
 else
  bif decide (((x2008).length + (([x16] : List Int)).length) * 8 ≤ 140737488355328) then
   quiverref21_GetHybrid.l2 bar k m1 m2 s0 width1 count2 head10 to11 k_13 size14 (IntKind.i64.wrap (i15 + 1)) (x2008 ++ ([x16] : List Int))
  else
   none := by kernel_rfl
theorem quiverlaw0_SameInts.f_eq (bar : Bar) (k : Nat) (a0 : List Int) (a1 : List Int) : quiverlaw0_SameInts.f bar (k + 1) a0 a1 =
 bif (((a0).length : Int) != ((a1).length : Int)) then
  some false
 else
  quiverlaw0_SameInts.l0 bar k k a0 a1 0 := by kernel_rfl
theorem quiverlaw0_SameInts.l0_eq (bar : Bar) (k : Nat) (n : Nat) (a0 : List Int) (b1 : List Int) (i5 : Int) : quiverlaw0_SameInts.l0 bar k (n + 1) a0 b1 i5 =
 bif decide (i5 < ((a0).length : Int)) then
  (rd a0 i5).bind fun e_1 =>
  (rd b1 i5).bind fun e_2 =>
  bif (e_1 != e_2) then
   some false
  else
   quiverlaw0_SameInts.l0 bar k n a0 b1 (IntKind.i64.wrap (i5 + 1))
 else
  some true := by kernel_rfl
theorem quiverlaw0_SpoilInts.f_eq (bar : Bar) (k : Nat) (a0 : List Int) : quiverlaw0_SpoilInts.f bar (k + 1) a0 =
 quiverlaw0_SpoilInts.l0 bar k k 0 a0 := by kernel_rfl
theorem quiverlaw0_SpoilInts.l0_eq (bar : Bar) (k : Nat) (n : Nat) (i2 : Int) (x2000 : List Int) : quiverlaw0_SpoilInts.l0 bar k (n + 1) i2 x2000 =
 bif decide (i2 < ((x2000).length : Int)) then
  bif decide (0 ≤ i2) && decide (i2 < ((x2000).length : Int)) then
   (x2000[(i2).toNat]?).bind fun e_1 =>
   bif decide (0 ≤ i2) && decide (i2 < ((x2000).length : Int)) then
    (x2000[(i2).toNat]?).bind fun e_2 =>
    quiverlaw0_SpoilInts.l0 bar k n (IntKind.i64.wrap (i2 + 1)) ((x2000).set ((i2).toNat) (IntKind.i64.wrap ((-9) - e_1)))
   else
    none
  else
   none
 else
  some () := by kernel_rfl
theorem quiverlaw0_KeptInts.f_eq (bar : Bar) (k : Nat) (a0 : List Int × List Int) (a1 : List Int) : quiverlaw0_KeptInts.f bar (k + 1) a0 a1 =
 bif decide (0 ≤ IntKind.i64.wrap (((a0.1).length : Int) + 2)) && decide (IntKind.i64.wrap (((a0.1).length : Int) + 2) ≤ (((a0.1 ++ a0.2).length : Nat) : Int)) then
  (quiverlaw0_SameInts.f bar k a0.1 a1).bind fun r_1 =>
  bif r_1 then
   (rd (List.drop 0 (List.take ((IntKind.i64.wrap (((a0.1).length : Int) + 2)).toNat) (a0.1 ++ a0.2))) ((a1).length : Int)).bind fun e_2 =>
   bif (e_2 == (-7777)) then
    (rd (List.drop 0 (List.take ((IntKind.i64.wrap (((a0.1).length : Int) + 2)).toNat) (a0.1 ++ a0.2))) (IntKind.i64.wrap (((a1).length : Int) + 1))).bind fun e_3 =>
    some (e_3 == (-8888))
   else
    some false
  else
   some false
 else
  none := by kernel_rfl
theorem quiverlaw21_awake.f_eq (bar : Bar) (k : Nat) : quiverlaw21_awake.f bar (k + 1) =
 (hybrid_Put.f bar k ([1, 2, 3] : List Int) 2).bind fun r_1 =>
 (hybrid_Put.f bar k ([5, 5, 5, 5, 5, 5, 5, 5, 5] : List Int) 3).bind fun r_2 =>
 (hybrid_Get.f bar k r_1.1 2 3).bind fun r_3 =>
 (hybrid_Get.f bar k r_1.1 2 9).bind fun r_4 =>
 (hybrid_Put.f bar k ([4] : List Int) 2).bind fun r_5 =>
 bif (r_1.1 == ([3, 57, 0] : List UInt8)) then
  (quiverlaw0_Num.f bar k r_1.2).bind fun r_6 =>
  bif (r_6 == 0) then
   bif (r_2.1 == ([18, 5] : List UInt8)) then
    (quiverlaw0_Num.f bar k r_2.2).bind fun r_7 =>
    bif (r_7 == 0) then
     (quiverlaw0_SameInts.f bar k r_3.1 ([1, 2, 3] : List Int)).bind fun r_8 =>
     bif r_8 then
      (quiverlaw0_Num.f bar k r_3.2).bind fun r_9 =>
      bif (r_9 == 0) then
       (quiverlaw0_Num.f bar k r_4.2).bind fun r_10 =>
       bif (r_10 == 2100) then
        (quiverlaw0_Num.f bar k r_5.2).bind fun r_11 =>
        some (r_11 == 2100)
       else
        some false
      else
       some false
     else
      some false
    else
     some false
   else
    some false
  else
   some false
 else
  some false := by kernel_rfl
theorem quiverlaw0_CopyInts.f_eq (bar : Bar) (k : Nat) (a0 : List Int) : quiverlaw0_CopyInts.f bar (k + 1) a0 =
 bif decide (((([] : List Int)).length + (a0).length) * 8 ≤ 140737488355328) then
  some (([] : List Int) ++ a0)
 else
  none := by kernel_rfl
theorem hybrid_may.f_eq (bar : Bar) (k : Nat) (a0 : List Int) (a1 : Int) : hybrid_may.f bar (k + 1) a0 a1 =
 bif decide (a1 ≥ 0) then
  bif decide (a1 ≤ 16) then
   bif decide (((a0).length : Int) ≤ 4096) then
    (slices_ContainsFunc_int_int_hybrid_may_1.f bar k a0 a1).bind fun r_1 =>
    some (!r_1)
   else
    some false
  else
   some false
 else
  some false := by kernel_rfl
theorem hybrid_same.f_eq (bar : Bar) (k : Nat) (a0 : List Int) : hybrid_same.f bar (k + 1) a0 =
 hybrid_same.l0 bar k k a0 ((a0).length : Int) 0 := by kernel_rfl
theorem hybrid_same.l0_eq (bar : Bar) (k : Nat) (n : Nat) (xs0 : List Int) (x6 : Int) (x7 : Int) : hybrid_same.l0 bar k (n + 1) xs0 x6 x7 =
 bif decide (x7 < x6) then
  (rd xs0 x7).bind fun e_1 =>
  (rd xs0 0).bind fun e_2 =>
  bif (e_1 != e_2) then
   some x7
  else
   hybrid_same.l0 bar k n xs0 x6 (IntKind.i64.wrap (x7 + 1))
 else
  some ((xs0).length : Int) := by kernel_rfl
theorem num_PutVar.f_eq (bar : Bar) (k : Nat) (a0 : Int) : num_PutVar.f bar (k + 1) a0 =
 (pad_May.f bar k a0).bind fun r_1 =>
 bif (!r_1) then
  some (([] : List UInt8), 300)
 else
  num_PutVar.l0 bar k k a0 ([] : List Int) := by kernel_rfl
theorem num_PutVar.l0_eq (bar : Bar) (k : Nat) (n : Nat) (x0 : Int) (x2004 : List Int) : num_PutVar.l0 bar k (n + 1) x0 x2004 =
 bif decide (x0 ≥ 128) then
  bif decide (((x2004).length + (([bitsOp .or .u8 (IntKind.u8.wrap x0) 128] : List Int)).length) * 1 ≤ 140737488355328) then
   num_PutVar.l0 bar k n (Int.fdiv x0 (2 ^ (min 7 IntKind.i64.bits))) (x2004 ++ ([bitsOp .or .u8 (IntKind.u8.wrap x0) 128] : List Int))
  else
   none
 else
  bif decide (((x2004).length + (([IntKind.u8.wrap x0] : List Int)).length) * 1 ≤ 140737488355328) then
   some (strOfBytes (x2004 ++ ([IntKind.u8.wrap x0] : List Int)), 0)
  else
   none := by kernel_rfl
theorem num_Word.f_eq (bar : Bar) (k : Nat) (a0 : Int) (a1 : Int) : num_Word.f bar (k + 1) a0 a1 =
 bif (a1 == a1) && (decide (0 ≤ a1) && decide (a1 * 1 ≤ 140737488355328)) then
  num_Word.l0 bar k k a0 (((List.replicate (a1).toNat (0 : Int) : List Int)).length : Int) 0 (List.replicate (a1).toNat (0 : Int) : List Int)
 else
  none := by kernel_rfl
theorem num_Word.l0_eq (bar : Bar) (k : Nat) (n : Nat) (x0 : Int) (x10 : Int) (x11 : Int) (x2005 : List Int) : num_Word.l0 bar k (n + 1) x0 x10 x11 x2005 =
 bif decide (x11 < x10) then
  bif decide (IntKind.i64.wrap (8 * x11) < 0) then
   none
  else
   bif decide (0 ≤ x11) && decide (x11 < ((x2005).length : Int)) then
    (x2005[(x11).toNat]?).bind fun e_1 =>
    num_Word.l0 bar k n x0 x10 (IntKind.i64.wrap (x11 + 1)) ((x2005).set ((x11).toNat) (IntKind.u8.wrap (Int.fdiv x0 (2 ^ (min (IntKind.i64.wrap (8 * x11)).toNat IntKind.i64.bits)))))
   else
    none
 else
  some (strOfBytes x2005) := by kernel_rfl
theorem bits_Bytes.f_eq (bar : Bar) (k : Nat) (a0 : Int) : bits_Bytes.f bar (k + 1) a0 =
 some (IntKind.i64.wrap (Int.tdiv (IntKind.i64.wrap (a0 + 7)) 8)) := by kernel_rfl
theorem hybrid_groups.f_eq (bar : Bar) (k : Nat) (a0 : List Int) : hybrid_groups.f bar (k + 1) a0 =
 hybrid_groups.l0 bar k k a0 0 := by kernel_rfl
theorem hybrid_groups.l0_eq (bar : Bar) (k : Nat) (n : Nat) (xs0 : List Int) (at_3 : Int) : hybrid_groups.l0 bar k (n + 1) xs0 at_3 =
 bif decide (at_3 < ((xs0).length : Int)) then
  bif decide (0 ≤ at_3) && decide (at_3 ≤ (((xs0).length : Nat) : Int)) then
   (hybrid_same.f bar k (List.drop ((at_3).toNat) (List.take ((xs0).length) xs0))).bind fun r_1 =>
   bif decide (r_1 ≥ 8) then
    some at_3
   else
    hybrid_groups.l0 bar k n xs0 (IntKind.i64.wrap (at_3 + 8))
  else
   none
 else
  some ((xs0).length : Int) := by kernel_rfl
theorem hybrid_wide.f_eq (bar : Bar) (k : Nat) (a0 : List Int) (a1 : Int) : hybrid_wide.f bar (k + 1) a0 a1 =
 bif (IntKind.i64.wrap ((IntKind.i64.wrap ((IntKind.i64.wrap (Int.tdiv (IntKind.i64.wrap ((IntKind.i64.wrap (((a0).length : Int) + 8)) - 1)) 8)) * 8)) * a1) == IntKind.i64.wrap ((IntKind.i64.wrap ((IntKind.i64.wrap (Int.tdiv (IntKind.i64.wrap ((IntKind.i64.wrap (((a0).length : Int) + 8)) - 1)) 8)) * 8)) * a1)) && (decide (0 ≤ IntKind.i64.wrap ((IntKind.i64.wrap ((IntKind.i64.wrap (Int.tdiv (IntKind.i64.wrap ((IntKind.i64.wrap (((a0).length : Int) + 8)) - 1)) 8)) * 8)) * a1)) && decide ((IntKind.i64.wrap ((IntKind.i64.wrap ((IntKind.i64.wrap (Int.tdiv (IntKind.i64.wrap ((IntKind.i64.wrap (((a0).length : Int) + 8)) - 1)) 8)) * 8)) * a1)) * 1 ≤ 140737488355328)) then
  hybrid_wide.l0 bar k k a1 a0 ((a0).length : Int) 0 (List.replicate (IntKind.i64.wrap ((IntKind.i64.wrap ((IntKind.i64.wrap (Int.tdiv (IntKind.i64.wrap ((IntKind.i64.wrap (((a0).length : Int) + 8)) - 1)) 8)) * 8)) * a1)).toNat (false : Bool) : List Bool)
 else
  none := by kernel_rfl
theorem hybrid_wide.l0_eq (bar : Bar) (k : Nat) (n : Nat) (width1 : Int) (x18 : List Int) (x19 : Int) (x20 : Int) (x2005 : List Bool) : hybrid_wide.l0 bar k (n + 1) width1 x18 x19 x20 x2005 =
 bif decide (x20 < x19) then
  (rd x18 x20).bind fun e_1 =>
  hybrid_wide.l2 bar k n k width1 x20 e_1 x18 x19 0 x2005
 else
  (bits_Of.f bar k x2005).bind fun r_2 =>
  some r_2 := by kernel_rfl
theorem hybrid_wide.l2_eq (bar : Bar) (k : Nat) (m1 : Nat) (n : Nat) (width1 : Int) (i6 : Int) (x7 : Int) (x18 : List Int) (x19 : Int) (x26 : Int) (x2005 : List Bool) : hybrid_wide.l2 bar k m1 (n + 1) width1 i6 x7 x18 x19 x26 x2005 =
 bif decide (x26 < width1) then
  bif decide (x26 < 0) then
   none
  else
   bif decide (0 ≤ IntKind.i64.wrap ((IntKind.i64.wrap (i6 * width1)) + x26)) && decide (IntKind.i64.wrap ((IntKind.i64.wrap (i6 * width1)) + x26) < ((x2005).length : Int)) then
    (x2005[(IntKind.i64.wrap ((IntKind.i64.wrap (i6 * width1)) + x26)).toNat]?).bind fun e_1 =>
    hybrid_wide.l2 bar k m1 n width1 i6 x7 x18 x19 (IntKind.i64.wrap (x26 + 1)) ((x2005).set ((IntKind.i64.wrap ((IntKind.i64.wrap (i6 * width1)) + x26)).toNat) ((bitsOp .and .i64 (Int.fdiv x7 (2 ^ (min (x26).toNat IntKind.i64.bits))) 1) == 1))
   else
    none
 else
  hybrid_wide.l0 bar k m1 width1 x18 x19 (IntKind.i64.wrap (i6 + 1)) x2005 := by kernel_rfl
theorem quiverref1_BitBytes.f_eq (bar : Bar) (k : Nat) (a0 : Int) : quiverref1_BitBytes.f bar (k + 1) a0 =
 some (IntKind.i64.wrap (Int.tdiv (IntKind.i64.wrap (a0 + 7)) 8)) := by kernel_rfl
theorem quiverref1_Low.f_eq (bar : Bar) (k : Nat) (a0 : Int) (a1 : Int) : quiverref1_Low.f bar (k + 1) a0 a1 =
 bif (a1 == a1) && (decide (0 ≤ a1) && decide (a1 * 1 ≤ 140737488355328)) then
  quiverref1_Low.l0 bar k k a0 a1 0 (List.replicate (a1).toNat (0 : Int) : List Int)
 else
  none := by kernel_rfl
theorem quiverref1_Low.l0_eq (bar : Bar) (k : Nat) (n : Nat) (x0 : Int) (size1 : Int) (i6 : Int) (x2005 : List Int) : quiverref1_Low.l0 bar k (n + 1) x0 size1 i6 x2005 =
 bif decide (i6 < size1) then
  bif decide (IntKind.i64.wrap (8 * i6) < 0) then
   none
  else
   bif decide (0 ≤ i6) && decide (i6 < ((x2005).length : Int)) then
    (x2005[(i6).toNat]?).bind fun e_1 =>
    quiverref1_Low.l0 bar k n x0 size1 (IntKind.i64.wrap (i6 + 1)) ((x2005).set ((i6).toNat) (IntKind.u8.wrap (Int.fdiv x0 (2 ^ (min (IntKind.i64.wrap (8 * i6)).toNat IntKind.i64.bits)))))
   else
    none
 else
  some (strOfBytes x2005) := by kernel_rfl
theorem quiverref21_run.f_eq (bar : Bar) (k : Nat) (a0 : List Int) (a1 : Int) : quiverref21_run.f bar (k + 1) a0 a1 =
 quiverref21_run.l0 bar k k a0 a1 1 := by kernel_rfl
theorem quiverref21_run.l0_eq (bar : Bar) (k : Nat) (n : Nat) (xs0 : List Int) (at_1 : Int) (k_5 : Int) : quiverref21_run.l0 bar k (n + 1) xs0 at_1 k_5 =
 bif decide ((IntKind.i64.wrap (at_1 + k_5)) < ((xs0).length : Int)) then
  (rd xs0 (IntKind.i64.wrap (at_1 + k_5))).bind fun e_1 =>
  (rd xs0 at_1).bind fun e_2 =>
  bif (e_1 == e_2) then
   quiverref21_run.l0 bar k n xs0 at_1 (IntKind.i64.wrap (k_5 + 1))
  else
   some k_5
 else
  some k_5 := by kernel_rfl
theorem quiverref1_PutVar.f_eq (bar : Bar) (k : Nat) (a0 : Int) : quiverref1_PutVar.f bar (k + 1) a0 =
 (quiverref1_in.f bar k a0).bind fun r_1 =>
 bif (!r_1) then
  some (([] : List UInt8), 300)
 else
  quiverref1_PutVar.l0 bar k k a0 ([] : List Int) := by kernel_rfl
theorem quiverref1_PutVar.l0_eq (bar : Bar) (k : Nat) (n : Nat) (x0 : Int) (x2004 : List Int) : quiverref1_PutVar.l0 bar k (n + 1) x0 x2004 =
 bif decide (x0 > 127) then
  bif decide (((x2004).length + (([IntKind.u8.wrap (bitsOp .or .i64 (bitsOp .and .i64 x0 127) 128)] : List Int)).length) * 1 ≤ 140737488355328) then
   quiverref1_PutVar.l0 bar k n (Int.fdiv x0 (2 ^ (min 7 IntKind.i64.bits))) (x2004 ++ ([IntKind.u8.wrap (bitsOp .or .i64 (bitsOp .and .i64 x0 127) 128)] : List Int))
  else
   none
 else
  bif decide (((x2004).length + (([IntKind.u8.wrap x0] : List Int)).length) * 1 ≤ 140737488355328) then
   some (strOfBytes (x2004 ++ ([IntKind.u8.wrap x0] : List Int)), 0)
  else
   none := by kernel_rfl
theorem quiverref21_pack.f_eq (bar : Bar) (k : Nat) (a0 : List Int) (a1 : Int) : quiverref21_pack.f bar (k + 1) a0 a1 =
 quiverref21_pack.l0 bar k k a0 a1 0 ([] : List Bool) := by kernel_rfl
theorem quiverref21_pack.l0_eq (bar : Bar) (k : Nat) (n : Nat) (xs0 : List Int) (width1 : Int) (i6 : Int) (x2005 : List Bool) : quiverref21_pack.l0 bar k (n + 1) xs0 width1 i6 x2005 =
 bif decide (i6 < (IntKind.i64.wrap ((IntKind.i64.wrap (Int.tdiv (IntKind.i64.wrap (((xs0).length : Int) + 7)) 8)) * 8))) then
  quiverref21_pack.l2 bar k n k xs0 width1 i6 0 x2005
 else
  (quiverref1_BitsOf.f bar k x2005).bind fun r_1 =>
  some r_1 := by kernel_rfl
theorem quiverref21_pack.l2_eq (bar : Bar) (k : Nat) (m1 : Nat) (n : Nat) (xs0 : List Int) (width1 : Int) (i6 : Int) (j7 : Int) (x2005 : List Bool) : quiverref21_pack.l2 bar k m1 (n + 1) xs0 width1 i6 j7 x2005 =
 bif decide (j7 < width1) then
  bif decide (i6 < ((xs0).length : Int)) then
   (rd xs0 i6).bind fun e_1 =>
   bif decide (j7 < 0) then
    none
   else
    bif decide (((x2005).length + (([((bitsOp .and .i64 (Int.fdiv e_1 (2 ^ (min (j7).toNat IntKind.i64.bits))) 1) == 1)] : List Bool)).length) * 1 ≤ 140737488355328) then
     quiverref21_pack.l2 bar k m1 n xs0 width1 i6 (IntKind.i64.wrap (j7 + 1)) (x2005 ++ ([((bitsOp .and .i64 (Int.fdiv e_1 (2 ^ (min (j7).toNat IntKind.i64.bits))) 1) == 1)] : List Bool))
    else
     none
  else
   bif decide (((x2005).length + (([false] : List Bool)).length) * 1 ≤ 140737488355328) then
    quiverref21_pack.l2 bar k m1 n xs0 width1 i6 (IntKind.i64.wrap (j7 + 1)) (x2005 ++ ([false] : List Bool))
   else
    none
 else
  quiverref21_pack.l0 bar k m1 xs0 width1 (IntKind.i64.wrap (i6 + 1)) x2005 := by kernel_rfl
theorem num_GetVar.f_eq (bar : Bar) (k : Nat) (a0 : List UInt8) (a1 : Int) : num_GetVar.f bar (k + 1) a0 a1 =
 bif (!(decide (a1 < 0))) then
  bif decide (a1 > ((a0).length : Int)) then
   some (0, 0, 300)
  else
   num_GetVar.l0 bar k k a0 a1 0 0
 else
  some (0, 0, 300) := by kernel_rfl
theorem num_GetVar.l0_eq (bar : Bar) (k : Nat) (n : Nat) (s0 : List UInt8) (at_1 : Int) (x7 : Int) (i8 : Int) : num_GetVar.l0 bar k (n + 1) s0 at_1 x7 i8 =
 bif decide (i8 < 5) then
  bif decide ((IntKind.i64.wrap (at_1 + i8)) < ((s0).length : Int)) then
   (rd s0 (IntKind.i64.wrap (at_1 + i8))).bind fun b_1 =>
   bif decide (IntKind.i64.wrap (7 * i8) < 0) then
    none
   else
    bif decide ((b_1.toNat : Int) ≥ 128) then
     num_GetVar.l0 bar k n s0 at_1 (bitsOp .or .i64 x7 (IntKind.i64.wrap ((IntKind.i64.wrap (Int.tmod (b_1.toNat : Int) 128)) * 2 ^ (min (IntKind.i64.wrap (7 * i8)).toNat IntKind.i64.bits)))) (IntKind.i64.wrap (i8 + 1))
    else
     (num_PutVar.f bar k (bitsOp .or .i64 x7 (IntKind.i64.wrap ((IntKind.i64.wrap (Int.tmod (b_1.toNat : Int) 128)) * 2 ^ (min (IntKind.i64.wrap (7 * i8)).toNat IntKind.i64.bits))))).bind fun r_2 =>
     bif (!(r_2.2 != 0)) then
      bif decide (0 ≤ IntKind.i64.wrap ((IntKind.i64.wrap (at_1 + i8)) + 1)) && decide (IntKind.i64.wrap ((IntKind.i64.wrap (at_1 + i8)) + 1) ≤ (((s0).length : Nat) : Int)) then
       bif decide (0 ≤ at_1) && decide (at_1 ≤ (((IntKind.i64.wrap ((IntKind.i64.wrap (at_1 + i8)) + 1)).toNat : Nat) : Int)) then
        bif (r_2.1 != (List.drop ((at_1).toNat) (List.take ((IntKind.i64.wrap ((IntKind.i64.wrap (at_1 + i8)) + 1)).toNat) s0))) then
         some (0, 0, 300)
        else
         some (bitsOp .or .i64 x7 (IntKind.i64.wrap ((IntKind.i64.wrap (Int.tmod (b_1.toNat : Int) 128)) * 2 ^ (min (IntKind.i64.wrap (7 * i8)).toNat IntKind.i64.bits))), IntKind.i64.wrap ((IntKind.i64.wrap (at_1 + i8)) + 1), 0)
       else
        none
      else
       none
     else
      some (0, 0, 300)
  else
   some (0, 0, 300)
 else
  some (0, 0, 300) := by kernel_rfl
theorem hybrid_taker_run.f_eq (bar : Bar) (k : Nat) (a0_0 : List UInt8) (a0_1 : Int) (a0_2 : List Int) (a0_3 : Bool) (a1 : Int) (a2 : Int) : hybrid_taker_run.f bar (k + 1) a0_0 a0_1 a0_2 a0_3 a1 a2 =
 (bits_Bytes.f bar k a0_1).bind fun r_1 =>
 (hybrid_taker_bytes.f bar k a0_0 a0_1 a0_2 a0_3 r_1).bind fun r_2 =>
 (num_Of.f bar k r_2.1).bind fun r_3 =>
 bif (!r_2.2.2.2.2) then
  bif (!(decide (a1 > a2))) then
   (slices_Repeat_int_int.f bar k ([r_3] : List Int) a1).bind fun r_4 =>
   bif decide (((r_2.2.2.2.1).length + (r_4).length) * 8 ≤ 140737488355328) then
    some (r_2.2.1, r_2.2.2.1, r_2.2.2.2.1 ++ r_4, decide (a1 > a2))
   else
    none
  else
   some (r_2.2.1, r_2.2.2.1, r_2.2.2.2.1, decide (a1 > a2))
 else
  some (r_2.2.1, r_2.2.2.1, r_2.2.2.2.1, true) := by kernel_rfl
theorem hybrid_taker_groups.f_eq (bar : Bar) (k : Nat) (a0_0 : List UInt8) (a0_1 : Int) (a0_2 : List Int) (a0_3 : Bool) (a1 : Int) (a2 : Int) : hybrid_taker_groups.f bar (k + 1) a0_0 a0_1 a0_2 a0_3 a1 a2 =
 bif decide (a1 > (IntKind.i64.wrap (Int.tdiv (IntKind.i64.wrap ((IntKind.i64.wrap (a2 + 8)) - 1)) 8))) then
  some (a0_0, a0_1, a0_2, true)
 else
  (hybrid_taker_bytes.f bar k a0_0 a0_1 a0_2 a0_3 (IntKind.i64.wrap (a1 * a0_1))).bind fun r_1 =>
  hybrid_taker_groups.l0 bar k k r_1.1 (bif decide (a2 < (IntKind.i64.wrap (a1 * 8))) then a2 else IntKind.i64.wrap (a1 * 8)) 0 r_1.2.1 r_1.2.2.1 r_1.2.2.2.1 r_1.2.2.2.2 := by kernel_rfl
theorem hybrid_taker_groups.l0_eq (bar : Bar) (k : Nat) (n : Nat) (s6 : List UInt8) (x30 : Int) (x31 : Int) (x1000 : List UInt8) (x1000_1 : Int) (x1000_2 : List Int) (x1000_3 : Bool) : hybrid_taker_groups.l0 bar k (n + 1) s6 x30 x31 x1000 x1000_1 x1000_2 x1000_3 =
 bif decide (x31 < x30) then
  hybrid_taker_groups.l2 bar k n k s6 x31 0 x30 x1000_1 0 x1000 x1000_2 x1000_3
 else
  some (x1000, x1000_1, x1000_2, x1000_3) := by kernel_rfl
theorem hybrid_taker_groups.l2_eq (bar : Bar) (k : Nat) (m1 : Nat) (n : Nat) (s6 : List UInt8) (i7 : Int) (x8 : Int) (x30 : Int) (x37 : Int) (x38 : Int) (x1000 : List UInt8) (x1000_1 : List Int) (x1000_2 : Bool) : hybrid_taker_groups.l2 bar k m1 (n + 1) s6 i7 x8 x30 x37 x38 x1000 x1000_1 x1000_2 =
 bif decide (x38 < x37) then
  bif (!x1000_2) then
   (bits_On.f bar k s6 (IntKind.i64.wrap ((IntKind.i64.wrap (i7 * x37)) + x38))).bind fun r_1 =>
   bif r_1 then
    bif decide (x38 < 0) then
     none
    else
     hybrid_taker_groups.l2 bar k m1 n s6 i7 (bitsOp .or .i64 x8 (IntKind.i64.wrap (1 * 2 ^ (min (x38).toNat IntKind.i64.bits)))) x30 x37 (IntKind.i64.wrap (x38 + 1)) x1000 x1000_1 x1000_2
   else
    hybrid_taker_groups.l2 bar k m1 n s6 i7 x8 x30 x37 (IntKind.i64.wrap (x38 + 1)) x1000 x1000_1 x1000_2
  else
   hybrid_taker_groups.l2 bar k m1 n s6 i7 x8 x30 x37 (IntKind.i64.wrap (x38 + 1)) x1000 x1000_1 x1000_2
 else
  bif decide (((x1000_1).length + (([x8] : List Int)).length) * 8 ≤ 140737488355328) then
   hybrid_taker_groups.l0 bar k m1 s6 x30 (IntKind.i64.wrap (i7 + 1)) x1000 x37 (x1000_1 ++ ([x8] : List Int)) x1000_2
  else
   none := by kernel_rfl
theorem quiverref1_GetVar.f_eq (bar : Bar) (k : Nat) (a0 : List UInt8) (a1 : Int) : quiverref1_GetVar.f bar (k + 1) a0 a1 =
 quiverref1_GetVar.l0 bar k k a0 a1 0 a1 := by kernel_rfl
theorem quiverref1_GetVar.l0_eq (bar : Bar) (k : Nat) (n : Nat) (s0 : List UInt8) (at_1 : Int) (x7 : Int) (i8 : Int) : quiverref1_GetVar.l0 bar k (n + 1) s0 at_1 x7 i8 =
 bif decide (i8 ≥ 0) then
  bif decide (i8 < ((s0).length : Int)) then
   bif decide (i8 < (IntKind.i64.wrap (at_1 + 5))) then
    (rd s0 i8).bind fun b_1 =>
    bif decide (IntKind.i64.wrap (7 * (IntKind.i64.wrap (i8 - at_1))) < 0) then
     none
    else
     (rd s0 i8).bind fun b_2 =>
     bif decide ((b_2.toNat : Int) < 128) then
      (quiverref1_PutVar.f bar k (bitsOp .or .i64 x7 (IntKind.i64.wrap ((IntKind.i64.wrap (bitsOp .and .u8 (b_1.toNat : Int) 127)) * 2 ^ (min (IntKind.i64.wrap (7 * (IntKind.i64.wrap (i8 - at_1)))).toNat IntKind.i64.bits))))).bind fun r_3 =>
      bif (!(r_3.2 != 0)) then
       bif decide (0 ≤ IntKind.i64.wrap (i8 + 1)) && decide (IntKind.i64.wrap (i8 + 1) ≤ (((s0).length : Nat) : Int)) then
        bif decide (0 ≤ at_1) && decide (at_1 ≤ (((IntKind.i64.wrap (i8 + 1)).toNat : Nat) : Int)) then
         bif (r_3.1 != (List.drop ((at_1).toNat) (List.take ((IntKind.i64.wrap (i8 + 1)).toNat) s0))) then
          some (0, 0, 300)
         else
          some (bitsOp .or .i64 x7 (IntKind.i64.wrap ((IntKind.i64.wrap (bitsOp .and .u8 (b_1.toNat : Int) 127)) * 2 ^ (min (IntKind.i64.wrap (7 * (IntKind.i64.wrap (i8 - at_1)))).toNat IntKind.i64.bits))), IntKind.i64.wrap (i8 + 1), 0)
        else
         none
       else
        none
      else
       some (0, 0, 300)
     else
      quiverref1_GetVar.l0 bar k n s0 at_1 (bitsOp .or .i64 x7 (IntKind.i64.wrap ((IntKind.i64.wrap (bitsOp .and .u8 (b_1.toNat : Int) 127)) * 2 ^ (min (IntKind.i64.wrap (7 * (IntKind.i64.wrap (i8 - at_1)))).toNat IntKind.i64.bits)))) (IntKind.i64.wrap (i8 + 1))
   else
    some (0, 0, 300)
  else
   some (0, 0, 300)
 else
  some (0, 0, 300) := by kernel_rfl
theorem quiverref1_Num.f_eq (bar : Bar) (k : Nat) (a0 : List UInt8) : quiverref1_Num.f bar (k + 1) a0 =
 quiverref1_Num.l0 bar k k a0 0 (IntKind.i64.wrap (((a0).length : Int) - 1)) := by kernel_rfl
theorem quiverref1_Num.l0_eq (bar : Bar) (k : Nat) (n : Nat) (s0 : List UInt8) (x3 : Int) (i4 : Int) : quiverref1_Num.l0 bar k (n + 1) s0 x3 i4 =
 bif decide (i4 ≥ 0) then
  (rd s0 i4).bind fun b_1 =>
  quiverref1_Num.l0 bar k n s0 (bitsOp .or .u64 (IntKind.u64.wrap (x3 * 2 ^ (min 8 IntKind.u64.bits))) (IntKind.u64.wrap (b_1.toNat : Int))) (IntKind.i64.wrap (i4 - 1))
 else
  some (IntKind.i64.wrap x3) := by kernel_rfl
theorem quiverref1_Bit.f_eq (bar : Bar) (k : Nat) (a0 : List UInt8) (a1 : Int) : quiverref1_Bit.f bar (k + 1) a0 a1 =
 (rd a0 (IntKind.i64.wrap (Int.tdiv a1 8))).bind fun b_1 =>
 bif decide (Int.tmod a1 8 < 0) then
  none
 else
  some ((bitsOp .and .u8 (Int.fdiv (b_1.toNat : Int) (2 ^ (min (Int.tmod a1 8).toNat IntKind.u8.bits))) 1) == 1) := by kernel_rfl
theorem slices_ContainsFunc_int_int_hybrid_may_1.f_eq (bar : Bar) (k : Nat) (a0 : List Int) (a1_0 : Int) : slices_ContainsFunc_int_int_hybrid_may_1.f bar (k + 1) a0 a1_0 =
 (slices_IndexFunc_int_int_hybrid_may_1.f bar k a0 a1_0).bind fun r_1 =>
 some (decide (r_1 ≥ 0)) := by kernel_rfl
theorem pad_May.f_eq (bar : Bar) (k : Nat) (a0 : Int) : pad_May.f bar (k + 1) a0 =
 bif decide (a0 ≥ 0) then
  some (decide (a0 ≤ 2147483647))
 else
  some false := by kernel_rfl
theorem bits_Of.f_eq (bar : Bar) (k : Nat) (a0 : List Bool) : bits_Of.f bar (k + 1) a0 =
 (bits_Bytes.f bar k ((a0).length : Int)).bind fun r_1 =>
 bif (r_1 == r_1) && (decide (0 ≤ r_1) && decide (r_1 * 1 ≤ 140737488355328)) then
  bits_Of.l0 bar k k a0 ((a0).length : Int) 0 (List.replicate (r_1).toNat (0 : Int) : List Int)
 else
  none := by kernel_rfl
theorem bits_Of.l0_eq (bar : Bar) (k : Nat) (n : Nat) (x10 : List Bool) (x11 : Int) (x12 : Int) (x2003 : List Int) : bits_Of.l0 bar k (n + 1) x10 x11 x12 x2003 =
 bif decide (x12 < x11) then
  (rd x10 x12).bind fun e_1 =>
  bif e_1 then
   bif decide (0 ≤ IntKind.i64.wrap (Int.tdiv x12 8)) && decide (IntKind.i64.wrap (Int.tdiv x12 8) < ((x2003).length : Int)) then
    (x2003[(IntKind.i64.wrap (Int.tdiv x12 8)).toNat]?).bind fun e_2 =>
    bif decide (Int.tmod x12 8 < 0) then
     none
    else
     bif decide (0 ≤ IntKind.i64.wrap (Int.tdiv x12 8)) && decide (IntKind.i64.wrap (Int.tdiv x12 8) < ((x2003).length : Int)) then
      (x2003[(IntKind.i64.wrap (Int.tdiv x12 8)).toNat]?).bind fun e_3 =>
      bits_Of.l0 bar k n x10 x11 (IntKind.i64.wrap (x12 + 1)) ((x2003).set ((IntKind.i64.wrap (Int.tdiv x12 8)).toNat) (bitsOp .or .u8 e_2 (IntKind.u8.wrap (1 * 2 ^ (min (Int.tmod x12 8).toNat IntKind.u8.bits)))))
     else
      none
   else
    none
  else
   bits_Of.l0 bar k n x10 x11 (IntKind.i64.wrap (x12 + 1)) x2003
 else
  some (strOfBytes x2003) := by kernel_rfl
theorem quiverref1_in.f_eq (bar : Bar) (k : Nat) (a0 : Int) : quiverref1_in.f bar (k + 1) a0 =
 (quiverref1_upTo.f bar k a0 0 2147483647).bind fun r_1 =>
 some r_1 := by kernel_rfl
theorem quiverref1_BitsOf.f_eq (bar : Bar) (k : Nat) (a0 : List Bool) : quiverref1_BitsOf.f bar (k + 1) a0 =
 (quiverref1_BitBytes.f bar k ((a0).length : Int)).bind fun r_1 =>
 bif (r_1 == r_1) && (decide (0 ≤ r_1) && decide (r_1 * 1 ≤ 140737488355328)) then
  quiverref1_BitsOf.l0 bar k k a0 0 (List.replicate (r_1).toNat (0 : Int) : List Int)
 else
  none := by kernel_rfl
theorem quiverref1_BitsOf.l0_eq (bar : Bar) (k : Nat) (n : Nat) (xs0 : List Bool) (i4 : Int) (x2003 : List Int) : quiverref1_BitsOf.l0 bar k (n + 1) xs0 i4 x2003 =
 bif decide (i4 < ((xs0).length : Int)) then
  (rd xs0 i4).bind fun e_1 =>
  bif e_1 then
   bif decide (0 ≤ IntKind.i64.wrap (Int.tdiv i4 8)) && decide (IntKind.i64.wrap (Int.tdiv i4 8) < ((x2003).length : Int)) then
    (x2003[(IntKind.i64.wrap (Int.tdiv i4 8)).toNat]?).bind fun e_2 =>
    bif decide (Int.tmod i4 8 < 0) then
     none
    else
     bif decide (0 ≤ IntKind.i64.wrap (Int.tdiv i4 8)) && decide (IntKind.i64.wrap (Int.tdiv i4 8) < ((x2003).length : Int)) then
      (x2003[(IntKind.i64.wrap (Int.tdiv i4 8)).toNat]?).bind fun e_3 =>
      quiverref1_BitsOf.l0 bar k n xs0 (IntKind.i64.wrap (i4 + 1)) ((x2003).set ((IntKind.i64.wrap (Int.tdiv i4 8)).toNat) (bitsOp .or .u8 e_2 (IntKind.u8.wrap (1 * 2 ^ (min (Int.tmod i4 8).toNat IntKind.u8.bits)))))
     else
      none
   else
    none
  else
   quiverref1_BitsOf.l0 bar k n xs0 (IntKind.i64.wrap (i4 + 1)) x2003
 else
  some (strOfBytes x2003) := by kernel_rfl

end Go.Proofs.YtppmpfddcohkjaaA
