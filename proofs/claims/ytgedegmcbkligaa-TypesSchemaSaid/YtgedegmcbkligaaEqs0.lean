/- Each function and each loop of the program answers as its equation says; no condition. -/
import Derived.Test.YtgedegmcbkligaaFns
namespace Go.Proofs.YtgedegmcbkligaaA
open Go
set_option linter.unusedVariables false
theorem quiverlaw3_Nums.f_eq (bar : Bar) (k : Nat) (a0 : Int) (a1 : Int) (a2 : List UInt8) (a3 : Int) : quiverlaw3_Nums.f bar (k + 1) a0 a1 a2 a3 =
 (num_Put.f bar k a0 a1).bind fun r_1 =>
 (quiverref1_PutNum.f bar k a0 a1).bind fun r_2 =>
 (num_Get.f bar k a2 a3 a1).bind fun r_3 =>
 (quiverref1_GetNum.f bar k a2 a3 a1).bind fun r_4 =>
 (num_PutVar.f bar k a0).bind fun r_5 =>
 (quiverref1_PutVar.f bar k a0).bind fun r_6 =>
 (num_GetVar.f bar k a2 a3).bind fun r_7 =>
 (quiverref1_GetVar.f bar k a2 a3).bind fun r_8 =>
 bif (r_1.1 == r_2.1) then
  (quiverlaw0_Num.f bar k r_1.2).bind fun r_9 =>
  bif (r_9 == r_2.2) then
   bif (r_3.1 == r_4.1) then
    (quiverlaw0_Num.f bar k r_3.2).bind fun r_10 =>
    bif (r_10 == r_4.2) then
     bif (r_5.1 == r_6.1) then
      (quiverlaw0_Num.f bar k r_5.2).bind fun r_11 =>
      bif (r_11 == r_6.2) then
       bif (r_7.1 == r_8.1) then
        bif (r_7.2.1 == r_8.2.1) then
         (quiverlaw0_Num.f bar k r_7.2.2).bind fun r_12 =>
         bif (r_12 == r_8.2.2) then
          (quiverlaw3_awake.f bar k).bind fun r_13 =>
          some r_13
         else
          some false
        else
         some false
       else
        some false
      else
       some false
     else
      some false
    else
     some false
   else
    some false
  else
   some false
 else
  some false := by kernel_rfl
theorem quiverlaw3_NumBack.f_eq (bar : Bar) (k : Nat) (a0 : Int) (a1 : List UInt8) : quiverlaw3_NumBack.f bar (k + 1) a0 a1 =
 (quiverlaw3_awake.f bar k).bind fun r_1 =>
 bif (!r_1) then
  some false
 else
  (num_Put.f bar k (bitsOp .and .i64 a0 2147483647) 4).bind fun r_2 =>
  (num_Put.f bar k a0 8).bind fun r_3 =>
  (num_PutVar.f bar k (bitsOp .and .i64 a0 2147483647)).bind fun r_4 =>
  bif decide ((a1).length + (r_2.1).length ≤ 9223372036854775807) then
   (num_Get.f bar k (a1 ++ r_2.1) ((a1).length : Int) 4).bind fun r_5 =>
   bif decide ((a1).length + (r_3.1).length ≤ 9223372036854775807) then
    bif decide ((a1 ++ r_3.1).length + (([120] : List UInt8)).length ≤ 9223372036854775807) then
     (num_Get.f bar k ((a1 ++ r_3.1) ++ ([120] : List UInt8)) ((a1).length : Int) 8).bind fun r_6 =>
     bif decide ((a1).length + (r_4.1).length ≤ 9223372036854775807) then
      bif decide ((a1 ++ r_4.1).length + (([120] : List UInt8)).length ≤ 9223372036854775807) then
       (num_GetVar.f bar k ((a1 ++ r_4.1) ++ ([120] : List UInt8)) ((a1).length : Int)).bind fun r_7 =>
       (quiverlaw0_Num.f bar k r_2.2).bind fun r_8 =>
       bif (r_8 == 0) then
        (quiverlaw0_Num.f bar k r_3.2).bind fun r_9 =>
        bif (r_9 == 0) then
         (quiverlaw0_Num.f bar k r_4.2).bind fun r_10 =>
         bif (r_10 == 0) then
          (quiverlaw0_Num.f bar k r_5.2).bind fun r_11 =>
          bif (r_11 == 0) then
           (quiverlaw0_Num.f bar k r_6.2).bind fun r_12 =>
           bif (r_12 == 0) then
            (quiverlaw0_Num.f bar k r_7.2.2).bind fun r_13 =>
            bif (r_13 == 0) then
             bif (r_5.1 == (bitsOp .and .i64 a0 2147483647)) then
              bif (r_6.1 == a0) then
               bif (r_7.1 == (bitsOp .and .i64 a0 2147483647)) then
                bif (r_7.2.1 == (IntKind.i64.wrap (((a1).length : Int) + ((r_4.1).length : Int)))) then
                 bif decide (((r_4.1).length : Int) ≥ 1) then
                  some (decide (((r_4.1).length : Int) ≤ 5))
                 else
                  some false
                else
                 some false
               else
                some false
              else
               some false
             else
              some false
            else
             some false
           else
            some false
          else
           some false
         else
          some false
        else
         some false
       else
        some false
      else
       none
     else
      none
    else
     none
   else
    none
  else
   none := by kernel_rfl
theorem quiverlaw3_NumForms.f_eq (bar : Bar) (k : Nat) (a0 : Int) (a1 : Int) : quiverlaw3_NumForms.f bar (k + 1) a0 a1 =
 (quiverlaw3_awake.f bar k).bind fun r_1 =>
 bif (!r_1) then
  some false
 else
  bif decide (0 ≤ bitsOp .and .i64 a0 1) && decide (bitsOp .and .i64 a0 1 < ((([IntKind.i64.wrap (0 - (IntKind.i64.wrap (1 + (bitsOp .and .i64 a1 1023)))), IntKind.i64.wrap (2147483647 + (IntKind.i64.wrap (1 + (bitsOp .and .i64 a1 1023))))] : List Int)).length : Int)) then
   (([IntKind.i64.wrap (0 - (IntKind.i64.wrap (1 + (bitsOp .and .i64 a1 1023)))), IntKind.i64.wrap (2147483647 + (IntKind.i64.wrap (1 + (bitsOp .and .i64 a1 1023))))] : List Int)[(bitsOp .and .i64 a0 1).toNat]?).bind fun e_2 =>
   (num_Put.f bar k e_2 4).bind fun r_3 =>
   bif decide (0 ≤ bitsOp .and .i64 a0 7) && decide (bitsOp .and .i64 a0 7 < ((([0, 1, 3, 5, 7, 9, (-4), IntKind.i64.wrap (8 + (IntKind.i64.wrap (1 + (bitsOp .and .i64 a1 1023))))] : List Int)).length : Int)) then
    (([0, 1, 3, 5, 7, 9, (-4), IntKind.i64.wrap (8 + (IntKind.i64.wrap (1 + (bitsOp .and .i64 a1 1023))))] : List Int)[(bitsOp .and .i64 a0 7).toNat]?).bind fun e_4 =>
    (num_Put.f bar k 5 e_4).bind fun r_5 =>
    bif decide (0 ≤ bitsOp .and .i64 a0 1) && decide (bitsOp .and .i64 a0 1 < ((([IntKind.i64.wrap (0 - (IntKind.i64.wrap (1 + (bitsOp .and .i64 a1 1023)))), IntKind.i64.wrap (2147483647 + (IntKind.i64.wrap (1 + (bitsOp .and .i64 a1 1023))))] : List Int)).length : Int)) then
     (([IntKind.i64.wrap (0 - (IntKind.i64.wrap (1 + (bitsOp .and .i64 a1 1023)))), IntKind.i64.wrap (2147483647 + (IntKind.i64.wrap (1 + (bitsOp .and .i64 a1 1023))))] : List Int)[(bitsOp .and .i64 a0 1).toNat]?).bind fun e_6 =>
     (num_PutVar.f bar k e_6).bind fun r_7 =>
     (num_Get.f bar k ([1, 2, 3, 4, 5, 6, 7, 8] : List UInt8) (IntKind.i64.wrap (0 - (IntKind.i64.wrap (1 + (bitsOp .and .i64 a1 1023))))) 4).bind fun r_8 =>
     (num_Get.f bar k ([1, 2, 3, 4, 5, 6, 7, 8] : List UInt8) (IntKind.i64.wrap (4 + (IntKind.i64.wrap (1 + (bitsOp .and .i64 a1 1023))))) 4).bind fun r_9 =>
     (num_Get.f bar k ([1, 2, 3, 4, 5, 6, 7, 8] : List UInt8) (IntKind.i64.wrap (1 + (bitsOp .and .i64 a1 1023))) 8).bind fun r_10 =>
     bif decide (0 ≤ bitsOp .and .i64 a0 7) && decide (bitsOp .and .i64 a0 7 < ((([0, 1, 3, 5, 7, 9, (-4), IntKind.i64.wrap (8 + (IntKind.i64.wrap (1 + (bitsOp .and .i64 a1 1023))))] : List Int)).length : Int)) then
      (([0, 1, 3, 5, 7, 9, (-4), IntKind.i64.wrap (8 + (IntKind.i64.wrap (1 + (bitsOp .and .i64 a1 1023))))] : List Int)[(bitsOp .and .i64 a0 7).toNat]?).bind fun e_11 =>
      (num_Get.f bar k ([1, 2, 3, 4, 5, 6, 7, 8] : List UInt8) 0 e_11).bind fun r_12 =>
      (num_Get.f bar k ([0, 0, 0, 128] : List UInt8) 0 4).bind fun r_13 =>
      bif decide (0 ≤ bitsOp .and .i64 (Int.fdiv a0 (2 ^ (min 3 IntKind.i64.bits))) 7) && decide (bitsOp .and .i64 (Int.fdiv a0 (2 ^ (min 3 IntKind.i64.bits))) 7 < ((([([] : List UInt8), ([128] : List UInt8), ([255, 255] : List UInt8), ([128, 0] : List UInt8), ([255, 255, 255, 255, 8] : List UInt8), ([255, 255, 255, 255, 255, 1] : List UInt8), ([129, 128, 0] : List UInt8), ([128, 128, 128, 128, 128, 0] : List UInt8)] : List (List UInt8))).length : Int)) then
       (([([] : List UInt8), ([128] : List UInt8), ([255, 255] : List UInt8), ([128, 0] : List UInt8), ([255, 255, 255, 255, 8] : List UInt8), ([255, 255, 255, 255, 255, 1] : List UInt8), ([129, 128, 0] : List UInt8), ([128, 128, 128, 128, 128, 0] : List UInt8)] : List (List UInt8))[(bitsOp .and .i64 (Int.fdiv a0 (2 ^ (min 3 IntKind.i64.bits))) 7).toNat]?).bind fun e_14 =>
       (num_GetVar.f bar k e_14 0).bind fun r_15 =>
       (num_GetVar.f bar k ([1] : List UInt8) 1).bind fun r_16 =>
       (num_GetVar.f bar k ([1] : List UInt8) (IntKind.i64.wrap (0 - (IntKind.i64.wrap (1 + (bitsOp .and .i64 a1 1023)))))).bind fun r_17 =>
       (quiverlaw0_Num.f bar k r_3.2).bind fun r_18 =>
       bif (r_18 == 300) then
        (quiverlaw0_Num.f bar k r_5.2).bind fun r_19 =>
        bif (r_19 == 300) then
         (quiverlaw0_Num.f bar k r_7.2).bind fun r_20 =>
         bif (r_20 == 300) then
          (quiverlaw0_Num.f bar k r_8.2).bind fun r_21 =>
          bif (r_21 == 300) then
           (quiverlaw0_Num.f bar k r_9.2).bind fun r_22 =>
           bif (r_22 == 300) then
            (quiverlaw0_Num.f bar k r_10.2).bind fun r_23 =>
            bif (r_23 == 300) then
             (quiverlaw0_Num.f bar k r_12.2).bind fun r_24 =>
             bif (r_24 == 300) then
              (quiverlaw0_Num.f bar k r_13.2).bind fun r_25 =>
              bif (r_25 == 300) then
               (quiverlaw0_Num.f bar k r_15.2.2).bind fun r_26 =>
               bif (r_26 == 300) then
                (quiverlaw0_Num.f bar k r_16.2.2).bind fun r_27 =>
                bif (r_27 == 300) then
                 (quiverlaw0_Num.f bar k r_17.2.2).bind fun r_28 =>
                 some (r_28 == 300)
                else
                 some false
               else
                some false
              else
               some false
             else
              some false
            else
             some false
           else
            some false
          else
           some false
         else
          some false
        else
         some false
       else
        some false
      else
       none
     else
      none
    else
     none
   else
    none
  else
   none := by kernel_rfl
theorem quiverlaw3_NumRow.f_eq (bar : Bar) (k : Nat) (a0 : List Int) : quiverlaw3_NumRow.f bar (k + 1) a0 =
 (quiverlaw3_awake.f bar k).bind fun r_1 =>
 bif (!r_1) then
  some false
 else
  quiverlaw3_NumRow.l0 bar k k a0 ([] : List UInt8) 0 := by kernel_rfl
theorem quiverlaw3_NumRow.l0_eq (bar : Bar) (k : Nat) (n : Nat) (xs0 : List Int) (s3 : List UInt8) (i4 : Int) : quiverlaw3_NumRow.l0 bar k (n + 1) xs0 s3 i4 =
 bif decide (i4 < ((xs0).length : Int)) then
  (rd xs0 i4).bind fun e_1 =>
  (num_PutVar.f bar k (bitsOp .and .i64 e_1 2147483647)).bind fun r_2 =>
  (quiverlaw0_Num.f bar k r_2.2).bind fun r_3 =>
  bif (r_3 != 0) then
   some false
  else
   bif decide ((s3).length + (r_2.1).length ≤ 9223372036854775807) then
    quiverlaw3_NumRow.l0 bar k n xs0 (s3 ++ r_2.1) (IntKind.i64.wrap (i4 + 1))
   else
    none
 else
  quiverlaw3_NumRow.l2 bar k k xs0 s3 0 0 := by kernel_rfl
theorem quiverlaw3_NumRow.l2_eq (bar : Bar) (k : Nat) (n : Nat) (xs0 : List Int) (s3 : List UInt8) (at_7 : Int) (i8 : Int) : quiverlaw3_NumRow.l2 bar k (n + 1) xs0 s3 at_7 i8 =
 bif decide (i8 < ((xs0).length : Int)) then
  (num_GetVar.f bar k s3 at_7).bind fun r_1 =>
  (quiverlaw0_Num.f bar k r_1.2.2).bind fun r_2 =>
  bif (!(r_2 != 0)) then
   (rd xs0 i8).bind fun e_3 =>
   bif (!(r_1.1 != (bitsOp .and .i64 e_3 2147483647))) then
    bif decide (r_1.2.1 ≤ at_7) then
     some false
    else
     quiverlaw3_NumRow.l2 bar k n xs0 s3 r_1.2.1 (IntKind.i64.wrap (i8 + 1))
   else
    some false
  else
   some false
 else
  some (at_7 == ((s3).length : Int)) := by kernel_rfl
theorem quiverlaw3_NumUnlike.f_eq (bar : Bar) (k : Nat) (a0 : Int) (a1 : Int) : quiverlaw3_NumUnlike.f bar (k + 1) a0 a1 =
 (quiverlaw3_awake.f bar k).bind fun r_1 =>
 bif (!r_1) then
  some false
 else
  (num_Put.f bar k (bitsOp .and .i64 a0 2147483647) 4).bind fun r_2 =>
  (num_Put.f bar k (bitsOp .and .i64 a1 2147483647) 4).bind fun r_3 =>
  (num_PutVar.f bar k (bitsOp .and .i64 a0 2147483647)).bind fun r_4 =>
  (num_PutVar.f bar k (bitsOp .and .i64 a1 2147483647)).bind fun r_5 =>
  (quiverlaw0_Num.f bar k r_2.2).bind fun r_6 =>
  bif (r_6 == 0) then
   (quiverlaw0_Num.f bar k r_3.2).bind fun r_7 =>
   bif (r_7 == 0) then
    (quiverlaw0_Num.f bar k r_4.2).bind fun r_8 =>
    bif (r_8 == 0) then
     (quiverlaw0_Num.f bar k r_5.2).bind fun r_9 =>
     bif (r_9 == 0) then
      bif ((r_2.1 == r_3.1) == ((bitsOp .and .i64 a0 2147483647) == (bitsOp .and .i64 a1 2147483647))) then
       bif ((r_4.1 == r_5.1) == ((bitsOp .and .i64 a0 2147483647) == (bitsOp .and .i64 a1 2147483647))) then
        some (((r_2.1).length : Int) == 4)
       else
        some false
      else
       some false
     else
      some false
    else
     some false
   else
    some false
  else
   some false := by kernel_rfl
theorem quiverlaw6_Schemas.f_eq (bar : Bar) (k : Nat) (a0 : List Nod) (a1 : List UInt8) : quiverlaw6_Schemas.f bar (k + 1) a0 a1 =
 (quiverlaw0_CopyType.f bar k a0).bind fun r_1 =>
 (schema_Put.f bar k r_1).bind fun r_2 =>
 (quiverref1_PutSchema.f bar k a0).bind fun r_3 =>
 (schema_Get.f bar k a1).bind fun r_4 =>
 (quiverref1_GetSchema.f bar k a1).bind fun r_5 =>
 bif (!(r_2.1 != r_3.1)) then
  (quiverlaw0_Num.f bar k r_2.2).bind fun r_6 =>
  bif (!(r_6 != r_3.2)) then
   (quiverlaw0_SameType.f bar k r_4.1 r_5.1).bind fun r_7 =>
   bif (!(!r_7)) then
    (quiverlaw0_Num.f bar k r_4.2).bind fun r_8 =>
    bif (r_8 != r_5.2) then
     some false
    else
     (quiverlaw0_SpoilType.f bar k r_4.1).bind fun r_9 =>
     (quiverlaw0_SameType.f bar k r_1 a0).bind fun r_10 =>
     bif r_10 then
      (quiverlaw6_awake.f bar k).bind fun r_11 =>
      some r_11
     else
      some false
   else
    some false
  else
   some false
 else
  some false := by kernel_rfl
theorem quiverlaw6_SchemaBack.f_eq (bar : Bar) (k : Nat) (a0 : List Nod) (a1 : List UInt8) : quiverlaw6_SchemaBack.f bar (k + 1) a0 a1 =
 (quiverlaw6_awake.f bar k).bind fun r_1 =>
 bif (!r_1) then
  some false
 else
  (schema_Put.f bar k a0).bind fun r_2 =>
  (quiverlaw0_Num.f bar k r_2.2).bind fun r_3 =>
  bif (r_3 == 0) then
   (schema_Get.f bar k r_2.1).bind fun r_4 =>
   (quiverlaw0_Num.f bar k r_4.2).bind fun r_5 =>
   bif (!(r_5 != 0)) then
    (quiverlaw0_SameType.f bar k a0 r_4.1).bind fun r_6 =>
    bif (!r_6) then
     some false
    else
     bar _ (quiverlaw6_SchemaBack.j8 bar k a1)
   else
    some false
  else
   bar _ (quiverlaw6_SchemaBack.j8 bar k a1) := by kernel_rfl
theorem quiverlaw6_SchemaBack.j8_eq (bar : Bar) (k : Nat) (s1 : List UInt8) : quiverlaw6_SchemaBack.j8 bar k s1 =
 (schema_Get.f bar k s1).bind fun r_1 =>
 (quiverlaw0_Num.f bar k r_1.2).bind fun r_2 =>
 bif (r_2 != 0) then
  (quiverlaw0_SameType.f bar k r_1.1 ([] : List Nod)).bind fun r_3 =>
  some r_3
 else
  (schema_Put.f bar k r_1.1).bind fun r_4 =>
  (quiverlaw0_Num.f bar k r_4.2).bind fun r_5 =>
  bif (r_5 == 0) then
   some (r_4.1 == s1)
  else
   some false := by kernel_rfl
theorem quiverlaw6_SchemaForms.f_eq (bar : Bar) (k : Nat) (a0 : Int) (a1 : Int) : quiverlaw6_SchemaForms.f bar (k + 1) a0 a1 =
 (quiverlaw6_awake.f bar k).bind fun r_1 =>
 bif (!r_1) then
  some false
 else
  (schema_Put.f bar k ([(Nod.mk (IntKind.i64.wrap (4 + (IntKind.i64.wrap (1 + (bitsOp .and .i64 a1 1023))))) (-1) false)] : List Nod)).bind fun r_2 =>
  bif decide (0 ≤ 6) && decide (6 ≤ (((([2, 3, 0, 0, 1, 1, 1] : List UInt8)).length : Nat) : Int)) then
   bif decide ((([2, 3, 0, 0, 1, 1, 1] : List UInt8)).length + (([120] : List UInt8)).length ≤ 9223372036854775807) then
    bif decide (0 ≤ 1) && decide (1 ≤ (((([2, 3, 0, 0, 1, 1, 1] : List UInt8)).length : Nat) : Int)) then
     bif decide ((([1] : List UInt8)).length + (List.drop 1 (List.take ((([2, 3, 0, 0, 1, 1, 1] : List UInt8)).length) ([2, 3, 0, 0, 1, 1, 1] : List UInt8))).length ≤ 9223372036854775807) then
      bif decide (0 ≤ 2) && decide (2 ≤ (((([2, 3, 0, 0, 1, 1, 1] : List UInt8)).length : Nat) : Int)) then
       bif decide ((([2, 5] : List UInt8)).length + (List.drop 2 (List.take ((([2, 3, 0, 0, 1, 1, 1] : List UInt8)).length) ([2, 3, 0, 0, 1, 1, 1] : List UInt8))).length ≤ 9223372036854775807) then
        bif decide (0 ≤ 2) && decide (2 ≤ (((([2, 3, 0, 0, 1, 1, 1] : List UInt8)).length : Nat) : Int)) then
         bif decide ((List.drop 0 (List.take 2 ([2, 3, 0, 0, 1, 1, 1] : List UInt8))).length + (([1] : List UInt8)).length ≤ 9223372036854775807) then
          bif decide (0 ≤ 3) && decide (3 ≤ (((([2, 3, 0, 0, 1, 1, 1] : List UInt8)).length : Nat) : Int)) then
           bif decide (((List.drop 0 (List.take 2 ([2, 3, 0, 0, 1, 1, 1] : List UInt8))) ++ ([1] : List UInt8)).length + (List.drop 3 (List.take ((([2, 3, 0, 0, 1, 1, 1] : List UInt8)).length) ([2, 3, 0, 0, 1, 1, 1] : List UInt8))).length ≤ 9223372036854775807) then
            bif decide (0 ≤ 3) && decide (3 ≤ (((([2, 3, 0, 0, 1, 1, 1] : List UInt8)).length : Nat) : Int)) then
             bif decide ((List.drop 0 (List.take 3 ([2, 3, 0, 0, 1, 1, 1] : List UInt8))).length + (([2] : List UInt8)).length ≤ 9223372036854775807) then
              bif decide (0 ≤ 4) && decide (4 ≤ (((([2, 3, 0, 0, 1, 1, 1] : List UInt8)).length : Nat) : Int)) then
               bif decide (((List.drop 0 (List.take 3 ([2, 3, 0, 0, 1, 1, 1] : List UInt8))) ++ ([2] : List UInt8)).length + (List.drop 4 (List.take ((([2, 3, 0, 0, 1, 1, 1] : List UInt8)).length) ([2, 3, 0, 0, 1, 1, 1] : List UInt8))).length ≤ 9223372036854775807) then
                bif decide (0 ≤ 5) && decide (5 ≤ (((([2, 3, 0, 0, 1, 1, 1] : List UInt8)).length : Nat) : Int)) then
                 bif decide ((List.drop 0 (List.take 5 ([2, 3, 0, 0, 1, 1, 1] : List UInt8))).length + (([2] : List UInt8)).length ≤ 9223372036854775807) then
                  bif decide (0 ≤ 6) && decide (6 ≤ (((([2, 3, 0, 0, 1, 1, 1] : List UInt8)).length : Nat) : Int)) then
                   bif decide (((List.drop 0 (List.take 5 ([2, 3, 0, 0, 1, 1, 1] : List UInt8))) ++ ([2] : List UInt8)).length + (List.drop 6 (List.take ((([2, 3, 0, 0, 1, 1, 1] : List UInt8)).length) ([2, 3, 0, 0, 1, 1, 1] : List UInt8))).length ≤ 9223372036854775807) then
                    bif decide (0 ≤ 5) && decide (5 ≤ (((([2, 3, 0, 0, 1, 1, 1] : List UInt8)).length : Nat) : Int)) then
                     bif decide ((List.drop 0 (List.take 5 ([2, 3, 0, 0, 1, 1, 1] : List UInt8))).length + (([0] : List UInt8)).length ≤ 9223372036854775807) then
                      bif decide (0 ≤ 6) && decide (6 ≤ (((([2, 3, 0, 0, 1, 1, 1] : List UInt8)).length : Nat) : Int)) then
                       bif decide (((List.drop 0 (List.take 5 ([2, 3, 0, 0, 1, 1, 1] : List UInt8))) ++ ([0] : List UInt8)).length + (List.drop 6 (List.take ((([2, 3, 0, 0, 1, 1, 1] : List UInt8)).length) ([2, 3, 0, 0, 1, 1, 1] : List UInt8))).length ≤ 9223372036854775807) then
                        bif decide (0 ≤ 1) && decide (1 ≤ (((([2, 3, 0, 0, 1, 1, 1] : List UInt8)).length : Nat) : Int)) then
                         bif decide ((([9] : List UInt8)).length + (List.drop 1 (List.take ((([2, 3, 0, 0, 1, 1, 1] : List UInt8)).length) ([2, 3, 0, 0, 1, 1, 1] : List UInt8))).length ≤ 9223372036854775807) then
                          bif decide (0 ≤ IntKind.i64.wrap (Int.tmod (IntKind.u64.wrap a0) 11)) && decide (IntKind.i64.wrap (Int.tmod (IntKind.u64.wrap a0) 11) < ((([([] : List UInt8), ([0] : List UInt8), List.drop 0 (List.take 6 ([2, 3, 0, 0, 1, 1, 1] : List UInt8)), ([2, 3, 0, 0, 1, 1, 1] : List UInt8) ++ ([120] : List UInt8), ([1] : List UInt8) ++ (List.drop 1 (List.take ((([2, 3, 0, 0, 1, 1, 1] : List UInt8)).length) ([2, 3, 0, 0, 1, 1, 1] : List UInt8))), ([2, 5] : List UInt8) ++ (List.drop 2 (List.take ((([2, 3, 0, 0, 1, 1, 1] : List UInt8)).length) ([2, 3, 0, 0, 1, 1, 1] : List UInt8))), ((List.drop 0 (List.take 2 ([2, 3, 0, 0, 1, 1, 1] : List UInt8))) ++ ([1] : List UInt8)) ++ (List.drop 3 (List.take ((([2, 3, 0, 0, 1, 1, 1] : List UInt8)).length) ([2, 3, 0, 0, 1, 1, 1] : List UInt8))), ((List.drop 0 (List.take 3 ([2, 3, 0, 0, 1, 1, 1] : List UInt8))) ++ ([2] : List UInt8)) ++ (List.drop 4 (List.take ((([2, 3, 0, 0, 1, 1, 1] : List UInt8)).length) ([2, 3, 0, 0, 1, 1, 1] : List UInt8))), ((List.drop 0 (List.take 5 ([2, 3, 0, 0, 1, 1, 1] : List UInt8))) ++ ([2] : List UInt8)) ++ (List.drop 6 (List.take ((([2, 3, 0, 0, 1, 1, 1] : List UInt8)).length) ([2, 3, 0, 0, 1, 1, 1] : List UInt8))), ((List.drop 0 (List.take 5 ([2, 3, 0, 0, 1, 1, 1] : List UInt8))) ++ ([0] : List UInt8)) ++ (List.drop 6 (List.take ((([2, 3, 0, 0, 1, 1, 1] : List UInt8)).length) ([2, 3, 0, 0, 1, 1, 1] : List UInt8))), ([9] : List UInt8) ++ (List.drop 1 (List.take ((([2, 3, 0, 0, 1, 1, 1] : List UInt8)).length) ([2, 3, 0, 0, 1, 1, 1] : List UInt8)))] : List (List UInt8))).length : Int)) then
                           (([([] : List UInt8), ([0] : List UInt8), List.drop 0 (List.take 6 ([2, 3, 0, 0, 1, 1, 1] : List UInt8)), ([2, 3, 0, 0, 1, 1, 1] : List UInt8) ++ ([120] : List UInt8), ([1] : List UInt8) ++ (List.drop 1 (List.take ((([2, 3, 0, 0, 1, 1, 1] : List UInt8)).length) ([2, 3, 0, 0, 1, 1, 1] : List UInt8))), ([2, 5] : List UInt8) ++ (List.drop 2 (List.take ((([2, 3, 0, 0, 1, 1, 1] : List UInt8)).length) ([2, 3, 0, 0, 1, 1, 1] : List UInt8))), ((List.drop 0 (List.take 2 ([2, 3, 0, 0, 1, 1, 1] : List UInt8))) ++ ([1] : List UInt8)) ++ (List.drop 3 (List.take ((([2, 3, 0, 0, 1, 1, 1] : List UInt8)).length) ([2, 3, 0, 0, 1, 1, 1] : List UInt8))), ((List.drop 0 (List.take 3 ([2, 3, 0, 0, 1, 1, 1] : List UInt8))) ++ ([2] : List UInt8)) ++ (List.drop 4 (List.take ((([2, 3, 0, 0, 1, 1, 1] : List UInt8)).length) ([2, 3, 0, 0, 1, 1, 1] : List UInt8))), ((List.drop 0 (List.take 5 ([2, 3, 0, 0, 1, 1, 1] : List UInt8))) ++ ([2] : List UInt8)) ++ (List.drop 6 (List.take ((([2, 3, 0, 0, 1, 1, 1] : List UInt8)).length) ([2, 3, 0, 0, 1, 1, 1] : List UInt8))), ((List.drop 0 (List.take 5 ([2, 3, 0, 0, 1, 1, 1] : List UInt8))) ++ ([0] : List UInt8)) ++ (List.drop 6 (List.take ((([2, 3, 0, 0, 1, 1, 1] : List UInt8)).length) ([2, 3, 0, 0, 1, 1, 1] : List UInt8))), ([9] : List UInt8) ++ (List.drop 1 (List.take ((([2, 3, 0, 0, 1, 1, 1] : List UInt8)).length) ([2, 3, 0, 0, 1, 1, 1] : List UInt8)))] : List (List UInt8))[(IntKind.i64.wrap (Int.tmod (IntKind.u64.wrap a0) 11)).toNat]?).bind fun e_3 =>
                           (schema_Get.f bar k e_3).bind fun r_4 =>
                           bif (r_2.1 == ([] : List UInt8)) then
                            (quiverlaw0_Num.f bar k r_2.2).bind fun r_5 =>
                            bif (r_5 == 600) then
                             (quiverlaw0_Num.f bar k r_4.2).bind fun r_6 =>
                             some (r_6 == 600)
                            else
                             some false
                           else
                            some false
                          else
                           none
                         else
                          none
                        else
                         none
                       else
                        none
                      else
                       none
                     else
                      none
                    else
                     none
                   else
                    none
                  else
                   none
                 else
                  none
                else
                 none
               else
                none
              else
               none
             else
              none
            else
             none
           else
            none
          else
           none
         else
          none
        else
         none
       else
        none
      else
       none
     else
      none
    else
     none
   else
    none
  else
   none := by kernel_rfl
theorem quiverlaw6_SchemaUnlike.f_eq (bar : Bar) (k : Nat) (a0 : List Nod) (a1 : Int) : quiverlaw6_SchemaUnlike.f bar (k + 1) a0 a1 =
 (quiverlaw6_awake.f bar k).bind fun r_1 =>
 bif (!r_1) then
  some false
 else
  (schema_Put.f bar k a0).bind fun r_2 =>
  (quiverlaw0_Num.f bar k r_2.2).bind fun r_3 =>
  bif (!(r_3 != 0)) then
   bif (((a0).length : Int) == 0) then
    some (r_2.1 == ([] : List UInt8))
   else
    (quiverlaw0_CopyType.f bar k a0).bind fun r_4 =>
    bif (IntKind.u64.wrap ((r_4).length : Int) == 0) then
     none
    else
     bif decide (0 ≤ IntKind.i64.wrap (Int.tmod (IntKind.u64.wrap a1) (IntKind.u64.wrap ((r_4).length : Int)))) && decide (IntKind.i64.wrap (Int.tmod (IntKind.u64.wrap a1) (IntKind.u64.wrap ((r_4).length : Int))) < ((r_4).length : Int)) then
      (r_4[(IntKind.i64.wrap (Int.tmod (IntKind.u64.wrap a1) (IntKind.u64.wrap ((r_4).length : Int)))).toNat]?).bind fun e_5 =>
      bif decide (0 ≤ IntKind.i64.wrap (Int.tmod (IntKind.u64.wrap a1) (IntKind.u64.wrap ((r_4).length : Int)))) && decide (IntKind.i64.wrap (Int.tmod (IntKind.u64.wrap a1) (IntKind.u64.wrap ((r_4).length : Int))) < ((r_4).length : Int)) then
       (r_4[(IntKind.i64.wrap (Int.tmod (IntKind.u64.wrap a1) (IntKind.u64.wrap ((r_4).length : Int)))).toNat]?).bind fun e_6 =>
       (schema_Put.f bar k ((r_4).set ((IntKind.i64.wrap (Int.tmod (IntKind.u64.wrap a1) (IntKind.u64.wrap ((r_4).length : Int)))).toNat) (Nod.mk e_6.kind e_6.parent (!e_5.null)))).bind fun r_7 =>
       (quiverlaw0_Num.f bar k r_7.2).bind fun r_8 =>
       bif (r_8 == 0) then
        bif (r_2.1 != r_7.1) then
         some (((r_2.1).length : Int) == ((r_7.1).length : Int))
        else
         some false
       else
        some false
      else
       none
     else
      none
  else
   some (r_2.1 == ([] : List UInt8)) := by kernel_rfl
theorem quiverlaw6_SchemaCut.f_eq (bar : Bar) (k : Nat) (a0 : List Nod) (a1 : Int) (a2 : List UInt8) : quiverlaw6_SchemaCut.f bar (k + 1) a0 a1 a2 =
 (quiverlaw6_awake.f bar k).bind fun r_1 =>
 bif (!r_1) then
  some false
 else
  (schema_Put.f bar k a0).bind fun r_2 =>
  (quiverlaw0_Num.f bar k r_2.2).bind fun r_3 =>
  bif (!(r_3 != 0)) then
   bif decide (((r_2.1).length : Int) < 1) then
    some (r_2.1 == ([] : List UInt8))
   else
    bif (IntKind.u64.wrap ((r_2.1).length : Int) == 0) then
     none
    else
     bif decide (0 ≤ IntKind.i64.wrap (Int.tmod (IntKind.u64.wrap a1) (IntKind.u64.wrap ((r_2.1).length : Int)))) && decide (IntKind.i64.wrap (Int.tmod (IntKind.u64.wrap a1) (IntKind.u64.wrap ((r_2.1).length : Int))) ≤ (((r_2.1).length : Nat) : Int)) then
      (schema_Get.f bar k (List.drop 0 (List.take ((IntKind.i64.wrap (Int.tmod (IntKind.u64.wrap a1) (IntKind.u64.wrap ((r_2.1).length : Int)))).toNat) r_2.1))).bind fun r_4 =>
      bif decide ((r_2.1).length + (([0] : List UInt8)).length ≤ 9223372036854775807) then
       bif decide ((r_2.1 ++ ([0] : List UInt8)).length + (a2).length ≤ 9223372036854775807) then
        (schema_Get.f bar k ((r_2.1 ++ ([0] : List UInt8)) ++ a2)).bind fun r_5 =>
        (quiverlaw0_Num.f bar k r_4.2).bind fun r_6 =>
        bif (r_6 == 600) then
         (quiverlaw0_Num.f bar k r_5.2).bind fun r_7 =>
         some (r_7 == 600)
        else
         some false
       else
        none
      else
       none
     else
      none
  else
   some (r_2.1 == ([] : List UInt8)) := by kernel_rfl
theorem quiverlaw5_Types.f_eq (bar : Bar) (k : Nat) (a0 : List Nod) (a1 : Int) : quiverlaw5_Types.f bar (k + 1) a0 a1 =
 (quiverlaw0_CopyType.f bar k a0).bind fun r_1 =>
 (types_Kids.f bar k r_1 a1).bind fun r_2 =>
 (quiverref1_Kids.f bar k a0 a1).bind fun r_3 =>
 (types_Leaves.f bar k r_1).bind fun r_4 =>
 (quiverref1_Leaves.f bar k a0).bind fun r_5 =>
 (types_Levels.f bar k r_1 a1).bind fun r_6 =>
 (quiverref1_Levels.f bar k a0 a1).bind fun r_7 =>
 (quiverlaw0_SameInts.f bar k r_2.1 r_3.1).bind fun r_8 =>
 bif (!(!r_8)) then
  (quiverlaw0_Num.f bar k r_2.2).bind fun r_9 =>
  bif (!(r_9 != r_3.2)) then
   (quiverlaw0_SameInts.f bar k r_4.1 r_5.1).bind fun r_10 =>
   bif (!(!r_10)) then
    (quiverlaw0_Num.f bar k r_4.2).bind fun r_11 =>
    bif (!(r_11 != r_5.2)) then
     bif (!(r_6.1 != r_7.1)) then
      bif (!(r_6.2.1 != r_7.2.1)) then
       (quiverlaw0_Num.f bar k r_6.2.2).bind fun r_12 =>
       bif (!(r_12 != r_7.2.2)) then
        (types_May.f bar k r_1).bind fun r_13 =>
        (quiverref1_TypeMay.f bar k a0).bind fun r_14 =>
        bif (r_13 != r_14) then
         some false
        else
         (quiverlaw0_SpoilInts.f bar k r_2.1).bind fun r_15 =>
         (quiverlaw0_SpoilInts.f bar k r_4.1).bind fun r_16 =>
         (quiverlaw0_SameType.f bar k r_1 a0).bind fun r_17 =>
         bif r_17 then
          (quiverlaw5_awake.f bar k).bind fun r_18 =>
          some r_18
         else
          some false
       else
        some false
      else
       some false
     else
      some false
    else
     some false
   else
    some false
  else
   some false
 else
  some false := by kernel_rfl
theorem quiverlaw5_TypesLevels.f_eq (bar : Bar) (k : Nat) (a0 : List Nod) : quiverlaw5_TypesLevels.f bar (k + 1) a0 =
 (quiverlaw5_awake.f bar k).bind fun r_1 =>
 bif (!r_1) then
  some false
 else
  (types_May.f bar k a0).bind fun r_2 =>
  bif (!r_2) then
   (types_Levels.f bar k a0 0).bind fun r_3 =>
   (quiverlaw0_Num.f bar k r_3.2.2).bind fun r_4 =>
   some (r_4 == 500)
  else
   quiverlaw5_TypesLevels.l0 bar k k 0 a0 := by kernel_rfl
theorem quiverlaw5_TypesLevels.l0_eq (bar : Bar) (k : Nat) (n : Nat) (i6 : Int) (t1 : List Nod) : quiverlaw5_TypesLevels.l0 bar k (n + 1) i6 t1 =
 bif decide (i6 < ((t1).length : Int)) then
  (types_Levels.f bar k t1 i6).bind fun r_1 =>
  bif decide (i6 > 0) then
   (rd t1 i6).bind fun e_2 =>
   (types_Levels.f bar k t1 e_2.parent).bind fun r_3 =>
   bar _ (quiverlaw5_TypesLevels.j14 bar k n i6 r_1.1 r_1.2.1 r_1.2.2 r_3.1 r_3.2.1 r_3.2.2 t1)
  else
   bar _ (quiverlaw5_TypesLevels.j14 bar k n i6 r_1.1 r_1.2.1 r_1.2.2 0 0 0 t1)
 else
  some true := by kernel_rfl
theorem quiverlaw5_TypesLevels.j14_eq (bar : Bar) (k : Nat) (m1 : Nat) (i6 : Int) (x7 : Int) (y8 : Int) (e9 : Int) (rep10 : Int) (def_11 : Int) (f12 : Int) (t1 : List Nod) : quiverlaw5_TypesLevels.j14 bar k m1 i6 x7 y8 e9 rep10 def_11 f12 t1 =
 (rd t1 i6).bind fun e_1 =>
 bif (e_1.kind == 3) then
  bar _ (quiverlaw5_TypesLevels.j17 bar k m1 i6 x7 y8 e9 (IntKind.i64.wrap (rep10 + 1)) (IntKind.i64.wrap (def_11 + 1)) f12 t1)
 else
  bar _ (quiverlaw5_TypesLevels.j17 bar k m1 i6 x7 y8 e9 rep10 def_11 f12 t1) := by kernel_rfl
theorem quiverlaw5_TypesLevels.j17_eq (bar : Bar) (k : Nat) (m1 : Nat) (i6 : Int) (x7 : Int) (y8 : Int) (e9 : Int) (rep10 : Int) (def_11 : Int) (f12 : Int) (t1 : List Nod) : quiverlaw5_TypesLevels.j17 bar k m1 i6 x7 y8 e9 rep10 def_11 f12 t1 =
 (rd t1 i6).bind fun e_1 =>
 bif e_1.null then
  bar _ (quiverlaw5_TypesLevels.j19 bar k m1 i6 x7 y8 e9 rep10 (IntKind.i64.wrap (def_11 + 1)) f12 t1)
 else
  bar _ (quiverlaw5_TypesLevels.j19 bar k m1 i6 x7 y8 e9 rep10 def_11 f12 t1) := by kernel_rfl
theorem quiverlaw5_TypesLevels.j19_eq (bar : Bar) (k : Nat) (m1 : Nat) (i6 : Int) (x7 : Int) (y8 : Int) (e9 : Int) (rep10 : Int) (def_11 : Int) (f12 : Int) (t1 : List Nod) : quiverlaw5_TypesLevels.j19 bar k m1 i6 x7 y8 e9 rep10 def_11 f12 t1 =
 (quiverlaw0_Num.f bar k e9).bind fun r_1 =>
 bif (!(r_1 != 0)) then
  (quiverlaw0_Num.f bar k f12).bind fun r_2 =>
  bif (!(r_2 != 0)) then
   bif (!(x7 != rep10)) then
    bif (y8 != def_11) then
     some false
    else
     quiverlaw5_TypesLevels.l0 bar k m1 (IntKind.i64.wrap (i6 + 1)) t1
   else
    some false
  else
   some false
 else
  some false := by kernel_rfl
theorem quiverlaw5_TypesForms.f_eq (bar : Bar) (k : Nat) (a0 : Int) (a1 : Int) : quiverlaw5_TypesForms.f bar (k + 1) a0 a1 =
 (quiverlaw5_awake.f bar k).bind fun r_1 =>
 bif (!r_1) then
  some false
 else
  (quiverlaw0_CopyType.f bar k ([(Nod.mk 4 (-1) false), (Nod.mk 3 0 false), (Nod.mk 0 1 false), (Nod.mk 2 0 false)] : List Nod)).bind fun r_2 =>
  bif ((Int.tmod (IntKind.u64.wrap a0) 14) == 0) then
   bar _ (quiverlaw5_TypesForms.j37 bar k (IntKind.i64.wrap (1 + (bitsOp .and .i64 a1 1023))) ([(Nod.mk 4 (-1) false), (Nod.mk 3 0 false), (Nod.mk 0 1 false), (Nod.mk 2 0 false)] : List Nod) ([] : List Nod))
  else
   bif ((Int.tmod (IntKind.u64.wrap a0) 14) == 1) then
    bif decide (0 ≤ 0) && decide (0 < ((r_2).length : Int)) then
     (r_2[0]?).bind fun e_3 =>
     bar _ (quiverlaw5_TypesForms.j37 bar k (IntKind.i64.wrap (1 + (bitsOp .and .i64 a1 1023))) ([(Nod.mk 4 (-1) false), (Nod.mk 3 0 false), (Nod.mk 0 1 false), (Nod.mk 2 0 false)] : List Nod) ((r_2).set 0 (Nod.mk e_3.kind 0 e_3.null)))
    else
     none
   else
    bif ((Int.tmod (IntKind.u64.wrap a0) 14) == 2) then
     bif decide (0 ≤ 2) && decide (2 < ((r_2).length : Int)) then
      (r_2[2]?).bind fun e_4 =>
      bar _ (quiverlaw5_TypesForms.j37 bar k (IntKind.i64.wrap (1 + (bitsOp .and .i64 a1 1023))) ([(Nod.mk 4 (-1) false), (Nod.mk 3 0 false), (Nod.mk 0 1 false), (Nod.mk 2 0 false)] : List Nod) ((r_2).set 2 (Nod.mk e_4.kind (IntKind.i64.wrap (0 - (IntKind.i64.wrap (1 + (bitsOp .and .i64 a1 1023))))) e_4.null)))
     else
      none
    else
     bif ((Int.tmod (IntKind.u64.wrap a0) 14) == 3) then
      bif decide (0 ≤ 2) && decide (2 < ((r_2).length : Int)) then
       (r_2[2]?).bind fun e_5 =>
       bar _ (quiverlaw5_TypesForms.j37 bar k (IntKind.i64.wrap (1 + (bitsOp .and .i64 a1 1023))) ([(Nod.mk 4 (-1) false), (Nod.mk 3 0 false), (Nod.mk 0 1 false), (Nod.mk 2 0 false)] : List Nod) ((r_2).set 2 (Nod.mk e_5.kind 2 e_5.null)))
      else
       none
     else
      bif ((Int.tmod (IntKind.u64.wrap a0) 14) == 4) then
       bif decide (0 ≤ 2) && decide (2 < ((r_2).length : Int)) then
        (r_2[2]?).bind fun e_6 =>
        bar _ (quiverlaw5_TypesForms.j37 bar k (IntKind.i64.wrap (1 + (bitsOp .and .i64 a1 1023))) ([(Nod.mk 4 (-1) false), (Nod.mk 3 0 false), (Nod.mk 0 1 false), (Nod.mk 2 0 false)] : List Nod) ((r_2).set 2 (Nod.mk e_6.kind 3 e_6.null)))
       else
        none
      else
       bif ((Int.tmod (IntKind.u64.wrap a0) 14) == 5) then
        bif decide (0 ≤ 2) && decide (2 < ((r_2).length : Int)) then
         (r_2[2]?).bind fun e_7 =>
         bar _ (quiverlaw5_TypesForms.j37 bar k (IntKind.i64.wrap (1 + (bitsOp .and .i64 a1 1023))) ([(Nod.mk 4 (-1) false), (Nod.mk 3 0 false), (Nod.mk 0 1 false), (Nod.mk 2 0 false)] : List Nod) ((r_2).set 2 (Nod.mk (IntKind.i64.wrap (4 + (IntKind.i64.wrap (1 + (bitsOp .and .i64 a1 1023))))) e_7.parent e_7.null)))
        else
         none
       else
        bif ((Int.tmod (IntKind.u64.wrap a0) 14) == 6) then
         bif decide (0 ≤ 2) && decide (2 < ((r_2).length : Int)) then
          (r_2[2]?).bind fun e_8 =>
          bar _ (quiverlaw5_TypesForms.j37 bar k (IntKind.i64.wrap (1 + (bitsOp .and .i64 a1 1023))) ([(Nod.mk 4 (-1) false), (Nod.mk 3 0 false), (Nod.mk 0 1 false), (Nod.mk 2 0 false)] : List Nod) ((r_2).set 2 (Nod.mk (IntKind.i64.wrap (0 - (IntKind.i64.wrap (1 + (bitsOp .and .i64 a1 1023))))) e_8.parent e_8.null)))
         else
          none
        else
         bif ((Int.tmod (IntKind.u64.wrap a0) 14) == 7) then
          bif decide (0 ≤ 2) && decide (2 < ((r_2).length : Int)) then
           (r_2[2]?).bind fun e_9 =>
           bar _ (quiverlaw5_TypesForms.j37 bar k (IntKind.i64.wrap (1 + (bitsOp .and .i64 a1 1023))) ([(Nod.mk 4 (-1) false), (Nod.mk 3 0 false), (Nod.mk 0 1 false), (Nod.mk 2 0 false)] : List Nod) ((r_2).set 2 (Nod.mk e_9.kind 0 e_9.null)))
          else
           none
         else
          bif ((Int.tmod (IntKind.u64.wrap a0) 14) == 8) then
           bif decide (0 ≤ 3) && decide (3 < ((r_2).length : Int)) then
            (r_2[3]?).bind fun e_10 =>
            bar _ (quiverlaw5_TypesForms.j37 bar k (IntKind.i64.wrap (1 + (bitsOp .and .i64 a1 1023))) ([(Nod.mk 4 (-1) false), (Nod.mk 3 0 false), (Nod.mk 0 1 false), (Nod.mk 2 0 false)] : List Nod) ((r_2).set 3 (Nod.mk e_10.kind 1 e_10.null)))
           else
            none
          else
           bif ((Int.tmod (IntKind.u64.wrap a0) 14) == 9) then
            bif decide (0 ≤ 3) && decide (3 < ((r_2).length : Int)) then
             (r_2[3]?).bind fun e_11 =>
             bar _ (quiverlaw5_TypesForms.j37 bar k (IntKind.i64.wrap (1 + (bitsOp .and .i64 a1 1023))) ([(Nod.mk 4 (-1) false), (Nod.mk 3 0 false), (Nod.mk 0 1 false), (Nod.mk 2 0 false)] : List Nod) ((r_2).set 3 (Nod.mk 4 e_11.parent e_11.null)))
            else
             none
           else
            bif ((Int.tmod (IntKind.u64.wrap a0) 14) == 10) then
             bif decide (0 ≤ 3) && decide (3 < ((r_2).length : Int)) then
              (r_2[3]?).bind fun e_12 =>
              bar _ (quiverlaw5_TypesForms.j37 bar k (IntKind.i64.wrap (1 + (bitsOp .and .i64 a1 1023))) ([(Nod.mk 4 (-1) false), (Nod.mk 3 0 false), (Nod.mk 0 1 false), (Nod.mk 2 0 false)] : List Nod) ((r_2).set 3 (Nod.mk 3 e_12.parent e_12.null)))
             else
              none
            else
             bif ((Int.tmod (IntKind.u64.wrap a0) 14) == 11) then
              bif decide (0 ≤ 0) && decide (0 < ((r_2).length : Int)) then
               (r_2[0]?).bind fun e_13 =>
               bar _ (quiverlaw5_TypesForms.j37 bar k (IntKind.i64.wrap (1 + (bitsOp .and .i64 a1 1023))) ([(Nod.mk 4 (-1) false), (Nod.mk 3 0 false), (Nod.mk 0 1 false), (Nod.mk 2 0 false)] : List Nod) ((r_2).set 0 (Nod.mk 0 e_13.parent e_13.null)))
              else
               none
             else
              bif ((Int.tmod (IntKind.u64.wrap a0) 14) == 12) then
               quiverlaw5_TypesForms.l1 bar k k (IntKind.i64.wrap (1 + (bitsOp .and .i64 a1 1023))) 0 ([(Nod.mk 4 (-1) false), (Nod.mk 3 0 false), (Nod.mk 0 1 false), (Nod.mk 2 0 false)] : List Nod) r_2
              else
               bif decide (0 ≤ 3) && decide (3 < ((r_2).length : Int)) then
                (r_2[3]?).bind fun e_14 =>
                bar _ (quiverlaw5_TypesForms.j37 bar k (IntKind.i64.wrap (1 + (bitsOp .and .i64 a1 1023))) ([(Nod.mk 4 (-1) false), (Nod.mk 3 0 false), (Nod.mk 0 1 false), (Nod.mk 2 0 false)] : List Nod) ((r_2).set 3 (Nod.mk e_14.kind 2 e_14.null)))
               else
                none := by kernel_rfl
theorem quiverlaw5_TypesForms.j37_eq (bar : Bar) (k : Nat) (d5 : Int) (g6 : List Nod) (b7 : List Nod) : quiverlaw5_TypesForms.j37 bar k d5 g6 b7 =
 (types_Kids.f bar k b7 0).bind fun r_1 =>
 (types_Leaves.f bar k b7).bind fun r_2 =>
 (types_Levels.f bar k b7 0).bind fun r_3 =>
 (types_Kids.f bar k g6 (IntKind.i64.wrap (0 - d5))).bind fun r_4 =>
 (types_Levels.f bar k g6 (IntKind.i64.wrap (3 + d5))).bind fun r_5 =>
 (types_May.f bar k g6).bind fun r_6 =>
 bif r_6 then
  (types_May.f bar k b7).bind fun r_7 =>
  bif (!r_7) then
   (quiverlaw0_Num.f bar k r_1.2).bind fun r_8 =>
   bif (r_8 == 500) then
    (quiverlaw0_Num.f bar k r_2.2).bind fun r_9 =>
    bif (r_9 == 500) then
     (quiverlaw0_Num.f bar k r_3.2.2).bind fun r_10 =>
     bif (r_10 == 500) then
      (quiverlaw0_Num.f bar k r_4.2).bind fun r_11 =>
      bif (r_11 == 500) then
       (quiverlaw0_Num.f bar k r_5.2.2).bind fun r_12 =>
       some (r_12 == 500)
      else
       some false
     else
      some false
    else
     some false
   else
    some false
  else
   some false
 else
  some false := by kernel_rfl
theorem quiverlaw5_TypesForms.l1_eq (bar : Bar) (k : Nat) (n : Nat) (d5 : Int) (i8 : Int) (g6 : List Nod) (b7 : List Nod) : quiverlaw5_TypesForms.l1 bar k (n + 1) d5 i8 g6 b7 =
 bif decide (i8 < 5) then
  bif decide (((b7).length + (([(Nod.mk 0 0 false)] : List Nod)).length) * 24 ≤ 140737488355328) then
   quiverlaw5_TypesForms.l1 bar k n d5 (IntKind.i64.wrap (i8 + 1)) g6 (b7 ++ ([(Nod.mk 0 0 false)] : List Nod))
  else
   none
 else
  bar _ (quiverlaw5_TypesForms.j37 bar k d5 g6 b7) := by kernel_rfl
theorem quiverlaw5_TypesDeep.f_eq (bar : Bar) (k : Nat) (a0 : Int) (a1 : Bool) : quiverlaw5_TypesDeep.f bar (k + 1) a0 a1 =
 (quiverlaw5_awake.f bar k).bind fun r_1 =>
 bif (!r_1) then
  some false
 else
  quiverlaw5_TypesDeep.l0 bar k k a1 (bitsOp .and .i64 a0 7) 0 ([] : List Nod) := by kernel_rfl
theorem quiverlaw5_TypesDeep.l0_eq (bar : Bar) (k : Nat) (n : Nat) (null1 : Bool) (k_5 : Int) (i7 : Int) (t6 : List Nod) : quiverlaw5_TypesDeep.l0 bar k (n + 1) null1 k_5 i7 t6 =
 bif decide (i7 < k_5) then
  bif decide (((t6).length + (([(Nod.mk 3 (IntKind.i64.wrap (i7 - 1)) null1)] : List Nod)).length) * 24 ≤ 140737488355328) then
   quiverlaw5_TypesDeep.l0 bar k n null1 k_5 (IntKind.i64.wrap (i7 + 1)) (t6 ++ ([(Nod.mk 3 (IntKind.i64.wrap (i7 - 1)) null1)] : List Nod))
  else
   none
 else
  bif decide (((t6).length + (([(Nod.mk 0 (IntKind.i64.wrap (k_5 - 1)) null1)] : List Nod)).length) * 24 ≤ 140737488355328) then
   (types_Levels.f bar k (t6 ++ ([(Nod.mk 0 (IntKind.i64.wrap (k_5 - 1)) null1)] : List Nod)) k_5).bind fun r_1 =>
   bif decide (k_5 > 4) then
    (types_May.f bar k (t6 ++ ([(Nod.mk 0 (IntKind.i64.wrap (k_5 - 1)) null1)] : List Nod))).bind fun r_2 =>
    bif (!r_2) then
     (quiverlaw0_Num.f bar k r_1.2.2).bind fun r_3 =>
     some (r_3 == 500)
    else
     some false
   else
    bif null1 then
     bar _ (quiverlaw5_TypesDeep.j16 bar k k_5 r_1.1 r_1.2.1 r_1.2.2 (IntKind.i64.wrap ((IntKind.i64.wrap (2 * k_5)) + 1)) (t6 ++ ([(Nod.mk 0 (IntKind.i64.wrap (k_5 - 1)) null1)] : List Nod)))
    else
     bar _ (quiverlaw5_TypesDeep.j16 bar k k_5 r_1.1 r_1.2.1 r_1.2.2 k_5 (t6 ++ ([(Nod.mk 0 (IntKind.i64.wrap (k_5 - 1)) null1)] : List Nod)))
  else
   none := by kernel_rfl
theorem quiverlaw5_TypesDeep.j16_eq (bar : Bar) (k : Nat) (k_5 : Int) (rep8 : Int) (def_9 : Int) (e10 : Int) (want11 : Int) (t6 : List Nod) : quiverlaw5_TypesDeep.j16 bar k k_5 rep8 def_9 e10 want11 t6 =
 (types_May.f bar k t6).bind fun r_1 =>
 bif r_1 then
  (quiverlaw0_Num.f bar k e10).bind fun r_2 =>
  bif (r_2 == 0) then
   bif (rep8 == k_5) then
    some (def_9 == want11)
   else
    some false
  else
   some false
 else
  some false := by kernel_rfl
theorem quiverlaw5_TypesKids.f_eq (bar : Bar) (k : Nat) (a0 : List Nod) : quiverlaw5_TypesKids.f bar (k + 1) a0 =
 (quiverlaw5_awake.f bar k).bind fun r_1 =>
 bif (!r_1) then
  some false
 else
  (types_May.f bar k a0).bind fun r_2 =>
  bif (!r_2) then
   some true
  else
   (types_Leaves.f bar k a0).bind fun r_3 =>
   bif (((a0).length : Int) == ((a0).length : Int)) && (decide (0 ≤ ((a0).length : Int)) && decide (((a0).length : Int) * 8 ≤ 140737488355328)) then
    quiverlaw5_TypesKids.l0 bar k k r_3.2 0 0 a0 r_3.1 (List.replicate (((a0).length : Int)).toNat (0 : Int) : List Int)
   else
    none := by kernel_rfl
theorem quiverlaw5_TypesKids.l0_eq (bar : Bar) (k : Nat) (n : Nat) (e4 : Int) (leaves6 : Int) (i7 : Int) (t1 : List Nod) (ls3 : List Int) (seen5 : List Int) : quiverlaw5_TypesKids.l0 bar k (n + 1) e4 leaves6 i7 t1 ls3 seen5 =
 bif decide (i7 < ((t1).length : Int)) then
  (types_Kids.f bar k t1 i7).bind fun r_1 =>
  (quiverlaw0_Num.f bar k r_1.2).bind fun r_2 =>
  bif (r_2 != 0) then
   some false
  else
   bif (((r_1.1).length : Int) == 0) then
    bif (!(decide (leaves6 ≥ ((ls3).length : Int)))) then
     bif decide (0 ≤ leaves6) && decide (leaves6 < ((ls3).length : Int)) then
      (ls3[(leaves6).toNat]?).bind fun e_3 =>
      bif (e_3 != i7) then
       some false
      else
       bar _ (quiverlaw5_TypesKids.j18 bar k n e4 (IntKind.i64.wrap (leaves6 + 1)) i7 t1 ls3 seen5 r_1.1)
     else
      none
    else
     some false
   else
    bar _ (quiverlaw5_TypesKids.j18 bar k n e4 leaves6 i7 t1 ls3 seen5 r_1.1)
 else
  quiverlaw5_TypesKids.l4 bar k k e4 leaves6 1 ls3 seen5 := by kernel_rfl
theorem quiverlaw5_TypesKids.j18_eq (bar : Bar) (k : Nat) (m1 : Nat) (e4 : Int) (leaves6 : Int) (i7 : Int) (t1 : List Nod) (ls3 : List Int) (seen5 : List Int) (ks8 : List Int) : quiverlaw5_TypesKids.j18 bar k m1 e4 leaves6 i7 t1 ls3 seen5 ks8 =
 quiverlaw5_TypesKids.l2 bar k m1 k e4 leaves6 i7 0 t1 ls3 seen5 ks8 := by kernel_rfl
theorem quiverlaw5_TypesKids.l4_eq (bar : Bar) (k : Nat) (n : Nat) (e4 : Int) (leaves6 : Int) (i11 : Int) (ls3 : List Int) (seen5 : List Int) : quiverlaw5_TypesKids.l4 bar k (n + 1) e4 leaves6 i11 ls3 seen5 =
 bif decide (i11 < ((seen5).length : Int)) then
  bif decide (0 ≤ i11) && decide (i11 < ((seen5).length : Int)) then
   (seen5[(i11).toNat]?).bind fun e_1 =>
   bif (e_1 != 1) then
    some false
   else
    quiverlaw5_TypesKids.l4 bar k n e4 leaves6 (IntKind.i64.wrap (i11 + 1)) ls3 seen5
  else
   none
 else
  (quiverlaw0_Num.f bar k e4).bind fun r_2 =>
  bif (r_2 == 0) then
   bif (leaves6 == ((ls3).length : Int)) then
    bif decide (((seen5).length : Int) > 0) then
     bif decide (0 ≤ 0) && decide (0 < ((seen5).length : Int)) then
      (seen5[0]?).bind fun e_3 =>
      some (e_3 == 0)
     else
      none
    else
     some false
   else
    some false
  else
   some false := by kernel_rfl
theorem quiverlaw5_TypesKids.l2_eq (bar : Bar) (k : Nat) (m1 : Nat) (n : Nat) (e4 : Int) (leaves6 : Int) (i7 : Int) (j10 : Int) (t1 : List Nod) (ls3 : List Int) (seen5 : List Int) (ks8 : List Int) : quiverlaw5_TypesKids.l2 bar k m1 (n + 1) e4 leaves6 i7 j10 t1 ls3 seen5 ks8 =
 bif decide (j10 < ((ks8).length : Int)) then
  bif decide (0 ≤ j10) && decide (j10 < ((ks8).length : Int)) then
   (ks8[(j10).toNat]?).bind fun e_1 =>
   bif (!(decide (e_1 ≤ i7))) then
    bif decide (0 ≤ j10) && decide (j10 < ((ks8).length : Int)) then
     (ks8[(j10).toNat]?).bind fun e_2 =>
     bif (!(decide (e_2 ≥ ((t1).length : Int)))) then
      bif decide (j10 > 0) then
       bif decide (0 ≤ j10) && decide (j10 < ((ks8).length : Int)) then
        (ks8[(j10).toNat]?).bind fun e_3 =>
        bif decide (0 ≤ IntKind.i64.wrap (j10 - 1)) && decide (IntKind.i64.wrap (j10 - 1) < ((ks8).length : Int)) then
         (ks8[(IntKind.i64.wrap (j10 - 1)).toNat]?).bind fun e_4 =>
         bif (!(decide (e_3 ≤ e_4))) then
          bif decide (0 ≤ j10) && decide (j10 < ((ks8).length : Int)) then
           (ks8[(j10).toNat]?).bind fun e_5 =>
           (rd t1 e_5).bind fun e_6 =>
           bif (e_6.parent != i7) then
            some false
           else
            bif decide (0 ≤ j10) && decide (j10 < ((ks8).length : Int)) then
             (ks8[(j10).toNat]?).bind fun e_7 =>
             bif decide (0 ≤ e_7) && decide (e_7 < ((seen5).length : Int)) then
              (seen5[(e_7).toNat]?).bind fun e_8 =>
              bif decide (0 ≤ e_7) && decide (e_7 < ((seen5).length : Int)) then
               (seen5[(e_7).toNat]?).bind fun e_9 =>
               quiverlaw5_TypesKids.l2 bar k m1 n e4 leaves6 i7 (IntKind.i64.wrap (j10 + 1)) t1 ls3 ((seen5).set ((e_7).toNat) (IntKind.i64.wrap (e_8 + 1))) ks8
              else
               none
             else
              none
            else
             none
          else
           none
         else
          some false
        else
         none
       else
        none
      else
       bif decide (0 ≤ j10) && decide (j10 < ((ks8).length : Int)) then
        (ks8[(j10).toNat]?).bind fun e_10 =>
        (rd t1 e_10).bind fun e_11 =>
        bif (e_11.parent != i7) then
         some false
        else
         bif decide (0 ≤ j10) && decide (j10 < ((ks8).length : Int)) then
          (ks8[(j10).toNat]?).bind fun e_12 =>
          bif decide (0 ≤ e_12) && decide (e_12 < ((seen5).length : Int)) then
           (seen5[(e_12).toNat]?).bind fun e_13 =>
           bif decide (0 ≤ e_12) && decide (e_12 < ((seen5).length : Int)) then
            (seen5[(e_12).toNat]?).bind fun e_14 =>
            quiverlaw5_TypesKids.l2 bar k m1 n e4 leaves6 i7 (IntKind.i64.wrap (j10 + 1)) t1 ls3 ((seen5).set ((e_12).toNat) (IntKind.i64.wrap (e_13 + 1))) ks8
           else
            none
          else
           none
         else
          none
       else
        none
     else
      some false
    else
     none
   else
    some false
  else
   none
 else
  quiverlaw5_TypesKids.l0 bar k m1 e4 leaves6 (IntKind.i64.wrap (i7 + 1)) t1 ls3 seen5 := by kernel_rfl
theorem quiverlaw5_TypesSchema.f_eq (bar : Bar) (k : Nat) (a0 : List Nod) : quiverlaw5_TypesSchema.f bar (k + 1) a0 =
 (quiverlaw5_awake.f bar k).bind fun r_1 =>
 bif (!r_1) then
  some false
 else
  (quiverref1_PutSchema.f bar k a0).bind fun r_2 =>
  bif (r_2.2 != 0) then
   (types_May.f bar k a0).bind fun r_3 =>
   some (!r_3)
  else
   (quiverref1_GetSchema.f bar k r_2.1).bind fun r_4 =>
   (types_Leaves.f bar k a0).bind fun r_5 =>
   (types_Leaves.f bar k r_4.1).bind fun r_6 =>
   bif (r_4.2 == 0) then
    (types_May.f bar k r_4.1).bind fun r_7 =>
    bif r_7 then
     (quiverlaw0_Num.f bar k r_5.2).bind fun r_8 =>
     bif (r_8 == 0) then
      (quiverlaw0_Num.f bar k r_6.2).bind fun r_9 =>
      bif (r_9 == 0) then
       (quiverlaw0_SameInts.f bar k r_5.1 r_6.1).bind fun r_10 =>
       bif r_10 then
        some (decide (((r_5.1).length : Int) ≥ 1))
       else
        some false
      else
       some false
     else
      some false
    else
     some false
   else
    some false := by kernel_rfl
theorem num_Put.f_eq (bar : Bar) (k : Nat) (a0 : Int) (a1 : Int) : num_Put.f bar (k + 1) a0 a1 =
 bif (a1 != 8) then
  bif (!(a1 != 4)) then
   (pad_May.f bar k a0).bind fun r_1 =>
   bif (!r_1) then
    some (([] : List UInt8), 300)
   else
    (num_Word.f bar k a0 a1).bind fun r_2 =>
    some (r_2, 0)
  else
   some (([] : List UInt8), 300)
 else
  (num_Word.f bar k a0 a1).bind fun r_3 =>
  some (r_3, 0) := by kernel_rfl
theorem quiverref1_PutNum.f_eq (bar : Bar) (k : Nat) (a0 : Int) (a1 : Int) : quiverref1_PutNum.f bar (k + 1) a0 a1 =
 bif (a1 != 8) then
  bif (!(a1 != 4)) then
   (quiverref1_in.f bar k a0).bind fun r_1 =>
   bif (!r_1) then
    some (([] : List UInt8), 300)
   else
    (quiverref1_Low.f bar k a0 a1).bind fun r_2 =>
    some (r_2, 0)
  else
   some (([] : List UInt8), 300)
 else
  (quiverref1_Low.f bar k a0 a1).bind fun r_3 =>
  some (r_3, 0) := by kernel_rfl
theorem num_Get.f_eq (bar : Bar) (k : Nat) (a0 : List UInt8) (a1 : Int) (a2 : Int) : num_Get.f bar (k + 1) a0 a1 a2 =
 bif (a2 != 4) then
  bif (!(a2 != 8)) then
   bif (!(decide (a1 < 0))) then
    bif (!(decide (a1 > ((a0).length : Int)))) then
     bif decide ((IntKind.i64.wrap (((a0).length : Int) - a1)) < a2) then
      some (0, 300)
     else
      bif decide (0 ≤ IntKind.i64.wrap (a1 + a2)) && decide (IntKind.i64.wrap (a1 + a2) ≤ (((a0).length : Nat) : Int)) then
       bif decide (0 ≤ a1) && decide (a1 ≤ (((IntKind.i64.wrap (a1 + a2)).toNat : Nat) : Int)) then
        (num_Of.f bar k (List.drop ((a1).toNat) (List.take ((IntKind.i64.wrap (a1 + a2)).toNat) a0))).bind fun r_1 =>
        bif (a2 == 4) then
         (pad_May.f bar k r_1).bind fun r_2 =>
         bif (!r_2) then
          some (0, 300)
         else
          some (r_1, 0)
        else
         some (r_1, 0)
       else
        none
      else
       none
    else
     some (0, 300)
   else
    some (0, 300)
  else
   some (0, 300)
 else
  bif (!(decide (a1 < 0))) then
   bif (!(decide (a1 > ((a0).length : Int)))) then
    bif decide ((IntKind.i64.wrap (((a0).length : Int) - a1)) < a2) then
     some (0, 300)
    else
     bif decide (0 ≤ IntKind.i64.wrap (a1 + a2)) && decide (IntKind.i64.wrap (a1 + a2) ≤ (((a0).length : Nat) : Int)) then
      bif decide (0 ≤ a1) && decide (a1 ≤ (((IntKind.i64.wrap (a1 + a2)).toNat : Nat) : Int)) then
       (num_Of.f bar k (List.drop ((a1).toNat) (List.take ((IntKind.i64.wrap (a1 + a2)).toNat) a0))).bind fun r_3 =>
       bif (a2 == 4) then
        (pad_May.f bar k r_3).bind fun r_4 =>
        bif (!r_4) then
         some (0, 300)
        else
         some (r_3, 0)
       else
        some (r_3, 0)
      else
       none
     else
      none
   else
    some (0, 300)
  else
   some (0, 300) := by kernel_rfl
theorem quiverref1_GetNum.f_eq (bar : Bar) (k : Nat) (a0 : List UInt8) (a1 : Int) (a2 : Int) : quiverref1_GetNum.f bar (k + 1) a0 a1 a2 =
 bif (a2 != 4) then
  bif (!(a2 != 8)) then
   bif (!(decide (a1 < 0))) then
    bif decide (a1 > (IntKind.i64.wrap (((a0).length : Int) - a2))) then
     some (0, 300)
    else
     bif decide (0 ≤ IntKind.i64.wrap (a1 + a2)) && decide (IntKind.i64.wrap (a1 + a2) ≤ (((a0).length : Nat) : Int)) then
      bif decide (0 ≤ a1) && decide (a1 ≤ (((IntKind.i64.wrap (a1 + a2)).toNat : Nat) : Int)) then
       (quiverref1_Num.f bar k (List.drop ((a1).toNat) (List.take ((IntKind.i64.wrap (a1 + a2)).toNat) a0))).bind fun r_1 =>
       bif (a2 == 4) then
        (quiverref1_in.f bar k r_1).bind fun r_2 =>
        bif (!r_2) then
         some (0, 300)
        else
         some (r_1, 0)
       else
        some (r_1, 0)
      else
       none
     else
      none
   else
    some (0, 300)
  else
   some (0, 300)
 else
  bif (!(decide (a1 < 0))) then
   bif decide (a1 > (IntKind.i64.wrap (((a0).length : Int) - a2))) then
    some (0, 300)
   else
    bif decide (0 ≤ IntKind.i64.wrap (a1 + a2)) && decide (IntKind.i64.wrap (a1 + a2) ≤ (((a0).length : Nat) : Int)) then
     bif decide (0 ≤ a1) && decide (a1 ≤ (((IntKind.i64.wrap (a1 + a2)).toNat : Nat) : Int)) then
      (quiverref1_Num.f bar k (List.drop ((a1).toNat) (List.take ((IntKind.i64.wrap (a1 + a2)).toNat) a0))).bind fun r_3 =>
      bif (a2 == 4) then
       (quiverref1_in.f bar k r_3).bind fun r_4 =>
       bif (!r_4) then
        some (0, 300)
       else
        some (r_3, 0)
      else
       some (r_3, 0)
     else
      none
    else
     none
  else
   some (0, 300) := by kernel_rfl
theorem num_PutVar.f_eq (bar : Bar) (k : Nat) (a0 : Int) : num_PutVar.f bar (k + 1) a0 =
 (pad_May.f bar k a0).bind fun r_1 =>
 bif (!r_1) then
  some (([] : List UInt8), 300)
 else
  num_PutVar.l0 bar k k a0 ([] : List Int) := by kernel_rfl
theorem num_PutVar.l0_eq (bar : Bar) (k : Nat) (n : Nat) (x0 : Int) (out4 : List Int) : num_PutVar.l0 bar k (n + 1) x0 out4 =
 bif decide (x0 ≥ 128) then
  bif decide (((out4).length + (([bitsOp .or .u8 (IntKind.u8.wrap x0) 128] : List Int)).length) * 1 ≤ 140737488355328) then
   num_PutVar.l0 bar k n (Int.fdiv x0 (2 ^ (min 7 IntKind.i64.bits))) (out4 ++ ([bitsOp .or .u8 (IntKind.u8.wrap x0) 128] : List Int))
  else
   none
 else
  bif decide (((out4).length + (([IntKind.u8.wrap x0] : List Int)).length) * 1 ≤ 140737488355328) then
   some (strOfBytes (out4 ++ ([IntKind.u8.wrap x0] : List Int)), 0)
  else
   none := by kernel_rfl
theorem quiverref1_PutVar.f_eq (bar : Bar) (k : Nat) (a0 : Int) : quiverref1_PutVar.f bar (k + 1) a0 =
 (quiverref1_in.f bar k a0).bind fun r_1 =>
 bif (!r_1) then
  some (([] : List UInt8), 300)
 else
  quiverref1_PutVar.l0 bar k k a0 ([] : List Int) := by kernel_rfl
theorem quiverref1_PutVar.l0_eq (bar : Bar) (k : Nat) (n : Nat) (x0 : Int) (b4 : List Int) : quiverref1_PutVar.l0 bar k (n + 1) x0 b4 =
 bif decide (x0 > 127) then
  bif decide (((b4).length + (([IntKind.u8.wrap (bitsOp .or .i64 (bitsOp .and .i64 x0 127) 128)] : List Int)).length) * 1 ≤ 140737488355328) then
   quiverref1_PutVar.l0 bar k n (Int.fdiv x0 (2 ^ (min 7 IntKind.i64.bits))) (b4 ++ ([IntKind.u8.wrap (bitsOp .or .i64 (bitsOp .and .i64 x0 127) 128)] : List Int))
  else
   none
 else
  bif decide (((b4).length + (([IntKind.u8.wrap x0] : List Int)).length) * 1 ≤ 140737488355328) then
   some (strOfBytes (b4 ++ ([IntKind.u8.wrap x0] : List Int)), 0)
  else
   none := by kernel_rfl
theorem num_GetVar.f_eq (bar : Bar) (k : Nat) (a0 : List UInt8) (a1 : Int) : num_GetVar.f bar (k + 1) a0 a1 =
 bif (!(decide (a1 < 0))) then
  bif decide (a1 > ((a0).length : Int)) then
   some (0, 0, 300)
  else
   num_GetVar.l0 bar k k a0 a1 0 0
 else
  some (0, 0, 300) := by kernel_rfl
theorem num_GetVar.l0_eq (bar : Bar) (k : Nat) (n : Nat) (s0 : List UInt8) (at_1 : Int) (x7 : Int) (i8 : Int) : num_GetVar.l0 bar k (n + 1) s0 at_1 x7 i8 =
 bif decide (i8 < 5) then
  bif decide ((IntKind.i64.wrap (at_1 + i8)) < ((s0).length : Int)) then
   (rd s0 (IntKind.i64.wrap (at_1 + i8))).bind fun b_1 =>
   bif decide (IntKind.i64.wrap (7 * i8) < 0) then
    none
   else
    bif decide ((b_1.toNat : Int) ≥ 128) then
     num_GetVar.l0 bar k n s0 at_1 (bitsOp .or .i64 x7 (IntKind.i64.wrap ((IntKind.i64.wrap (Int.tmod (b_1.toNat : Int) 128)) * 2 ^ (min (IntKind.i64.wrap (7 * i8)).toNat IntKind.i64.bits)))) (IntKind.i64.wrap (i8 + 1))
    else
     (num_PutVar.f bar k (bitsOp .or .i64 x7 (IntKind.i64.wrap ((IntKind.i64.wrap (Int.tmod (b_1.toNat : Int) 128)) * 2 ^ (min (IntKind.i64.wrap (7 * i8)).toNat IntKind.i64.bits))))).bind fun r_2 =>
     bif (!(r_2.2 != 0)) then
      bif decide (0 ≤ IntKind.i64.wrap ((IntKind.i64.wrap (at_1 + i8)) + 1)) && decide (IntKind.i64.wrap ((IntKind.i64.wrap (at_1 + i8)) + 1) ≤ (((s0).length : Nat) : Int)) then
       bif decide (0 ≤ at_1) && decide (at_1 ≤ (((IntKind.i64.wrap ((IntKind.i64.wrap (at_1 + i8)) + 1)).toNat : Nat) : Int)) then
        bif (r_2.1 != (List.drop ((at_1).toNat) (List.take ((IntKind.i64.wrap ((IntKind.i64.wrap (at_1 + i8)) + 1)).toNat) s0))) then
         some (0, 0, 300)
        else
         some (bitsOp .or .i64 x7 (IntKind.i64.wrap ((IntKind.i64.wrap (Int.tmod (b_1.toNat : Int) 128)) * 2 ^ (min (IntKind.i64.wrap (7 * i8)).toNat IntKind.i64.bits))), IntKind.i64.wrap ((IntKind.i64.wrap (at_1 + i8)) + 1), 0)
       else
        none
      else
       none
     else
      some (0, 0, 300)
  else
   some (0, 0, 300)
 else
  some (0, 0, 300) := by kernel_rfl
theorem quiverref1_GetVar.f_eq (bar : Bar) (k : Nat) (a0 : List UInt8) (a1 : Int) : quiverref1_GetVar.f bar (k + 1) a0 a1 =
 quiverref1_GetVar.l0 bar k k a0 a1 0 a1 := by kernel_rfl
theorem quiverref1_GetVar.l0_eq (bar : Bar) (k : Nat) (n : Nat) (s0 : List UInt8) (at_1 : Int) (x7 : Int) (i8 : Int) : quiverref1_GetVar.l0 bar k (n + 1) s0 at_1 x7 i8 =
 bif decide (i8 ≥ 0) then
  bif decide (i8 < ((s0).length : Int)) then
   bif decide (i8 < (IntKind.i64.wrap (at_1 + 5))) then
    (rd s0 i8).bind fun b_1 =>
    bif decide (IntKind.i64.wrap (7 * (IntKind.i64.wrap (i8 - at_1))) < 0) then
     none
    else
     (rd s0 i8).bind fun b_2 =>
     bif decide ((b_2.toNat : Int) < 128) then
      (quiverref1_PutVar.f bar k (bitsOp .or .i64 x7 (IntKind.i64.wrap ((IntKind.i64.wrap (bitsOp .and .u8 (b_1.toNat : Int) 127)) * 2 ^ (min (IntKind.i64.wrap (7 * (IntKind.i64.wrap (i8 - at_1)))).toNat IntKind.i64.bits))))).bind fun r_3 =>
      bif (!(r_3.2 != 0)) then
       bif decide (0 ≤ IntKind.i64.wrap (i8 + 1)) && decide (IntKind.i64.wrap (i8 + 1) ≤ (((s0).length : Nat) : Int)) then
        bif decide (0 ≤ at_1) && decide (at_1 ≤ (((IntKind.i64.wrap (i8 + 1)).toNat : Nat) : Int)) then
         bif (r_3.1 != (List.drop ((at_1).toNat) (List.take ((IntKind.i64.wrap (i8 + 1)).toNat) s0))) then
          some (0, 0, 300)
         else
          some (bitsOp .or .i64 x7 (IntKind.i64.wrap ((IntKind.i64.wrap (bitsOp .and .u8 (b_1.toNat : Int) 127)) * 2 ^ (min (IntKind.i64.wrap (7 * (IntKind.i64.wrap (i8 - at_1)))).toNat IntKind.i64.bits))), IntKind.i64.wrap (i8 + 1), 0)
        else
         none
       else
        none
      else
       some (0, 0, 300)
     else
      quiverref1_GetVar.l0 bar k n s0 at_1 (bitsOp .or .i64 x7 (IntKind.i64.wrap ((IntKind.i64.wrap (bitsOp .and .u8 (b_1.toNat : Int) 127)) * 2 ^ (min (IntKind.i64.wrap (7 * (IntKind.i64.wrap (i8 - at_1)))).toNat IntKind.i64.bits)))) (IntKind.i64.wrap (i8 + 1))
   else
    some (0, 0, 300)
  else
   some (0, 0, 300)
 else
  some (0, 0, 300) := by kernel_rfl
theorem quiverlaw0_Num.f_eq (bar : Bar) (k : Nat) (a0 : Int) : quiverlaw0_Num.f bar (k + 1) a0 =
 some a0 := by kernel_rfl
theorem quiverlaw3_awake.f_eq (bar : Bar) (k : Nat) : quiverlaw3_awake.f bar (k + 1) =
 (num_Put.f bar k 258 4).bind fun r_1 =>
 (num_Put.f bar k (-2) 8).bind fun r_2 =>
 bif decide ((([122] : List UInt8)).length + (r_2.1).length ≤ 9223372036854775807) then
  (num_Get.f bar k (([122] : List UInt8) ++ r_2.1) 1 8).bind fun r_3 =>
  (num_PutVar.f bar k 300).bind fun r_4 =>
  bif decide ((([122] : List UInt8)).length + (r_4.1).length ≤ 9223372036854775807) then
   (num_GetVar.f bar k (([122] : List UInt8) ++ r_4.1) 1).bind fun r_5 =>
   (num_Put.f bar k (-1) 4).bind fun r_6 =>
   (num_Get.f bar k r_1.1 1 4).bind fun r_7 =>
   (num_GetVar.f bar k ([128, 0] : List UInt8) 0).bind fun r_8 =>
   bif (r_1.1 == ([2, 1, 0, 0] : List UInt8)) then
    (quiverlaw0_Num.f bar k r_1.2).bind fun r_9 =>
    bif (r_9 == 0) then
     bif (r_2.1 == ([254, 255, 255, 255, 255, 255, 255, 255] : List UInt8)) then
      (quiverlaw0_Num.f bar k r_2.2).bind fun r_10 =>
      bif (r_10 == 0) then
       bif (r_3.1 == (-2)) then
        (quiverlaw0_Num.f bar k r_3.2).bind fun r_11 =>
        bif (r_11 == 0) then
         bif (r_4.1 == ([172, 2] : List UInt8)) then
          (quiverlaw0_Num.f bar k r_4.2).bind fun r_12 =>
          bif (r_12 == 0) then
           bif (r_5.1 == 300) then
            bif (r_5.2.1 == 3) then
             (quiverlaw0_Num.f bar k r_5.2.2).bind fun r_13 =>
             bif (r_13 == 0) then
              (quiverlaw0_Num.f bar k r_6.2).bind fun r_14 =>
              bif (r_14 == 300) then
               (quiverlaw0_Num.f bar k r_7.2).bind fun r_15 =>
               bif (r_15 == 300) then
                (quiverlaw0_Num.f bar k r_8.2.2).bind fun r_16 =>
                some (r_16 == 300)
               else
                some false
              else
               some false
             else
              some false
            else
             some false
           else
            some false
          else
           some false
         else
          some false
        else
         some false
       else
        some false
      else
       some false
     else
      some false
    else
     some false
   else
    some false
  else
   none
 else
  none := by kernel_rfl

end Go.Proofs.YtgedegmcbkligaaA
