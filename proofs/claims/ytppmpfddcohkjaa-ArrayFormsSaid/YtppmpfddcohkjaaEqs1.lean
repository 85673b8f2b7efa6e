/- Each function and each loop of the program answers as its equation says; no condition. -/
import Derived.Test.YtppmpfddcohkjaaFns
namespace Go.Proofs.YtppmpfddcohkjaaA
open Go
set_option linter.unusedVariables false
theorem quiverref1_IsLeaf.f_eq (bar : Bar) (k : Nat) (a0 : Int) : quiverref1_IsLeaf.f bar (k + 1) a0 =
 bif (a0 != 3) then
  some (a0 != 4)
 else
  some false := by kernel_rfl
theorem quiverref1_Kids.f_eq (bar : Bar) (k : Nat) (a0 : List Nod) (a1 : Int) : quiverref1_Kids.f bar (k + 1) a0 a1 =
 (quiverref1_NodeMay.f bar k a0 a1).bind fun r_1 =>
 bif (!r_1) then
  some (([] : List Int), 500)
 else
  (quiverref1_kids.f bar k a0 a1).bind fun r_2 =>
  some (r_2, 0) := by kernel_rfl
theorem quiverref7_Parts.f_eq (bar : Bar) (k : Nat) (a0 : List UInt8) : quiverref7_Parts.f bar (k + 1) a0 =
 bif (!(decide (((a0).length : Int) > 65536))) then
  (quiverref7_end.f bar k a0 0 4).bind fun r_1 =>
  bif (r_1 != ((a0).length : Int)) then
   some (0, ([] : List (List UInt8)), 700)
  else
   (rd a0 0).bind fun b_2 =>
   bif ((b_2.toNat : Int) == 110) then
    some ((-1), ([] : List (List UInt8)), 0)
   else
    bif ((b_2.toNat : Int) == 105) then
     bif decide (0 ≤ IntKind.i64.wrap (((a0).length : Int) - 1)) && decide (IntKind.i64.wrap (((a0).length : Int) - 1) ≤ (((a0).length : Nat) : Int)) then
      bif decide (0 ≤ 1) && decide (1 ≤ (((IntKind.i64.wrap (((a0).length : Int) - 1)).toNat : Nat) : Int)) then
       some (0, ([List.drop 1 (List.take ((IntKind.i64.wrap (((a0).length : Int) - 1)).toNat) a0)] : List (List UInt8)), 0)
      else
       none
     else
      none
    else
     bif ((b_2.toNat : Int) == 116) then
      bif ((b_2.toNat : Int) == 116) then
       some (1, ([a0] : List (List UInt8)), 0)
      else
       bif ((b_2.toNat : Int) == 115) then
        (quiverref7_upto.f bar k a0 0 58).bind fun r_3 =>
        bif decide (0 ≤ IntKind.i64.wrap (r_3 + 1)) && decide (IntKind.i64.wrap (r_3 + 1) ≤ (((a0).length : Nat) : Int)) then
         some (2, ([List.drop ((IntKind.i64.wrap (r_3 + 1)).toNat) (List.take ((a0).length) a0)] : List (List UInt8)), 0)
        else
         none
       else
        bar _ (quiverref7_Parts.j13 bar k a0)
     else
      bif ((b_2.toNat : Int) == 102) then
       some (1, ([a0] : List (List UInt8)), 0)
      else
       bif ((b_2.toNat : Int) == 115) then
        (quiverref7_upto.f bar k a0 0 58).bind fun r_4 =>
        bif decide (0 ≤ IntKind.i64.wrap (r_4 + 1)) && decide (IntKind.i64.wrap (r_4 + 1) ≤ (((a0).length : Nat) : Int)) then
         some (2, ([List.drop ((IntKind.i64.wrap (r_4 + 1)).toNat) (List.take ((a0).length) a0)] : List (List UInt8)), 0)
        else
         none
       else
        bar _ (quiverref7_Parts.j13 bar k a0)
 else
  some (0, ([] : List (List UInt8)), 700) := by kernel_rfl
theorem quiverref7_Parts.j13_eq (bar : Bar) (k : Nat) (v0 : List UInt8) : quiverref7_Parts.j13 bar k v0 =
 quiverref7_Parts.l1 bar k k v0 1 ([] : List (List UInt8)) := by kernel_rfl
theorem quiverref7_Parts.l1_eq (bar : Bar) (k : Nat) (n : Nat) (v0 : List UInt8) (at_6 : Int) (x2005 : List (List UInt8)) : quiverref7_Parts.l1 bar k (n + 1) v0 at_6 x2005 =
 bif decide (at_6 < (IntKind.i64.wrap (((v0).length : Int) - 1))) then
  (quiverref7_end.f bar k v0 at_6 4).bind fun r_1 =>
  bif decide (0 ≤ r_1) && decide (r_1 ≤ (((v0).length : Nat) : Int)) then
   bif decide (0 ≤ at_6) && decide (at_6 ≤ (((r_1).toNat : Nat) : Int)) then
    bif decide (((x2005).length + (([List.drop ((at_6).toNat) (List.take ((r_1).toNat) v0)] : List (List UInt8))).length) * 16 ≤ 140737488355328) then
     quiverref7_Parts.l1 bar k n v0 r_1 (x2005 ++ ([List.drop ((at_6).toNat) (List.take ((r_1).toNat) v0)] : List (List UInt8)))
    else
     none
   else
    none
  else
   none
 else
  (rd v0 0).bind fun b_2 =>
  bif ((b_2.toNat : Int) == 91) then
   some (3, x2005, 0)
  else
   some (4, x2005, 0) := by kernel_rfl
theorem quiverref7_valid.f_eq (bar : Bar) (k : Nat) (a0 : List (List UInt8)) : quiverref7_valid.f bar (k + 1) a0 =
 quiverref7_valid.l0 bar k k a0 true 0 ([] : List Bool) := by kernel_rfl
theorem quiverref7_valid.l0_eq (bar : Bar) (k : Nat) (n : Nat) (vs0 : List (List UInt8)) (all4 : Bool) (i5 : Int) (x2003 : List Bool) : quiverref7_valid.l0 bar k (n + 1) vs0 all4 i5 x2003 =
 bif decide (i5 < ((vs0).length : Int)) then
  (rd vs0 i5).bind fun e_1 =>
  bif decide (((x2003).length + (([(e_1 != ([110] : List UInt8))] : List Bool)).length) * 1 ≤ 140737488355328) then
   bif all4 then
    (rd vs0 i5).bind fun e_2 =>
    quiverref7_valid.l0 bar k n vs0 (e_2 != ([110] : List UInt8)) (IntKind.i64.wrap (i5 + 1)) (x2003 ++ ([(e_1 != ([110] : List UInt8))] : List Bool))
   else
    quiverref7_valid.l0 bar k n vs0 false (IntKind.i64.wrap (i5 + 1)) (x2003 ++ ([(e_1 != ([110] : List UInt8))] : List Bool))
  else
   none
 else
  bif all4 then
   some ([] : List UInt8)
  else
   (quiverref1_BitsOf.f bar k x2003).bind fun r_3 =>
   some r_3 := by kernel_rfl
theorem quiverref7_whole.f_eq (bar : Bar) (k : Nat) (a0 : List UInt8) : quiverref7_whole.f bar (k + 1) a0 =
 quiverref7_whole.l0 bar k k a0 0 0 := by kernel_rfl
theorem quiverref7_whole.l0_eq (bar : Bar) (k : Nat) (n : Nat) (s0 : List UInt8) (x4 : Int) (i5 : Int) : quiverref7_whole.l0 bar k (n + 1) s0 x4 i5 =
 bif decide (i5 < ((s0).length : Int)) then
  bif decide (((s0).length : Int) < 21) then
   (rd s0 i5).bind fun b_1 =>
   bif ((b_1.toNat : Int) == 45) then
    bif (i5 == 0) then
     quiverref7_whole.l0 bar k n s0 x4 (IntKind.i64.wrap (i5 + 1))
    else
     (rd s0 i5).bind fun b_2 =>
     bif (!(decide ((b_2.toNat : Int) < 48))) then
      (rd s0 i5).bind fun b_3 =>
      bif decide ((b_3.toNat : Int) > 57) then
       some (0, false)
      else
       (rd s0 0).bind fun b_4 =>
       bif ((b_4.toNat : Int) == 45) then
        (rd s0 i5).bind fun b_5 =>
        quiverref7_whole.l0 bar k n s0 (IntKind.i64.wrap ((IntKind.i64.wrap (10 * x4)) - (IntKind.i64.wrap (IntKind.u8.wrap ((b_5.toNat : Int) - 48))))) (IntKind.i64.wrap (i5 + 1))
       else
        (rd s0 i5).bind fun b_6 =>
        quiverref7_whole.l0 bar k n s0 (IntKind.i64.wrap ((IntKind.i64.wrap (10 * x4)) + (IntKind.i64.wrap (IntKind.u8.wrap ((b_6.toNat : Int) - 48))))) (IntKind.i64.wrap (i5 + 1))
     else
      some (0, false)
   else
    (rd s0 i5).bind fun b_7 =>
    bif (!(decide ((b_7.toNat : Int) < 48))) then
     (rd s0 i5).bind fun b_8 =>
     bif decide ((b_8.toNat : Int) > 57) then
      some (0, false)
     else
      (rd s0 0).bind fun b_9 =>
      bif ((b_9.toNat : Int) == 45) then
       (rd s0 i5).bind fun b_10 =>
       quiverref7_whole.l0 bar k n s0 (IntKind.i64.wrap ((IntKind.i64.wrap (10 * x4)) - (IntKind.i64.wrap (IntKind.u8.wrap ((b_10.toNat : Int) - 48))))) (IntKind.i64.wrap (i5 + 1))
      else
       (rd s0 i5).bind fun b_11 =>
       quiverref7_whole.l0 bar k n s0 (IntKind.i64.wrap ((IntKind.i64.wrap (10 * x4)) + (IntKind.i64.wrap (IntKind.u8.wrap ((b_11.toNat : Int) - 48))))) (IntKind.i64.wrap (i5 + 1))
    else
     some (0, false)
  else
   (quiverref7_digits.f bar k x4).bind fun r_12 =>
   some (x4, (r_12 == s0))
 else
  (quiverref7_digits.f bar k x4).bind fun r_13 =>
  some (x4, (r_13 == s0)) := by kernel_rfl
theorem quiverref7_all.f_eq (bar : Bar) (k : Nat) (a0 : List (List UInt8)) : quiverref7_all.f bar (k + 1) a0 =
 quiverref7_all.l0 bar k k a0 ([] : List UInt8) 0 := by kernel_rfl
theorem quiverref7_all.l0_eq (bar : Bar) (k : Nat) (n : Nat) (vs0 : List (List UInt8)) (s3 : List UInt8) (i4 : Int) : quiverref7_all.l0 bar k (n + 1) vs0 s3 i4 =
 bif decide (i4 < ((vs0).length : Int)) then
  (rd vs0 i4).bind fun e_1 =>
  bif decide ((s3).length + (e_1).length ≤ 9223372036854775807) then
   quiverref7_all.l0 bar k n vs0 (s3 ++ e_1) (IntKind.i64.wrap (i4 + 1))
  else
   none
 else
  some s3 := by kernel_rfl
theorem quiverref7_zero.f_eq (bar : Bar) (k : Nat) (a0 : List Nod) (a1 : Int) : quiverref7_zero.f bar (k + 1) a0 a1 =
 (rd a0 a1).bind fun e_1 =>
 bif e_1.null then
  some ([110] : List UInt8)
 else
  (rd a0 a1).bind fun e_2 =>
  bif (e_2.kind == 0) then
   some ([105, 48, 59] : List UInt8)
  else
   bif (e_2.kind == 1) then
    some ([102] : List UInt8)
   else
    bif (e_2.kind == 2) then
     some ([115, 48, 58] : List UInt8)
    else
     bif (e_2.kind == 3) then
      some ([91, 93] : List UInt8)
     else
      (quiverref1_Kids.f bar k a0 a1).bind fun r_3 =>
      quiverref7_zero.l1 bar k k 0 a0 r_3.1 ([] : List (List UInt8)) := by kernel_rfl
theorem quiverref7_zero.l1_eq (bar : Bar) (k : Nat) (n : Nat) (i8 : Int) (t2 : List Nod) (x2005 : List Int) (x2007 : List (List UInt8)) : quiverref7_zero.l1 bar k (n + 1) i8 t2 x2005 x2007 =
 bif decide (i8 < ((x2005).length : Int)) then
  bif decide (0 ≤ i8) && decide (i8 < ((x2005).length : Int)) then
   (x2005[(i8).toNat]?).bind fun e_1 =>
   (quiverref7_zero.f bar k t2 e_1).bind fun r_2 =>
   bif decide (((x2007).length + (([r_2] : List (List UInt8))).length) * 16 ≤ 140737488355328) then
    quiverref7_zero.l1 bar k n (IntKind.i64.wrap (i8 + 1)) t2 x2005 (x2007 ++ ([r_2] : List (List UInt8)))
   else
    none
  else
   none
 else
  (quiverref7_Struct.f bar k x2007).bind fun r_3 =>
  some r_3 := by kernel_rfl
theorem quiverref1_BitsOf.f_eq (bar : Bar) (k : Nat) (a0 : List Bool) : quiverref1_BitsOf.f bar (k + 1) a0 =
 (quiverref1_BitBytes.f bar k ((a0).length : Int)).bind fun r_1 =>
 bif (r_1 == r_1) && (decide (0 ≤ r_1) && decide (r_1 * 1 ≤ 140737488355328)) then
  quiverref1_BitsOf.l0 bar k k a0 0 (List.replicate (r_1).toNat (0 : Int) : List Int)
 else
  none := by kernel_rfl
theorem quiverref1_BitsOf.l0_eq (bar : Bar) (k : Nat) (n : Nat) (xs0 : List Bool) (i4 : Int) (x2003 : List Int) : quiverref1_BitsOf.l0 bar k (n + 1) xs0 i4 x2003 =
 bif decide (i4 < ((xs0).length : Int)) then
  (rd xs0 i4).bind fun e_1 =>
  bif e_1 then
   bif decide (0 ≤ IntKind.i64.wrap (Int.tdiv i4 8)) && decide (IntKind.i64.wrap (Int.tdiv i4 8) < ((x2003).length : Int)) then
    (x2003[(IntKind.i64.wrap (Int.tdiv i4 8)).toNat]?).bind fun e_2 =>
    bif decide (Int.tmod i4 8 < 0) then
     none
    else
     bif decide (0 ≤ IntKind.i64.wrap (Int.tdiv i4 8)) && decide (IntKind.i64.wrap (Int.tdiv i4 8) < ((x2003).length : Int)) then
      (x2003[(IntKind.i64.wrap (Int.tdiv i4 8)).toNat]?).bind fun e_3 =>
      quiverref1_BitsOf.l0 bar k n xs0 (IntKind.i64.wrap (i4 + 1)) ((x2003).set ((IntKind.i64.wrap (Int.tdiv i4 8)).toNat) (bitsOp .or .u8 e_2 (IntKind.u8.wrap (1 * 2 ^ (min (Int.tmod i4 8).toNat IntKind.u8.bits)))))
     else
      none
   else
    none
  else
   quiverref1_BitsOf.l0 bar k n xs0 (IntKind.i64.wrap (i4 + 1)) x2003
 else
  some (strOfBytes x2003) := by kernel_rfl
theorem quiverref7_Values.f_eq (bar : Bar) (k : Nat) (a0 : List Nod) (a1 : Int) (a2 : Arr) : quiverref7_Values.f bar (k + 1) a0 a1 a2 =
 (quiverref7_ArrayMay.f bar k a0 a1 a2).bind fun r_1 =>
 bif (!r_1) then
  some (([] : List (List UInt8)), 900)
 else
  quiverref7_Values.l0 bar k k a1 0 a0 a2.layout a2.offset a2.length a2.valid a2.ends a2.data a2.kids ([] : List (List UInt8)) := by kernel_rfl
theorem quiverref7_Values.l0_eq (bar : Bar) (k : Nat) (n : Nat) (at_1 : Int) (i9 : Int) (t3 : List Nod) (a5 : Int) (a5_1 : Int) (a5_2 : Int) (a5_3 : List UInt8) (a5_4 : List UInt8) (a5_5 : List UInt8) (a5_6 : List Arr) (x2008 : List (List UInt8)) : quiverref7_Values.l0 bar k (n + 1) at_1 i9 t3 a5 a5_1 a5_2 a5_3 a5_4 a5_5 a5_6 x2008 =
 bif decide (i9 < a5_2) then
  (quiverref7_value.f bar k t3 at_1 (Arr.mk a5 a5_1 a5_2 a5_3 a5_4 a5_5 a5_6) i9).bind fun r_1 =>
  bif decide (((x2008).length + (([r_1] : List (List UInt8))).length) * 16 ≤ 140737488355328) then
   quiverref7_Values.l0 bar k n at_1 (IntKind.i64.wrap (i9 + 1)) t3 a5 a5_1 a5_2 a5_3 a5_4 a5_5 a5_6 (x2008 ++ ([r_1] : List (List UInt8)))
  else
   none
 else
  some (x2008, 0) := by kernel_rfl
theorem types_stands.f_eq (bar : Bar) (k : Nat) (a0 : List Nod) (a1 : Int) : types_stands.f bar (k + 1) a0 a1 =
 (rd a0 a1).bind fun e_1 =>
 bif (a1 == 0) then
  some (e_1.parent == (-1))
 else
  bif decide (e_1.parent ≥ 0) then
   bif decide (e_1.parent < a1) then
    (rd a0 e_1.parent).bind fun e_2 =>
    (types_Inner.f bar k e_2.kind).bind fun r_3 =>
    some r_3
   else
    some false
  else
   some false := by kernel_rfl
theorem types_kids.f_eq (bar : Bar) (k : Nat) (a0 : List Nod) (a1 : Int) : types_kids.f bar (k + 1) a0 a1 =
 types_kids.l0 bar k k a1 a0 ((a0).length : Int) 0 ([] : List Int) := by kernel_rfl
theorem types_kids.l0_eq (bar : Bar) (k : Nat) (n : Nat) (at_1 : Int) (x11 : List Nod) (x12 : Int) (x13 : Int) (x2005 : List Int) : types_kids.l0 bar k (n + 1) at_1 x11 x12 x13 x2005 =
 bif decide (x13 < x12) then
  (rd x11 x13).bind fun e_1 =>
  bif decide (x13 > 0) then
   bif (e_1.parent == at_1) then
    bif decide (((x2005).length + (([x13] : List Int)).length) * 8 ≤ 140737488355328) then
     types_kids.l0 bar k n at_1 x11 x12 (IntKind.i64.wrap (x13 + 1)) (x2005 ++ ([x13] : List Int))
    else
     none
   else
    types_kids.l0 bar k n at_1 x11 x12 (IntKind.i64.wrap (x13 + 1)) x2005
  else
   types_kids.l0 bar k n at_1 x11 x12 (IntKind.i64.wrap (x13 + 1)) x2005
 else
  some x2005 := by kernel_rfl
theorem types_way.f_eq (bar : Bar) (k : Nat) (a0 : List Nod) (a1 : Int) : types_way.f bar (k + 1) a0 a1 =
 types_way.l0 bar k k a0 a1 ([] : List Int) := by kernel_rfl
theorem types_way.l0_eq (bar : Bar) (k : Nat) (n : Nat) (t0 : List Nod) (at_1 : Int) (x2005 : List Int) : types_way.l0 bar k (n + 1) t0 at_1 x2005 =
 bif decide (at_1 ≥ 0) then
  bif decide (((x2005).length + (([at_1] : List Int)).length) * 8 ≤ 140737488355328) then
   (rd t0 at_1).bind fun e_1 =>
   types_way.l0 bar k n t0 e_1.parent (x2005 ++ ([at_1] : List Int))
  else
   none
 else
  some x2005 := by kernel_rfl
theorem slices_IndexFunc_api_Array_api_Array_array_plain_1.f_eq (bar : Bar) (k : Nat) (a0 : List Arr) (a1_0 : Int) : slices_IndexFunc_api_Array_api_Array_array_plain_1.f bar (k + 1) a0 a1_0 =
 slices_IndexFunc_api_Array_api_Array_array_plain_1.l0 bar k k a0 a1_0 ((a0).length : Int) 0 := by kernel_rfl
theorem slices_IndexFunc_api_Array_api_Array_array_plain_1.l0_eq (bar : Bar) (k : Nat) (n : Nat) (s0 : List Arr) (f1 : Int) (x7 : Int) (x8 : Int) : slices_IndexFunc_api_Array_api_Array_array_plain_1.l0 bar k (n + 1) s0 f1 x7 x8 =
 bif decide (x8 < x7) then
  (rd s0 x8).bind fun e_1 =>
  (array_plain_1.f bar k e_1 f1).bind fun r_2 =>
  bif r_2 then
   some x8
  else
   slices_IndexFunc_api_Array_api_Array_array_plain_1.l0 bar k n s0 f1 x7 (IntKind.i64.wrap (x8 + 1))
 else
  some (-1) := by kernel_rfl
theorem types_Inner.f_eq (bar : Bar) (k : Nat) (a0 : Int) : types_Inner.f bar (k + 1) a0 =
 bif (!(a0 == 3)) then
  some (a0 == 4)
 else
  some true := by kernel_rfl
theorem num_Get.f_eq (bar : Bar) (k : Nat) (a0 : List UInt8) (a1 : Int) (a2 : Int) : num_Get.f bar (k + 1) a0 a1 a2 =
 bif (a2 != 4) then
  bif (!(a2 != 8)) then
   bif (!(decide (a1 < 0))) then
    bif (!(decide (a1 > ((a0).length : Int)))) then
     bif decide ((IntKind.i64.wrap (((a0).length : Int) - a1)) < a2) then
      some (0, 300)
     else
      bif decide (0 ≤ IntKind.i64.wrap (a1 + a2)) && decide (IntKind.i64.wrap (a1 + a2) ≤ (((a0).length : Nat) : Int)) then
       bif decide (0 ≤ a1) && decide (a1 ≤ (((IntKind.i64.wrap (a1 + a2)).toNat : Nat) : Int)) then
        (num_Of.f bar k (List.drop ((a1).toNat) (List.take ((IntKind.i64.wrap (a1 + a2)).toNat) a0))).bind fun r_1 =>
        bif (a2 == 4) then
         (pad_May.f bar k r_1).bind fun r_2 =>
         bif (!r_2) then
          some (0, 300)
         else
          some (r_1, 0)
        else
         some (r_1, 0)
       else
        none
      else
       none
    else
     some (0, 300)
   else
    some (0, 300)
  else
   some (0, 300)
 else
  bif (!(decide (a1 < 0))) then
   bif (!(decide (a1 > ((a0).length : Int)))) then
    bif decide ((IntKind.i64.wrap (((a0).length : Int) - a1)) < a2) then
     some (0, 300)
    else
     bif decide (0 ≤ IntKind.i64.wrap (a1 + a2)) && decide (IntKind.i64.wrap (a1 + a2) ≤ (((a0).length : Nat) : Int)) then
      bif decide (0 ≤ a1) && decide (a1 ≤ (((IntKind.i64.wrap (a1 + a2)).toNat : Nat) : Int)) then
       (num_Of.f bar k (List.drop ((a1).toNat) (List.take ((IntKind.i64.wrap (a1 + a2)).toNat) a0))).bind fun r_3 =>
       bif (a2 == 4) then
        (pad_May.f bar k r_3).bind fun r_4 =>
        bif (!r_4) then
         some (0, 300)
        else
         some (r_3, 0)
       else
        some (r_3, 0)
      else
       none
     else
      none
   else
    some (0, 300)
  else
   some (0, 300) := by kernel_rfl
theorem bits_On.f_eq (bar : Bar) (k : Nat) (a0 : List UInt8) (a1 : Int) : bits_On.f bar (k + 1) a0 a1 =
 (rd a0 (IntKind.i64.wrap (Int.tdiv a1 8))).bind fun b_1 =>
 bif decide (Int.tmod a1 8 < 0) then
  none
 else
  some ((bitsOp .and .u8 (Int.fdiv (b_1.toNat : Int) (2 ^ (min (Int.tmod a1 8).toNat IntKind.u8.bits))) 1) == 1) := by kernel_rfl
theorem quiverref1_upTo.f_eq (bar : Bar) (k : Nat) (a0 : Int) (a1 : Int) (a2 : Int) : quiverref1_upTo.f bar (k + 1) a0 a1 a2 =
 bif decide (a0 ≥ a1) then
  some (decide (a0 ≤ a2))
 else
  some false := by kernel_rfl
theorem quiverref1_kids.f_eq (bar : Bar) (k : Nat) (a0 : List Nod) (a1 : Int) : quiverref1_kids.f bar (k + 1) a0 a1 =
 quiverref1_kids.l0 bar k k a1 1 a0 ([] : List Int) := by kernel_rfl
theorem quiverref1_kids.l0_eq (bar : Bar) (k : Nat) (n : Nat) (at_1 : Int) (i6 : Int) (t2 : List Nod) (x2005 : List Int) : quiverref1_kids.l0 bar k (n + 1) at_1 i6 t2 x2005 =
 bif decide (i6 < ((t2).length : Int)) then
  (rd t2 i6).bind fun e_1 =>
  bif (e_1.parent == at_1) then
   bif decide (((x2005).length + (([i6] : List Int)).length) * 8 ≤ 140737488355328) then
    quiverref1_kids.l0 bar k n at_1 (IntKind.i64.wrap (i6 + 1)) t2 (x2005 ++ ([i6] : List Int))
   else
    none
  else
   quiverref1_kids.l0 bar k n at_1 (IntKind.i64.wrap (i6 + 1)) t2 x2005
 else
  some x2005 := by kernel_rfl
theorem quiverref7_end.f_eq (bar : Bar) (k : Nat) (a0 : List UInt8) (a1 : Int) (a2 : Int) : quiverref7_end.f bar (k + 1) a0 a1 a2 =
 bif decide (a1 ≥ ((a0).length : Int)) then
  some (-1)
 else
  (rd a0 a1).bind fun b_1 =>
  bif ((b_1.toNat : Int) == 110) then
   bif ((b_1.toNat : Int) == 110) then
    some (IntKind.i64.wrap (a1 + 1))
   else
    bif ((b_1.toNat : Int) == 105) then
     (quiverref7_upto.f bar k a0 a1 59).bind fun r_2 =>
     bif decide (r_2 < 0) then
      some (-1)
     else
      bif decide (0 ≤ r_2) && decide (r_2 ≤ (((a0).length : Nat) : Int)) then
       bif decide (0 ≤ IntKind.i64.wrap (a1 + 1)) && decide (IntKind.i64.wrap (a1 + 1) ≤ (((r_2).toNat : Nat) : Int)) then
        (quiverref7_whole.f bar k (List.drop ((IntKind.i64.wrap (a1 + 1)).toNat) (List.take ((r_2).toNat) a0))).bind fun r_3 =>
        bif (!r_3.2) then
         some (-1)
        else
         some (IntKind.i64.wrap (r_2 + 1))
       else
        none
      else
       none
    else
     bif ((b_1.toNat : Int) == 115) then
      (quiverref7_upto.f bar k a0 a1 58).bind fun r_4 =>
      bif decide (r_4 < 0) then
       some (-1)
      else
       bif decide (0 ≤ r_4) && decide (r_4 ≤ (((a0).length : Nat) : Int)) then
        bif decide (0 ≤ IntKind.i64.wrap (a1 + 1)) && decide (IntKind.i64.wrap (a1 + 1) ≤ (((r_4).toNat : Nat) : Int)) then
         (quiverref7_whole.f bar k (List.drop ((IntKind.i64.wrap (a1 + 1)).toNat) (List.take ((r_4).toNat) a0))).bind fun r_5 =>
         bif (!(!r_5.2)) then
          bif (!(decide (r_5.1 < 0))) then
           bif decide (r_5.1 > (IntKind.i64.wrap ((IntKind.i64.wrap (((a0).length : Int) - r_4)) - 1))) then
            some (-1)
           else
            some (IntKind.i64.wrap ((IntKind.i64.wrap (r_4 + 1)) + r_5.1))
          else
           some (-1)
         else
          some (-1)
        else
         none
       else
        none
     else
      bif ((b_1.toNat : Int) == 91) then
       bif ((b_1.toNat : Int) == 91) then
        (rd a0 a1).bind fun b_6 =>
        quiverref7_end.l1 bar k k a0 (IntKind.i64.wrap (a1 + 1)) a2 (IntKind.u8.wrap ((b_6.toNat : Int) + 2))
       else
        some (-1)
      else
       bif ((b_1.toNat : Int) == 123) then
        (rd a0 a1).bind fun b_7 =>
        quiverref7_end.l1 bar k k a0 (IntKind.i64.wrap (a1 + 1)) a2 (IntKind.u8.wrap ((b_7.toNat : Int) + 2))
       else
        some (-1)
  else
   bif ((b_1.toNat : Int) == 116) then
    bif ((b_1.toNat : Int) == 116) then
     some (IntKind.i64.wrap (a1 + 1))
    else
     bif ((b_1.toNat : Int) == 105) then
      (quiverref7_upto.f bar k a0 a1 59).bind fun r_8 =>
      bif decide (r_8 < 0) then
       some (-1)
      else
       bif decide (0 ≤ r_8) && decide (r_8 ≤ (((a0).length : Nat) : Int)) then
        bif decide (0 ≤ IntKind.i64.wrap (a1 + 1)) && decide (IntKind.i64.wrap (a1 + 1) ≤ (((r_8).toNat : Nat) : Int)) then
         (quiverref7_whole.f bar k (List.drop ((IntKind.i64.wrap (a1 + 1)).toNat) (List.take ((r_8).toNat) a0))).bind fun r_9 =>
         bif (!r_9.2) then
          some (-1)
         else
          some (IntKind.i64.wrap (r_8 + 1))
        else
         none
       else
        none
     else
      bif ((b_1.toNat : Int) == 115) then
       (quiverref7_upto.f bar k a0 a1 58).bind fun r_10 =>
       bif decide (r_10 < 0) then
        some (-1)
       else
        bif decide (0 ≤ r_10) && decide (r_10 ≤ (((a0).length : Nat) : Int)) then
         bif decide (0 ≤ IntKind.i64.wrap (a1 + 1)) && decide (IntKind.i64.wrap (a1 + 1) ≤ (((r_10).toNat : Nat) : Int)) then
          (quiverref7_whole.f bar k (List.drop ((IntKind.i64.wrap (a1 + 1)).toNat) (List.take ((r_10).toNat) a0))).bind fun r_11 =>
          bif (!(!r_11.2)) then
           bif (!(decide (r_11.1 < 0))) then
            bif decide (r_11.1 > (IntKind.i64.wrap ((IntKind.i64.wrap (((a0).length : Int) - r_10)) - 1))) then
             some (-1)
            else
             some (IntKind.i64.wrap ((IntKind.i64.wrap (r_10 + 1)) + r_11.1))
           else
            some (-1)
          else
           some (-1)
         else
          none
        else
         none
      else
       bif ((b_1.toNat : Int) == 91) then
        bif ((b_1.toNat : Int) == 91) then
         (rd a0 a1).bind fun b_12 =>
         quiverref7_end.l1 bar k k a0 (IntKind.i64.wrap (a1 + 1)) a2 (IntKind.u8.wrap ((b_12.toNat : Int) + 2))
        else
         some (-1)
       else
        bif ((b_1.toNat : Int) == 123) then
         (rd a0 a1).bind fun b_13 =>
         quiverref7_end.l1 bar k k a0 (IntKind.i64.wrap (a1 + 1)) a2 (IntKind.u8.wrap ((b_13.toNat : Int) + 2))
        else
         some (-1)
   else
    bif ((b_1.toNat : Int) == 102) then
     some (IntKind.i64.wrap (a1 + 1))
    else
     bif ((b_1.toNat : Int) == 105) then
      (quiverref7_upto.f bar k a0 a1 59).bind fun r_14 =>
      bif decide (r_14 < 0) then
       some (-1)
      else
       bif decide (0 ≤ r_14) && decide (r_14 ≤ (((a0).length : Nat) : Int)) then
        bif decide (0 ≤ IntKind.i64.wrap (a1 + 1)) && decide (IntKind.i64.wrap (a1 + 1) ≤ (((r_14).toNat : Nat) : Int)) then
         (quiverref7_whole.f bar k (List.drop ((IntKind.i64.wrap (a1 + 1)).toNat) (List.take ((r_14).toNat) a0))).bind fun r_15 =>
         bif (!r_15.2) then
          some (-1)
         else
          some (IntKind.i64.wrap (r_14 + 1))
        else
         none
       else
        none
     else
      bif ((b_1.toNat : Int) == 115) then
       (quiverref7_upto.f bar k a0 a1 58).bind fun r_16 =>
       bif decide (r_16 < 0) then
        some (-1)
       else
        bif decide (0 ≤ r_16) && decide (r_16 ≤ (((a0).length : Nat) : Int)) then
         bif decide (0 ≤ IntKind.i64.wrap (a1 + 1)) && decide (IntKind.i64.wrap (a1 + 1) ≤ (((r_16).toNat : Nat) : Int)) then
          (quiverref7_whole.f bar k (List.drop ((IntKind.i64.wrap (a1 + 1)).toNat) (List.take ((r_16).toNat) a0))).bind fun r_17 =>
          bif (!(!r_17.2)) then
           bif (!(decide (r_17.1 < 0))) then
            bif decide (r_17.1 > (IntKind.i64.wrap ((IntKind.i64.wrap (((a0).length : Int) - r_16)) - 1))) then
             some (-1)
            else
             some (IntKind.i64.wrap ((IntKind.i64.wrap (r_16 + 1)) + r_17.1))
           else
            some (-1)
          else
           some (-1)
         else
          none
        else
         none
      else
       bif ((b_1.toNat : Int) == 91) then
        bif ((b_1.toNat : Int) == 91) then
         (rd a0 a1).bind fun b_18 =>
         quiverref7_end.l1 bar k k a0 (IntKind.i64.wrap (a1 + 1)) a2 (IntKind.u8.wrap ((b_18.toNat : Int) + 2))
        else
         some (-1)
       else
        bif ((b_1.toNat : Int) == 123) then
         (rd a0 a1).bind fun b_19 =>
         quiverref7_end.l1 bar k k a0 (IntKind.i64.wrap (a1 + 1)) a2 (IntKind.u8.wrap ((b_19.toNat : Int) + 2))
        else
         some (-1) := by kernel_rfl
theorem quiverref7_end.l1_eq (bar : Bar) (k : Nat) (n : Nat) (s0 : List UInt8) (at_1 : Int) (deep2 : Int) (stop13 : Int) : quiverref7_end.l1 bar k (n + 1) s0 at_1 deep2 stop13 =
 bif decide (deep2 > 0) then
  bif decide (at_1 < ((s0).length : Int)) then
   (rd s0 at_1).bind fun b_1 =>
   bif ((b_1.toNat : Int) != stop13) then
    (quiverref7_end.f bar k s0 at_1 (IntKind.i64.wrap (deep2 - 1))).bind fun r_2 =>
    bif decide (r_2 < 0) then
     some (-1)
    else
     quiverref7_end.l1 bar k n s0 r_2 deep2 stop13
   else
    bif decide (at_1 < ((s0).length : Int)) then
     (rd s0 at_1).bind fun b_3 =>
     bif ((b_3.toNat : Int) == stop13) then
      some (IntKind.i64.wrap (at_1 + 1))
     else
      some (-1)
    else
     some (-1)
  else
   bif decide (at_1 < ((s0).length : Int)) then
    (rd s0 at_1).bind fun b_4 =>
    bif ((b_4.toNat : Int) == stop13) then
     some (IntKind.i64.wrap (at_1 + 1))
    else
     some (-1)
   else
    some (-1)
 else
  bif decide (at_1 < ((s0).length : Int)) then
   (rd s0 at_1).bind fun b_5 =>
   bif ((b_5.toNat : Int) == stop13) then
    some (IntKind.i64.wrap (at_1 + 1))
   else
    some (-1)
  else
   some (-1) := by kernel_rfl
theorem quiverref7_upto.f_eq (bar : Bar) (k : Nat) (a0 : List UInt8) (a1 : Int) (a2 : Int) : quiverref7_upto.f bar (k + 1) a0 a1 a2 =
 quiverref7_upto.l0 bar k k a0 a1 a2 a1 := by kernel_rfl
theorem quiverref7_upto.l0_eq (bar : Bar) (k : Nat) (n : Nat) (s0 : List UInt8) (at_1 : Int) (sign2 : Int) (i7 : Int) : quiverref7_upto.l0 bar k (n + 1) s0 at_1 sign2 i7 =
 bif decide (i7 < ((s0).length : Int)) then
  bif decide (i7 < (IntKind.i64.wrap (at_1 + 22))) then
   (rd s0 i7).bind fun b_1 =>
   bif ((b_1.toNat : Int) == sign2) then
    some i7
   else
    quiverref7_upto.l0 bar k n s0 at_1 sign2 (IntKind.i64.wrap (i7 + 1))
  else
   some (-1)
 else
  some (-1) := by kernel_rfl
theorem quiverref7_digits.f_eq (bar : Bar) (k : Nat) (a0 : Int) : quiverref7_digits.f bar (k + 1) a0 =
 bif decide (a0 ≥ 0) then
  (quiverref0_Decimal.f bar k a0).bind fun r_1 =>
  some r_1
 else
  quiverref7_digits.l0 bar k k a0 ([] : List UInt8) := by kernel_rfl
theorem quiverref7_digits.l0_eq (bar : Bar) (k : Nat) (n : Nat) (x0 : Int) (s3 : List UInt8) : quiverref7_digits.l0 bar k (n + 1) x0 s3 =
 bif decide (x0 < 0) then
  bif decide ((strOfBytes ([IntKind.u8.wrap (IntKind.i64.wrap (48 - (Int.tmod x0 10)))] : List Int)).length + (s3).length ≤ 9223372036854775807) then
   quiverref7_digits.l0 bar k n (IntKind.i64.wrap (Int.tdiv x0 10)) ((strOfBytes ([IntKind.u8.wrap (IntKind.i64.wrap (48 - (Int.tmod x0 10)))] : List Int)) ++ s3)
  else
   none
 else
  bif decide ((([45] : List UInt8)).length + (s3).length ≤ 9223372036854775807) then
   some (([45] : List UInt8) ++ s3)
  else
   none := by kernel_rfl
theorem quiverref7_Struct.f_eq (bar : Bar) (k : Nat) (a0 : List (List UInt8)) : quiverref7_Struct.f bar (k + 1) a0 =
 (quiverref7_all.f bar k a0).bind fun r_1 =>
 bif decide ((([123] : List UInt8)).length + (r_1).length ≤ 9223372036854775807) then
  bif decide ((([123] : List UInt8) ++ r_1).length + (([125] : List UInt8)).length ≤ 9223372036854775807) then
   some ((([123] : List UInt8) ++ r_1) ++ ([125] : List UInt8))
  else
   none
 else
  none := by kernel_rfl
theorem quiverref1_BitBytes.f_eq (bar : Bar) (k : Nat) (a0 : Int) : quiverref1_BitBytes.f bar (k + 1) a0 =
 some (IntKind.i64.wrap (Int.tdiv (IntKind.i64.wrap (a0 + 7)) 8)) := by kernel_rfl
theorem quiverref7_ArrayMay.f_eq (bar : Bar) (k : Nat) (a0 : List Nod) (a1 : Int) (a2 : Arr) : quiverref7_ArrayMay.f bar (k + 1) a0 a1 a2 =
 (quiverref1_NodeMay.f bar k a0 a1).bind fun r_1 =>
 bif (!(!r_1)) then
  bif (!(decide (a2.offset < 0))) then
   bif (!(decide (a2.length < 0))) then
    bif (!(decide (a2.offset > 64))) then
     bif (!(decide (a2.length > (IntKind.i64.wrap (64 - a2.offset))))) then
      bif (!(decide (((a2.valid).length : Int) > 4096))) then
       bif (!(decide (((a2.ends).length : Int) > 4096))) then
        bif decide (((a2.data).length : Int) > 4096) then
         some false
        else
         bif (a2.valid != ([] : List UInt8)) then
          (rd a0 a1).bind fun e_2 =>
          bif (!(!e_2.null)) then
           (quiverref1_BitBytes.f bar k (IntKind.i64.wrap (a2.offset + a2.length))).bind fun r_3 =>
           bif decide (((a2.valid).length : Int) < r_3) then
            some false
           else
            bif (a2.layout == 0) then
             (quiverref7_plainMay.f bar k a0 a1 a2 (IntKind.i64.wrap (a2.offset + a2.length))).bind fun r_4 =>
             some r_4
            else
             (rd a0 a1).bind fun e_5 =>
             (quiverref1_IsLeaf.f bar k e_5.kind).bind fun r_6 =>
             bif (!(!r_6)) then
              bif (!(((a2.kids).length : Int) != 1)) then
               bif (!(a2.ends != ([] : List UInt8))) then
                (rd a2.kids 0).bind fun e_7 =>
                bif (!(e_7.layout != 0)) then
                 (rd a2.kids 0).bind fun e_8 =>
                 (quiverref7_ArrayMay.f bar k a0 a1 e_8).bind fun r_9 =>
                 bif (!r_9) then
                  some false
                 else
                  (rd a2.kids 0).bind fun e_10 =>
                  bif (a2.layout == 1) then
                   bif (!(decide (((a2.data).length : Int) < (IntKind.i64.wrap (4 * (IntKind.i64.wrap (a2.offset + a2.length))))))) then
                    (rd a2.kids 0).bind fun e_11 =>
                    bif (e_11.valid != ([] : List UInt8)) then
                     some false
                    else
                     quiverref7_ArrayMay.l0 bar k k (IntKind.i64.wrap (a2.offset + a2.length)) e_10.length a2.offset a2.layout a2.offset a2.length a2.valid a2.ends a2.data a2.kids
                   else
                    some false
                  else
                   bif (!(a2.layout != 2)) then
                    bif (!(a2.valid != ([] : List UInt8))) then
                     bif (((a2.data).length : Int) != (IntKind.i64.wrap (4 * e_10.length))) then
                      some false
                     else
                      quiverref7_ArrayMay.l2 bar k k (IntKind.i64.wrap (a2.offset + a2.length)) e_10.length 0 0 a2.layout a2.offset a2.length a2.valid a2.ends a2.data a2.kids
                    else
                     some false
                   else
                    some false
                else
                 some false
               else
                some false
              else
               some false
             else
              some false
          else
           some false
         else
          bif (a2.layout == 0) then
           (quiverref7_plainMay.f bar k a0 a1 a2 (IntKind.i64.wrap (a2.offset + a2.length))).bind fun r_12 =>
           some r_12
          else
           (rd a0 a1).bind fun e_13 =>
           (quiverref1_IsLeaf.f bar k e_13.kind).bind fun r_14 =>
           bif (!(!r_14)) then
            bif (!(((a2.kids).length : Int) != 1)) then
             bif (!(a2.ends != ([] : List UInt8))) then
              (rd a2.kids 0).bind fun e_15 =>
              bif (!(e_15.layout != 0)) then
               (rd a2.kids 0).bind fun e_16 =>
               (quiverref7_ArrayMay.f bar k a0 a1 e_16).bind fun r_17 =>
               bif (!r_17) then
                some false
               else
                (rd a2.kids 0).bind fun e_18 =>
                bif (a2.layout == 1) then
                 bif (!(decide (((a2.data).length : Int) < (IntKind.i64.wrap (4 * (IntKind.i64.wrap (a2.offset + a2.length))))))) then
                  (rd a2.kids 0).bind fun e_19 =>
                  bif (e_19.valid != ([] : List UInt8)) then
                   some false
                  else
                   quiverref7_ArrayMay.l0 bar k k (IntKind.i64.wrap (a2.offset + a2.length)) e_18.length a2.offset a2.layout a2.offset a2.length a2.valid a2.ends a2.data a2.kids
                 else
                  some false
                else
                 bif (!(a2.layout != 2)) then
                  bif (!(a2.valid != ([] : List UInt8))) then
                   bif (((a2.data).length : Int) != (IntKind.i64.wrap (4 * e_18.length))) then
                    some false
                   else
                    quiverref7_ArrayMay.l2 bar k k (IntKind.i64.wrap (a2.offset + a2.length)) e_18.length 0 0 a2.layout a2.offset a2.length a2.valid a2.ends a2.data a2.kids
                  else
                   some false
                 else
                  some false
              else
               some false
             else
              some false
            else
             some false
           else
            some false
       else
        some false
      else
       some false
     else
      some false
    else
     some false
   else
    some false
  else
   some false
 else
  some false := by kernel_rfl
theorem quiverref7_ArrayMay.l0_eq (bar : Bar) (k : Nat) (n : Nat) (rows7 : Int) (k_8 : Int) (i9 : Int) (a5 : Int) (a5_1 : Int) (a5_2 : Int) (a5_3 : List UInt8) (a5_4 : List UInt8) (a5_5 : List UInt8) (a5_6 : List Arr) : quiverref7_ArrayMay.l0 bar k (n + 1) rows7 k_8 i9 a5 a5_1 a5_2 a5_3 a5_4 a5_5 a5_6 =
 bif decide (i9 < rows7) then
  (quiverref1_GetNum.f bar k a5_5 (IntKind.i64.wrap (4 * i9)) 4).bind fun r_1 =>
  (quiverref7_there.f bar k (Arr.mk a5 a5_1 a5_2 a5_3 a5_4 a5_5 a5_6) i9).bind fun r_2 =>
  bif r_2 then
   bif (!(r_1.2 != 0)) then
    bif decide (r_1.1 ≥ k_8) then
     some false
    else
     quiverref7_ArrayMay.l0 bar k n rows7 k_8 (IntKind.i64.wrap (i9 + 1)) a5 a5_1 a5_2 a5_3 a5_4 a5_5 a5_6
   else
    some false
  else
   quiverref7_ArrayMay.l0 bar k n rows7 k_8 (IntKind.i64.wrap (i9 + 1)) a5 a5_1 a5_2 a5_3 a5_4 a5_5 a5_6
 else
  some true := by kernel_rfl
theorem quiverref7_ArrayMay.l2_eq (bar : Bar) (k : Nat) (n : Nat) (rows7 : Int) (k_8 : Int) (was12 : Int) (i13 : Int) (a5 : Int) (a5_1 : Int) (a5_2 : Int) (a5_3 : List UInt8) (a5_4 : List UInt8) (a5_5 : List UInt8) (a5_6 : List Arr) : quiverref7_ArrayMay.l2 bar k (n + 1) rows7 k_8 was12 i13 a5 a5_1 a5_2 a5_3 a5_4 a5_5 a5_6 =
 bif decide (i13 < k_8) then
  (quiverref1_GetNum.f bar k a5_5 (IntKind.i64.wrap (4 * i13)) 4).bind fun r_1 =>
  bif (!(r_1.2 != 0)) then
   bif decide (r_1.1 ≤ was12) then
    some false
   else
    quiverref7_ArrayMay.l2 bar k n rows7 k_8 r_1.1 (IntKind.i64.wrap (i13 + 1)) a5 a5_1 a5_2 a5_3 a5_4 a5_5 a5_6
  else
   some false
 else
  some (decide (was12 ≥ rows7)) := by kernel_rfl
theorem quiverref7_value.f_eq (bar : Bar) (k : Nat) (a0 : List Nod) (a1 : Int) (a2 : Arr) (a3 : Int) : quiverref7_value.f bar (k + 1) a0 a1 a2 a3 =
 (quiverref7_there.f bar k a2 (IntKind.i64.wrap (a3 + a2.offset))).bind fun r_1 =>
 bif (!r_1) then
  some ([110] : List UInt8)
 else
  bif (a2.layout == 1) then
   (rd a2.kids 0).bind fun e_2 =>
   bif decide (0 ≤ IntKind.i64.wrap ((IntKind.i64.wrap (4 * (IntKind.i64.wrap (a3 + a2.offset)))) + 4)) && decide (IntKind.i64.wrap ((IntKind.i64.wrap (4 * (IntKind.i64.wrap (a3 + a2.offset)))) + 4) ≤ (((a2.data).length : Nat) : Int)) then
    bif decide (0 ≤ IntKind.i64.wrap (4 * (IntKind.i64.wrap (a3 + a2.offset)))) && decide (IntKind.i64.wrap (4 * (IntKind.i64.wrap (a3 + a2.offset))) ≤ (((IntKind.i64.wrap ((IntKind.i64.wrap (4 * (IntKind.i64.wrap (a3 + a2.offset)))) + 4)).toNat : Nat) : Int)) then
     (quiverref1_Num.f bar k (List.drop ((IntKind.i64.wrap (4 * (IntKind.i64.wrap (a3 + a2.offset)))).toNat) (List.take ((IntKind.i64.wrap ((IntKind.i64.wrap (4 * (IntKind.i64.wrap (a3 + a2.offset)))) + 4)).toNat) a2.data))).bind fun r_3 =>
     (quiverref7_value.f bar k a0 a1 e_2 r_3).bind fun r_4 =>
     some r_4
    else
     none
   else
    none
  else
   bif (a2.layout == 2) then
    quiverref7_value.l0 bar k k a1 (IntKind.i64.wrap (a3 + a2.offset)) 0 a0 a2.layout a2.offset a2.length a2.valid a2.ends a2.data a2.kids
   else
    (quiverref1_Kids.f bar k a0 a1).bind fun r_5 =>
    (rd a0 a1).bind fun e_6 =>
    bif (e_6.kind == 0) then
     bif decide (0 ≤ IntKind.i64.wrap ((IntKind.i64.wrap (8 * (IntKind.i64.wrap (a3 + a2.offset)))) + 8)) && decide (IntKind.i64.wrap ((IntKind.i64.wrap (8 * (IntKind.i64.wrap (a3 + a2.offset)))) + 8) ≤ (((a2.data).length : Nat) : Int)) then
      bif decide (0 ≤ IntKind.i64.wrap (8 * (IntKind.i64.wrap (a3 + a2.offset)))) && decide (IntKind.i64.wrap (8 * (IntKind.i64.wrap (a3 + a2.offset))) ≤ (((IntKind.i64.wrap ((IntKind.i64.wrap (8 * (IntKind.i64.wrap (a3 + a2.offset)))) + 8)).toNat : Nat) : Int)) then
       (quiverref1_Num.f bar k (List.drop ((IntKind.i64.wrap (8 * (IntKind.i64.wrap (a3 + a2.offset)))).toNat) (List.take ((IntKind.i64.wrap ((IntKind.i64.wrap (8 * (IntKind.i64.wrap (a3 + a2.offset)))) + 8)).toNat) a2.data))).bind fun r_7 =>
       (quiverref7_Int.f bar k r_7).bind fun r_8 =>
       some r_8
      else
       none
     else
      none
    else
     bif (e_6.kind == 1) then
      (quiverref1_Bit.f bar k a2.data (IntKind.i64.wrap (a3 + a2.offset))).bind fun r_9 =>
      (quiverref7_Bool.f bar k r_9).bind fun r_10 =>
      some r_10
     else
      bif (e_6.kind == 2) then
       (quiverref7_ends.f bar k a2 (IntKind.i64.wrap (a3 + a2.offset))).bind fun r_11 =>
       bif decide (0 ≤ r_11.2) && decide (r_11.2 ≤ (((a2.data).length : Nat) : Int)) then
        bif decide (0 ≤ r_11.1) && decide (r_11.1 ≤ (((r_11.2).toNat : Nat) : Int)) then
         (quiverref7_Bytes.f bar k (List.drop ((r_11.1).toNat) (List.take ((r_11.2).toNat) a2.data))).bind fun r_12 =>
         some r_12
        else
         none
       else
        none
      else
       bif (e_6.kind == 3) then
        (quiverref7_ends.f bar k a2 (IntKind.i64.wrap (a3 + a2.offset))).bind fun r_13 =>
        quiverref7_value.l3 bar k k r_13.2 r_13.1 a0 a2.layout a2.offset a2.length a2.valid a2.ends a2.data a2.kids r_5.1 ([] : List (List UInt8))
       else
        quiverref7_value.l5 bar k k (IntKind.i64.wrap (a3 + a2.offset)) 0 a0 a2.layout a2.offset a2.length a2.valid a2.ends a2.data a2.kids r_5.1 ([] : List (List UInt8)) := by kernel_rfl
theorem quiverref7_value.l0_eq (bar : Bar) (k : Nat) (n : Nat) (at_1 : Int) (row3 : Int) (i9 : Int) (t4 : List Nod) (a6 : Int) (a6_1 : Int) (a6_2 : Int) (a6_3 : List UInt8) (a6_4 : List UInt8) (a6_5 : List UInt8) (a6_6 : List Arr) : quiverref7_value.l0 bar k (n + 1) at_1 row3 i9 t4 a6 a6_1 a6_2 a6_3 a6_4 a6_5 a6_6 =
 bif decide (0 ≤ IntKind.i64.wrap ((IntKind.i64.wrap (4 * i9)) + 4)) && decide (IntKind.i64.wrap ((IntKind.i64.wrap (4 * i9)) + 4) ≤ (((a6_5).length : Nat) : Int)) then
  bif decide (0 ≤ IntKind.i64.wrap (4 * i9)) && decide (IntKind.i64.wrap (4 * i9) ≤ (((IntKind.i64.wrap ((IntKind.i64.wrap (4 * i9)) + 4)).toNat : Nat) : Int)) then
   (quiverref1_Num.f bar k (List.drop ((IntKind.i64.wrap (4 * i9)).toNat) (List.take ((IntKind.i64.wrap ((IntKind.i64.wrap (4 * i9)) + 4)).toNat) a6_5))).bind fun r_1 =>
   bif decide (r_1 ≤ row3) then
    quiverref7_value.l0 bar k n at_1 row3 (IntKind.i64.wrap (i9 + 1)) t4 a6 a6_1 a6_2 a6_3 a6_4 a6_5 a6_6
   else
    (rd a6_6 0).bind fun e_2 =>
    (quiverref7_value.f bar k t4 at_1 e_2 i9).bind fun r_3 =>
    some r_3
  else
   none
 else
  none := by kernel_rfl
theorem quiverref7_value.l3_eq (bar : Bar) (k : Nat) (n : Nat) (to16 : Int) (i17 : Int) (t4 : List Nod) (a6 : Int) (a6_1 : Int) (a6_2 : Int) (a6_3 : List UInt8) (a6_4 : List UInt8) (a6_5 : List UInt8) (a6_6 : List Arr) (x2010 : List Int) (x2012 : List (List UInt8)) : quiverref7_value.l3 bar k (n + 1) to16 i17 t4 a6 a6_1 a6_2 a6_3 a6_4 a6_5 a6_6 x2010 x2012 =
 bif decide (i17 < to16) then
  bif decide (0 ≤ 0) && decide (0 < ((x2010).length : Int)) then
   (x2010[0]?).bind fun e_1 =>
   (rd a6_6 0).bind fun e_2 =>
   (quiverref7_value.f bar k t4 e_1 e_2 i17).bind fun r_3 =>
   bif decide (((x2012).length + (([r_3] : List (List UInt8))).length) * 16 ≤ 140737488355328) then
    quiverref7_value.l3 bar k n to16 (IntKind.i64.wrap (i17 + 1)) t4 a6 a6_1 a6_2 a6_3 a6_4 a6_5 a6_6 x2010 (x2012 ++ ([r_3] : List (List UInt8)))
   else
    none
  else
   none
 else
  (quiverref7_List.f bar k x2012).bind fun r_4 =>
  some r_4 := by kernel_rfl
theorem quiverref7_value.l5_eq (bar : Bar) (k : Nat) (n : Nat) (row3 : Int) (i18 : Int) (t4 : List Nod) (a6 : Int) (a6_1 : Int) (a6_2 : Int) (a6_3 : List UInt8) (a6_4 : List UInt8) (a6_5 : List UInt8) (a6_6 : List Arr) (x2010 : List Int) (x2012 : List (List UInt8)) : quiverref7_value.l5 bar k (n + 1) row3 i18 t4 a6 a6_1 a6_2 a6_3 a6_4 a6_5 a6_6 x2010 x2012 =
 bif decide (i18 < ((x2010).length : Int)) then
  bif decide (0 ≤ i18) && decide (i18 < ((x2010).length : Int)) then
   (x2010[(i18).toNat]?).bind fun e_1 =>
   (rd a6_6 i18).bind fun e_2 =>
   (quiverref7_value.f bar k t4 e_1 e_2 row3).bind fun r_3 =>
   bif decide (((x2012).length + (([r_3] : List (List UInt8))).length) * 16 ≤ 140737488355328) then
    quiverref7_value.l5 bar k n row3 (IntKind.i64.wrap (i18 + 1)) t4 a6 a6_1 a6_2 a6_3 a6_4 a6_5 a6_6 x2010 (x2012 ++ ([r_3] : List (List UInt8)))
   else
    none
  else
   none
 else
  (quiverref7_Struct.f bar k x2012).bind fun r_4 =>
  some r_4 := by kernel_rfl
theorem array_plain_1.f_eq (bar : Bar) (k : Nat) (a0 : Arr) (a1 : Int) : array_plain_1.f bar (k + 1) a0 a1 =
 some (decide (a0.length < a1)) := by kernel_rfl
theorem pad_May.f_eq (bar : Bar) (k : Nat) (a0 : Int) : pad_May.f bar (k + 1) a0 =
 bif decide (a0 ≥ 0) then
  some (decide (a0 ≤ 2147483647))
 else
  some false := by kernel_rfl
theorem num_Of.f_eq (bar : Bar) (k : Nat) (a0 : List UInt8) : num_Of.f bar (k + 1) a0 =
 num_Of.l0 bar k k a0 0 ((a0).length : Int) 0 := by kernel_rfl
theorem num_Of.l0_eq (bar : Bar) (k : Nat) (n : Nat) (s0 : List UInt8) (out3 : Int) (x6 : Int) (x7 : Int) : num_Of.l0 bar k (n + 1) s0 out3 x6 x7 =
 bif decide (x7 < x6) then
  (rd s0 x7).bind fun b_1 =>
  bif decide (IntKind.i64.wrap (8 * x7) < 0) then
   none
  else
   num_Of.l0 bar k n s0 (bitsOp .or .u64 out3 (IntKind.u64.wrap ((IntKind.u64.wrap (b_1.toNat : Int)) * 2 ^ (min (IntKind.i64.wrap (8 * x7)).toNat IntKind.u64.bits)))) x6 (IntKind.i64.wrap (x7 + 1))
 else
  some (IntKind.i64.wrap out3) := by kernel_rfl
theorem quiverref0_Decimal.f_eq (bar : Bar) (k : Nat) (a0 : Int) : quiverref0_Decimal.f bar (k + 1) a0 =
 bif decide (a0 < 0) then
  bar _ (quiverref0_Decimal.j4 bar k a0 (IntKind.u64.wrap ((IntKind.u64.wrap (IntKind.i64.wrap (0 - (IntKind.i64.wrap (a0 + 1))))) + 1)))
 else
  bar _ (quiverref0_Decimal.j4 bar k a0 (IntKind.u64.wrap a0)) := by kernel_rfl
theorem quiverref0_Decimal.j4_eq (bar : Bar) (k : Nat) (x0 : Int) (size3 : Int) : quiverref0_Decimal.j4 bar k x0 size3 =
 quiverref0_Decimal.l0 bar k k x0 size3 ([] : List Int) := by kernel_rfl
theorem quiverref0_Decimal.l0_eq (bar : Bar) (k : Nat) (n : Nat) (x0 : Int) (size3 : Int) (x2004 : List Int) : quiverref0_Decimal.l0 bar k (n + 1) x0 size3 x2004 =
 bif (!(decide (size3 > 0))) then
  bif (((x2004).length : Int) == 0) then
   bif decide (((([IntKind.u8.wrap (IntKind.u64.wrap (48 + (Int.tmod size3 10)))] : List Int)).length + (x2004).length) * 1 ≤ 140737488355328) then
    quiverref0_Decimal.l0 bar k n x0 (IntKind.u64.wrap (Int.tdiv size3 10)) (([IntKind.u8.wrap (IntKind.u64.wrap (48 + (Int.tmod size3 10)))] : List Int) ++ x2004)
   else
    none
  else
   bif decide (x0 < 0) then
    bif decide (((([45] : List Int)).length + (x2004).length) * 1 ≤ 140737488355328) then
     some (strOfBytes (([45] : List Int) ++ x2004))
    else
     none
   else
    some (strOfBytes x2004)
 else
  bif decide (((([IntKind.u8.wrap (IntKind.u64.wrap (48 + (Int.tmod size3 10)))] : List Int)).length + (x2004).length) * 1 ≤ 140737488355328) then
   quiverref0_Decimal.l0 bar k n x0 (IntKind.u64.wrap (Int.tdiv size3 10)) (([IntKind.u8.wrap (IntKind.u64.wrap (48 + (Int.tmod size3 10)))] : List Int) ++ x2004)
  else
   none := by kernel_rfl
theorem quiverref7_plainMay.f_eq (bar : Bar) (k : Nat) (a0 : List Nod) (a1 : Int) (a2 : Arr) (a3 : Int) : quiverref7_plainMay.f bar (k + 1) a0 a1 a2 a3 =
 (quiverref1_Kids.f bar k a0 a1).bind fun r_1 =>
 (rd a0 a1).bind fun e_2 =>
 bif (e_2.kind == 0) then
  (quiverref7_bare.f bar k a2).bind fun r_3 =>
  bif r_3 then
   some (decide (((a2.data).length : Int) ≥ (IntKind.i64.wrap (8 * a3))))
  else
   some false
 else
  bif (e_2.kind == 1) then
   (quiverref7_bare.f bar k a2).bind fun r_4 =>
   bif r_4 then
    (quiverref1_BitBytes.f bar k a3).bind fun r_5 =>
    some (decide (((a2.data).length : Int) ≥ r_5))
   else
    some false
  else
   bif (e_2.kind == 2) then
    bif (((a2.kids).length : Int) == 0) then
     (quiverref7_mayEnds.f bar k a2.ends a3 a2.offset ((a2.data).length : Int) 16).bind fun r_6 =>
     some r_6
    else
     some false
   else
    bif (e_2.kind == 3) then
     bif (a2.data == ([] : List UInt8)) then
      bif (((a2.kids).length : Int) == 1) then
       bif decide (0 ≤ 0) && decide (0 < ((r_1.1).length : Int)) then
        (r_1.1[0]?).bind fun e_7 =>
        (rd a2.kids 0).bind fun e_8 =>
        (quiverref7_ArrayMay.f bar k a0 e_7 e_8).bind fun r_9 =>
        bif r_9 then
         (rd a2.kids 0).bind fun e_10 =>
         (quiverref7_mayEnds.f bar k a2.ends a3 a2.offset e_10.length 2147483647).bind fun r_11 =>
         some r_11
        else
         some false
       else
        none
      else
       some false
     else
      some false
    else
     bif (!(a2.data != ([] : List UInt8))) then
      bif (!(a2.ends != ([] : List UInt8))) then
       bif (((a2.kids).length : Int) != ((r_1.1).length : Int)) then
        some false
       else
        quiverref7_plainMay.l1 bar k k a3 0 a0 a2.layout a2.offset a2.length a2.valid a2.ends a2.data a2.kids r_1.1
      else
       some false
     else
      some false := by kernel_rfl
theorem quiverref7_plainMay.l1_eq (bar : Bar) (k : Nat) (n : Nat) (rows3 : Int) (i11 : Int) (t4 : List Nod) (a6 : Int) (a6_1 : Int) (a6_2 : Int) (a6_3 : List UInt8) (a6_4 : List UInt8) (a6_5 : List UInt8) (a6_6 : List Arr) (x2009 : List Int) : quiverref7_plainMay.l1 bar k (n + 1) rows3 i11 t4 a6 a6_1 a6_2 a6_3 a6_4 a6_5 a6_6 x2009 =
 bif decide (i11 < ((x2009).length : Int)) then
  bif decide (0 ≤ i11) && decide (i11 < ((x2009).length : Int)) then
   (x2009[(i11).toNat]?).bind fun e_1 =>
   (rd a6_6 i11).bind fun e_2 =>
   (quiverref7_ArrayMay.f bar k t4 e_1 e_2).bind fun r_3 =>
   bif (!(!r_3)) then
    (rd a6_6 i11).bind fun e_4 =>
    bif decide (e_4.length < rows3) then
     some false
    else
     quiverref7_plainMay.l1 bar k n rows3 (IntKind.i64.wrap (i11 + 1)) t4 a6 a6_1 a6_2 a6_3 a6_4 a6_5 a6_6 x2009
   else
    some false
  else
   none
 else
  some true := by kernel_rfl
theorem quiverref1_GetNum.f_eq (bar : Bar) (k : Nat) (a0 : List UInt8) (a1 : Int) (a2 : Int) : quiverref1_GetNum.f bar (k + 1) a0 a1 a2 =
 bif (a2 != 4) then
  bif (!(a2 != 8)) then
   bif (!(decide (a1 < 0))) then
    bif decide (a1 > (IntKind.i64.wrap (((a0).length : Int) - a2))) then
     some (0, 300)
    else
     bif decide (0 ≤ IntKind.i64.wrap (a1 + a2)) && decide (IntKind.i64.wrap (a1 + a2) ≤ (((a0).length : Nat) : Int)) then
      bif decide (0 ≤ a1) && decide (a1 ≤ (((IntKind.i64.wrap (a1 + a2)).toNat : Nat) : Int)) then
       (quiverref1_Num.f bar k (List.drop ((a1).toNat) (List.take ((IntKind.i64.wrap (a1 + a2)).toNat) a0))).bind fun r_1 =>
       bif (a2 == 4) then
        (quiverref1_in.f bar k r_1).bind fun r_2 =>
        bif (!r_2) then
         some (0, 300)
        else
         some (r_1, 0)
       else
        some (r_1, 0)
      else
       none
     else
      none
   else
    some (0, 300)
  else
   some (0, 300)
 else
  bif (!(decide (a1 < 0))) then
   bif decide (a1 > (IntKind.i64.wrap (((a0).length : Int) - a2))) then
    some (0, 300)
   else
    bif decide (0 ≤ IntKind.i64.wrap (a1 + a2)) && decide (IntKind.i64.wrap (a1 + a2) ≤ (((a0).length : Nat) : Int)) then
     bif decide (0 ≤ a1) && decide (a1 ≤ (((IntKind.i64.wrap (a1 + a2)).toNat : Nat) : Int)) then
      (quiverref1_Num.f bar k (List.drop ((a1).toNat) (List.take ((IntKind.i64.wrap (a1 + a2)).toNat) a0))).bind fun r_3 =>
      bif (a2 == 4) then
       (quiverref1_in.f bar k r_3).bind fun r_4 =>
       bif (!r_4) then
        some (0, 300)
       else
        some (r_3, 0)
      else
       some (r_3, 0)
     else
      none
    else
     none
  else
   some (0, 300) := by kernel_rfl
theorem quiverref7_there.f_eq (bar : Bar) (k : Nat) (a0 : Arr) (a1 : Int) : quiverref7_there.f bar (k + 1) a0 a1 =
 bif (!(a0.valid == ([] : List UInt8))) then
  (quiverref1_Bit.f bar k a0.valid a1).bind fun r_1 =>
  some r_1
 else
  some true := by kernel_rfl
theorem quiverref1_Num.f_eq (bar : Bar) (k : Nat) (a0 : List UInt8) : quiverref1_Num.f bar (k + 1) a0 =
 quiverref1_Num.l0 bar k k a0 0 (IntKind.i64.wrap (((a0).length : Int) - 1)) := by kernel_rfl
theorem quiverref1_Num.l0_eq (bar : Bar) (k : Nat) (n : Nat) (s0 : List UInt8) (x3 : Int) (i4 : Int) : quiverref1_Num.l0 bar k (n + 1) s0 x3 i4 =
 bif decide (i4 ≥ 0) then
  (rd s0 i4).bind fun b_1 =>
  quiverref1_Num.l0 bar k n s0 (bitsOp .or .u64 (IntKind.u64.wrap (x3 * 2 ^ (min 8 IntKind.u64.bits))) (IntKind.u64.wrap (b_1.toNat : Int))) (IntKind.i64.wrap (i4 - 1))
 else
  some (IntKind.i64.wrap x3) := by kernel_rfl
theorem quiverref1_Bit.f_eq (bar : Bar) (k : Nat) (a0 : List UInt8) (a1 : Int) : quiverref1_Bit.f bar (k + 1) a0 a1 =
 (rd a0 (IntKind.i64.wrap (Int.tdiv a1 8))).bind fun b_1 =>
 bif decide (Int.tmod a1 8 < 0) then
  none
 else
  some ((bitsOp .and .u8 (Int.fdiv (b_1.toNat : Int) (2 ^ (min (Int.tmod a1 8).toNat IntKind.u8.bits))) 1) == 1) := by kernel_rfl
theorem quiverref7_Int.f_eq (bar : Bar) (k : Nat) (a0 : Int) : quiverref7_Int.f bar (k + 1) a0 =
 (quiverref7_digits.f bar k a0).bind fun r_1 =>
 bif decide ((([105] : List UInt8)).length + (r_1).length ≤ 9223372036854775807) then
  bif decide ((([105] : List UInt8) ++ r_1).length + (([59] : List UInt8)).length ≤ 9223372036854775807) then
   some ((([105] : List UInt8) ++ r_1) ++ ([59] : List UInt8))
  else
   none
 else
  none := by kernel_rfl
theorem quiverref7_Bool.f_eq (bar : Bar) (k : Nat) (a0 : Bool) : quiverref7_Bool.f bar (k + 1) a0 =
 bif a0 then
  some ([116] : List UInt8)
 else
  some ([102] : List UInt8) := by kernel_rfl
theorem quiverref7_ends.f_eq (bar : Bar) (k : Nat) (a0 : Arr) (a1 : Int) : quiverref7_ends.f bar (k + 1) a0 a1 =
 bif decide (0 ≤ IntKind.i64.wrap ((IntKind.i64.wrap (4 * a1)) + 4)) && decide (IntKind.i64.wrap ((IntKind.i64.wrap (4 * a1)) + 4) ≤ (((a0.ends).length : Nat) : Int)) then
  bif decide (0 ≤ IntKind.i64.wrap (4 * a1)) && decide (IntKind.i64.wrap (4 * a1) ≤ (((IntKind.i64.wrap ((IntKind.i64.wrap (4 * a1)) + 4)).toNat : Nat) : Int)) then
   (quiverref1_Num.f bar k (List.drop ((IntKind.i64.wrap (4 * a1)).toNat) (List.take ((IntKind.i64.wrap ((IntKind.i64.wrap (4 * a1)) + 4)).toNat) a0.ends))).bind fun r_1 =>
   bif decide (0 ≤ IntKind.i64.wrap ((IntKind.i64.wrap (4 * a1)) + 8)) && decide (IntKind.i64.wrap ((IntKind.i64.wrap (4 * a1)) + 8) ≤ (((a0.ends).length : Nat) : Int)) then
    bif decide (0 ≤ IntKind.i64.wrap ((IntKind.i64.wrap (4 * a1)) + 4)) && decide (IntKind.i64.wrap ((IntKind.i64.wrap (4 * a1)) + 4) ≤ (((IntKind.i64.wrap ((IntKind.i64.wrap (4 * a1)) + 8)).toNat : Nat) : Int)) then
     (quiverref1_Num.f bar k (List.drop ((IntKind.i64.wrap ((IntKind.i64.wrap (4 * a1)) + 4)).toNat) (List.take ((IntKind.i64.wrap ((IntKind.i64.wrap (4 * a1)) + 8)).toNat) a0.ends))).bind fun r_2 =>
     some (r_1, r_2)
    else
     none
   else
    none
  else
   none
 else
  none := by kernel_rfl
theorem quiverref7_Bytes.f_eq (bar : Bar) (k : Nat) (a0 : List UInt8) : quiverref7_Bytes.f bar (k + 1) a0 =
 (quiverref0_Decimal.f bar k ((a0).length : Int)).bind fun r_1 =>
 bif decide ((([115] : List UInt8)).length + (r_1).length ≤ 9223372036854775807) then
  bif decide ((([115] : List UInt8) ++ r_1).length + (([58] : List UInt8)).length ≤ 9223372036854775807) then
   bif decide (((([115] : List UInt8) ++ r_1) ++ ([58] : List UInt8)).length + (a0).length ≤ 9223372036854775807) then
    some (((([115] : List UInt8) ++ r_1) ++ ([58] : List UInt8)) ++ a0)
   else
    none
  else
   none
 else
  none := by kernel_rfl
theorem quiverref7_List.f_eq (bar : Bar) (k : Nat) (a0 : List (List UInt8)) : quiverref7_List.f bar (k + 1) a0 =
 (quiverref7_all.f bar k a0).bind fun r_1 =>
 bif decide ((([91] : List UInt8)).length + (r_1).length ≤ 9223372036854775807) then
  bif decide ((([91] : List UInt8) ++ r_1).length + (([93] : List UInt8)).length ≤ 9223372036854775807) then
   some ((([91] : List UInt8) ++ r_1) ++ ([93] : List UInt8))
  else
   none
 else
  none := by kernel_rfl
theorem quiverref7_bare.f_eq (bar : Bar) (k : Nat) (a0 : Arr) : quiverref7_bare.f bar (k + 1) a0 =
 bif (a0.ends == ([] : List UInt8)) then
  some (((a0.kids).length : Int) == 0)
 else
  some false := by kernel_rfl
theorem quiverref7_mayEnds.f_eq (bar : Bar) (k : Nat) (a0 : List UInt8) (a1 : Int) (a2 : Int) (a3 : Int) (a4 : Int) : quiverref7_mayEnds.f bar (k + 1) a0 a1 a2 a3 a4 =
 quiverref7_mayEnds.l0 bar k k a0 a1 a2 a3 a4 0 0 := by kernel_rfl
theorem quiverref7_mayEnds.l0_eq (bar : Bar) (k : Nat) (n : Nat) (s0 : List UInt8) (rows1 : Int) (first2 : Int) (last3 : Int) (apart4 : Int) (was11 : Int) (i12 : Int) : quiverref7_mayEnds.l0 bar k (n + 1) s0 rows1 first2 last3 apart4 was11 i12 =
 bif decide (i12 ≤ rows1) then
  (quiverref1_GetNum.f bar k s0 (IntKind.i64.wrap (4 * i12)) 4).bind fun r_1 =>
  bif (!(r_1.2 != 0)) then
   bif (!(decide (r_1.1 < was11))) then
    bif (!(decide (r_1.1 > last3))) then
     bif decide (i12 > first2) then
      bif decide ((IntKind.i64.wrap (r_1.1 - was11)) > apart4) then
       some false
      else
       quiverref7_mayEnds.l0 bar k n s0 rows1 first2 last3 apart4 r_1.1 (IntKind.i64.wrap (i12 + 1))
     else
      quiverref7_mayEnds.l0 bar k n s0 rows1 first2 last3 apart4 r_1.1 (IntKind.i64.wrap (i12 + 1))
    else
     some false
   else
    some false
  else
   some false
 else
  some true := by kernel_rfl
theorem quiverref1_in.f_eq (bar : Bar) (k : Nat) (a0 : Int) : quiverref1_in.f bar (k + 1) a0 =
 (quiverref1_upTo.f bar k a0 0 2147483647).bind fun r_1 =>
 some r_1 := by kernel_rfl

end Go.Proofs.YtppmpfddcohkjaaA
