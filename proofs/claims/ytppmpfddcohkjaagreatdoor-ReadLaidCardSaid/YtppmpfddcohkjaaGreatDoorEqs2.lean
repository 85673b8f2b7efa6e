/- Each function and each loop of the program answers as its equation says; no condition. -/
import Derived.Test.YtppmpfddcohkjaaGreatDoorFns
namespace Go.Proofs.YtppmpfddcohkjaaGreatDoorA
open Go
set_option linter.unusedVariables false
theorem quiverref7_upto.f_eq (bar : Bar) (k : Nat) (a0 : List UInt8) (a1 : Int) (a2 : Int) : quiverref7_upto.f bar (k + 1) a0 a1 a2 =
 quiverref7_upto.l0 bar k k a0 a1 a2 a1 := by kernel_rfl
theorem quiverref7_upto.l0_eq (bar : Bar) (k : Nat) (n : Nat) (s0 : List UInt8) (at_1 : Int) (sign2 : Int) (i7 : Int) : quiverref7_upto.l0 bar k (n + 1) s0 at_1 sign2 i7 =
 bif decide (i7 < ((s0).length : Int)) then
  bif decide (i7 < (IntKind.i64.wrap (at_1 + 22))) then
   (rd s0 i7).bind fun b_1 =>
   bif ((b_1.toNat : Int) == sign2) then
    some i7
   else
    quiverref7_upto.l0 bar k n s0 at_1 sign2 (IntKind.i64.wrap (i7 + 1))
  else
   some (-1)
 else
  some (-1) := by kernel_rfl
theorem quiverref7_digits.f_eq (bar : Bar) (k : Nat) (a0 : Int) : quiverref7_digits.f bar (k + 1) a0 =
 bif decide (a0 ≥ 0) then
  (quiverref0_Decimal.f bar k a0).bind fun r_1 =>
  some r_1
 else
  quiverref7_digits.l0 bar k k a0 ([] : List UInt8) := by kernel_rfl
theorem quiverref7_digits.l0_eq (bar : Bar) (k : Nat) (n : Nat) (x0 : Int) (s3 : List UInt8) : quiverref7_digits.l0 bar k (n + 1) x0 s3 =
 bif decide (x0 < 0) then
  bif decide ((strOfBytes ([IntKind.u8.wrap (IntKind.i64.wrap (48 - (Int.tmod x0 10)))] : List Int)).length + (s3).length ≤ 9223372036854775807) then
   quiverref7_digits.l0 bar k n (IntKind.i64.wrap (Int.tdiv x0 10)) ((strOfBytes ([IntKind.u8.wrap (IntKind.i64.wrap (48 - (Int.tmod x0 10)))] : List Int)) ++ s3)
  else
   none
 else
  bif decide ((([45] : List UInt8)).length + (s3).length ≤ 9223372036854775807) then
   some (([45] : List UInt8) ++ s3)
  else
   none := by kernel_rfl
theorem types_stands.f_eq (bar : Bar) (k : Nat) (a0 : List Nod) (a1 : Int) : types_stands.f bar (k + 1) a0 a1 =
 (rd a0 a1).bind fun e_1 =>
 bif (a1 == 0) then
  some (e_1.parent == (-1))
 else
  bif decide (e_1.parent ≥ 0) then
   bif decide (e_1.parent < a1) then
    (rd a0 e_1.parent).bind fun e_2 =>
    (types_Inner.f bar k e_2.kind).bind fun r_3 =>
    some r_3
   else
    some false
  else
   some false := by kernel_rfl
theorem types_kids.f_eq (bar : Bar) (k : Nat) (a0 : List Nod) (a1 : Int) : types_kids.f bar (k + 1) a0 a1 =
 types_kids.l0 bar k k a1 a0 ((a0).length : Int) 0 ([] : List Int) := by kernel_rfl
theorem types_kids.l0_eq (bar : Bar) (k : Nat) (n : Nat) (at_1 : Int) (x11 : List Nod) (x12 : Int) (x13 : Int) (x2005 : List Int) : types_kids.l0 bar k (n + 1) at_1 x11 x12 x13 x2005 =
 bif decide (x13 < x12) then
  (rd x11 x13).bind fun e_1 =>
  bif decide (x13 > 0) then
   bif (e_1.parent == at_1) then
    bif decide (((x2005).length + (([x13] : List Int)).length) * 8 ≤ 140737488355328) then
     types_kids.l0 bar k n at_1 x11 x12 (IntKind.i64.wrap (x13 + 1)) (x2005 ++ ([x13] : List Int))
    else
     none
   else
    types_kids.l0 bar k n at_1 x11 x12 (IntKind.i64.wrap (x13 + 1)) x2005
  else
   types_kids.l0 bar k n at_1 x11 x12 (IntKind.i64.wrap (x13 + 1)) x2005
 else
  some x2005 := by kernel_rfl
theorem types_way.f_eq (bar : Bar) (k : Nat) (a0 : List Nod) (a1 : Int) : types_way.f bar (k + 1) a0 a1 =
 types_way.l0 bar k k a0 a1 ([] : List Int) := by kernel_rfl
theorem types_way.l0_eq (bar : Bar) (k : Nat) (n : Nat) (t0 : List Nod) (at_1 : Int) (x2005 : List Int) : types_way.l0 bar k (n + 1) t0 at_1 x2005 =
 bif decide (at_1 ≥ 0) then
  bif decide (((x2005).length + (([at_1] : List Int)).length) * 8 ≤ 140737488355328) then
   (rd t0 at_1).bind fun e_1 =>
   types_way.l0 bar k n t0 e_1.parent (x2005 ++ ([at_1] : List Int))
  else
   none
 else
  some x2005 := by kernel_rfl
theorem slices_IndexFunc_api_Array_api_Array_array_plain_1.f_eq (bar : Bar) (k : Nat) (a0 : List Arr) (a1_0 : Int) : slices_IndexFunc_api_Array_api_Array_array_plain_1.f bar (k + 1) a0 a1_0 =
 slices_IndexFunc_api_Array_api_Array_array_plain_1.l0 bar k k a0 a1_0 ((a0).length : Int) 0 := by kernel_rfl
theorem slices_IndexFunc_api_Array_api_Array_array_plain_1.l0_eq (bar : Bar) (k : Nat) (n : Nat) (s0 : List Arr) (f1 : Int) (x7 : Int) (x8 : Int) : slices_IndexFunc_api_Array_api_Array_array_plain_1.l0 bar k (n + 1) s0 f1 x7 x8 =
 bif decide (x8 < x7) then
  (rd s0 x8).bind fun e_1 =>
  (array_plain_1.f bar k e_1 f1).bind fun r_2 =>
  bif r_2 then
   some x8
  else
   slices_IndexFunc_api_Array_api_Array_array_plain_1.l0 bar k n s0 f1 x7 (IntKind.i64.wrap (x8 + 1))
 else
  some (-1) := by kernel_rfl
theorem types_Inner.f_eq (bar : Bar) (k : Nat) (a0 : Int) : types_Inner.f bar (k + 1) a0 =
 bif (!(a0 == 3)) then
  some (a0 == 4)
 else
  some true := by kernel_rfl
theorem num_Get.f_eq (bar : Bar) (k : Nat) (a0 : List UInt8) (a1 : Int) (a2 : Int) : num_Get.f bar (k + 1) a0 a1 a2 =
 bif (a2 != 4) then
  bif (!(a2 != 8)) then
   bif (!(decide (a1 < 0))) then
    bif (!(decide (a1 > ((a0).length : Int)))) then
     bif decide ((IntKind.i64.wrap (((a0).length : Int) - a1)) < a2) then
      some (0, 300)
     else
      bif decide (0 ≤ IntKind.i64.wrap (a1 + a2)) && decide (IntKind.i64.wrap (a1 + a2) ≤ (((a0).length : Nat) : Int)) then
       bif decide (0 ≤ a1) && decide (a1 ≤ (((IntKind.i64.wrap (a1 + a2)).toNat : Nat) : Int)) then
        (num_Of.f bar k (List.drop ((a1).toNat) (List.take ((IntKind.i64.wrap (a1 + a2)).toNat) a0))).bind fun r_1 =>
        bif (a2 == 4) then
         (pad_May.f bar k r_1).bind fun r_2 =>
         bif (!r_2) then
          some (0, 300)
         else
          some (r_1, 0)
        else
         some (r_1, 0)
       else
        none
      else
       none
    else
     some (0, 300)
   else
    some (0, 300)
  else
   some (0, 300)
 else
  bif (!(decide (a1 < 0))) then
   bif (!(decide (a1 > ((a0).length : Int)))) then
    bif decide ((IntKind.i64.wrap (((a0).length : Int) - a1)) < a2) then
     some (0, 300)
    else
     bif decide (0 ≤ IntKind.i64.wrap (a1 + a2)) && decide (IntKind.i64.wrap (a1 + a2) ≤ (((a0).length : Nat) : Int)) then
      bif decide (0 ≤ a1) && decide (a1 ≤ (((IntKind.i64.wrap (a1 + a2)).toNat : Nat) : Int)) then
       (num_Of.f bar k (List.drop ((a1).toNat) (List.take ((IntKind.i64.wrap (a1 + a2)).toNat) a0))).bind fun r_3 =>
       bif (a2 == 4) then
        (pad_May.f bar k r_3).bind fun r_4 =>
        bif (!r_4) then
         some (0, 300)
        else
         some (r_3, 0)
       else
        some (r_3, 0)
      else
       none
     else
      none
   else
    some (0, 300)
  else
   some (0, 300) := by kernel_rfl
theorem bits_On.f_eq (bar : Bar) (k : Nat) (a0 : List UInt8) (a1 : Int) : bits_On.f bar (k + 1) a0 a1 =
 (rd a0 (IntKind.i64.wrap (Int.tdiv a1 8))).bind fun b_1 =>
 bif decide (Int.tmod a1 8 < 0) then
  none
 else
  some ((bitsOp .and .u8 (Int.fdiv (b_1.toNat : Int) (2 ^ (min (Int.tmod a1 8).toNat IntKind.u8.bits))) 1) == 1) := by kernel_rfl
theorem value_Int.f_eq (bar : Bar) (k : Nat) (a0 : Int) : value_Int.f bar (k + 1) a0 =
 (strconv_Itoa.f bar k a0).bind fun r_1 =>
 bif decide ((([105] : List UInt8)).length + (r_1).length ≤ 9223372036854775807) then
  bif decide ((([105] : List UInt8) ++ r_1).length + (([59] : List UInt8)).length ≤ 9223372036854775807) then
   some ((([105] : List UInt8) ++ r_1) ++ ([59] : List UInt8))
  else
   none
 else
  none := by kernel_rfl
theorem num_Of.f_eq (bar : Bar) (k : Nat) (a0 : List UInt8) : num_Of.f bar (k + 1) a0 =
 num_Of.l0 bar k k a0 0 ((a0).length : Int) 0 := by kernel_rfl
theorem num_Of.l0_eq (bar : Bar) (k : Nat) (n : Nat) (s0 : List UInt8) (out3 : Int) (x6 : Int) (x7 : Int) : num_Of.l0 bar k (n + 1) s0 out3 x6 x7 =
 bif decide (x7 < x6) then
  (rd s0 x7).bind fun b_1 =>
  bif decide (IntKind.i64.wrap (8 * x7) < 0) then
   none
  else
   num_Of.l0 bar k n s0 (bitsOp .or .u64 out3 (IntKind.u64.wrap ((IntKind.u64.wrap (b_1.toNat : Int)) * 2 ^ (min (IntKind.i64.wrap (8 * x7)).toNat IntKind.u64.bits)))) x6 (IntKind.i64.wrap (x7 + 1))
 else
  some (IntKind.i64.wrap out3) := by kernel_rfl
theorem value_Bool.f_eq (bar : Bar) (k : Nat) (a0 : Bool) : value_Bool.f bar (k + 1) a0 =
 bif a0 then
  some ([116] : List UInt8)
 else
  some ([102] : List UInt8) := by kernel_rfl
theorem value_Bytes.f_eq (bar : Bar) (k : Nat) (a0 : List UInt8) : value_Bytes.f bar (k + 1) a0 =
 (strconv_Itoa.f bar k ((a0).length : Int)).bind fun r_1 =>
 bif decide ((([115] : List UInt8)).length + (r_1).length ≤ 9223372036854775807) then
  bif decide ((([115] : List UInt8) ++ r_1).length + (([58] : List UInt8)).length ≤ 9223372036854775807) then
   bif decide (((([115] : List UInt8) ++ r_1) ++ ([58] : List UInt8)).length + (a0).length ≤ 9223372036854775807) then
    some (((([115] : List UInt8) ++ r_1) ++ ([58] : List UInt8)) ++ a0)
   else
    none
  else
   none
 else
  none := by kernel_rfl
theorem value_List.f_eq (bar : Bar) (k : Nat) (a0 : List (List UInt8)) : value_List.f bar (k + 1) a0 =
 (strings_Join.f bar k a0 ([] : List UInt8)).bind fun r_1 =>
 bif decide ((([91] : List UInt8)).length + (r_1).length ≤ 9223372036854775807) then
  bif decide ((([91] : List UInt8) ++ r_1).length + (([93] : List UInt8)).length ≤ 9223372036854775807) then
   some ((([91] : List UInt8) ++ r_1) ++ ([93] : List UInt8))
  else
   none
 else
  none := by kernel_rfl
theorem value_Struct.f_eq (bar : Bar) (k : Nat) (a0 : List (List UInt8)) : value_Struct.f bar (k + 1) a0 =
 (strings_Join.f bar k a0 ([] : List UInt8)).bind fun r_1 =>
 bif decide ((([123] : List UInt8)).length + (r_1).length ≤ 9223372036854775807) then
  bif decide ((([123] : List UInt8) ++ r_1).length + (([125] : List UInt8)).length ≤ 9223372036854775807) then
   some ((([123] : List UInt8) ++ r_1) ++ ([125] : List UInt8))
  else
   none
 else
  none := by kernel_rfl
theorem quiverref0_Decimal.f_eq (bar : Bar) (k : Nat) (a0 : Int) : quiverref0_Decimal.f bar (k + 1) a0 =
 bif decide (a0 < 0) then
  bar _ (quiverref0_Decimal.j4 bar k a0 (IntKind.u64.wrap ((IntKind.u64.wrap (IntKind.i64.wrap (0 - (IntKind.i64.wrap (a0 + 1))))) + 1)))
 else
  bar _ (quiverref0_Decimal.j4 bar k a0 (IntKind.u64.wrap a0)) := by kernel_rfl
theorem quiverref0_Decimal.j4_eq (bar : Bar) (k : Nat) (x0 : Int) (size3 : Int) : quiverref0_Decimal.j4 bar k x0 size3 =
 quiverref0_Decimal.l0 bar k k x0 size3 ([] : List Int) := by kernel_rfl
theorem quiverref0_Decimal.l0_eq (bar : Bar) (k : Nat) (n : Nat) (x0 : Int) (size3 : Int) (x2004 : List Int) : quiverref0_Decimal.l0 bar k (n + 1) x0 size3 x2004 =
 bif (!(decide (size3 > 0))) then
  bif (((x2004).length : Int) == 0) then
   bif decide (((([IntKind.u8.wrap (IntKind.u64.wrap (48 + (Int.tmod size3 10)))] : List Int)).length + (x2004).length) * 1 ≤ 140737488355328) then
    quiverref0_Decimal.l0 bar k n x0 (IntKind.u64.wrap (Int.tdiv size3 10)) (([IntKind.u8.wrap (IntKind.u64.wrap (48 + (Int.tmod size3 10)))] : List Int) ++ x2004)
   else
    none
  else
   bif decide (x0 < 0) then
    bif decide (((([45] : List Int)).length + (x2004).length) * 1 ≤ 140737488355328) then
     some (strOfBytes (([45] : List Int) ++ x2004))
    else
     none
   else
    some (strOfBytes x2004)
 else
  bif decide (((([IntKind.u8.wrap (IntKind.u64.wrap (48 + (Int.tmod size3 10)))] : List Int)).length + (x2004).length) * 1 ≤ 140737488355328) then
   quiverref0_Decimal.l0 bar k n x0 (IntKind.u64.wrap (Int.tdiv size3 10)) (([IntKind.u8.wrap (IntKind.u64.wrap (48 + (Int.tmod size3 10)))] : List Int) ++ x2004)
  else
   none := by kernel_rfl
theorem array_plain_1.f_eq (bar : Bar) (k : Nat) (a0 : Arr) (a1 : Int) : array_plain_1.f bar (k + 1) a0 a1 =
 some (decide (a0.length < a1)) := by kernel_rfl
theorem pad_May.f_eq (bar : Bar) (k : Nat) (a0 : Int) : pad_May.f bar (k + 1) a0 =
 bif decide (a0 ≥ 0) then
  some (decide (a0 ≤ 2147483647))
 else
  some false := by kernel_rfl
theorem strconv_Itoa.f_eq (bar : Bar) (k : Nat) (a0 : Int) : strconv_Itoa.f bar (k + 1) a0 =
   extItoa a0 := by kernel_rfl
theorem strings_Join.f_eq (bar : Bar) (k : Nat) (a0 : List (List UInt8)) (a1 : List UInt8) : strings_Join.f bar (k + 1) a0 a1 =
   extJoin a0 a1 := by kernel_rfl

end Go.Proofs.YtppmpfddcohkjaaGreatDoorA
