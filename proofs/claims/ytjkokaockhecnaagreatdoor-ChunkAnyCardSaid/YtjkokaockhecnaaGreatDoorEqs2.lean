/- Each function and each loop of the program answers as its equation says; no condition. -/
import Derived.Test.YtjkokaockhecnaaGreatDoorFns
namespace Go.Proofs.YtjkokaockhecnaaGreatDoorA
open Go
set_option linter.unusedVariables false
theorem math_bits_Mul.f_eq (bar : Bar) (k : Nat) (a0 : Int) (a1 : Int) : math_bits_Mul.f bar (k + 1) a0 a1 =
 (math_bits_Mul64.f bar k a0 a1).bind fun r_1 =>
 some (r_1.1, r_1.2) := by kernel_rfl
theorem quiverref7_whole.f_eq (bar : Bar) (k : Nat) (a0 : List UInt8) : quiverref7_whole.f bar (k + 1) a0 =
 quiverref7_whole.l0 bar k k a0 0 0 := by kernel_rfl
theorem quiverref7_whole.l0_eq (bar : Bar) (k : Nat) (n : Nat) (s0 : List UInt8) (x4 : Int) (i5 : Int) : quiverref7_whole.l0 bar k (n + 1) s0 x4 i5 =
 bif decide (i5 < ((s0).length : Int)) then
  bif decide (((s0).length : Int) < 21) then
   (rd s0 i5).bind fun b_1 =>
   bif ((b_1.toNat : Int) == 45) then
    bif (i5 == 0) then
     quiverref7_whole.l0 bar k n s0 x4 (IntKind.i64.wrap (i5 + 1))
    else
     (rd s0 i5).bind fun b_2 =>
     bif (!(decide ((b_2.toNat : Int) < 48))) then
      (rd s0 i5).bind fun b_3 =>
      bif decide ((b_3.toNat : Int) > 57) then
       some (0, false)
      else
       (rd s0 0).bind fun b_4 =>
       bif ((b_4.toNat : Int) == 45) then
        (rd s0 i5).bind fun b_5 =>
        quiverref7_whole.l0 bar k n s0 (IntKind.i64.wrap ((IntKind.i64.wrap (10 * x4)) - (IntKind.i64.wrap (IntKind.u8.wrap ((b_5.toNat : Int) - 48))))) (IntKind.i64.wrap (i5 + 1))
       else
        (rd s0 i5).bind fun b_6 =>
        quiverref7_whole.l0 bar k n s0 (IntKind.i64.wrap ((IntKind.i64.wrap (10 * x4)) + (IntKind.i64.wrap (IntKind.u8.wrap ((b_6.toNat : Int) - 48))))) (IntKind.i64.wrap (i5 + 1))
     else
      some (0, false)
   else
    (rd s0 i5).bind fun b_7 =>
    bif (!(decide ((b_7.toNat : Int) < 48))) then
     (rd s0 i5).bind fun b_8 =>
     bif decide ((b_8.toNat : Int) > 57) then
      some (0, false)
     else
      (rd s0 0).bind fun b_9 =>
      bif ((b_9.toNat : Int) == 45) then
       (rd s0 i5).bind fun b_10 =>
       quiverref7_whole.l0 bar k n s0 (IntKind.i64.wrap ((IntKind.i64.wrap (10 * x4)) - (IntKind.i64.wrap (IntKind.u8.wrap ((b_10.toNat : Int) - 48))))) (IntKind.i64.wrap (i5 + 1))
      else
       (rd s0 i5).bind fun b_11 =>
       quiverref7_whole.l0 bar k n s0 (IntKind.i64.wrap ((IntKind.i64.wrap (10 * x4)) + (IntKind.i64.wrap (IntKind.u8.wrap ((b_11.toNat : Int) - 48))))) (IntKind.i64.wrap (i5 + 1))
    else
     some (0, false)
  else
   (quiverref7_digits.f bar k x4).bind fun r_12 =>
   some (x4, (r_12 == s0))
 else
  (quiverref7_digits.f bar k x4).bind fun r_13 =>
  some (x4, (r_13 == s0)) := by kernel_rfl
theorem slices_IndexFunc_int_int_hybrid_may_1.f_eq (bar : Bar) (k : Nat) (a0 : List Int) (a1_0 : Int) : slices_IndexFunc_int_int_hybrid_may_1.f bar (k + 1) a0 a1_0 =
 slices_IndexFunc_int_int_hybrid_may_1.l0 bar k k a0 a1_0 ((a0).length : Int) 0 := by kernel_rfl
theorem slices_IndexFunc_int_int_hybrid_may_1.l0_eq (bar : Bar) (k : Nat) (n : Nat) (s0 : List Int) (f1 : Int) (x7 : Int) (x8 : Int) : slices_IndexFunc_int_int_hybrid_may_1.l0 bar k (n + 1) s0 f1 x7 x8 =
 bif decide (x8 < x7) then
  (rd s0 x8).bind fun e_1 =>
  (hybrid_may_1.f bar k e_1 f1).bind fun r_2 =>
  bif r_2 then
   some x8
  else
   slices_IndexFunc_int_int_hybrid_may_1.l0 bar k n s0 f1 x7 (IntKind.i64.wrap (x8 + 1))
 else
  some (-1) := by kernel_rfl
theorem strings_Cut.f_eq (bar : Bar) (k : Nat) (a0 : List UInt8) (a1 : List UInt8) : strings_Cut.f bar (k + 1) a0 a1 =
   extCut a0 a1 := by kernel_rfl
theorem math_bits_Mul64.f_eq (bar : Bar) (k : Nat) (a0 : Int) (a1 : Int) : math_bits_Mul64.f bar (k + 1) a0 a1 =
 some (IntKind.u64.wrap ((IntKind.u64.wrap ((IntKind.u64.wrap ((Int.fdiv a0 (2 ^ (min 32 IntKind.u64.bits))) * (Int.fdiv a1 (2 ^ (min 32 IntKind.u64.bits))))) + (Int.fdiv (IntKind.u64.wrap ((IntKind.u64.wrap ((Int.fdiv a0 (2 ^ (min 32 IntKind.u64.bits))) * (bitsOp .and .u64 a1 4294967295))) + (Int.fdiv (IntKind.u64.wrap ((bitsOp .and .u64 a0 4294967295) * (bitsOp .and .u64 a1 4294967295))) (2 ^ (min 32 IntKind.u64.bits))))) (2 ^ (min 32 IntKind.u64.bits))))) + (Int.fdiv (IntKind.u64.wrap ((bitsOp .and .u64 (IntKind.u64.wrap ((IntKind.u64.wrap ((Int.fdiv a0 (2 ^ (min 32 IntKind.u64.bits))) * (bitsOp .and .u64 a1 4294967295))) + (Int.fdiv (IntKind.u64.wrap ((bitsOp .and .u64 a0 4294967295) * (bitsOp .and .u64 a1 4294967295))) (2 ^ (min 32 IntKind.u64.bits))))) 4294967295) + (IntKind.u64.wrap ((bitsOp .and .u64 a0 4294967295) * (Int.fdiv a1 (2 ^ (min 32 IntKind.u64.bits))))))) (2 ^ (min 32 IntKind.u64.bits)))), IntKind.u64.wrap (a0 * a1)) := by kernel_rfl
theorem quiverref7_digits.f_eq (bar : Bar) (k : Nat) (a0 : Int) : quiverref7_digits.f bar (k + 1) a0 =
 bif decide (a0 ≥ 0) then
  (quiverref0_Decimal.f bar k a0).bind fun r_1 =>
  some r_1
 else
  quiverref7_digits.l0 bar k k a0 ([] : List UInt8) := by kernel_rfl
theorem quiverref7_digits.l0_eq (bar : Bar) (k : Nat) (n : Nat) (x0 : Int) (s3 : List UInt8) : quiverref7_digits.l0 bar k (n + 1) x0 s3 =
 bif decide (x0 < 0) then
  bif decide ((strOfBytes ([IntKind.u8.wrap (IntKind.i64.wrap (48 - (Int.tmod x0 10)))] : List Int)).length + (s3).length ≤ 9223372036854775807) then
   quiverref7_digits.l0 bar k n (IntKind.i64.wrap (Int.tdiv x0 10)) ((strOfBytes ([IntKind.u8.wrap (IntKind.i64.wrap (48 - (Int.tmod x0 10)))] : List Int)) ++ s3)
  else
   none
 else
  bif decide ((([45] : List UInt8)).length + (s3).length ≤ 9223372036854775807) then
   some (([45] : List UInt8) ++ s3)
  else
   none := by kernel_rfl
theorem hybrid_may_1.f_eq (bar : Bar) (k : Nat) (a0 : Int) (a1 : Int) : hybrid_may_1.f bar (k + 1) a0 a1 =
 bif (!(decide (a0 < 0))) then
  bif decide (a1 < 0) then
   none
  else
   some (decide ((Int.fdiv a0 (2 ^ (min (a1).toNat IntKind.i64.bits))) > 0))
 else
  some true := by kernel_rfl
theorem quiverref0_Decimal.f_eq (bar : Bar) (k : Nat) (a0 : Int) : quiverref0_Decimal.f bar (k + 1) a0 =
 bif decide (a0 < 0) then
  bar _ (quiverref0_Decimal.j4 bar k a0 (IntKind.u64.wrap ((IntKind.u64.wrap (IntKind.i64.wrap (0 - (IntKind.i64.wrap (a0 + 1))))) + 1)))
 else
  bar _ (quiverref0_Decimal.j4 bar k a0 (IntKind.u64.wrap a0)) := by kernel_rfl
theorem quiverref0_Decimal.j4_eq (bar : Bar) (k : Nat) (x0 : Int) (size3 : Int) : quiverref0_Decimal.j4 bar k x0 size3 =
 quiverref0_Decimal.l0 bar k k x0 size3 ([] : List Int) := by kernel_rfl
theorem quiverref0_Decimal.l0_eq (bar : Bar) (k : Nat) (n : Nat) (x0 : Int) (size3 : Int) (x2004 : List Int) : quiverref0_Decimal.l0 bar k (n + 1) x0 size3 x2004 =
 bif (!(decide (size3 > 0))) then
  bif (((x2004).length : Int) == 0) then
   bif decide (((([IntKind.u8.wrap (IntKind.u64.wrap (48 + (Int.tmod size3 10)))] : List Int)).length + (x2004).length) * 1 ≤ 140737488355328) then
    quiverref0_Decimal.l0 bar k n x0 (IntKind.u64.wrap (Int.tdiv size3 10)) (([IntKind.u8.wrap (IntKind.u64.wrap (48 + (Int.tmod size3 10)))] : List Int) ++ x2004)
   else
    none
  else
   bif decide (x0 < 0) then
    bif decide (((([45] : List Int)).length + (x2004).length) * 1 ≤ 140737488355328) then
     some (strOfBytes (([45] : List Int) ++ x2004))
    else
     none
   else
    some (strOfBytes x2004)
 else
  bif decide (((([IntKind.u8.wrap (IntKind.u64.wrap (48 + (Int.tmod size3 10)))] : List Int)).length + (x2004).length) * 1 ≤ 140737488355328) then
   quiverref0_Decimal.l0 bar k n x0 (IntKind.u64.wrap (Int.tdiv size3 10)) (([IntKind.u8.wrap (IntKind.u64.wrap (48 + (Int.tmod size3 10)))] : List Int) ++ x2004)
  else
   none := by kernel_rfl

end Go.Proofs.YtjkokaockhecnaaGreatDoorA
