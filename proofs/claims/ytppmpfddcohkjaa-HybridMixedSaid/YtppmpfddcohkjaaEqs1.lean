/- Each function and each loop of the program answers as its equation says; no condition. -/
import Derived.Test.YtppmpfddcohkjaaFns
namespace Go.Proofs.YtppmpfddcohkjaaA
open Go
set_option linter.unusedVariables false
theorem num_Of.f_eq (bar : Bar) (k : Nat) (a0 : List UInt8) : num_Of.f bar (k + 1) a0 =
 num_Of.l0 bar k k a0 0 ((a0).length : Int) 0 := by kernel_rfl
theorem num_Of.l0_eq (bar : Bar) (k : Nat) (n : Nat) (s0 : List UInt8) (out3 : Int) (x6 : Int) (x7 : Int) : num_Of.l0 bar k (n + 1) s0 out3 x6 x7 =
 bif decide (x7 < x6) then
  (rd s0 x7).bind fun b_1 =>
  bif decide (IntKind.i64.wrap (8 * x7) < 0) then
   none
  else
   num_Of.l0 bar k n s0 (bitsOp .or .u64 out3 (IntKind.u64.wrap ((IntKind.u64.wrap (b_1.toNat : Int)) * 2 ^ (min (IntKind.i64.wrap (8 * x7)).toNat IntKind.u64.bits)))) x6 (IntKind.i64.wrap (x7 + 1))
 else
  some (IntKind.i64.wrap out3) := by kernel_rfl
theorem hybrid_taker_bytes.f_eq (bar : Bar) (k : Nat) (a0_0 : List UInt8) (a0_1 : Int) (a0_2 : List Int) (a0_3 : Bool) (a1 : Int) : hybrid_taker_bytes.f bar (k + 1) a0_0 a0_1 a0_2 a0_3 a1 =
 bif (!a0_3) then
  bif decide (a1 > ((a0_0).length : Int)) then
   some (([] : List UInt8), (a0_0, a0_1, a0_2, true))
  else
   bif decide (0 ≤ a1) && decide (a1 ≤ (((a0_0).length : Nat) : Int)) then
    bif decide (0 ≤ a1) && decide (a1 ≤ (((a0_0).length : Nat) : Int)) then
     some (List.drop 0 (List.take ((a1).toNat) a0_0), (List.drop ((a1).toNat) (List.take ((a0_0).length) a0_0), a0_1, a0_2, a0_3))
    else
     none
   else
    none
 else
  some (([] : List UInt8), (a0_0, a0_1, a0_2, true)) := by kernel_rfl
theorem slices_Repeat_int_int.f_eq (bar : Bar) (k : Nat) (a0 : List Int) (a1 : Int) : slices_Repeat_int_int.f bar (k + 1) a0 a1 =
 bif decide (a1 < 0) then
  none
 else
  bar _ (slices_Repeat_int_int.j3 bar k a0 a1) := by kernel_rfl
theorem slices_Repeat_int_int.j3_eq (bar : Bar) (k : Nat) (x0 : List Int) (count1 : Int) : slices_Repeat_int_int.j3 bar k x0 count1 =
 (math_bits_Mul.f bar k (IntKind.u64.wrap ((x0).length : Int)) (IntKind.u64.wrap count1)).bind fun r_1 =>
 bif (!(decide (r_1.1 > 0))) then
  bif decide (r_1.2 > 9223372036854775807) then
   none
  else
   bar _ (slices_Repeat_int_int.j6 bar k x0 r_1.2)
 else
  none := by kernel_rfl
theorem slices_Repeat_int_int.j6_eq (bar : Bar) (k : Nat) (x0 : List Int) (lo6 : Int) : slices_Repeat_int_int.j6 bar k x0 lo6 =
 bif (IntKind.i64.wrap lo6 == IntKind.i64.wrap lo6) && (decide (0 ≤ IntKind.i64.wrap lo6) && decide ((IntKind.i64.wrap lo6) * 8 ≤ 140737488355328)) then
  bif Nat.ble (0 + ((List.replicate (IntKind.i64.wrap lo6).toNat (0 : Int) : List Int)).length) ((List.replicate (IntKind.i64.wrap lo6).toNat (0 : Int) : List Int)).length then
   slices_Repeat_int_int.l0 bar k k ((min (x0).length (((List.replicate (IntKind.i64.wrap lo6).toNat (0 : Int) : List Int)).length) : Nat) : Int) (List.take 0 (List.replicate (IntKind.i64.wrap lo6).toNat (0 : Int) : List Int) ++ List.take (((List.replicate (IntKind.i64.wrap lo6).toNat (0 : Int) : List Int)).length) x0 ++ List.drop (0 + (min (x0).length (((List.replicate (IntKind.i64.wrap lo6).toNat (0 : Int) : List Int)).length))) (List.replicate (IntKind.i64.wrap lo6).toNat (0 : Int) : List Int))
  else
   none
 else
  none := by kernel_rfl
theorem slices_Repeat_int_int.l0_eq (bar : Bar) (k : Nat) (n : Nat) (n_8 : Int) (x2007 : List Int) : slices_Repeat_int_int.l0 bar k (n + 1) n_8 x2007 =
 bif decide (n_8 < ((x2007).length : Int)) then
  bif decide (0 ≤ n_8) && decide (n_8 ≤ (((x2007).length : Nat) : Int)) then
   bif decide (0 ≤ n_8) && decide (n_8 ≤ (((x2007).length : Nat) : Int)) then
    bif Nat.ble ((n_8).toNat + (((x2007).length) - ((n_8).toNat))) (x2007).length then
     (bif Nat.ble (0 + (n_8).toNat) (x2007).length then some (List.take ((n_8).toNat) (List.drop 0 x2007)) else none).bind fun ys_1 =>
     slices_Repeat_int_int.l0 bar k n (IntKind.i64.wrap (n_8 + ((min (ys_1).length (((x2007).length) - ((n_8).toNat)) : Nat) : Int))) (List.take ((n_8).toNat) x2007 ++ List.take (((x2007).length) - ((n_8).toNat)) ys_1 ++ List.drop (((n_8).toNat) + (min (ys_1).length (((x2007).length) - ((n_8).toNat)))) x2007)
    else
     none
   else
    none
  else
   none
 else
  some x2007 := by kernel_rfl
theorem bits_On.f_eq (bar : Bar) (k : Nat) (a0 : List UInt8) (a1 : Int) : bits_On.f bar (k + 1) a0 a1 =
 (rd a0 (IntKind.i64.wrap (Int.tdiv a1 8))).bind fun b_1 =>
 bif decide (Int.tmod a1 8 < 0) then
  none
 else
  some ((bitsOp .and .u8 (Int.fdiv (b_1.toNat : Int) (2 ^ (min (Int.tmod a1 8).toNat IntKind.u8.bits))) 1) == 1) := by kernel_rfl
theorem slices_IndexFunc_int_int_hybrid_may_1.f_eq (bar : Bar) (k : Nat) (a0 : List Int) (a1_0 : Int) : slices_IndexFunc_int_int_hybrid_may_1.f bar (k + 1) a0 a1_0 =
 slices_IndexFunc_int_int_hybrid_may_1.l0 bar k k a0 a1_0 ((a0).length : Int) 0 := by kernel_rfl
theorem slices_IndexFunc_int_int_hybrid_may_1.l0_eq (bar : Bar) (k : Nat) (n : Nat) (s0 : List Int) (f1 : Int) (x7 : Int) (x8 : Int) : slices_IndexFunc_int_int_hybrid_may_1.l0 bar k (n + 1) s0 f1 x7 x8 =
 bif decide (x8 < x7) then
  (rd s0 x8).bind fun e_1 =>
  (hybrid_may_1.f bar k e_1 f1).bind fun r_2 =>
  bif r_2 then
   some x8
  else
   slices_IndexFunc_int_int_hybrid_may_1.l0 bar k n s0 f1 x7 (IntKind.i64.wrap (x8 + 1))
 else
  some (-1) := by kernel_rfl
theorem quiverref1_upTo.f_eq (bar : Bar) (k : Nat) (a0 : Int) (a1 : Int) (a2 : Int) : quiverref1_upTo.f bar (k + 1) a0 a1 a2 =
 bif decide (a0 ≥ a1) then
  some (decide (a0 ≤ a2))
 else
  some false := by kernel_rfl
theorem math_bits_Mul.f_eq (bar : Bar) (k : Nat) (a0 : Int) (a1 : Int) : math_bits_Mul.f bar (k + 1) a0 a1 =
 (math_bits_Mul64.f bar k a0 a1).bind fun r_1 =>
 some (r_1.1, r_1.2) := by kernel_rfl
theorem hybrid_may_1.f_eq (bar : Bar) (k : Nat) (a0 : Int) (a1 : Int) : hybrid_may_1.f bar (k + 1) a0 a1 =
 bif (!(decide (a0 < 0))) then
  bif decide (a1 < 0) then
   none
  else
   some (decide ((Int.fdiv a0 (2 ^ (min (a1).toNat IntKind.i64.bits))) > 0))
 else
  some true := by kernel_rfl
theorem math_bits_Mul64.f_eq (bar : Bar) (k : Nat) (a0 : Int) (a1 : Int) : math_bits_Mul64.f bar (k + 1) a0 a1 =
 some (IntKind.u64.wrap ((IntKind.u64.wrap ((IntKind.u64.wrap ((Int.fdiv a0 (2 ^ (min 32 IntKind.u64.bits))) * (Int.fdiv a1 (2 ^ (min 32 IntKind.u64.bits))))) + (Int.fdiv (IntKind.u64.wrap ((IntKind.u64.wrap ((Int.fdiv a0 (2 ^ (min 32 IntKind.u64.bits))) * (bitsOp .and .u64 a1 4294967295))) + (Int.fdiv (IntKind.u64.wrap ((bitsOp .and .u64 a0 4294967295) * (bitsOp .and .u64 a1 4294967295))) (2 ^ (min 32 IntKind.u64.bits))))) (2 ^ (min 32 IntKind.u64.bits))))) + (Int.fdiv (IntKind.u64.wrap ((bitsOp .and .u64 (IntKind.u64.wrap ((IntKind.u64.wrap ((Int.fdiv a0 (2 ^ (min 32 IntKind.u64.bits))) * (bitsOp .and .u64 a1 4294967295))) + (Int.fdiv (IntKind.u64.wrap ((bitsOp .and .u64 a0 4294967295) * (bitsOp .and .u64 a1 4294967295))) (2 ^ (min 32 IntKind.u64.bits))))) 4294967295) + (IntKind.u64.wrap ((bitsOp .and .u64 a0 4294967295) * (Int.fdiv a1 (2 ^ (min 32 IntKind.u64.bits))))))) (2 ^ (min 32 IntKind.u64.bits)))), IntKind.u64.wrap (a0 * a1)) := by kernel_rfl

end Go.Proofs.YtppmpfddcohkjaaA
