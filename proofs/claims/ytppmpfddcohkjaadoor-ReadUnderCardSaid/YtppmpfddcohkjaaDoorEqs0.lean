/- Each function and each loop of the program answers as its equation says; no condition. -/
import Derived.Test.YtppmpfddcohkjaaDoorFns
namespace Go.Proofs.YtppmpfddcohkjaaDoorA
open Go
set_option linter.unusedVariables false
theorem quiverlaw9_Reads.f_eq (bar : Bar) (k : Nat) (a0 : List Nod) (a1 : Int) (a2 : Arr) (a3 : Int) : quiverlaw9_Reads.f bar (k + 1) a0 a1 a2 a3 =
 (quiverlaw0_CopyArray.f bar k a2).bind fun r_1 =>
 (read_Value.f bar k a0 a1 r_1 a3).bind fun r_2 =>
 (quiverref7_Value.f bar k a0 a1 a2 a3).bind fun r_3 =>
 (read_Values.f bar k a0 a1 r_1).bind fun r_4 =>
 (quiverref7_Values.f bar k a0 a1 a2).bind fun r_5 =>
 bif (r_2.1 == r_3.1) then
  (quiverlaw0_Num.f bar k r_2.2).bind fun r_6 =>
  bif (r_6 == r_3.2) then
   (quiverlaw0_SameTexts.f bar k r_4.1 r_5.1).bind fun r_7 =>
   bif r_7 then
    (quiverlaw0_Num.f bar k r_4.2).bind fun r_8 =>
    bif (r_8 == r_5.2) then
     (quiverlaw0_SameArray.f bar k r_1 a2).bind fun r_9 =>
     bif r_9 then
      (quiverlaw9_awake.f bar k).bind fun r_10 =>
      some r_10
     else
      some false
    else
     some false
   else
    some false
  else
   some false
 else
  some false := by kernel_rfl
theorem quiverlaw9_ReadFits.f_eq (bar : Bar) (k : Nat) (a0 : List Nod) (a1 : Int) (a2 : Arr) : quiverlaw9_ReadFits.f bar (k + 1) a0 a1 a2 =
 (quiverlaw9_awake.f bar k).bind fun r_1 =>
 bif (!r_1) then
  some false
 else
  (read_Values.f bar k a0 a1 a2).bind fun r_2 =>
  (quiverlaw0_Num.f bar k r_2.2).bind fun r_3 =>
  bif (r_3 != 0) then
   some (((r_2.1).length : Int) == 0)
  else
   bif (((r_2.1).length : Int) != a2.length) then
    some false
   else
    quiverlaw9_ReadFits.l0 bar k k a1 0 a0 a2.layout a2.offset a2.length a2.valid a2.ends a2.data a2.kids r_2.1 := by kernel_rfl
theorem quiverlaw9_ReadFits.l0_eq (bar : Bar) (k : Nat) (n : Nat) (at_1 : Int) (i9 : Int) (t3 : List Nod) (a5 : Int) (a5_1 : Int) (a5_2 : Int) (a5_3 : List UInt8) (a5_4 : List UInt8) (a5_5 : List UInt8) (a5_6 : List Arr) (x2007 : List (List UInt8)) : quiverlaw9_ReadFits.l0 bar k (n + 1) at_1 i9 t3 a5 a5_1 a5_2 a5_3 a5_4 a5_5 a5_6 x2007 =
 bif decide (i9 < ((x2007).length : Int)) then
  (read_Value.f bar k t3 at_1 (Arr.mk a5 a5_1 a5_2 a5_3 a5_4 a5_5 a5_6) i9).bind fun r_1 =>
  (quiverlaw0_Num.f bar k r_1.2).bind fun r_2 =>
  bif (!(r_2 != 0)) then
   bif decide (0 ≤ i9) && decide (i9 < ((x2007).length : Int)) then
    (x2007[(i9).toNat]?).bind fun e_3 =>
    bif (!(r_1.1 != e_3)) then
     (quiverref7_Fits.f bar k t3 at_1 r_1.1).bind fun r_4 =>
     bif (!r_4) then
      some false
     else
      quiverlaw9_ReadFits.l0 bar k n at_1 (IntKind.i64.wrap (i9 + 1)) t3 a5 a5_1 a5_2 a5_3 a5_4 a5_5 a5_6 x2007
    else
     some false
   else
    none
  else
   some false
 else
  some true := by kernel_rfl
theorem quiverlaw9_ReadForms.f_eq (bar : Bar) (k : Nat) (a0 : List Nod) (a1 : Int) (a2 : Arr) (a3 : Int) : quiverlaw9_ReadForms.f bar (k + 1) a0 a1 a2 a3 =
 (quiverlaw9_awake.f bar k).bind fun r_1 =>
 bif (!r_1) then
  some false
 else
  (read_Value.f bar k a0 a1 a2 (IntKind.i64.wrap (0 - (IntKind.i64.wrap (1 + (bitsOp .and .i64 a3 1023)))))).bind fun r_2 =>
  (read_Value.f bar k a0 a1 a2 (IntKind.i64.wrap (64 + (IntKind.i64.wrap (1 + (bitsOp .and .i64 a3 1023)))))).bind fun r_3 =>
  (read_Value.f bar k a0 ((a0).length : Int) a2 0).bind fun r_4 =>
  bif (r_2.1 == ([] : List UInt8)) then
   (quiverlaw0_Num.f bar k r_2.2).bind fun r_5 =>
   bif (r_5 == 900) then
    bif (r_3.1 == ([] : List UInt8)) then
     (quiverlaw0_Num.f bar k r_3.2).bind fun r_6 =>
     bif (r_6 == 900) then
      bif (r_4.1 == ([] : List UInt8)) then
       (quiverlaw0_Num.f bar k r_4.2).bind fun r_7 =>
       some (r_7 == 900)
      else
       some false
     else
      some false
    else
     some false
   else
    some false
  else
   some false := by kernel_rfl
theorem quiverlaw9_ReadUnder.f_eq (bar : Bar) (k : Nat) (a0 : List Int) (a1 : Int) (a2 : Int) : quiverlaw9_ReadUnder.f bar (k + 1) a0 a1 a2 =
 (quiverlaw9_awake.f bar k).bind fun r_1 =>
 bif (!r_1) then
  some false
 else
  quiverlaw9_ReadUnder.l0 bar k k a0 a1 a2 0 ([(Nod.mk 0 (-1) true)] : List Nod) [] [] ([] : List (List UInt8)) := by kernel_rfl
theorem quiverlaw9_ReadUnder.l0_eq (bar : Bar) (k : Nat) (n : Nat) (xs0 : List Int) (bits1 : Int) (junk2 : Int) (i11 : Int) (t7 : List Nod) (a8 : List UInt8) (b9 : List UInt8) (x2010 : List (List UInt8)) : quiverlaw9_ReadUnder.l0 bar k (n + 1) xs0 bits1 junk2 i11 t7 a8 b9 x2010 =
 bif decide (i11 < ((xs0).length : Int)) then
  bif decide (i11 < 32) then
   (rd xs0 i11).bind fun e_1 =>
   (rd xs0 i11).bind fun e_2 =>
   (quiverref7_Int.f bar k e_1).bind fun r_3 =>
   bif decide (i11 < 0) then
    none
   else
    bif ((bitsOp .and .i64 (Int.fdiv bits1 (2 ^ (min (i11).toNat IntKind.i64.bits))) 1) == 0) then
     bar _ (quiverlaw9_ReadUnder.j15 bar k n xs0 bits1 junk2 i11 e_1 (bitsOp .xor .i64 e_1 junk2) ([110] : List UInt8) t7 a8 b9 x2010)
    else
     bar _ (quiverlaw9_ReadUnder.j15 bar k n xs0 bits1 junk2 i11 e_1 e_2 r_3 t7 a8 b9 x2010)
  else
   (read_Values.f bar k t7 0 (Arr.mk 0 0 i11 (strOfBytes ([IntKind.u8.wrap bits1, IntKind.u8.wrap (Int.fdiv bits1 (2 ^ (min 8 IntKind.i64.bits))), IntKind.u8.wrap (Int.fdiv bits1 (2 ^ (min 16 IntKind.i64.bits))), IntKind.u8.wrap (Int.fdiv bits1 (2 ^ (min 24 IntKind.i64.bits)))] : List Int)) [] a8 ([] : List Arr))).bind fun r_4 =>
   (read_Values.f bar k t7 0 (Arr.mk 0 0 i11 (strOfBytes ([IntKind.u8.wrap bits1, IntKind.u8.wrap (Int.fdiv bits1 (2 ^ (min 8 IntKind.i64.bits))), IntKind.u8.wrap (Int.fdiv bits1 (2 ^ (min 16 IntKind.i64.bits))), IntKind.u8.wrap (Int.fdiv bits1 (2 ^ (min 24 IntKind.i64.bits)))] : List Int)) [] b9 ([] : List Arr))).bind fun r_5 =>
   (quiverlaw0_Num.f bar k r_4.2).bind fun r_6 =>
   bif (r_6 == 0) then
    (quiverlaw0_Num.f bar k r_5.2).bind fun r_7 =>
    bif (r_7 == 0) then
     (quiverlaw0_SameTexts.f bar k r_4.1 x2010).bind fun r_8 =>
     bif r_8 then
      (quiverlaw0_SameTexts.f bar k r_5.1 x2010).bind fun r_9 =>
      some r_9
     else
      some false
    else
     some false
   else
    some false
 else
  (read_Values.f bar k t7 0 (Arr.mk 0 0 i11 (strOfBytes ([IntKind.u8.wrap bits1, IntKind.u8.wrap (Int.fdiv bits1 (2 ^ (min 8 IntKind.i64.bits))), IntKind.u8.wrap (Int.fdiv bits1 (2 ^ (min 16 IntKind.i64.bits))), IntKind.u8.wrap (Int.fdiv bits1 (2 ^ (min 24 IntKind.i64.bits)))] : List Int)) [] a8 ([] : List Arr))).bind fun r_10 =>
  (read_Values.f bar k t7 0 (Arr.mk 0 0 i11 (strOfBytes ([IntKind.u8.wrap bits1, IntKind.u8.wrap (Int.fdiv bits1 (2 ^ (min 8 IntKind.i64.bits))), IntKind.u8.wrap (Int.fdiv bits1 (2 ^ (min 16 IntKind.i64.bits))), IntKind.u8.wrap (Int.fdiv bits1 (2 ^ (min 24 IntKind.i64.bits)))] : List Int)) [] b9 ([] : List Arr))).bind fun r_11 =>
  (quiverlaw0_Num.f bar k r_10.2).bind fun r_12 =>
  bif (r_12 == 0) then
   (quiverlaw0_Num.f bar k r_11.2).bind fun r_13 =>
   bif (r_13 == 0) then
    (quiverlaw0_SameTexts.f bar k r_10.1 x2010).bind fun r_14 =>
    bif r_14 then
     (quiverlaw0_SameTexts.f bar k r_11.1 x2010).bind fun r_15 =>
     some r_15
    else
     some false
   else
    some false
  else
   some false := by kernel_rfl
theorem quiverlaw9_ReadUnder.j15_eq (bar : Bar) (k : Nat) (m1 : Nat) (xs0 : List Int) (bits1 : Int) (junk2 : Int) (i11 : Int) (x12 : Int) (y13 : Int) (v14 : List UInt8) (t7 : List Nod) (a8 : List UInt8) (b9 : List UInt8) (x2010 : List (List UInt8)) : quiverlaw9_ReadUnder.j15 bar k m1 xs0 bits1 junk2 i11 x12 y13 v14 t7 a8 b9 x2010 =
 quiverlaw9_ReadUnder.l2 bar k m1 k xs0 bits1 junk2 i11 x12 y13 v14 0 t7 a8 b9 x2010 := by kernel_rfl
theorem quiverlaw9_ReadUnder.l2_eq (bar : Bar) (k : Nat) (m1 : Nat) (n : Nat) (xs0 : List Int) (bits1 : Int) (junk2 : Int) (i11 : Int) (x12 : Int) (y13 : Int) (v14 : List UInt8) (k_15 : Int) (t7 : List Nod) (a8 : List UInt8) (b9 : List UInt8) (x2010 : List (List UInt8)) : quiverlaw9_ReadUnder.l2 bar k m1 (n + 1) xs0 bits1 junk2 i11 x12 y13 v14 k_15 t7 a8 b9 x2010 =
 bif decide (k_15 < 8) then
  bif decide (IntKind.i64.wrap (8 * k_15) < 0) then
   none
  else
   bif decide ((a8).length + (strOfBytes ([IntKind.u8.wrap (Int.fdiv x12 (2 ^ (min (IntKind.i64.wrap (8 * k_15)).toNat IntKind.i64.bits)))] : List Int)).length ≤ 9223372036854775807) then
    bif decide (IntKind.i64.wrap (8 * k_15) < 0) then
     none
    else
     bif decide ((b9).length + (strOfBytes ([IntKind.u8.wrap (Int.fdiv y13 (2 ^ (min (IntKind.i64.wrap (8 * k_15)).toNat IntKind.i64.bits)))] : List Int)).length ≤ 9223372036854775807) then
      quiverlaw9_ReadUnder.l2 bar k m1 n xs0 bits1 junk2 i11 x12 y13 v14 (IntKind.i64.wrap (k_15 + 1)) t7 (a8 ++ (strOfBytes ([IntKind.u8.wrap (Int.fdiv x12 (2 ^ (min (IntKind.i64.wrap (8 * k_15)).toNat IntKind.i64.bits)))] : List Int))) (b9 ++ (strOfBytes ([IntKind.u8.wrap (Int.fdiv y13 (2 ^ (min (IntKind.i64.wrap (8 * k_15)).toNat IntKind.i64.bits)))] : List Int))) x2010
     else
      none
   else
    none
 else
  bif decide (((x2010).length + (([v14] : List (List UInt8))).length) * 16 ≤ 140737488355328) then
   quiverlaw9_ReadUnder.l0 bar k m1 xs0 bits1 junk2 (IntKind.i64.wrap (i11 + 1)) t7 a8 b9 (x2010 ++ ([v14] : List (List UInt8)))
  else
   none := by kernel_rfl
theorem quiverlaw0_CopyArray.f_eq (bar : Bar) (k : Nat) (a0 : Arr) : quiverlaw0_CopyArray.f bar (k + 1) a0 =
 quiverlaw0_CopyArray.l0 bar k k 0 a0.layout a0.offset a0.length a0.valid a0.ends a0.data a0.kids ([] : List Arr) := by kernel_rfl
theorem quiverlaw0_CopyArray.l0_eq (bar : Bar) (k : Nat) (n : Nat) (i4 : Int) (a1 : Int) (a1_1 : Int) (a1_2 : Int) (a1_3 : List UInt8) (a1_4 : List UInt8) (a1_5 : List UInt8) (a1_6 : List Arr) (x2003 : List Arr) : quiverlaw0_CopyArray.l0 bar k (n + 1) i4 a1 a1_1 a1_2 a1_3 a1_4 a1_5 a1_6 x2003 =
 bif decide (i4 < ((a1_6).length : Int)) then
  (rd a1_6 i4).bind fun e_1 =>
  (quiverlaw0_CopyArray.f bar k e_1).bind fun r_2 =>
  bif decide (((x2003).length + (([(Arr.mk r_2.layout r_2.offset r_2.length r_2.valid r_2.ends r_2.data r_2.kids)] : List Arr)).length) * 96 ≤ 140737488355328) then
   quiverlaw0_CopyArray.l0 bar k n (IntKind.i64.wrap (i4 + 1)) a1 a1_1 a1_2 a1_3 a1_4 a1_5 a1_6 (x2003 ++ ([(Arr.mk r_2.layout r_2.offset r_2.length r_2.valid r_2.ends r_2.data r_2.kids)] : List Arr))
  else
   none
 else
  some (Arr.mk a1 a1_1 a1_2 a1_3 a1_4 a1_5 x2003) := by kernel_rfl
theorem read_Value.f_eq (bar : Bar) (k : Nat) (a0 : List Nod) (a1 : Int) (a2 : Arr) (a3 : Int) : read_Value.f bar (k + 1) a0 a1 a2 a3 =
 (array_May.f bar k a0 a1 a2).bind fun r_1 =>
 bif (!(!r_1)) then
  bif (!(decide (a3 < 0))) then
   bif decide (a3 ≥ a2.length) then
    some (([] : List UInt8), 900)
   else
    (read_reader_row.f bar k a0 a1 a2 a3).bind fun r_2 =>
    some (r_2, 0)
  else
   some (([] : List UInt8), 900)
 else
  some (([] : List UInt8), 900) := by kernel_rfl
theorem quiverref7_Value.f_eq (bar : Bar) (k : Nat) (a0 : List Nod) (a1 : Int) (a2 : Arr) (a3 : Int) : quiverref7_Value.f bar (k + 1) a0 a1 a2 a3 =
 (quiverref7_ArrayMay.f bar k a0 a1 a2).bind fun r_1 =>
 bif (!(!r_1)) then
  bif (!(decide (a3 < 0))) then
   bif decide (a3 ≥ a2.length) then
    some (([] : List UInt8), 900)
   else
    (quiverref7_value.f bar k a0 a1 a2 a3).bind fun r_2 =>
    some (r_2, 0)
  else
   some (([] : List UInt8), 900)
 else
  some (([] : List UInt8), 900) := by kernel_rfl
theorem read_Values.f_eq (bar : Bar) (k : Nat) (a0 : List Nod) (a1 : Int) (a2 : Arr) : read_Values.f bar (k + 1) a0 a1 a2 =
 (array_May.f bar k a0 a1 a2).bind fun r_1 =>
 bif (!r_1) then
  some (([] : List (List UInt8)), 900)
 else
  read_Values.l0 bar k k a1 a2.length 0 a0 a2.layout a2.offset a2.valid a2.ends a2.data a2.kids ([] : List (List UInt8)) := by kernel_rfl
theorem read_Values.l0_eq (bar : Bar) (k : Nat) (n : Nat) (at_1 : Int) (x16 : Int) (x17 : Int) (t3 : List Nod) (a5 : Int) (a5_1 : Int) (a5_2 : List UInt8) (a5_3 : List UInt8) (a5_4 : List UInt8) (a5_5 : List Arr) (x2008 : List (List UInt8)) : read_Values.l0 bar k (n + 1) at_1 x16 x17 t3 a5 a5_1 a5_2 a5_3 a5_4 a5_5 x2008 =
 bif decide (x17 < x16) then
  (read_reader_row.f bar k t3 at_1 (Arr.mk a5 a5_1 x16 a5_2 a5_3 a5_4 a5_5) x17).bind fun r_1 =>
  bif decide (((x2008).length + (([r_1] : List (List UInt8))).length) * 16 ≤ 140737488355328) then
   read_Values.l0 bar k n at_1 x16 (IntKind.i64.wrap (x17 + 1)) t3 a5 a5_1 a5_2 a5_3 a5_4 a5_5 (x2008 ++ ([r_1] : List (List UInt8)))
  else
   none
 else
  some (x2008, 0) := by kernel_rfl
theorem quiverref7_Values.f_eq (bar : Bar) (k : Nat) (a0 : List Nod) (a1 : Int) (a2 : Arr) : quiverref7_Values.f bar (k + 1) a0 a1 a2 =
 (quiverref7_ArrayMay.f bar k a0 a1 a2).bind fun r_1 =>
 bif (!r_1) then
  some (([] : List (List UInt8)), 900)
 else
  quiverref7_Values.l0 bar k k a1 0 a0 a2.layout a2.offset a2.length a2.valid a2.ends a2.data a2.kids ([] : List (List UInt8)) := by kernel_rfl
theorem quiverref7_Values.l0_eq (bar : Bar) (k : Nat) (n : Nat) (at_1 : Int) (i9 : Int) (t3 : List Nod) (a5 : Int) (a5_1 : Int) (a5_2 : Int) (a5_3 : List UInt8) (a5_4 : List UInt8) (a5_5 : List UInt8) (a5_6 : List Arr) (x2008 : List (List UInt8)) : quiverref7_Values.l0 bar k (n + 1) at_1 i9 t3 a5 a5_1 a5_2 a5_3 a5_4 a5_5 a5_6 x2008 =
 bif decide (i9 < a5_2) then
  (quiverref7_value.f bar k t3 at_1 (Arr.mk a5 a5_1 a5_2 a5_3 a5_4 a5_5 a5_6) i9).bind fun r_1 =>
  bif decide (((x2008).length + (([r_1] : List (List UInt8))).length) * 16 ≤ 140737488355328) then
   quiverref7_Values.l0 bar k n at_1 (IntKind.i64.wrap (i9 + 1)) t3 a5 a5_1 a5_2 a5_3 a5_4 a5_5 a5_6 (x2008 ++ ([r_1] : List (List UInt8)))
  else
   none
 else
  some (x2008, 0) := by kernel_rfl
theorem quiverlaw0_Num.f_eq (bar : Bar) (k : Nat) (a0 : Int) : quiverlaw0_Num.f bar (k + 1) a0 =
 some a0 := by kernel_rfl
theorem quiverlaw0_SameTexts.f_eq (bar : Bar) (k : Nat) (a0 : List (List UInt8)) (a1 : List (List UInt8)) : quiverlaw0_SameTexts.f bar (k + 1) a0 a1 =
 bif (((a0).length : Int) != ((a1).length : Int)) then
  some false
 else
  quiverlaw0_SameTexts.l0 bar k k a0 a1 0 := by kernel_rfl
theorem quiverlaw0_SameTexts.l0_eq (bar : Bar) (k : Nat) (n : Nat) (a0 : List (List UInt8)) (b1 : List (List UInt8)) (i5 : Int) : quiverlaw0_SameTexts.l0 bar k (n + 1) a0 b1 i5 =
 bif decide (i5 < ((a0).length : Int)) then
  (rd a0 i5).bind fun e_1 =>
  (rd b1 i5).bind fun e_2 =>
  bif (e_1 != e_2) then
   some false
  else
   quiverlaw0_SameTexts.l0 bar k n a0 b1 (IntKind.i64.wrap (i5 + 1))
 else
  some true := by kernel_rfl
theorem quiverlaw0_SameArray.f_eq (bar : Bar) (k : Nat) (a0 : Arr) (a1 : Arr) : quiverlaw0_SameArray.f bar (k + 1) a0 a1 =
 bif (!(a0.layout != a1.layout)) then
  bif (!(a0.offset != a1.offset)) then
   bif (!(a0.length != a1.length)) then
    bif (!(a0.valid != a1.valid)) then
     bif (!(a0.ends != a1.ends)) then
      bif (!(a0.data != a1.data)) then
       bif (((a0.kids).length : Int) != ((a1.kids).length : Int)) then
        some false
       else
        quiverlaw0_SameArray.l0 bar k k 0 a0.layout a0.offset a0.length a0.valid a0.ends a0.data a0.kids a1.layout a1.offset a1.length a1.valid a1.ends a1.data a1.kids
      else
       some false
     else
      some false
    else
     some false
   else
    some false
  else
   some false
 else
  some false := by kernel_rfl
theorem quiverlaw0_SameArray.l0_eq (bar : Bar) (k : Nat) (n : Nat) (i5 : Int) (a2 : Int) (a2_1 : Int) (a2_2 : Int) (a2_3 : List UInt8) (a2_4 : List UInt8) (a2_5 : List UInt8) (a2_6 : List Arr) (b3 : Int) (b3_1 : Int) (b3_2 : Int) (b3_3 : List UInt8) (b3_4 : List UInt8) (b3_5 : List UInt8) (b3_6 : List Arr) : quiverlaw0_SameArray.l0 bar k (n + 1) i5 a2 a2_1 a2_2 a2_3 a2_4 a2_5 a2_6 b3 b3_1 b3_2 b3_3 b3_4 b3_5 b3_6 =
 bif decide (i5 < ((a2_6).length : Int)) then
  (rd a2_6 i5).bind fun e_1 =>
  (rd b3_6 i5).bind fun e_2 =>
  (quiverlaw0_SameArray.f bar k e_1 e_2).bind fun r_3 =>
  bif (!r_3) then
   some false
  else
   quiverlaw0_SameArray.l0 bar k n (IntKind.i64.wrap (i5 + 1)) a2 a2_1 a2_2 a2_3 a2_4 a2_5 a2_6 b3 b3_1 b3_2 b3_3 b3_4 b3_5 b3_6
 else
  some true := by kernel_rfl
theorem quiverlaw9_awake.f_eq (bar : Bar) (k : Nat) : quiverlaw9_awake.f bar (k + 1) =
 (read_Values.f bar k ([(Nod.mk 3 (-1) true), (Nod.mk 1 0 false)] : List Nod) 0 (Arr.mk 0 1 2 ([2] : List UInt8) ([0, 0, 0, 0, 1, 0, 0, 0, 3, 0, 0, 0, 3, 0, 0, 0] : List UInt8) [] ([(Arr.mk 0 0 3 [] [] ([5] : List UInt8) ([] : List Arr))] : List Arr))).bind fun r_1 =>
 (read_Value.f bar k ([(Nod.mk 3 (-1) true), (Nod.mk 1 0 false)] : List Nod) 0 (Arr.mk 0 1 2 ([2] : List UInt8) ([0, 0, 0, 0, 1, 0, 0, 0, 3, 0, 0, 0, 3, 0, 0, 0] : List UInt8) [] ([(Arr.mk 0 0 3 [] [] ([5] : List UInt8) ([] : List Arr))] : List Arr)) 0).bind fun r_2 =>
 (read_Value.f bar k ([(Nod.mk 3 (-1) true), (Nod.mk 1 0 false)] : List Nod) 0 (Arr.mk 0 1 2 ([2] : List UInt8) ([0, 0, 0, 0, 1, 0, 0, 0, 3, 0, 0, 0, 3, 0, 0, 0] : List UInt8) [] ([(Arr.mk 0 0 3 [] [] ([5] : List UInt8) ([] : List Arr))] : List Arr)) 2).bind fun r_3 =>
 (read_Values.f bar k ([(Nod.mk 3 (-1) true), (Nod.mk 1 0 false)] : List Nod) 0 (Arr.mk 0 0 0 [] [] [] ([] : List Arr))).bind fun r_4 =>
 (quiverlaw0_SameTexts.f bar k r_1.1 ([([91, 102, 116, 93] : List UInt8), ([110] : List UInt8)] : List (List UInt8))).bind fun r_5 =>
 bif r_5 then
  (quiverlaw0_Num.f bar k r_1.2).bind fun r_6 =>
  bif (r_6 == 0) then
   bif (r_2.1 == ([91, 102, 116, 93] : List UInt8)) then
    (quiverlaw0_Num.f bar k r_2.2).bind fun r_7 =>
    bif (r_7 == 0) then
     (quiverlaw0_Num.f bar k r_3.2).bind fun r_8 =>
     bif (r_8 == 900) then
      (quiverlaw0_Num.f bar k r_4.2).bind fun r_9 =>
      some (r_9 == 900)
     else
      some false
    else
     some false
   else
    some false
  else
   some false
 else
  some false := by kernel_rfl
theorem quiverref7_Fits.f_eq (bar : Bar) (k : Nat) (a0 : List Nod) (a1 : Int) (a2 : List UInt8) : quiverref7_Fits.f bar (k + 1) a0 a1 a2 =
 (quiverref1_NodeMay.f bar k a0 a1).bind fun r_1 =>
 bif (!r_1) then
  some false
 else
  (rd a0 a1).bind fun e_2 =>
  (quiverref7_Parts.f bar k a2).bind fun r_3 =>
  bif (r_3.2.2 != 0) then
   some false
  else
   bif decide (r_3.1 < 0) then
    some e_2.null
   else
    (quiverref1_Kids.f bar k a0 a1).bind fun r_4 =>
    bif (!(r_3.1 != e_2.kind)) then
     bif (r_3.1 == 2) then
      bif decide (0 ≤ 0) && decide (0 < ((r_3.2.1).length : Int)) then
       (r_3.2.1[0]?).bind fun e_5 =>
       bif (!(decide (((e_5).length : Int) > 16))) then
        bif (r_3.1 == 3) then
         bif (!(decide (((r_3.2.1).length : Int) > 64))) then
          bif (r_3.1 == 4) then
           bif (((r_3.2.1).length : Int) != ((r_4.1).length : Int)) then
            some false
           else
            quiverref7_Fits.l0 bar k k r_3.1 0 a0 r_3.2.1 r_4.1
          else
           quiverref7_Fits.l0 bar k k r_3.1 0 a0 r_3.2.1 r_4.1
         else
          some false
        else
         bif (r_3.1 == 4) then
          bif (((r_3.2.1).length : Int) != ((r_4.1).length : Int)) then
           some false
          else
           quiverref7_Fits.l0 bar k k r_3.1 0 a0 r_3.2.1 r_4.1
         else
          quiverref7_Fits.l0 bar k k r_3.1 0 a0 r_3.2.1 r_4.1
       else
        some false
      else
       none
     else
      bif (r_3.1 == 3) then
       bif (!(decide (((r_3.2.1).length : Int) > 64))) then
        bif (r_3.1 == 4) then
         bif (((r_3.2.1).length : Int) != ((r_4.1).length : Int)) then
          some false
         else
          quiverref7_Fits.l0 bar k k r_3.1 0 a0 r_3.2.1 r_4.1
        else
         quiverref7_Fits.l0 bar k k r_3.1 0 a0 r_3.2.1 r_4.1
       else
        some false
      else
       bif (r_3.1 == 4) then
        bif (((r_3.2.1).length : Int) != ((r_4.1).length : Int)) then
         some false
        else
         quiverref7_Fits.l0 bar k k r_3.1 0 a0 r_3.2.1 r_4.1
       else
        quiverref7_Fits.l0 bar k k r_3.1 0 a0 r_3.2.1 r_4.1
    else
     some false := by kernel_rfl
theorem quiverref7_Fits.l0_eq (bar : Bar) (k : Nat) (n : Nat) (kind8 : Int) (i13 : Int) (t3 : List Nod) (x2009 : List (List UInt8)) (x2011 : List Int) : quiverref7_Fits.l0 bar k (n + 1) kind8 i13 t3 x2009 x2011 =
 bif decide (i13 < ((x2009).length : Int)) then
  (quiverref1_IsLeaf.f bar k kind8).bind fun r_1 =>
  bif (!r_1) then
   bif decide (0 ≤ 0) && decide (0 < ((x2011).length : Int)) then
    (x2011[0]?).bind fun e_2 =>
    bif (kind8 == 4) then
     bif decide (0 ≤ i13) && decide (i13 < ((x2011).length : Int)) then
      (x2011[(i13).toNat]?).bind fun e_3 =>
      bif decide (0 ≤ i13) && decide (i13 < ((x2009).length : Int)) then
       (x2009[(i13).toNat]?).bind fun e_4 =>
       (quiverref7_Fits.f bar k t3 e_3 e_4).bind fun r_5 =>
       bif (!r_5) then
        some false
       else
        quiverref7_Fits.l0 bar k n kind8 (IntKind.i64.wrap (i13 + 1)) t3 x2009 x2011
      else
       none
     else
      none
    else
     bif decide (0 ≤ i13) && decide (i13 < ((x2009).length : Int)) then
      (x2009[(i13).toNat]?).bind fun e_6 =>
      (quiverref7_Fits.f bar k t3 e_2 e_6).bind fun r_7 =>
      bif (!r_7) then
       some false
      else
       quiverref7_Fits.l0 bar k n kind8 (IntKind.i64.wrap (i13 + 1)) t3 x2009 x2011
     else
      none
   else
    none
  else
   some true
 else
  some true := by kernel_rfl
theorem quiverref7_Int.f_eq (bar : Bar) (k : Nat) (a0 : Int) : quiverref7_Int.f bar (k + 1) a0 =
 (quiverref7_digits.f bar k a0).bind fun r_1 =>
 bif decide ((([105] : List UInt8)).length + (r_1).length ≤ 9223372036854775807) then
  bif decide ((([105] : List UInt8) ++ r_1).length + (([59] : List UInt8)).length ≤ 9223372036854775807) then
   some ((([105] : List UInt8) ++ r_1) ++ ([59] : List UInt8))
  else
   none
 else
  none := by kernel_rfl
theorem array_May.f_eq (bar : Bar) (k : Nat) (a0 : List Nod) (a1 : Int) (a2 : Arr) : array_May.f bar (k + 1) a0 a1 a2 =
 (types_Node.f bar k a0 a1).bind fun r_1 =>
 bif (!(!r_1)) then
  (rd a0 a1).bind fun e_2 =>
  (array_buffers.f bar k e_2 a2).bind fun r_3 =>
  bif (!r_3) then
   some false
  else
   bif (a2.layout == 0) then
    (array_plain.f bar k a0 a1 a2).bind fun r_4 =>
    some r_4
   else
    bif (a2.layout == 1) then
     (array_dict.f bar k a0 a1 a2).bind fun r_5 =>
     some r_5
    else
     bif (a2.layout == 2) then
      (array_run.f bar k a0 a1 a2).bind fun r_6 =>
      some r_6
     else
      some false
 else
  some false := by kernel_rfl
theorem read_reader_row.f_eq (bar : Bar) (k : Nat) (a0 : List Nod) (a1 : Int) (a2 : Arr) (a3 : Int) : read_reader_row.f bar (k + 1) a0 a1 a2 a3 =
 (read_reader_text.f bar k a0 a1 a2 (IntKind.i64.wrap (a2.offset + a3))).bind fun r_1 =>
 some r_1 := by kernel_rfl
theorem quiverref7_ArrayMay.f_eq (bar : Bar) (k : Nat) (a0 : List Nod) (a1 : Int) (a2 : Arr) : quiverref7_ArrayMay.f bar (k + 1) a0 a1 a2 =
 (quiverref1_NodeMay.f bar k a0 a1).bind fun r_1 =>
 bif (!(!r_1)) then
  bif (!(decide (a2.offset < 0))) then
   bif (!(decide (a2.length < 0))) then
    bif (!(decide (a2.offset > 64))) then
     bif (!(decide (a2.length > (IntKind.i64.wrap (64 - a2.offset))))) then
      bif (!(decide (((a2.valid).length : Int) > 4096))) then
       bif (!(decide (((a2.ends).length : Int) > 4096))) then
        bif decide (((a2.data).length : Int) > 4096) then
         some false
        else
         bif (a2.valid != ([] : List UInt8)) then
          (rd a0 a1).bind fun e_2 =>
          bif (!(!e_2.null)) then
           (quiverref1_BitBytes.f bar k (IntKind.i64.wrap (a2.offset + a2.length))).bind fun r_3 =>
           bif decide (((a2.valid).length : Int) < r_3) then
            some false
           else
            bif (a2.layout == 0) then
             (quiverref7_plainMay.f bar k a0 a1 a2 (IntKind.i64.wrap (a2.offset + a2.length))).bind fun r_4 =>
             some r_4
            else
             (rd a0 a1).bind fun e_5 =>
             (quiverref1_IsLeaf.f bar k e_5.kind).bind fun r_6 =>
             bif (!(!r_6)) then
              bif (!(((a2.kids).length : Int) != 1)) then
               bif (!(a2.ends != ([] : List UInt8))) then
                (rd a2.kids 0).bind fun e_7 =>
                bif (!(e_7.layout != 0)) then
                 (rd a2.kids 0).bind fun e_8 =>
                 (quiverref7_ArrayMay.f bar k a0 a1 e_8).bind fun r_9 =>
                 bif (!r_9) then
                  some false
                 else
                  (rd a2.kids 0).bind fun e_10 =>
                  bif (a2.layout == 1) then
                   bif (!(decide (((a2.data).length : Int) < (IntKind.i64.wrap (4 * (IntKind.i64.wrap (a2.offset + a2.length))))))) then
                    (rd a2.kids 0).bind fun e_11 =>
                    bif (e_11.valid != ([] : List UInt8)) then
                     some false
                    else
                     quiverref7_ArrayMay.l0 bar k k (IntKind.i64.wrap (a2.offset + a2.length)) e_10.length a2.offset a2.layout a2.offset a2.length a2.valid a2.ends a2.data a2.kids
                   else
                    some false
                  else
                   bif (!(a2.layout != 2)) then
                    bif (!(a2.valid != ([] : List UInt8))) then
                     bif (((a2.data).length : Int) != (IntKind.i64.wrap (4 * e_10.length))) then
                      some false
                     else
                      quiverref7_ArrayMay.l2 bar k k (IntKind.i64.wrap (a2.offset + a2.length)) e_10.length 0 0 a2.layout a2.offset a2.length a2.valid a2.ends a2.data a2.kids
                    else
                     some false
                   else
                    some false
                else
                 some false
               else
                some false
              else
               some false
             else
              some false
          else
           some false
         else
          bif (a2.layout == 0) then
           (quiverref7_plainMay.f bar k a0 a1 a2 (IntKind.i64.wrap (a2.offset + a2.length))).bind fun r_12 =>
           some r_12
          else
           (rd a0 a1).bind fun e_13 =>
           (quiverref1_IsLeaf.f bar k e_13.kind).bind fun r_14 =>
           bif (!(!r_14)) then
            bif (!(((a2.kids).length : Int) != 1)) then
             bif (!(a2.ends != ([] : List UInt8))) then
              (rd a2.kids 0).bind fun e_15 =>
              bif (!(e_15.layout != 0)) then
               (rd a2.kids 0).bind fun e_16 =>
               (quiverref7_ArrayMay.f bar k a0 a1 e_16).bind fun r_17 =>
               bif (!r_17) then
                some false
               else
                (rd a2.kids 0).bind fun e_18 =>
                bif (a2.layout == 1) then
                 bif (!(decide (((a2.data).length : Int) < (IntKind.i64.wrap (4 * (IntKind.i64.wrap (a2.offset + a2.length))))))) then
                  (rd a2.kids 0).bind fun e_19 =>
                  bif (e_19.valid != ([] : List UInt8)) then
                   some false
                  else
                   quiverref7_ArrayMay.l0 bar k k (IntKind.i64.wrap (a2.offset + a2.length)) e_18.length a2.offset a2.layout a2.offset a2.length a2.valid a2.ends a2.data a2.kids
                 else
                  some false
                else
                 bif (!(a2.layout != 2)) then
                  bif (!(a2.valid != ([] : List UInt8))) then
                   bif (((a2.data).length : Int) != (IntKind.i64.wrap (4 * e_18.length))) then
                    some false
                   else
                    quiverref7_ArrayMay.l2 bar k k (IntKind.i64.wrap (a2.offset + a2.length)) e_18.length 0 0 a2.layout a2.offset a2.length a2.valid a2.ends a2.data a2.kids
                  else
                   some false
                 else
                  some false
              else
               some false
             else
              some false
            else
             some false
           else
            some false
       else
        some false
      else
       some false
     else
      some false
    else
     some false
   else
    some false
  else
   some false
 else
  some false := by kernel_rfl
theorem quiverref7_ArrayMay.l0_eq (bar : Bar) (k : Nat) (n : Nat) (rows7 : Int) (k_8 : Int) (i9 : Int) (a5 : Int) (a5_1 : Int) (a5_2 : Int) (a5_3 : List UInt8) (a5_4 : List UInt8) (a5_5 : List UInt8) (a5_6 : List Arr) : quiverref7_ArrayMay.l0 bar k (n + 1) rows7 k_8 i9 a5 a5_1 a5_2 a5_3 a5_4 a5_5 a5_6 =
 bif decide (i9 < rows7) then
  (quiverref1_GetNum.f bar k a5_5 (IntKind.i64.wrap (4 * i9)) 4).bind fun r_1 =>
  (quiverref7_there.f bar k (Arr.mk a5 a5_1 a5_2 a5_3 a5_4 a5_5 a5_6) i9).bind fun r_2 =>
  bif r_2 then
   bif (!(r_1.2 != 0)) then
    bif decide (r_1.1 ≥ k_8) then
     some false
    else
     quiverref7_ArrayMay.l0 bar k n rows7 k_8 (IntKind.i64.wrap (i9 + 1)) a5 a5_1 a5_2 a5_3 a5_4 a5_5 a5_6
   else
    some false
  else
   quiverref7_ArrayMay.l0 bar k n rows7 k_8 (IntKind.i64.wrap (i9 + 1)) a5 a5_1 a5_2 a5_3 a5_4 a5_5 a5_6
 else
  some true := by kernel_rfl
theorem quiverref7_ArrayMay.l2_eq (bar : Bar) (k : Nat) (n : Nat) (rows7 : Int) (k_8 : Int) (was12 : Int) (i13 : Int) (a5 : Int) (a5_1 : Int) (a5_2 : Int) (a5_3 : List UInt8) (a5_4 : List UInt8) (a5_5 : List UInt8) (a5_6 : List Arr) : quiverref7_ArrayMay.l2 bar k (n + 1) rows7 k_8 was12 i13 a5 a5_1 a5_2 a5_3 a5_4 a5_5 a5_6 =
 bif decide (i13 < k_8) then
  (quiverref1_GetNum.f bar k a5_5 (IntKind.i64.wrap (4 * i13)) 4).bind fun r_1 =>
  bif (!(r_1.2 != 0)) then
   bif decide (r_1.1 ≤ was12) then
    some false
   else
    quiverref7_ArrayMay.l2 bar k n rows7 k_8 r_1.1 (IntKind.i64.wrap (i13 + 1)) a5 a5_1 a5_2 a5_3 a5_4 a5_5 a5_6
  else
   some false
 else
  some (decide (was12 ≥ rows7)) := by kernel_rfl
theorem quiverref7_value.f_eq (bar : Bar) (k : Nat) (a0 : List Nod) (a1 : Int) (a2 : Arr) (a3 : Int) : quiverref7_value.f bar (k + 1) a0 a1 a2 a3 =
 (quiverref7_there.f bar k a2 (IntKind.i64.wrap (a3 + a2.offset))).bind fun r_1 =>
 bif (!r_1) then
  some ([110] : List UInt8)
 else
  bif (a2.layout == 1) then
   (rd a2.kids 0).bind fun e_2 =>
   bif decide (0 ≤ IntKind.i64.wrap ((IntKind.i64.wrap (4 * (IntKind.i64.wrap (a3 + a2.offset)))) + 4)) && decide (IntKind.i64.wrap ((IntKind.i64.wrap (4 * (IntKind.i64.wrap (a3 + a2.offset)))) + 4) ≤ (((a2.data).length : Nat) : Int)) then
    bif decide (0 ≤ IntKind.i64.wrap (4 * (IntKind.i64.wrap (a3 + a2.offset)))) && decide (IntKind.i64.wrap (4 * (IntKind.i64.wrap (a3 + a2.offset))) ≤ (((IntKind.i64.wrap ((IntKind.i64.wrap (4 * (IntKind.i64.wrap (a3 + a2.offset)))) + 4)).toNat : Nat) : Int)) then
     (quiverref1_Num.f bar k (List.drop ((IntKind.i64.wrap (4 * (IntKind.i64.wrap (a3 + a2.offset)))).toNat) (List.take ((IntKind.i64.wrap ((IntKind.i64.wrap (4 * (IntKind.i64.wrap (a3 + a2.offset)))) + 4)).toNat) a2.data))).bind fun r_3 =>
     (quiverref7_value.f bar k a0 a1 e_2 r_3).bind fun r_4 =>
     some r_4
    else
     none
   else
    none
  else
   bif (a2.layout == 2) then
    quiverref7_value.l0 bar k k a1 (IntKind.i64.wrap (a3 + a2.offset)) 0 a0 a2.layout a2.offset a2.length a2.valid a2.ends a2.data a2.kids
   else
    (quiverref1_Kids.f bar k a0 a1).bind fun r_5 =>
    (rd a0 a1).bind fun e_6 =>
    bif (e_6.kind == 0) then
     bif decide (0 ≤ IntKind.i64.wrap ((IntKind.i64.wrap (8 * (IntKind.i64.wrap (a3 + a2.offset)))) + 8)) && decide (IntKind.i64.wrap ((IntKind.i64.wrap (8 * (IntKind.i64.wrap (a3 + a2.offset)))) + 8) ≤ (((a2.data).length : Nat) : Int)) then
      bif decide (0 ≤ IntKind.i64.wrap (8 * (IntKind.i64.wrap (a3 + a2.offset)))) && decide (IntKind.i64.wrap (8 * (IntKind.i64.wrap (a3 + a2.offset))) ≤ (((IntKind.i64.wrap ((IntKind.i64.wrap (8 * (IntKind.i64.wrap (a3 + a2.offset)))) + 8)).toNat : Nat) : Int)) then
       (quiverref1_Num.f bar k (List.drop ((IntKind.i64.wrap (8 * (IntKind.i64.wrap (a3 + a2.offset)))).toNat) (List.take ((IntKind.i64.wrap ((IntKind.i64.wrap (8 * (IntKind.i64.wrap (a3 + a2.offset)))) + 8)).toNat) a2.data))).bind fun r_7 =>
       (quiverref7_Int.f bar k r_7).bind fun r_8 =>
       some r_8
      else
       none
     else
      none
    else
     bif (e_6.kind == 1) then
      (quiverref1_Bit.f bar k a2.data (IntKind.i64.wrap (a3 + a2.offset))).bind fun r_9 =>
      (quiverref7_Bool.f bar k r_9).bind fun r_10 =>
      some r_10
     else
      bif (e_6.kind == 2) then
       (quiverref7_ends.f bar k a2 (IntKind.i64.wrap (a3 + a2.offset))).bind fun r_11 =>
       bif decide (0 ≤ r_11.2) && decide (r_11.2 ≤ (((a2.data).length : Nat) : Int)) then
        bif decide (0 ≤ r_11.1) && decide (r_11.1 ≤ (((r_11.2).toNat : Nat) : Int)) then
         (quiverref7_Bytes.f bar k (List.drop ((r_11.1).toNat) (List.take ((r_11.2).toNat) a2.data))).bind fun r_12 =>
         some r_12
        else
         none
       else
        none
      else
       bif (e_6.kind == 3) then
        (quiverref7_ends.f bar k a2 (IntKind.i64.wrap (a3 + a2.offset))).bind fun r_13 =>
        quiverref7_value.l3 bar k k r_13.2 r_13.1 a0 a2.layout a2.offset a2.length a2.valid a2.ends a2.data a2.kids r_5.1 ([] : List (List UInt8))
       else
        quiverref7_value.l5 bar k k (IntKind.i64.wrap (a3 + a2.offset)) 0 a0 a2.layout a2.offset a2.length a2.valid a2.ends a2.data a2.kids r_5.1 ([] : List (List UInt8)) := by kernel_rfl
theorem quiverref7_value.l0_eq (bar : Bar) (k : Nat) (n : Nat) (at_1 : Int) (row3 : Int) (i9 : Int) (t4 : List Nod) (a6 : Int) (a6_1 : Int) (a6_2 : Int) (a6_3 : List UInt8) (a6_4 : List UInt8) (a6_5 : List UInt8) (a6_6 : List Arr) : quiverref7_value.l0 bar k (n + 1) at_1 row3 i9 t4 a6 a6_1 a6_2 a6_3 a6_4 a6_5 a6_6 =
 bif decide (0 ≤ IntKind.i64.wrap ((IntKind.i64.wrap (4 * i9)) + 4)) && decide (IntKind.i64.wrap ((IntKind.i64.wrap (4 * i9)) + 4) ≤ (((a6_5).length : Nat) : Int)) then
  bif decide (0 ≤ IntKind.i64.wrap (4 * i9)) && decide (IntKind.i64.wrap (4 * i9) ≤ (((IntKind.i64.wrap ((IntKind.i64.wrap (4 * i9)) + 4)).toNat : Nat) : Int)) then
   (quiverref1_Num.f bar k (List.drop ((IntKind.i64.wrap (4 * i9)).toNat) (List.take ((IntKind.i64.wrap ((IntKind.i64.wrap (4 * i9)) + 4)).toNat) a6_5))).bind fun r_1 =>
   bif decide (r_1 ≤ row3) then
    quiverref7_value.l0 bar k n at_1 row3 (IntKind.i64.wrap (i9 + 1)) t4 a6 a6_1 a6_2 a6_3 a6_4 a6_5 a6_6
   else
    (rd a6_6 0).bind fun e_2 =>
    (quiverref7_value.f bar k t4 at_1 e_2 i9).bind fun r_3 =>
    some r_3
  else
   none
 else
  none := by kernel_rfl
theorem quiverref7_value.l3_eq (bar : Bar) (k : Nat) (n : Nat) (to16 : Int) (i17 : Int) (t4 : List Nod) (a6 : Int) (a6_1 : Int) (a6_2 : Int) (a6_3 : List UInt8) (a6_4 : List UInt8) (a6_5 : List UInt8) (a6_6 : List Arr) (x2010 : List Int) (x2012 : List (List UInt8)) : quiverref7_value.l3 bar k (n + 1) to16 i17 t4 a6 a6_1 a6_2 a6_3 a6_4 a6_5 a6_6 x2010 x2012 =
 bif decide (i17 < to16) then
  bif decide (0 ≤ 0) && decide (0 < ((x2010).length : Int)) then
   (x2010[0]?).bind fun e_1 =>
   (rd a6_6 0).bind fun e_2 =>
   (quiverref7_value.f bar k t4 e_1 e_2 i17).bind fun r_3 =>
   bif decide (((x2012).length + (([r_3] : List (List UInt8))).length) * 16 ≤ 140737488355328) then
    quiverref7_value.l3 bar k n to16 (IntKind.i64.wrap (i17 + 1)) t4 a6 a6_1 a6_2 a6_3 a6_4 a6_5 a6_6 x2010 (x2012 ++ ([r_3] : List (List UInt8)))
   else
    none
  else
   none
 else
  (quiverref7_List.f bar k x2012).bind fun r_4 =>
  some r_4 := by kernel_rfl
theorem quiverref7_value.l5_eq (bar : Bar) (k : Nat) (n : Nat) (row3 : Int) (i18 : Int) (t4 : List Nod) (a6 : Int) (a6_1 : Int) (a6_2 : Int) (a6_3 : List UInt8) (a6_4 : List UInt8) (a6_5 : List UInt8) (a6_6 : List Arr) (x2010 : List Int) (x2012 : List (List UInt8)) : quiverref7_value.l5 bar k (n + 1) row3 i18 t4 a6 a6_1 a6_2 a6_3 a6_4 a6_5 a6_6 x2010 x2012 =
 bif decide (i18 < ((x2010).length : Int)) then
  bif decide (0 ≤ i18) && decide (i18 < ((x2010).length : Int)) then
   (x2010[(i18).toNat]?).bind fun e_1 =>
   (rd a6_6 i18).bind fun e_2 =>
   (quiverref7_value.f bar k t4 e_1 e_2 row3).bind fun r_3 =>
   bif decide (((x2012).length + (([r_3] : List (List UInt8))).length) * 16 ≤ 140737488355328) then
    quiverref7_value.l5 bar k n row3 (IntKind.i64.wrap (i18 + 1)) t4 a6 a6_1 a6_2 a6_3 a6_4 a6_5 a6_6 x2010 (x2012 ++ ([r_3] : List (List UInt8)))
   else
    none
  else
   none
 else
  (quiverref7_Struct.f bar k x2012).bind fun r_4 =>
  some r_4 := by kernel_rfl
theorem quiverref1_NodeMay.f_eq (bar : Bar) (k : Nat) (a0 : List Nod) (a1 : Int) : quiverref1_NodeMay.f bar (k + 1) a0 a1 =
 (quiverref1_TypeMay.f bar k a0).bind fun r_1 =>
 bif r_1 then
  bif decide (a1 ≥ 0) then
   some (decide (a1 < ((a0).length : Int)))
  else
   some false
 else
  some false := by kernel_rfl
theorem quiverref7_Parts.f_eq (bar : Bar) (k : Nat) (a0 : List UInt8) : quiverref7_Parts.f bar (k + 1) a0 =
 bif (!(decide (((a0).length : Int) > 65536))) then
  (quiverref7_end.f bar k a0 0 4).bind fun r_1 =>
  bif (r_1 != ((a0).length : Int)) then
   some (0, ([] : List (List UInt8)), 700)
  else
   (rd a0 0).bind fun b_2 =>
   bif ((b_2.toNat : Int) == 110) then
    some ((-1), ([] : List (List UInt8)), 0)
   else
    bif ((b_2.toNat : Int) == 105) then
     bif decide (0 ≤ IntKind.i64.wrap (((a0).length : Int) - 1)) && decide (IntKind.i64.wrap (((a0).length : Int) - 1) ≤ (((a0).length : Nat) : Int)) then
      bif decide (0 ≤ 1) && decide (1 ≤ (((IntKind.i64.wrap (((a0).length : Int) - 1)).toNat : Nat) : Int)) then
       some (0, ([List.drop 1 (List.take ((IntKind.i64.wrap (((a0).length : Int) - 1)).toNat) a0)] : List (List UInt8)), 0)
      else
       none
     else
      none
    else
     bif ((b_2.toNat : Int) == 116) then
      bif ((b_2.toNat : Int) == 116) then
       some (1, ([a0] : List (List UInt8)), 0)
      else
       bif ((b_2.toNat : Int) == 115) then
        (quiverref7_upto.f bar k a0 0 58).bind fun r_3 =>
        bif decide (0 ≤ IntKind.i64.wrap (r_3 + 1)) && decide (IntKind.i64.wrap (r_3 + 1) ≤ (((a0).length : Nat) : Int)) then
         some (2, ([List.drop ((IntKind.i64.wrap (r_3 + 1)).toNat) (List.take ((a0).length) a0)] : List (List UInt8)), 0)
        else
         none
       else
        bar _ (quiverref7_Parts.j13 bar k a0)
     else
      bif ((b_2.toNat : Int) == 102) then
       some (1, ([a0] : List (List UInt8)), 0)
      else
       bif ((b_2.toNat : Int) == 115) then
        (quiverref7_upto.f bar k a0 0 58).bind fun r_4 =>
        bif decide (0 ≤ IntKind.i64.wrap (r_4 + 1)) && decide (IntKind.i64.wrap (r_4 + 1) ≤ (((a0).length : Nat) : Int)) then
         some (2, ([List.drop ((IntKind.i64.wrap (r_4 + 1)).toNat) (List.take ((a0).length) a0)] : List (List UInt8)), 0)
        else
         none
       else
        bar _ (quiverref7_Parts.j13 bar k a0)
 else
  some (0, ([] : List (List UInt8)), 700) := by kernel_rfl
theorem quiverref7_Parts.j13_eq (bar : Bar) (k : Nat) (v0 : List UInt8) : quiverref7_Parts.j13 bar k v0 =
 quiverref7_Parts.l1 bar k k v0 1 ([] : List (List UInt8)) := by kernel_rfl
theorem quiverref7_Parts.l1_eq (bar : Bar) (k : Nat) (n : Nat) (v0 : List UInt8) (at_6 : Int) (x2005 : List (List UInt8)) : quiverref7_Parts.l1 bar k (n + 1) v0 at_6 x2005 =
 bif decide (at_6 < (IntKind.i64.wrap (((v0).length : Int) - 1))) then
  (quiverref7_end.f bar k v0 at_6 4).bind fun r_1 =>
  bif decide (0 ≤ r_1) && decide (r_1 ≤ (((v0).length : Nat) : Int)) then
   bif decide (0 ≤ at_6) && decide (at_6 ≤ (((r_1).toNat : Nat) : Int)) then
    bif decide (((x2005).length + (([List.drop ((at_6).toNat) (List.take ((r_1).toNat) v0)] : List (List UInt8))).length) * 16 ≤ 140737488355328) then
     quiverref7_Parts.l1 bar k n v0 r_1 (x2005 ++ ([List.drop ((at_6).toNat) (List.take ((r_1).toNat) v0)] : List (List UInt8)))
    else
     none
   else
    none
  else
   none
 else
  (rd v0 0).bind fun b_2 =>
  bif ((b_2.toNat : Int) == 91) then
   some (3, x2005, 0)
  else
   some (4, x2005, 0) := by kernel_rfl
theorem quiverref1_Kids.f_eq (bar : Bar) (k : Nat) (a0 : List Nod) (a1 : Int) : quiverref1_Kids.f bar (k + 1) a0 a1 =
 (quiverref1_NodeMay.f bar k a0 a1).bind fun r_1 =>
 bif (!r_1) then
  some (([] : List Int), 500)
 else
  (quiverref1_kids.f bar k a0 a1).bind fun r_2 =>
  some (r_2, 0) := by kernel_rfl
theorem quiverref1_IsLeaf.f_eq (bar : Bar) (k : Nat) (a0 : Int) : quiverref1_IsLeaf.f bar (k + 1) a0 =
 bif (a0 != 3) then
  some (a0 != 4)
 else
  some false := by kernel_rfl
theorem quiverref7_digits.f_eq (bar : Bar) (k : Nat) (a0 : Int) : quiverref7_digits.f bar (k + 1) a0 =
 bif decide (a0 ≥ 0) then
  (quiverref0_Decimal.f bar k a0).bind fun r_1 =>
  some r_1
 else
  quiverref7_digits.l0 bar k k a0 ([] : List UInt8) := by kernel_rfl
theorem quiverref7_digits.l0_eq (bar : Bar) (k : Nat) (n : Nat) (x0 : Int) (s3 : List UInt8) : quiverref7_digits.l0 bar k (n + 1) x0 s3 =
 bif decide (x0 < 0) then
  bif decide ((strOfBytes ([IntKind.u8.wrap (IntKind.i64.wrap (48 - (Int.tmod x0 10)))] : List Int)).length + (s3).length ≤ 9223372036854775807) then
   quiverref7_digits.l0 bar k n (IntKind.i64.wrap (Int.tdiv x0 10)) ((strOfBytes ([IntKind.u8.wrap (IntKind.i64.wrap (48 - (Int.tmod x0 10)))] : List Int)) ++ s3)
  else
   none
 else
  bif decide ((([45] : List UInt8)).length + (s3).length ≤ 9223372036854775807) then
   some (([45] : List UInt8) ++ s3)
  else
   none := by kernel_rfl
theorem types_Node.f_eq (bar : Bar) (k : Nat) (a0 : List Nod) (a1 : Int) : types_Node.f bar (k + 1) a0 a1 =
 (types_May.f bar k a0).bind fun r_1 =>
 bif r_1 then
  bif decide (a1 ≥ 0) then
   some (decide (a1 < ((a0).length : Int)))
  else
   some false
 else
  some false := by kernel_rfl
theorem array_buffers.f_eq (bar : Bar) (k : Nat) (a0 : Nod) (a1 : Arr) : array_buffers.f bar (k + 1) a0 a1 =
 bif (!(decide (a1.offset < 0))) then
  bif (!(decide (a1.length < 0))) then
   bif (!(decide (a1.offset > 64))) then
    bif decide (a1.length > (IntKind.i64.wrap (64 - a1.offset))) then
     some false
    else
     bif decide ((bif decide (((a1.data).length : Int) > (bif decide (((a1.ends).length : Int) > ((a1.valid).length : Int)) then ((a1.ends).length : Int) else ((a1.valid).length : Int))) then ((a1.data).length : Int) else (bif decide (((a1.ends).length : Int) > ((a1.valid).length : Int)) then ((a1.ends).length : Int) else ((a1.valid).length : Int))) > 4096) then
      some false
     else
      bif (!(a1.valid == ([] : List UInt8))) then
       bif a0.null then
        (bits_Bytes.f bar k (IntKind.i64.wrap (a1.offset + a1.length))).bind fun r_1 =>
        some (decide (((a1.valid).length : Int) ≥ r_1))
       else
        some false
      else
       some true
   else
    some false
  else
   some false
 else
  some false := by kernel_rfl
theorem array_plain.f_eq (bar : Bar) (k : Nat) (a0 : List Nod) (a1 : Int) (a2 : Arr) : array_plain.f bar (k + 1) a0 a1 a2 =
 (types_Kids.f bar k a0 a1).bind fun r_1 =>
 bif (((a2.kids).length : Int) != ((r_1.1).length : Int)) then
  some false
 else
  array_plain.l0 bar k k a0 a1 a2.layout a2.offset a2.length a2.valid a2.ends a2.data a2.kids ((r_1.1).length : Int) 0 (IntKind.i64.wrap (a2.offset + a2.length)) r_1.1 := by kernel_rfl
theorem array_plain.l0_eq (bar : Bar) (k : Nat) (n : Nat) (t0 : List Nod) (at_1 : Int) (a2 : Int) (a2_1 : Int) (a2_2 : Int) (a2_3 : List UInt8) (a2_4 : List UInt8) (a2_5 : List UInt8) (a2_6 : List Arr) (x39 : Int) (x40 : Int) (rows7 : Int) (x2038 : List Int) : array_plain.l0 bar k (n + 1) t0 at_1 a2 a2_1 a2_2 a2_3 a2_4 a2_5 a2_6 x39 x40 rows7 x2038 =
 bif decide (x40 < x39) then
  bif decide (0 ≤ x40) && decide (x40 < ((x2038).length : Int)) then
   (x2038[(x40).toNat]?).bind fun e_1 =>
   (rd a2_6 x40).bind fun e_2 =>
   (array_May.f bar k t0 e_1 e_2).bind fun r_3 =>
   bif (!r_3) then
    some false
   else
    array_plain.l0 bar k n t0 at_1 a2 a2_1 a2_2 a2_3 a2_4 a2_5 a2_6 x39 (IntKind.i64.wrap (x40 + 1)) rows7 x2038
  else
   none
 else
  (rd t0 at_1).bind fun e_4 =>
  bif (e_4.kind == 0) then
   bif (a2_4 == ([] : List UInt8)) then
    some (decide (((a2_5).length : Int) ≥ (IntKind.i64.wrap (8 * rows7))))
   else
    some false
  else
   bif (e_4.kind == 1) then
    bif (a2_4 == ([] : List UInt8)) then
     (bits_Bytes.f bar k rows7).bind fun r_5 =>
     some (decide (((a2_5).length : Int) ≥ r_5))
    else
     some false
   else
    bif (e_4.kind == 2) then
     (array_ends.f bar k a2_4 rows7 ((a2_5).length : Int) a2_1 16).bind fun r_6 =>
     some r_6
    else
     bif (e_4.kind == 3) then
      bif (a2_5 == ([] : List UInt8)) then
       (rd a2_6 0).bind fun e_7 =>
       (array_ends.f bar k a2_4 rows7 e_7.length 0 64).bind fun r_8 =>
       some r_8
      else
       some false
     else
      bif (a2_4 == ([] : List UInt8)) then
       bif (a2_5 == ([] : List UInt8)) then
        (slices_ContainsFunc_api_Array_api_Array_array_plain_1.f bar k a2_6 rows7).bind fun r_9 =>
        some (!r_9)
       else
        some false
      else
       some false := by kernel_rfl
theorem array_dict.f_eq (bar : Bar) (k : Nat) (a0 : List Nod) (a1 : Int) (a2 : Arr) : array_dict.f bar (k + 1) a0 a1 a2 =
 (array_one.f bar k a0 a1 a2).bind fun r_1 =>
 bif (!(!r_1.2)) then
  (r_1.1).bind fun p_2 =>
  bif (!(p_2.valid != ([] : List UInt8))) then
   bif decide (((a2.data).length : Int) < (IntKind.i64.wrap (4 * (IntKind.i64.wrap (a2.offset + a2.length))))) then
    some false
   else
    array_dict.l0 bar k k a2.layout a2.offset a2.length a2.valid a2.ends a2.data a2.kids r_1.1 a2.offset
  else
   some false
 else
  some false := by kernel_rfl
theorem array_dict.l0_eq (bar : Bar) (k : Nat) (n : Nat) (a2 : Int) (a2_1 : Int) (a2_2 : Int) (a2_3 : List UInt8) (a2_4 : List UInt8) (a2_5 : List UInt8) (a2_6 : List Arr) (kid7 : Option Arr) (row9 : Int) : array_dict.l0 bar k (n + 1) a2 a2_1 a2_2 a2_3 a2_4 a2_5 a2_6 kid7 row9 =
 bif decide (row9 < (IntKind.i64.wrap (a2_1 + a2_2))) then
  (array_Number.f bar k a2_5 row9).bind fun r_1 =>
  (array_There.f bar k (Arr.mk a2 a2_1 a2_2 a2_3 a2_4 a2_5 a2_6) row9).bind fun r_2 =>
  bif r_2 then
   bif (!(!r_1.2)) then
    (kid7).bind fun p_3 =>
    bif decide (r_1.1 ≥ p_3.length) then
     some false
    else
     array_dict.l0 bar k n a2 a2_1 a2_2 a2_3 a2_4 a2_5 a2_6 kid7 (IntKind.i64.wrap (row9 + 1))
   else
    some false
  else
   array_dict.l0 bar k n a2 a2_1 a2_2 a2_3 a2_4 a2_5 a2_6 kid7 (IntKind.i64.wrap (row9 + 1))
 else
  some true := by kernel_rfl
theorem array_run.f_eq (bar : Bar) (k : Nat) (a0 : List Nod) (a1 : Int) (a2 : Arr) : array_run.f bar (k + 1) a0 a1 a2 =
 (array_one.f bar k a0 a1 a2).bind fun r_1 =>
 bif (!(!r_1.2)) then
  bif (!(a2.valid != ([] : List UInt8))) then
   (r_1.1).bind fun p_2 =>
   bif (((a2.data).length : Int) != (IntKind.i64.wrap (4 * p_2.length))) then
    some false
   else
    (r_1.1).bind fun p_3 =>
    array_run.l0 bar k k a2.layout a2.offset a2.length a2.valid a2.ends a2.data a2.kids 0 p_3.length 0
  else
   some false
 else
  some false := by kernel_rfl
theorem array_run.l0_eq (bar : Bar) (k : Nat) (n : Nat) (a2 : Int) (a2_1 : Int) (a2_2 : Int) (a2_3 : List UInt8) (a2_4 : List UInt8) (a2_5 : List UInt8) (a2_6 : List Arr) (last9 : Int) (x45 : Int) (x46 : Int) : array_run.l0 bar k (n + 1) a2 a2_1 a2_2 a2_3 a2_4 a2_5 a2_6 last9 x45 x46 =
 bif decide (x46 < x45) then
  (array_Number.f bar k a2_5 x46).bind fun r_1 =>
  bif (!(!r_1.2)) then
   bif decide (r_1.1 ≤ last9) then
    some false
   else
    array_run.l0 bar k n a2 a2_1 a2_2 a2_3 a2_4 a2_5 a2_6 r_1.1 x45 (IntKind.i64.wrap (x46 + 1))
  else
   some false
 else
  some (decide (last9 ≥ (IntKind.i64.wrap (a2_1 + a2_2)))) := by kernel_rfl
theorem read_reader_text.f_eq (bar : Bar) (k : Nat) (a0 : List Nod) (a1 : Int) (a2 : Arr) (a3 : Int) : read_reader_text.f bar (k + 1) a0 a1 a2 a3 =
 (array_There.f bar k a2 a3).bind fun r_1 =>
 bif (!r_1) then
  (value_Null.f bar k).bind fun r_2 =>
  some r_2
 else
  bif (a2.layout == 1) then
   (array_Number.f bar k a2.data a3).bind fun r_3 =>
   (rd a2.kids 0).bind fun e_4 =>
   (read_reader_row.f bar k a0 a1 e_4 r_3.1).bind fun r_5 =>
   some r_5
  else
   bif (a2.layout == 2) then
    (rd a2.kids 0).bind fun e_6 =>
    (read_run.f bar k a2 a3).bind fun r_7 =>
    (read_reader_row.f bar k a0 a1 e_6 r_7).bind fun r_8 =>
    some r_8
   else
    (read_reader_plain.f bar k a0 a1 a2 a3).bind fun r_9 =>
    some r_9 := by kernel_rfl
theorem quiverref1_BitBytes.f_eq (bar : Bar) (k : Nat) (a0 : Int) : quiverref1_BitBytes.f bar (k + 1) a0 =
 some (IntKind.i64.wrap (Int.tdiv (IntKind.i64.wrap (a0 + 7)) 8)) := by kernel_rfl
theorem quiverref7_plainMay.f_eq (bar : Bar) (k : Nat) (a0 : List Nod) (a1 : Int) (a2 : Arr) (a3 : Int) : quiverref7_plainMay.f bar (k + 1) a0 a1 a2 a3 =
 (quiverref1_Kids.f bar k a0 a1).bind fun r_1 =>
 (rd a0 a1).bind fun e_2 =>
 bif (e_2.kind == 0) then
  (quiverref7_bare.f bar k a2).bind fun r_3 =>
  bif r_3 then
   some (decide (((a2.data).length : Int) ≥ (IntKind.i64.wrap (8 * a3))))
  else
   some false
 else
  bif (e_2.kind == 1) then
   (quiverref7_bare.f bar k a2).bind fun r_4 =>
   bif r_4 then
    (quiverref1_BitBytes.f bar k a3).bind fun r_5 =>
    some (decide (((a2.data).length : Int) ≥ r_5))
   else
    some false
  else
   bif (e_2.kind == 2) then
    bif (((a2.kids).length : Int) == 0) then
     (quiverref7_mayEnds.f bar k a2.ends a3 a2.offset ((a2.data).length : Int) 16).bind fun r_6 =>
     some r_6
    else
     some false
   else
    bif (e_2.kind == 3) then
     bif (a2.data == ([] : List UInt8)) then
      bif (((a2.kids).length : Int) == 1) then
       bif decide (0 ≤ 0) && decide (0 < ((r_1.1).length : Int)) then
        (r_1.1[0]?).bind fun e_7 =>
        (rd a2.kids 0).bind fun e_8 =>
        (quiverref7_ArrayMay.f bar k a0 e_7 e_8).bind fun r_9 =>
        bif r_9 then
         (rd a2.kids 0).bind fun e_10 =>
         (quiverref7_mayEnds.f bar k a2.ends a3 a2.offset e_10.length 2147483647).bind fun r_11 =>
         some r_11
        else
         some false
       else
        none
      else
       some false
     else
      some false
    else
     bif (!(a2.data != ([] : List UInt8))) then
      bif (!(a2.ends != ([] : List UInt8))) then
       bif (((a2.kids).length : Int) != ((r_1.1).length : Int)) then
        some false
       else
        quiverref7_plainMay.l1 bar k k a3 0 a0 a2.layout a2.offset a2.length a2.valid a2.ends a2.data a2.kids r_1.1
      else
       some false
     else
      some false := by kernel_rfl
theorem quiverref7_plainMay.l1_eq (bar : Bar) (k : Nat) (n : Nat) (rows3 : Int) (i11 : Int) (t4 : List Nod) (a6 : Int) (a6_1 : Int) (a6_2 : Int) (a6_3 : List UInt8) (a6_4 : List UInt8) (a6_5 : List UInt8) (a6_6 : List Arr) (x2009 : List Int) : quiverref7_plainMay.l1 bar k (n + 1) rows3 i11 t4 a6 a6_1 a6_2 a6_3 a6_4 a6_5 a6_6 x2009 =
 bif decide (i11 < ((x2009).length : Int)) then
  bif decide (0 ≤ i11) && decide (i11 < ((x2009).length : Int)) then
   (x2009[(i11).toNat]?).bind fun e_1 =>
   (rd a6_6 i11).bind fun e_2 =>
   (quiverref7_ArrayMay.f bar k t4 e_1 e_2).bind fun r_3 =>
   bif (!(!r_3)) then
    (rd a6_6 i11).bind fun e_4 =>
    bif decide (e_4.length < rows3) then
     some false
    else
     quiverref7_plainMay.l1 bar k n rows3 (IntKind.i64.wrap (i11 + 1)) t4 a6 a6_1 a6_2 a6_3 a6_4 a6_5 a6_6 x2009
   else
    some false
  else
   none
 else
  some true := by kernel_rfl
theorem quiverref1_GetNum.f_eq (bar : Bar) (k : Nat) (a0 : List UInt8) (a1 : Int) (a2 : Int) : quiverref1_GetNum.f bar (k + 1) a0 a1 a2 =
 bif (a2 != 4) then
  bif (!(a2 != 8)) then
   bif (!(decide (a1 < 0))) then
    bif decide (a1 > (IntKind.i64.wrap (((a0).length : Int) - a2))) then
     some (0, 300)
    else
     bif decide (0 ≤ IntKind.i64.wrap (a1 + a2)) && decide (IntKind.i64.wrap (a1 + a2) ≤ (((a0).length : Nat) : Int)) then
      bif decide (0 ≤ a1) && decide (a1 ≤ (((IntKind.i64.wrap (a1 + a2)).toNat : Nat) : Int)) then
       (quiverref1_Num.f bar k (List.drop ((a1).toNat) (List.take ((IntKind.i64.wrap (a1 + a2)).toNat) a0))).bind fun r_1 =>
       bif (a2 == 4) then
        (quiverref1_in.f bar k r_1).bind fun r_2 =>
        bif (!r_2) then
         some (0, 300)
        else
         some (r_1, 0)
       else
        some (r_1, 0)
      else
       none
     else
      none
   else
    some (0, 300)
  else
   some (0, 300)
 else
  bif (!(decide (a1 < 0))) then
   bif decide (a1 > (IntKind.i64.wrap (((a0).length : Int) - a2))) then
    some (0, 300)
   else
    bif decide (0 ≤ IntKind.i64.wrap (a1 + a2)) && decide (IntKind.i64.wrap (a1 + a2) ≤ (((a0).length : Nat) : Int)) then
     bif decide (0 ≤ a1) && decide (a1 ≤ (((IntKind.i64.wrap (a1 + a2)).toNat : Nat) : Int)) then
      (quiverref1_Num.f bar k (List.drop ((a1).toNat) (List.take ((IntKind.i64.wrap (a1 + a2)).toNat) a0))).bind fun r_3 =>
      bif (a2 == 4) then
       (quiverref1_in.f bar k r_3).bind fun r_4 =>
       bif (!r_4) then
        some (0, 300)
       else
        some (r_3, 0)
      else
       some (r_3, 0)
     else
      none
    else
     none
  else
   some (0, 300) := by kernel_rfl
theorem quiverref7_there.f_eq (bar : Bar) (k : Nat) (a0 : Arr) (a1 : Int) : quiverref7_there.f bar (k + 1) a0 a1 =
 bif (!(a0.valid == ([] : List UInt8))) then
  (quiverref1_Bit.f bar k a0.valid a1).bind fun r_1 =>
  some r_1
 else
  some true := by kernel_rfl
theorem quiverref1_Num.f_eq (bar : Bar) (k : Nat) (a0 : List UInt8) : quiverref1_Num.f bar (k + 1) a0 =
 quiverref1_Num.l0 bar k k a0 0 (IntKind.i64.wrap (((a0).length : Int) - 1)) := by kernel_rfl
theorem quiverref1_Num.l0_eq (bar : Bar) (k : Nat) (n : Nat) (s0 : List UInt8) (x3 : Int) (i4 : Int) : quiverref1_Num.l0 bar k (n + 1) s0 x3 i4 =
 bif decide (i4 ≥ 0) then
  (rd s0 i4).bind fun b_1 =>
  quiverref1_Num.l0 bar k n s0 (bitsOp .or .u64 (IntKind.u64.wrap (x3 * 2 ^ (min 8 IntKind.u64.bits))) (IntKind.u64.wrap (b_1.toNat : Int))) (IntKind.i64.wrap (i4 - 1))
 else
  some (IntKind.i64.wrap x3) := by kernel_rfl
theorem quiverref7_Bool.f_eq (bar : Bar) (k : Nat) (a0 : Bool) : quiverref7_Bool.f bar (k + 1) a0 =
 bif a0 then
  some ([116] : List UInt8)
 else
  some ([102] : List UInt8) := by kernel_rfl
theorem quiverref1_Bit.f_eq (bar : Bar) (k : Nat) (a0 : List UInt8) (a1 : Int) : quiverref1_Bit.f bar (k + 1) a0 a1 =
 (rd a0 (IntKind.i64.wrap (Int.tdiv a1 8))).bind fun b_1 =>
 bif decide (Int.tmod a1 8 < 0) then
  none
 else
  some ((bitsOp .and .u8 (Int.fdiv (b_1.toNat : Int) (2 ^ (min (Int.tmod a1 8).toNat IntKind.u8.bits))) 1) == 1) := by kernel_rfl
theorem quiverref7_ends.f_eq (bar : Bar) (k : Nat) (a0 : Arr) (a1 : Int) : quiverref7_ends.f bar (k + 1) a0 a1 =
 bif decide (0 ≤ IntKind.i64.wrap ((IntKind.i64.wrap (4 * a1)) + 4)) && decide (IntKind.i64.wrap ((IntKind.i64.wrap (4 * a1)) + 4) ≤ (((a0.ends).length : Nat) : Int)) then
  bif decide (0 ≤ IntKind.i64.wrap (4 * a1)) && decide (IntKind.i64.wrap (4 * a1) ≤ (((IntKind.i64.wrap ((IntKind.i64.wrap (4 * a1)) + 4)).toNat : Nat) : Int)) then
   (quiverref1_Num.f bar k (List.drop ((IntKind.i64.wrap (4 * a1)).toNat) (List.take ((IntKind.i64.wrap ((IntKind.i64.wrap (4 * a1)) + 4)).toNat) a0.ends))).bind fun r_1 =>
   bif decide (0 ≤ IntKind.i64.wrap ((IntKind.i64.wrap (4 * a1)) + 8)) && decide (IntKind.i64.wrap ((IntKind.i64.wrap (4 * a1)) + 8) ≤ (((a0.ends).length : Nat) : Int)) then
    bif decide (0 ≤ IntKind.i64.wrap ((IntKind.i64.wrap (4 * a1)) + 4)) && decide (IntKind.i64.wrap ((IntKind.i64.wrap (4 * a1)) + 4) ≤ (((IntKind.i64.wrap ((IntKind.i64.wrap (4 * a1)) + 8)).toNat : Nat) : Int)) then
     (quiverref1_Num.f bar k (List.drop ((IntKind.i64.wrap ((IntKind.i64.wrap (4 * a1)) + 4)).toNat) (List.take ((IntKind.i64.wrap ((IntKind.i64.wrap (4 * a1)) + 8)).toNat) a0.ends))).bind fun r_2 =>
     some (r_1, r_2)
    else
     none
   else
    none
  else
   none
 else
  none := by kernel_rfl
theorem quiverref7_Bytes.f_eq (bar : Bar) (k : Nat) (a0 : List UInt8) : quiverref7_Bytes.f bar (k + 1) a0 =
 (quiverref0_Decimal.f bar k ((a0).length : Int)).bind fun r_1 =>
 bif decide ((([115] : List UInt8)).length + (r_1).length ≤ 9223372036854775807) then
  bif decide ((([115] : List UInt8) ++ r_1).length + (([58] : List UInt8)).length ≤ 9223372036854775807) then
   bif decide (((([115] : List UInt8) ++ r_1) ++ ([58] : List UInt8)).length + (a0).length ≤ 9223372036854775807) then
    some (((([115] : List UInt8) ++ r_1) ++ ([58] : List UInt8)) ++ a0)
   else
    none
  else
   none
 else
  none := by kernel_rfl
theorem quiverref7_List.f_eq (bar : Bar) (k : Nat) (a0 : List (List UInt8)) : quiverref7_List.f bar (k + 1) a0 =
 (quiverref7_all.f bar k a0).bind fun r_1 =>
 bif decide ((([91] : List UInt8)).length + (r_1).length ≤ 9223372036854775807) then
  bif decide ((([91] : List UInt8) ++ r_1).length + (([93] : List UInt8)).length ≤ 9223372036854775807) then
   some ((([91] : List UInt8) ++ r_1) ++ ([93] : List UInt8))
  else
   none
 else
  none := by kernel_rfl
theorem quiverref7_Struct.f_eq (bar : Bar) (k : Nat) (a0 : List (List UInt8)) : quiverref7_Struct.f bar (k + 1) a0 =
 (quiverref7_all.f bar k a0).bind fun r_1 =>
 bif decide ((([123] : List UInt8)).length + (r_1).length ≤ 9223372036854775807) then
  bif decide ((([123] : List UInt8) ++ r_1).length + (([125] : List UInt8)).length ≤ 9223372036854775807) then
   some ((([123] : List UInt8) ++ r_1) ++ ([125] : List UInt8))
  else
   none
 else
  none := by kernel_rfl
theorem quiverref1_TypeMay.f_eq (bar : Bar) (k : Nat) (a0 : List Nod) : quiverref1_TypeMay.f bar (k + 1) a0 =
 bif (!(decide (((a0).length : Int) < 1))) then
  bif (!(decide (((a0).length : Int) > 8))) then
   (rd a0 0).bind fun e_1 =>
   bif (e_1.parent != (-1)) then
    some false
   else
    bif (((a0).length : Int) == ((a0).length : Int)) && (decide (0 ≤ ((a0).length : Int)) && decide (((a0).length : Int) * 8 ≤ 140737488355328)) then
     quiverref1_TypeMay.l0 bar k k 0 a0 (List.replicate (((a0).length : Int)).toNat (0 : Int) : List Int)
    else
     none
  else
   some false
 else
  some false := by kernel_rfl
theorem quiverref1_TypeMay.l0_eq (bar : Bar) (k : Nat) (n : Nat) (i4 : Int) (t1 : List Nod) (x2003 : List Int) : quiverref1_TypeMay.l0 bar k (n + 1) i4 t1 x2003 =
 bif decide (i4 < ((t1).length : Int)) then
  (rd t1 i4).bind fun e_1 =>
  (quiverref1_upTo.f bar k e_1.kind 0 4).bind fun r_2 =>
  bif (!r_2) then
   some false
  else
   (quiverref1_kids.f bar k t1 i4).bind fun r_3 =>
   (quiverref1_IsLeaf.f bar k e_1.kind).bind fun r_4 =>
   bif r_4 then
    bif (!(decide (((r_3).length : Int) > 0))) then
     bif (e_1.kind == 3) then
      bif (!(((r_3).length : Int) != 1)) then
       bif (e_1.kind == 4) then
        bif decide (((r_3).length : Int) < 1) then
         some false
        else
         bif (i4 == 0) then
          quiverref1_TypeMay.l0 bar k n (IntKind.i64.wrap (i4 + 1)) t1 x2003
         else
          (quiverref1_upTo.f bar k e_1.parent 0 (IntKind.i64.wrap (i4 - 1))).bind fun r_5 =>
          bif (!(!r_5)) then
           bif decide (0 ≤ e_1.parent) && decide (e_1.parent < ((x2003).length : Int)) then
            (x2003[(e_1.parent).toNat]?).bind fun e_6 =>
            bif decide (e_6 ≥ 4) then
             some false
            else
             bif decide (0 ≤ e_1.parent) && decide (e_1.parent < ((x2003).length : Int)) then
              (x2003[(e_1.parent).toNat]?).bind fun e_7 =>
              bif decide (0 ≤ i4) && decide (i4 < ((x2003).length : Int)) then
               (x2003[(i4).toNat]?).bind fun e_8 =>
               quiverref1_TypeMay.l0 bar k n (IntKind.i64.wrap (i4 + 1)) t1 ((x2003).set ((i4).toNat) (IntKind.i64.wrap (e_7 + 1)))
              else
               none
             else
              none
           else
            none
          else
           some false
       else
        bif (i4 == 0) then
         quiverref1_TypeMay.l0 bar k n (IntKind.i64.wrap (i4 + 1)) t1 x2003
        else
         (quiverref1_upTo.f bar k e_1.parent 0 (IntKind.i64.wrap (i4 - 1))).bind fun r_9 =>
         bif (!(!r_9)) then
          bif decide (0 ≤ e_1.parent) && decide (e_1.parent < ((x2003).length : Int)) then
           (x2003[(e_1.parent).toNat]?).bind fun e_10 =>
           bif decide (e_10 ≥ 4) then
            some false
           else
            bif decide (0 ≤ e_1.parent) && decide (e_1.parent < ((x2003).length : Int)) then
             (x2003[(e_1.parent).toNat]?).bind fun e_11 =>
             bif decide (0 ≤ i4) && decide (i4 < ((x2003).length : Int)) then
              (x2003[(i4).toNat]?).bind fun e_12 =>
              quiverref1_TypeMay.l0 bar k n (IntKind.i64.wrap (i4 + 1)) t1 ((x2003).set ((i4).toNat) (IntKind.i64.wrap (e_11 + 1)))
             else
              none
            else
             none
          else
           none
         else
          some false
      else
       some false
     else
      bif (e_1.kind == 4) then
       bif decide (((r_3).length : Int) < 1) then
        some false
       else
        bif (i4 == 0) then
         quiverref1_TypeMay.l0 bar k n (IntKind.i64.wrap (i4 + 1)) t1 x2003
        else
         (quiverref1_upTo.f bar k e_1.parent 0 (IntKind.i64.wrap (i4 - 1))).bind fun r_13 =>
         bif (!(!r_13)) then
          bif decide (0 ≤ e_1.parent) && decide (e_1.parent < ((x2003).length : Int)) then
           (x2003[(e_1.parent).toNat]?).bind fun e_14 =>
           bif decide (e_14 ≥ 4) then
            some false
           else
            bif decide (0 ≤ e_1.parent) && decide (e_1.parent < ((x2003).length : Int)) then
             (x2003[(e_1.parent).toNat]?).bind fun e_15 =>
             bif decide (0 ≤ i4) && decide (i4 < ((x2003).length : Int)) then
              (x2003[(i4).toNat]?).bind fun e_16 =>
              quiverref1_TypeMay.l0 bar k n (IntKind.i64.wrap (i4 + 1)) t1 ((x2003).set ((i4).toNat) (IntKind.i64.wrap (e_15 + 1)))
             else
              none
            else
             none
          else
           none
         else
          some false
      else
       bif (i4 == 0) then
        quiverref1_TypeMay.l0 bar k n (IntKind.i64.wrap (i4 + 1)) t1 x2003
       else
        (quiverref1_upTo.f bar k e_1.parent 0 (IntKind.i64.wrap (i4 - 1))).bind fun r_17 =>
        bif (!(!r_17)) then
         bif decide (0 ≤ e_1.parent) && decide (e_1.parent < ((x2003).length : Int)) then
          (x2003[(e_1.parent).toNat]?).bind fun e_18 =>
          bif decide (e_18 ≥ 4) then
           some false
          else
           bif decide (0 ≤ e_1.parent) && decide (e_1.parent < ((x2003).length : Int)) then
            (x2003[(e_1.parent).toNat]?).bind fun e_19 =>
            bif decide (0 ≤ i4) && decide (i4 < ((x2003).length : Int)) then
             (x2003[(i4).toNat]?).bind fun e_20 =>
             quiverref1_TypeMay.l0 bar k n (IntKind.i64.wrap (i4 + 1)) t1 ((x2003).set ((i4).toNat) (IntKind.i64.wrap (e_19 + 1)))
            else
             none
           else
            none
         else
          none
        else
         some false
    else
     some false
   else
    bif (e_1.kind == 3) then
     bif (!(((r_3).length : Int) != 1)) then
      bif (e_1.kind == 4) then
       bif decide (((r_3).length : Int) < 1) then
        some false
       else
        bif (i4 == 0) then
         quiverref1_TypeMay.l0 bar k n (IntKind.i64.wrap (i4 + 1)) t1 x2003
        else
         (quiverref1_upTo.f bar k e_1.parent 0 (IntKind.i64.wrap (i4 - 1))).bind fun r_21 =>
         bif (!(!r_21)) then
          bif decide (0 ≤ e_1.parent) && decide (e_1.parent < ((x2003).length : Int)) then
           (x2003[(e_1.parent).toNat]?).bind fun e_22 =>
           bif decide (e_22 ≥ 4) then
            some false
           else
            bif decide (0 ≤ e_1.parent) && decide (e_1.parent < ((x2003).length : Int)) then
             (x2003[(e_1.parent).toNat]?).bind fun e_23 =>
             bif decide (0 ≤ i4) && decide (i4 < ((x2003).length : Int)) then
              (x2003[(i4).toNat]?).bind fun e_24 =>
              quiverref1_TypeMay.l0 bar k n (IntKind.i64.wrap (i4 + 1)) t1 ((x2003).set ((i4).toNat) (IntKind.i64.wrap (e_23 + 1)))
             else
              none
            else
             none
          else
           none
         else
          some false
      else
       bif (i4 == 0) then
        quiverref1_TypeMay.l0 bar k n (IntKind.i64.wrap (i4 + 1)) t1 x2003
       else
        (quiverref1_upTo.f bar k e_1.parent 0 (IntKind.i64.wrap (i4 - 1))).bind fun r_25 =>
        bif (!(!r_25)) then
         bif decide (0 ≤ e_1.parent) && decide (e_1.parent < ((x2003).length : Int)) then
          (x2003[(e_1.parent).toNat]?).bind fun e_26 =>
          bif decide (e_26 ≥ 4) then
           some false
          else
           bif decide (0 ≤ e_1.parent) && decide (e_1.parent < ((x2003).length : Int)) then
            (x2003[(e_1.parent).toNat]?).bind fun e_27 =>
            bif decide (0 ≤ i4) && decide (i4 < ((x2003).length : Int)) then
             (x2003[(i4).toNat]?).bind fun e_28 =>
             quiverref1_TypeMay.l0 bar k n (IntKind.i64.wrap (i4 + 1)) t1 ((x2003).set ((i4).toNat) (IntKind.i64.wrap (e_27 + 1)))
            else
             none
           else
            none
         else
          none
        else
         some false
     else
      some false
    else
     bif (e_1.kind == 4) then
      bif decide (((r_3).length : Int) < 1) then
       some false
      else
       bif (i4 == 0) then
        quiverref1_TypeMay.l0 bar k n (IntKind.i64.wrap (i4 + 1)) t1 x2003
       else
        (quiverref1_upTo.f bar k e_1.parent 0 (IntKind.i64.wrap (i4 - 1))).bind fun r_29 =>
        bif (!(!r_29)) then
         bif decide (0 ≤ e_1.parent) && decide (e_1.parent < ((x2003).length : Int)) then
          (x2003[(e_1.parent).toNat]?).bind fun e_30 =>
          bif decide (e_30 ≥ 4) then
           some false
          else
           bif decide (0 ≤ e_1.parent) && decide (e_1.parent < ((x2003).length : Int)) then
            (x2003[(e_1.parent).toNat]?).bind fun e_31 =>
            bif decide (0 ≤ i4) && decide (i4 < ((x2003).length : Int)) then
             (x2003[(i4).toNat]?).bind fun e_32 =>
             quiverref1_TypeMay.l0 bar k n (IntKind.i64.wrap (i4 + 1)) t1 ((x2003).set ((i4).toNat) (IntKind.i64.wrap (e_31 + 1)))
            else
             none
           else
            none
         else
          none
        else
         some false
     else
      bif (i4 == 0) then
       quiverref1_TypeMay.l0 bar k n (IntKind.i64.wrap (i4 + 1)) t1 x2003
      else
       (quiverref1_upTo.f bar k e_1.parent 0 (IntKind.i64.wrap (i4 - 1))).bind fun r_33 =>
       bif (!(!r_33)) then
        bif decide (0 ≤ e_1.parent) && decide (e_1.parent < ((x2003).length : Int)) then
         (x2003[(e_1.parent).toNat]?).bind fun e_34 =>
         bif decide (e_34 ≥ 4) then
          some false
         else
          bif decide (0 ≤ e_1.parent) && decide (e_1.parent < ((x2003).length : Int)) then
           (x2003[(e_1.parent).toNat]?).bind fun e_35 =>
           bif decide (0 ≤ i4) && decide (i4 < ((x2003).length : Int)) then
            (x2003[(i4).toNat]?).bind fun e_36 =>
            quiverref1_TypeMay.l0 bar k n (IntKind.i64.wrap (i4 + 1)) t1 ((x2003).set ((i4).toNat) (IntKind.i64.wrap (e_35 + 1)))
           else
            none
          else
           none
        else
         none
       else
        some false
 else
  some true := by kernel_rfl

end Go.Proofs.YtppmpfddcohkjaaDoorA
