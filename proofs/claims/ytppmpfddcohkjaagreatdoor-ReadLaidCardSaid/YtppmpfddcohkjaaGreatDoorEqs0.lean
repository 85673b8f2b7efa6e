/- Each function and each loop of the program answers as its equation says; no condition. -/
import Derived.Test.YtppmpfddcohkjaaGreatDoorFns
namespace Go.Proofs.YtppmpfddcohkjaaGreatDoorA
open Go
set_option linter.unusedVariables false
theorem quiverlaw9_ReadLaid.f_eq (bar : Bar) (k : Nat) (a0 : List Nod) (a1 : Int) (a2 : Arr) : quiverlaw9_ReadLaid.f bar (k + 1) a0 a1 a2 =
 (quiverlaw9_awake.f bar k).bind fun r_1 =>
 bif (!r_1) then
  some false
 else
  (read_Values.f bar k a0 a1 a2).bind fun r_2 =>
  (quiverlaw0_Num.f bar k r_2.2).bind fun r_3 =>
  bif (r_3 != 0) then
   some (((r_2.1).length : Int) == 0)
  else
   (quiverref11_DictOf.f bar k a0 a1 a2).bind fun r_4 =>
   (quiverref11_RunsOf.f bar k a0 a1 a2).bind fun r_5 =>
   (quiverref11_Plain.f bar k a0 a1 a2).bind fun r_6 =>
   (read_Values.f bar k a0 a1 r_6.1).bind fun r_7 =>
   bif (!(r_6.2 != 0)) then
    (quiverlaw0_Num.f bar k r_7.2).bind fun r_8 =>
    bif (!(r_8 != 0)) then
     (quiverlaw0_SameTexts.f bar k r_2.1 r_7.1).bind fun r_9 =>
     bif (!r_9) then
      some false
     else
      bif (!(r_4.2 != 0)) then
       bif (r_5.2 != 0) then
        bif (r_4.2 != 0) then
         some (r_5.2 != 0)
        else
         some false
       else
        (read_Values.f bar k a0 a1 r_4.1).bind fun r_10 =>
        (read_Values.f bar k a0 a1 r_5.1).bind fun r_11 =>
        (quiverlaw0_Num.f bar k r_10.2).bind fun r_12 =>
        bif (r_12 == 0) then
         (quiverlaw0_Num.f bar k r_11.2).bind fun r_13 =>
         bif (r_13 == 0) then
          (quiverlaw0_SameTexts.f bar k r_2.1 r_10.1).bind fun r_14 =>
          bif r_14 then
           (quiverlaw0_SameTexts.f bar k r_2.1 r_11.1).bind fun r_15 =>
           bif r_15 then
            (quiverref7_ArrayMay.f bar k a0 a1 r_4.1).bind fun r_16 =>
            some r_16
           else
            some false
          else
           some false
         else
          some false
        else
         some false
      else
       bif (r_4.2 != 0) then
        some (r_5.2 != 0)
       else
        some false
    else
     some false
   else
    some false := by kernel_rfl
theorem quiverlaw15_Equals.f_eq (bar : Bar) (k : Nat) (a0 : List Nod) (a1 : Int) (a2 : Arr) (a3 : Arr) : quiverlaw15_Equals.f bar (k + 1) a0 a1 a2 a3 =
 (quiverlaw0_CopyArray.f bar k a2).bind fun r_1 =>
 (quiverlaw0_CopyArray.f bar k a3).bind fun r_2 =>
 (equal_Equal.f bar k a0 a1 r_1 r_2).bind fun r_3 =>
 (quiverref11_Equal.f bar k a0 a1 a2 a3).bind fun r_4 =>
 bif (r_3.1 == r_4.1) then
  (quiverlaw0_Num.f bar k r_3.2).bind fun r_5 =>
  bif (r_5 == r_4.2) then
   (quiverlaw0_SameArray.f bar k r_1 a2).bind fun r_6 =>
   bif r_6 then
    (quiverlaw0_SameArray.f bar k r_2 a3).bind fun r_7 =>
    bif r_7 then
     (quiverlaw15_awake.f bar k).bind fun r_8 =>
     some r_8
    else
     some false
   else
    some false
  else
   some false
 else
  some false := by kernel_rfl
theorem quiverlaw15_EqualLaid.f_eq (bar : Bar) (k : Nat) (a0 : List Nod) (a1 : Int) (a2 : Arr) : quiverlaw15_EqualLaid.f bar (k + 1) a0 a1 a2 =
 (quiverlaw15_awake.f bar k).bind fun r_1 =>
 bif (!r_1) then
  some false
 else
  (quiverref11_Plain.f bar k a0 a1 a2).bind fun r_2 =>
  bif (r_2.2 != 0) then
   (equal_Equal.f bar k a0 a1 a2 a2).bind fun r_3 =>
   (quiverlaw0_Num.f bar k r_3.2).bind fun r_4 =>
   some (r_4 == 1500)
  else
   (equal_Equal.f bar k a0 a1 a2 r_2.1).bind fun r_5 =>
   (equal_Equal.f bar k a0 a1 r_2.1 a2).bind fun r_6 =>
   (quiverref11_DictOf.f bar k a0 a1 a2).bind fun r_7 =>
   (quiverref11_RunsOf.f bar k a0 a1 a2).bind fun r_8 =>
   bif (!(!r_5.1)) then
    bif (!(!r_6.1)) then
     (quiverlaw0_Num.f bar k r_5.2).bind fun r_9 =>
     bif (!(r_9 != 0)) then
      (quiverlaw0_Num.f bar k r_6.2).bind fun r_10 =>
      bif (r_10 != 0) then
       some false
      else
       bif (!(r_7.2 != 0)) then
        bif (r_8.2 != 0) then
         bif (r_7.2 != 0) then
          some (r_8.2 != 0)
         else
          some false
        else
         (equal_Equal.f bar k a0 a1 r_7.1 r_8.1).bind fun r_11 =>
         bif r_11.1 then
          (quiverlaw0_Num.f bar k r_11.2).bind fun r_12 =>
          some (r_12 == 0)
         else
          some false
       else
        bif (r_7.2 != 0) then
         some (r_8.2 != 0)
        else
         some false
     else
      some false
    else
     some false
   else
    some false := by kernel_rfl
theorem quiverlaw15_EqualRow.f_eq (bar : Bar) (k : Nat) (a0 : List Nod) (a1 : Int) (a2 : Arr) (a3 : Arr) (a4 : List (List UInt8)) : quiverlaw15_EqualRow.f bar (k + 1) a0 a1 a2 a3 a4 =
 (quiverlaw15_awake.f bar k).bind fun r_1 =>
 bif (!r_1) then
  some false
 else
  (quiverref7_Build.f bar k a0 a1 a4).bind fun r_2 =>
  (equal_Equal.f bar k a0 a1 a2 a3).bind fun r_3 =>
  (equal_Equal.f bar k a0 a1 a3 a2).bind fun r_4 =>
  bif (!(r_2.2 != 0)) then
   (quiverlaw0_Num.f bar k r_3.2).bind fun r_5 =>
   bif (r_5 != 0) then
    bif (r_3.1 == r_4.1) then
     (quiverlaw0_Num.f bar k r_3.2).bind fun r_6 =>
     (quiverlaw0_Num.f bar k r_4.2).bind fun r_7 =>
     some ((r_6 == 0) == (r_7 == 0))
    else
     some false
   else
    (equal_Equal.f bar k a0 a1 a2 r_2.1).bind fun r_8 =>
    (equal_Equal.f bar k a0 a1 a3 r_2.1).bind fun r_9 =>
    (equal_Equal.f bar k a0 a1 a2 a2).bind fun r_10 =>
    (quiverlaw0_Num.f bar k r_4.2).bind fun r_11 =>
    bif (r_11 == 0) then
     (quiverlaw0_Num.f bar k r_8.2).bind fun r_12 =>
     bif (r_12 == 0) then
      (quiverlaw0_Num.f bar k r_9.2).bind fun r_13 =>
      bif (r_13 == 0) then
       (quiverlaw0_Num.f bar k r_10.2).bind fun r_14 =>
       bif (r_14 == 0) then
        bif (r_3.1 == r_4.1) then
         bif r_10.1 then
          bif (!(!r_3.1)) then
           bif (r_8.1 == r_9.1) then
            bif (!(!r_8.1)) then
             bif (!(!r_9.1)) then
              some r_3.1
             else
              some true
            else
             some true
           else
            some false
          else
           bif (!(!r_8.1)) then
            bif (!(!r_9.1)) then
             some r_3.1
            else
             some true
           else
            some true
         else
          some false
        else
         some false
       else
        some false
      else
       some false
     else
      some false
    else
     some false
  else
   bif (r_3.1 == r_4.1) then
    (quiverlaw0_Num.f bar k r_3.2).bind fun r_15 =>
    (quiverlaw0_Num.f bar k r_4.2).bind fun r_16 =>
    some ((r_15 == 0) == (r_16 == 0))
   else
    some false := by kernel_rfl
theorem quiverlaw15_EqualParts.f_eq (bar : Bar) (k : Nat) (a0 : List Nod) (a1 : Int) (a2 : Arr) (a3 : List (List UInt8)) (a4 : Int) : quiverlaw15_EqualParts.f bar (k + 1) a0 a1 a2 a3 a4 =
 (quiverlaw15_awake.f bar k).bind fun r_1 =>
 bif (!r_1) then
  some false
 else
  (quiverref7_Build.f bar k a0 a1 a3).bind fun r_2 =>
  bif (!(r_2.2 != 0)) then
   (quiverref7_ArrayMay.f bar k a0 a1 a2).bind fun r_3 =>
   bif (!(!r_3)) then
    bif (a2.length != r_2.1.length) then
     some true
    else
     bif (IntKind.u64.wrap (IntKind.i64.wrap (a2.length + 1)) == 0) then
      none
     else
      (quiverref11_Slice.f bar k a0 a1 a2 0 (IntKind.i64.wrap (Int.tmod (IntKind.u64.wrap a4) (IntKind.u64.wrap (IntKind.i64.wrap (a2.length + 1)))))).bind fun r_4 =>
      (quiverref11_Slice.f bar k a0 a1 r_2.1 0 (IntKind.i64.wrap (Int.tmod (IntKind.u64.wrap a4) (IntKind.u64.wrap (IntKind.i64.wrap (a2.length + 1)))))).bind fun r_5 =>
      (quiverref11_Slice.f bar k a0 a1 a2 (IntKind.i64.wrap (Int.tmod (IntKind.u64.wrap a4) (IntKind.u64.wrap (IntKind.i64.wrap (a2.length + 1))))) (IntKind.i64.wrap (a2.length - (IntKind.i64.wrap (Int.tmod (IntKind.u64.wrap a4) (IntKind.u64.wrap (IntKind.i64.wrap (a2.length + 1)))))))).bind fun r_6 =>
      (quiverref11_Slice.f bar k a0 a1 r_2.1 (IntKind.i64.wrap (Int.tmod (IntKind.u64.wrap a4) (IntKind.u64.wrap (IntKind.i64.wrap (a2.length + 1))))) (IntKind.i64.wrap (a2.length - (IntKind.i64.wrap (Int.tmod (IntKind.u64.wrap a4) (IntKind.u64.wrap (IntKind.i64.wrap (a2.length + 1)))))))).bind fun r_7 =>
      (equal_Equal.f bar k a0 a1 a2 r_2.1).bind fun r_8 =>
      (equal_Equal.f bar k a0 a1 r_4.1 r_5.1).bind fun r_9 =>
      (equal_Equal.f bar k a0 a1 r_6.1 r_7.1).bind fun r_10 =>
      bif (r_4.2 == 0) then
       bif (r_5.2 == 0) then
        bif (r_6.2 == 0) then
         bif (r_7.2 == 0) then
          (quiverlaw0_Num.f bar k r_8.2).bind fun r_11 =>
          bif (r_11 == 0) then
           (quiverlaw0_Num.f bar k r_9.2).bind fun r_12 =>
           bif (r_12 == 0) then
            (quiverlaw0_Num.f bar k r_10.2).bind fun r_13 =>
            bif (r_13 == 0) then
             bif r_9.1 then
              some (r_8.1 == r_10.1)
             else
              some (r_8.1 == false)
            else
             some false
           else
            some false
          else
           some false
         else
          some false
        else
         some false
       else
        some false
      else
       some false
   else
    some true
  else
   some true := by kernel_rfl
theorem quiverlaw9_awake.f_eq (bar : Bar) (k : Nat) : quiverlaw9_awake.f bar (k + 1) =
 (read_Values.f bar k ([(Nod.mk 3 (-1) true), (Nod.mk 1 0 false)] : List Nod) 0 (Arr.mk 0 1 2 ([2] : List UInt8) ([0, 0, 0, 0, 1, 0, 0, 0, 3, 0, 0, 0, 3, 0, 0, 0] : List UInt8) [] ([(Arr.mk 0 0 3 [] [] ([5] : List UInt8) ([] : List Arr))] : List Arr))).bind fun r_1 =>
 (read_Value.f bar k ([(Nod.mk 3 (-1) true), (Nod.mk 1 0 false)] : List Nod) 0 (Arr.mk 0 1 2 ([2] : List UInt8) ([0, 0, 0, 0, 1, 0, 0, 0, 3, 0, 0, 0, 3, 0, 0, 0] : List UInt8) [] ([(Arr.mk 0 0 3 [] [] ([5] : List UInt8) ([] : List Arr))] : List Arr)) 0).bind fun r_2 =>
 (read_Value.f bar k ([(Nod.mk 3 (-1) true), (Nod.mk 1 0 false)] : List Nod) 0 (Arr.mk 0 1 2 ([2] : List UInt8) ([0, 0, 0, 0, 1, 0, 0, 0, 3, 0, 0, 0, 3, 0, 0, 0] : List UInt8) [] ([(Arr.mk 0 0 3 [] [] ([5] : List UInt8) ([] : List Arr))] : List Arr)) 2).bind fun r_3 =>
 (read_Values.f bar k ([(Nod.mk 3 (-1) true), (Nod.mk 1 0 false)] : List Nod) 0 (Arr.mk 0 0 0 [] [] [] ([] : List Arr))).bind fun r_4 =>
 (quiverlaw0_SameTexts.f bar k r_1.1 ([([91, 102, 116, 93] : List UInt8), ([110] : List UInt8)] : List (List UInt8))).bind fun r_5 =>
 bif r_5 then
  (quiverlaw0_Num.f bar k r_1.2).bind fun r_6 =>
  bif (r_6 == 0) then
   bif (r_2.1 == ([91, 102, 116, 93] : List UInt8)) then
    (quiverlaw0_Num.f bar k r_2.2).bind fun r_7 =>
    bif (r_7 == 0) then
     (quiverlaw0_Num.f bar k r_3.2).bind fun r_8 =>
     bif (r_8 == 900) then
      (quiverlaw0_Num.f bar k r_4.2).bind fun r_9 =>
      some (r_9 == 900)
     else
      some false
    else
     some false
   else
    some false
  else
   some false
 else
  some false := by kernel_rfl
theorem read_Values.f_eq (bar : Bar) (k : Nat) (a0 : List Nod) (a1 : Int) (a2 : Arr) : read_Values.f bar (k + 1) a0 a1 a2 =
 (array_May.f bar k a0 a1 a2).bind fun r_1 =>
 bif (!r_1) then
  some (([] : List (List UInt8)), 900)
 else
  read_Values.l0 bar k k a1 a2.length 0 a0 a2.layout a2.offset a2.valid a2.ends a2.data a2.kids ([] : List (List UInt8)) := by kernel_rfl
theorem read_Values.l0_eq (bar : Bar) (k : Nat) (n : Nat) (at_1 : Int) (x16 : Int) (x17 : Int) (t3 : List Nod) (a5 : Int) (a5_1 : Int) (a5_2 : List UInt8) (a5_3 : List UInt8) (a5_4 : List UInt8) (a5_5 : List Arr) (x2008 : List (List UInt8)) : read_Values.l0 bar k (n + 1) at_1 x16 x17 t3 a5 a5_1 a5_2 a5_3 a5_4 a5_5 x2008 =
 bif decide (x17 < x16) then
  (read_reader_row.f bar k t3 at_1 (Arr.mk a5 a5_1 x16 a5_2 a5_3 a5_4 a5_5) x17).bind fun r_1 =>
  bif decide (((x2008).length + (([r_1] : List (List UInt8))).length) * 16 ≤ 140737488355328) then
   read_Values.l0 bar k n at_1 x16 (IntKind.i64.wrap (x17 + 1)) t3 a5 a5_1 a5_2 a5_3 a5_4 a5_5 (x2008 ++ ([r_1] : List (List UInt8)))
  else
   none
 else
  some (x2008, 0) := by kernel_rfl
theorem quiverlaw0_Num.f_eq (bar : Bar) (k : Nat) (a0 : Int) : quiverlaw0_Num.f bar (k + 1) a0 =
 some a0 := by kernel_rfl
theorem quiverref11_DictOf.f_eq (bar : Bar) (k : Nat) (a0 : List Nod) (a1 : Int) (a2 : Arr) : quiverref11_DictOf.f bar (k + 1) a0 a1 a2 =
 (quiverref11_leafValues.f bar k a0 a1 a2).bind fun r_1 =>
 bif (!r_1.2) then
  some ((Arr.mk 0 0 0 [] [] [] ([] : List Arr)), 1600)
 else
  (quiverref7_Build.f bar k a0 a1 r_1.1).bind fun r_2 =>
  quiverref11_DictOf.l0 bar k k a1 0 a0 ((r_1.1).length : Int) r_2.1.valid [] r_1.1 ([] : List (List UInt8)) := by kernel_rfl
theorem quiverref11_DictOf.l0_eq (bar : Bar) (k : Nat) (n : Nat) (at_1 : Int) (i14 : Int) (t3 : List Nod) (b12 : Int) (b12_1 : List UInt8) (b12_2 : List UInt8) (x2008 : List (List UInt8)) (x2013 : List (List UInt8)) : quiverref11_DictOf.l0 bar k (n + 1) at_1 i14 t3 b12 b12_1 b12_2 x2008 x2013 =
 bif decide (i14 < ((x2008).length : Int)) then
  quiverref11_DictOf.l2 bar k n k at_1 i14 0 t3 b12 b12_1 b12_2 x2008 x2013
 else
  (quiverref7_Build.f bar k t3 at_1 x2013).bind fun r_1 =>
  some ((Arr.mk 1 0 b12 b12_1 [] b12_2 ([(Arr.mk r_1.1.layout r_1.1.offset r_1.1.length r_1.1.valid r_1.1.ends r_1.1.data r_1.1.kids)] : List Arr)), 0) := by kernel_rfl
theorem quiverref11_DictOf.l2_eq (bar : Bar) (k : Nat) (m1 : Nat) (n : Nat) (at_1 : Int) (i14 : Int) (k_15 : Int) (t3 : List Nod) (b12 : Int) (b12_1 : List UInt8) (b12_2 : List UInt8) (x2008 : List (List UInt8)) (x2013 : List (List UInt8)) : quiverref11_DictOf.l2 bar k m1 (n + 1) at_1 i14 k_15 t3 b12 b12_1 b12_2 x2008 x2013 =
 bif decide (k_15 < ((x2013).length : Int)) then
  bif decide (0 ≤ k_15) && decide (k_15 < ((x2013).length : Int)) then
   (x2013[(k_15).toNat]?).bind fun e_1 =>
   (rd x2008 i14).bind fun e_2 =>
   bif (e_1 != e_2) then
    quiverref11_DictOf.l2 bar k m1 n at_1 i14 (IntKind.i64.wrap (k_15 + 1)) t3 b12 b12_1 b12_2 x2008 x2013
   else
    (rd x2008 i14).bind fun e_3 =>
    bif (e_3 == ([110] : List UInt8)) then
     (quiverref1_Low.f bar k 0 4).bind fun r_4 =>
     bif decide ((b12_2).length + (r_4).length ≤ 9223372036854775807) then
      quiverref11_DictOf.l0 bar k m1 at_1 (IntKind.i64.wrap (i14 + 1)) t3 b12 b12_1 (b12_2 ++ r_4) x2008 x2013
     else
      none
    else
     bif (k_15 == ((x2013).length : Int)) then
      (rd x2008 i14).bind fun e_5 =>
      bif decide (((x2013).length + (([e_5] : List (List UInt8))).length) * 16 ≤ 140737488355328) then
       (quiverref1_Low.f bar k k_15 4).bind fun r_6 =>
       bif decide ((b12_2).length + (r_6).length ≤ 9223372036854775807) then
        quiverref11_DictOf.l0 bar k m1 at_1 (IntKind.i64.wrap (i14 + 1)) t3 b12 b12_1 (b12_2 ++ r_6) x2008 (x2013 ++ ([e_5] : List (List UInt8)))
       else
        none
      else
       none
     else
      (quiverref1_Low.f bar k k_15 4).bind fun r_7 =>
      bif decide ((b12_2).length + (r_7).length ≤ 9223372036854775807) then
       quiverref11_DictOf.l0 bar k m1 at_1 (IntKind.i64.wrap (i14 + 1)) t3 b12 b12_1 (b12_2 ++ r_7) x2008 x2013
      else
       none
  else
   none
 else
  (rd x2008 i14).bind fun e_8 =>
  bif (e_8 == ([110] : List UInt8)) then
   (quiverref1_Low.f bar k 0 4).bind fun r_9 =>
   bif decide ((b12_2).length + (r_9).length ≤ 9223372036854775807) then
    quiverref11_DictOf.l0 bar k m1 at_1 (IntKind.i64.wrap (i14 + 1)) t3 b12 b12_1 (b12_2 ++ r_9) x2008 x2013
   else
    none
  else
   bif (k_15 == ((x2013).length : Int)) then
    (rd x2008 i14).bind fun e_10 =>
    bif decide (((x2013).length + (([e_10] : List (List UInt8))).length) * 16 ≤ 140737488355328) then
     (quiverref1_Low.f bar k k_15 4).bind fun r_11 =>
     bif decide ((b12_2).length + (r_11).length ≤ 9223372036854775807) then
      quiverref11_DictOf.l0 bar k m1 at_1 (IntKind.i64.wrap (i14 + 1)) t3 b12 b12_1 (b12_2 ++ r_11) x2008 (x2013 ++ ([e_10] : List (List UInt8)))
     else
      none
    else
     none
   else
    (quiverref1_Low.f bar k k_15 4).bind fun r_12 =>
    bif decide ((b12_2).length + (r_12).length ≤ 9223372036854775807) then
     quiverref11_DictOf.l0 bar k m1 at_1 (IntKind.i64.wrap (i14 + 1)) t3 b12 b12_1 (b12_2 ++ r_12) x2008 x2013
    else
     none := by kernel_rfl
theorem quiverref11_RunsOf.f_eq (bar : Bar) (k : Nat) (a0 : List Nod) (a1 : Int) (a2 : Arr) : quiverref11_RunsOf.f bar (k + 1) a0 a1 a2 =
 (quiverref11_leafValues.f bar k a0 a1 a2).bind fun r_1 =>
 bif (!r_1.2) then
  some ((Arr.mk 0 0 0 [] [] [] ([] : List Arr)), 1700)
 else
  quiverref11_RunsOf.l0 bar k k a1 0 a0 ((r_1.1).length : Int) [] r_1.1 ([] : List (List UInt8)) := by kernel_rfl
theorem quiverref11_RunsOf.l0_eq (bar : Bar) (k : Nat) (n : Nat) (at_1 : Int) (i12 : Int) (t3 : List Nod) (b10 : Int) (b10_1 : List UInt8) (x2008 : List (List UInt8)) (x2011 : List (List UInt8)) : quiverref11_RunsOf.l0 bar k (n + 1) at_1 i12 t3 b10 b10_1 x2008 x2011 =
 bif decide (i12 < ((x2008).length : Int)) then
  bif (!(i12 == (IntKind.i64.wrap (((x2008).length : Int) - 1)))) then
   bif decide (0 ≤ IntKind.i64.wrap (i12 + 1)) && decide (IntKind.i64.wrap (i12 + 1) < ((x2008).length : Int)) then
    (x2008[(IntKind.i64.wrap (i12 + 1)).toNat]?).bind fun e_1 =>
    bif decide (0 ≤ i12) && decide (i12 < ((x2008).length : Int)) then
     (x2008[(i12).toNat]?).bind fun e_2 =>
     bif (e_1 != e_2) then
      bif decide (0 ≤ i12) && decide (i12 < ((x2008).length : Int)) then
       (x2008[(i12).toNat]?).bind fun e_3 =>
       bif decide (((x2011).length + (([e_3] : List (List UInt8))).length) * 16 ≤ 140737488355328) then
        (quiverref1_Low.f bar k (IntKind.i64.wrap (i12 + 1)) 4).bind fun r_4 =>
        bif decide ((b10_1).length + (r_4).length ≤ 9223372036854775807) then
         quiverref11_RunsOf.l0 bar k n at_1 (IntKind.i64.wrap (i12 + 1)) t3 b10 (b10_1 ++ r_4) x2008 (x2011 ++ ([e_3] : List (List UInt8)))
        else
         none
       else
        none
      else
       none
     else
      quiverref11_RunsOf.l0 bar k n at_1 (IntKind.i64.wrap (i12 + 1)) t3 b10 b10_1 x2008 x2011
    else
     none
   else
    none
  else
   bif decide (0 ≤ i12) && decide (i12 < ((x2008).length : Int)) then
    (x2008[(i12).toNat]?).bind fun e_5 =>
    bif decide (((x2011).length + (([e_5] : List (List UInt8))).length) * 16 ≤ 140737488355328) then
     (quiverref1_Low.f bar k (IntKind.i64.wrap (i12 + 1)) 4).bind fun r_6 =>
     bif decide ((b10_1).length + (r_6).length ≤ 9223372036854775807) then
      quiverref11_RunsOf.l0 bar k n at_1 (IntKind.i64.wrap (i12 + 1)) t3 b10 (b10_1 ++ r_6) x2008 (x2011 ++ ([e_5] : List (List UInt8)))
     else
      none
    else
     none
   else
    none
 else
  (quiverref7_Build.f bar k t3 at_1 x2011).bind fun r_7 =>
  some ((Arr.mk 2 0 b10 [] [] b10_1 ([(Arr.mk r_7.1.layout r_7.1.offset r_7.1.length r_7.1.valid r_7.1.ends r_7.1.data r_7.1.kids)] : List Arr)), 0) := by kernel_rfl
theorem quiverref11_Plain.f_eq (bar : Bar) (k : Nat) (a0 : List Nod) (a1 : Int) (a2 : Arr) : quiverref11_Plain.f bar (k + 1) a0 a1 a2 =
 (quiverref7_Values.f bar k a0 a1 a2).bind fun r_1 =>
 bif (r_1.2 != 0) then
  some ((Arr.mk 0 0 0 [] [] [] ([] : List Arr)), 1800)
 else
  (quiverref11_built.f bar k a0 a1 r_1.1 1800).bind fun r_2 =>
  some ((Arr.mk r_2.1.layout r_2.1.offset r_2.1.length r_2.1.valid r_2.1.ends r_2.1.data r_2.1.kids), r_2.2) := by kernel_rfl
theorem quiverlaw0_SameTexts.f_eq (bar : Bar) (k : Nat) (a0 : List (List UInt8)) (a1 : List (List UInt8)) : quiverlaw0_SameTexts.f bar (k + 1) a0 a1 =
 bif (((a0).length : Int) != ((a1).length : Int)) then
  some false
 else
  quiverlaw0_SameTexts.l0 bar k k a0 a1 0 := by kernel_rfl
theorem quiverlaw0_SameTexts.l0_eq (bar : Bar) (k : Nat) (n : Nat) (a0 : List (List UInt8)) (b1 : List (List UInt8)) (i5 : Int) : quiverlaw0_SameTexts.l0 bar k (n + 1) a0 b1 i5 =
 bif decide (i5 < ((a0).length : Int)) then
  (rd a0 i5).bind fun e_1 =>
  (rd b1 i5).bind fun e_2 =>
  bif (e_1 != e_2) then
   some false
  else
   quiverlaw0_SameTexts.l0 bar k n a0 b1 (IntKind.i64.wrap (i5 + 1))
 else
  some true := by kernel_rfl
theorem quiverref7_ArrayMay.f_eq (bar : Bar) (k : Nat) (a0 : List Nod) (a1 : Int) (a2 : Arr) : quiverref7_ArrayMay.f bar (k + 1) a0 a1 a2 =
 (quiverref1_NodeMay.f bar k a0 a1).bind fun r_1 =>
 bif (!(!r_1)) then
  bif (!(decide (a2.offset < 0))) then
   bif (!(decide (a2.length < 0))) then
    bif (!(decide (a2.offset > 64))) then
     bif (!(decide (a2.length > (IntKind.i64.wrap (64 - a2.offset))))) then
      bif (!(decide (((a2.valid).length : Int) > 4096))) then
       bif (!(decide (((a2.ends).length : Int) > 4096))) then
        bif decide (((a2.data).length : Int) > 4096) then
         some false
        else
         bif (a2.valid != ([] : List UInt8)) then
          (rd a0 a1).bind fun e_2 =>
          bif (!(!e_2.null)) then
           (quiverref1_BitBytes.f bar k (IntKind.i64.wrap (a2.offset + a2.length))).bind fun r_3 =>
           bif decide (((a2.valid).length : Int) < r_3) then
            some false
           else
            bif (a2.layout == 0) then
             (quiverref7_plainMay.f bar k a0 a1 a2 (IntKind.i64.wrap (a2.offset + a2.length))).bind fun r_4 =>
             some r_4
            else
             (rd a0 a1).bind fun e_5 =>
             (quiverref1_IsLeaf.f bar k e_5.kind).bind fun r_6 =>
             bif (!(!r_6)) then
              bif (!(((a2.kids).length : Int) != 1)) then
               bif (!(a2.ends != ([] : List UInt8))) then
                (rd a2.kids 0).bind fun e_7 =>
                bif (!(e_7.layout != 0)) then
                 (rd a2.kids 0).bind fun e_8 =>
                 (quiverref7_ArrayMay.f bar k a0 a1 e_8).bind fun r_9 =>
                 bif (!r_9) then
                  some false
                 else
                  (rd a2.kids 0).bind fun e_10 =>
                  bif (a2.layout == 1) then
                   bif (!(decide (((a2.data).length : Int) < (IntKind.i64.wrap (4 * (IntKind.i64.wrap (a2.offset + a2.length))))))) then
                    (rd a2.kids 0).bind fun e_11 =>
                    bif (e_11.valid != ([] : List UInt8)) then
                     some false
                    else
                     quiverref7_ArrayMay.l0 bar k k (IntKind.i64.wrap (a2.offset + a2.length)) e_10.length a2.offset a2.layout a2.offset a2.length a2.valid a2.ends a2.data a2.kids
                   else
                    some false
                  else
                   bif (!(a2.layout != 2)) then
                    bif (!(a2.valid != ([] : List UInt8))) then
                     bif (((a2.data).length : Int) != (IntKind.i64.wrap (4 * e_10.length))) then
                      some false
                     else
                      quiverref7_ArrayMay.l2 bar k k (IntKind.i64.wrap (a2.offset + a2.length)) e_10.length 0 0 a2.layout a2.offset a2.length a2.valid a2.ends a2.data a2.kids
                    else
                     some false
                   else
                    some false
                else
                 some false
               else
                some false
              else
               some false
             else
              some false
          else
           some false
         else
          bif (a2.layout == 0) then
           (quiverref7_plainMay.f bar k a0 a1 a2 (IntKind.i64.wrap (a2.offset + a2.length))).bind fun r_12 =>
           some r_12
          else
           (rd a0 a1).bind fun e_13 =>
           (quiverref1_IsLeaf.f bar k e_13.kind).bind fun r_14 =>
           bif (!(!r_14)) then
            bif (!(((a2.kids).length : Int) != 1)) then
             bif (!(a2.ends != ([] : List UInt8))) then
              (rd a2.kids 0).bind fun e_15 =>
              bif (!(e_15.layout != 0)) then
               (rd a2.kids 0).bind fun e_16 =>
               (quiverref7_ArrayMay.f bar k a0 a1 e_16).bind fun r_17 =>
               bif (!r_17) then
                some false
               else
                (rd a2.kids 0).bind fun e_18 =>
                bif (a2.layout == 1) then
                 bif (!(decide (((a2.data).length : Int) < (IntKind.i64.wrap (4 * (IntKind.i64.wrap (a2.offset + a2.length))))))) then
                  (rd a2.kids 0).bind fun e_19 =>
                  bif (e_19.valid != ([] : List UInt8)) then
                   some false
                  else
                   quiverref7_ArrayMay.l0 bar k k (IntKind.i64.wrap (a2.offset + a2.length)) e_18.length a2.offset a2.layout a2.offset a2.length a2.valid a2.ends a2.data a2.kids
                 else
                  some false
                else
                 bif (!(a2.layout != 2)) then
                  bif (!(a2.valid != ([] : List UInt8))) then
                   bif (((a2.data).length : Int) != (IntKind.i64.wrap (4 * e_18.length))) then
                    some false
                   else
                    quiverref7_ArrayMay.l2 bar k k (IntKind.i64.wrap (a2.offset + a2.length)) e_18.length 0 0 a2.layout a2.offset a2.length a2.valid a2.ends a2.data a2.kids
                  else
                   some false
                 else
                  some false
              else
               some false
             else
              some false
            else
             some false
           else
            some false
       else
        some false
      else
       some false
     else
      some false
    else
     some false
   else
    some false
  else
   some false
 else
  some false := by kernel_rfl
theorem quiverref7_ArrayMay.l0_eq (bar : Bar) (k : Nat) (n : Nat) (rows7 : Int) (k_8 : Int) (i9 : Int) (a5 : Int) (a5_1 : Int) (a5_2 : Int) (a5_3 : List UInt8) (a5_4 : List UInt8) (a5_5 : List UInt8) (a5_6 : List Arr) : quiverref7_ArrayMay.l0 bar k (n + 1) rows7 k_8 i9 a5 a5_1 a5_2 a5_3 a5_4 a5_5 a5_6 =
 bif decide (i9 < rows7) then
  (quiverref1_GetNum.f bar k a5_5 (IntKind.i64.wrap (4 * i9)) 4).bind fun r_1 =>
  (quiverref7_there.f bar k (Arr.mk a5 a5_1 a5_2 a5_3 a5_4 a5_5 a5_6) i9).bind fun r_2 =>
  bif r_2 then
   bif (!(r_1.2 != 0)) then
    bif decide (r_1.1 ≥ k_8) then
     some false
    else
     quiverref7_ArrayMay.l0 bar k n rows7 k_8 (IntKind.i64.wrap (i9 + 1)) a5 a5_1 a5_2 a5_3 a5_4 a5_5 a5_6
   else
    some false
  else
   quiverref7_ArrayMay.l0 bar k n rows7 k_8 (IntKind.i64.wrap (i9 + 1)) a5 a5_1 a5_2 a5_3 a5_4 a5_5 a5_6
 else
  some true := by kernel_rfl
theorem quiverref7_ArrayMay.l2_eq (bar : Bar) (k : Nat) (n : Nat) (rows7 : Int) (k_8 : Int) (was12 : Int) (i13 : Int) (a5 : Int) (a5_1 : Int) (a5_2 : Int) (a5_3 : List UInt8) (a5_4 : List UInt8) (a5_5 : List UInt8) (a5_6 : List Arr) : quiverref7_ArrayMay.l2 bar k (n + 1) rows7 k_8 was12 i13 a5 a5_1 a5_2 a5_3 a5_4 a5_5 a5_6 =
 bif decide (i13 < k_8) then
  (quiverref1_GetNum.f bar k a5_5 (IntKind.i64.wrap (4 * i13)) 4).bind fun r_1 =>
  bif (!(r_1.2 != 0)) then
   bif decide (r_1.1 ≤ was12) then
    some false
   else
    quiverref7_ArrayMay.l2 bar k n rows7 k_8 r_1.1 (IntKind.i64.wrap (i13 + 1)) a5 a5_1 a5_2 a5_3 a5_4 a5_5 a5_6
  else
   some false
 else
  some (decide (was12 ≥ rows7)) := by kernel_rfl
theorem quiverlaw0_CopyArray.f_eq (bar : Bar) (k : Nat) (a0 : Arr) : quiverlaw0_CopyArray.f bar (k + 1) a0 =
 quiverlaw0_CopyArray.l0 bar k k 0 a0.layout a0.offset a0.length a0.valid a0.ends a0.data a0.kids ([] : List Arr) := by kernel_rfl
theorem quiverlaw0_CopyArray.l0_eq (bar : Bar) (k : Nat) (n : Nat) (i4 : Int) (a1 : Int) (a1_1 : Int) (a1_2 : Int) (a1_3 : List UInt8) (a1_4 : List UInt8) (a1_5 : List UInt8) (a1_6 : List Arr) (x2003 : List Arr) : quiverlaw0_CopyArray.l0 bar k (n + 1) i4 a1 a1_1 a1_2 a1_3 a1_4 a1_5 a1_6 x2003 =
 bif decide (i4 < ((a1_6).length : Int)) then
  (rd a1_6 i4).bind fun e_1 =>
  (quiverlaw0_CopyArray.f bar k e_1).bind fun r_2 =>
  bif decide (((x2003).length + (([(Arr.mk r_2.layout r_2.offset r_2.length r_2.valid r_2.ends r_2.data r_2.kids)] : List Arr)).length) * 96 ≤ 140737488355328) then
   quiverlaw0_CopyArray.l0 bar k n (IntKind.i64.wrap (i4 + 1)) a1 a1_1 a1_2 a1_3 a1_4 a1_5 a1_6 (x2003 ++ ([(Arr.mk r_2.layout r_2.offset r_2.length r_2.valid r_2.ends r_2.data r_2.kids)] : List Arr))
  else
   none
 else
  some (Arr.mk a1 a1_1 a1_2 a1_3 a1_4 a1_5 x2003) := by kernel_rfl
theorem equal_Equal.f_eq (bar : Bar) (k : Nat) (a0 : List Nod) (a1 : Int) (a2 : Arr) (a3 : Arr) : equal_Equal.f bar (k + 1) a0 a1 a2 a3 =
 (read_Values.f bar k a0 a1 a2).bind fun r_1 =>
 (read_Values.f bar k a0 a1 a3).bind fun r_2 =>
 bif (!(r_1.2 != 0)) then
  bif (r_2.2 != 0) then
   some (false, 1500)
  else
   (slices_Equal_string_string.f bar k r_1.1 r_2.1).bind fun r_3 =>
   some (r_3, 0)
 else
  some (false, 1500) := by kernel_rfl
theorem quiverref11_Equal.f_eq (bar : Bar) (k : Nat) (a0 : List Nod) (a1 : Int) (a2 : Arr) (a3 : Arr) : quiverref11_Equal.f bar (k + 1) a0 a1 a2 a3 =
 (quiverref7_Values.f bar k a0 a1 a2).bind fun r_1 =>
 (quiverref7_Values.f bar k a0 a1 a3).bind fun r_2 =>
 bif (!(r_1.2 != 0)) then
  bif (r_2.2 != 0) then
   some (false, 1500)
  else
   quiverref11_Equal.l0 bar k k 0 r_1.1 r_2.1
 else
  some (false, 1500) := by kernel_rfl
theorem quiverref11_Equal.l0_eq (bar : Bar) (k : Nat) (n : Nat) (i14 : Int) (x2010 : List (List UInt8)) (x2012 : List (List UInt8)) : quiverref11_Equal.l0 bar k (n + 1) i14 x2010 x2012 =
 bif decide (i14 < ((x2010).length : Int)) then
  bif decide (i14 < ((x2012).length : Int)) then
   bif decide (0 ≤ i14) && decide (i14 < ((x2010).length : Int)) then
    (x2010[(i14).toNat]?).bind fun e_1 =>
    bif decide (0 ≤ i14) && decide (i14 < ((x2012).length : Int)) then
     (x2012[(i14).toNat]?).bind fun e_2 =>
     bif (e_1 != e_2) then
      some (false, 0)
     else
      quiverref11_Equal.l0 bar k n (IntKind.i64.wrap (i14 + 1)) x2010 x2012
    else
     none
   else
    none
  else
   some ((((x2010).length : Int) == ((x2012).length : Int)), 0)
 else
  some ((((x2010).length : Int) == ((x2012).length : Int)), 0) := by kernel_rfl
theorem quiverlaw0_SameArray.f_eq (bar : Bar) (k : Nat) (a0 : Arr) (a1 : Arr) : quiverlaw0_SameArray.f bar (k + 1) a0 a1 =
 bif (!(a0.layout != a1.layout)) then
  bif (!(a0.offset != a1.offset)) then
   bif (!(a0.length != a1.length)) then
    bif (!(a0.valid != a1.valid)) then
     bif (!(a0.ends != a1.ends)) then
      bif (!(a0.data != a1.data)) then
       bif (((a0.kids).length : Int) != ((a1.kids).length : Int)) then
        some false
       else
        quiverlaw0_SameArray.l0 bar k k 0 a0.layout a0.offset a0.length a0.valid a0.ends a0.data a0.kids a1.layout a1.offset a1.length a1.valid a1.ends a1.data a1.kids
      else
       some false
     else
      some false
    else
     some false
   else
    some false
  else
   some false
 else
  some false := by kernel_rfl
theorem quiverlaw0_SameArray.l0_eq (bar : Bar) (k : Nat) (n : Nat) (i5 : Int) (a2 : Int) (a2_1 : Int) (a2_2 : Int) (a2_3 : List UInt8) (a2_4 : List UInt8) (a2_5 : List UInt8) (a2_6 : List Arr) (b3 : Int) (b3_1 : Int) (b3_2 : Int) (b3_3 : List UInt8) (b3_4 : List UInt8) (b3_5 : List UInt8) (b3_6 : List Arr) : quiverlaw0_SameArray.l0 bar k (n + 1) i5 a2 a2_1 a2_2 a2_3 a2_4 a2_5 a2_6 b3 b3_1 b3_2 b3_3 b3_4 b3_5 b3_6 =
 bif decide (i5 < ((a2_6).length : Int)) then
  (rd a2_6 i5).bind fun e_1 =>
  (rd b3_6 i5).bind fun e_2 =>
  (quiverlaw0_SameArray.f bar k e_1 e_2).bind fun r_3 =>
  bif (!r_3) then
   some false
  else
   quiverlaw0_SameArray.l0 bar k n (IntKind.i64.wrap (i5 + 1)) a2 a2_1 a2_2 a2_3 a2_4 a2_5 a2_6 b3 b3_1 b3_2 b3_3 b3_4 b3_5 b3_6
 else
  some true := by kernel_rfl
theorem quiverlaw15_awake.f_eq (bar : Bar) (k : Nat) : quiverlaw15_awake.f bar (k + 1) =
 (quiverlaw15_ints.f bar k).bind fun r_1 =>
 (quiverlaw15_given.f bar k).bind fun r_2 =>
 (quiverref11_DictOf.f bar k r_1 0 r_2).bind fun r_3 =>
 (quiverlaw15_ints.f bar k).bind fun r_4 =>
 (quiverlaw15_given.f bar k).bind fun r_5 =>
 (equal_Equal.f bar k r_4 0 r_5 r_3.1).bind fun r_6 =>
 (quiverlaw15_ints.f bar k).bind fun r_7 =>
 (quiverlaw15_given.f bar k).bind fun r_8 =>
 (quiverref11_Slice.f bar k r_7 0 r_8 0 3).bind fun r_9 =>
 (quiverlaw15_ints.f bar k).bind fun r_10 =>
 (quiverlaw15_given.f bar k).bind fun r_11 =>
 (equal_Equal.f bar k r_10 0 r_11 r_9.1).bind fun r_12 =>
 (quiverlaw15_ints.f bar k).bind fun r_13 =>
 (quiverlaw15_given.f bar k).bind fun r_14 =>
 (equal_Equal.f bar k r_13 0 r_14 (Arr.mk 0 0 1 [] [] [] ([] : List Arr))).bind fun r_15 =>
 bif r_6.1 then
  (quiverlaw0_Num.f bar k r_6.2).bind fun r_16 =>
  bif (r_16 == 0) then
   bif (!r_12.1) then
    (quiverlaw0_Num.f bar k r_12.2).bind fun r_17 =>
    bif (r_17 == 0) then
     (quiverlaw0_Num.f bar k r_15.2).bind fun r_18 =>
     bif (r_18 == 1500) then
      (quiverlaw15_vals.f bar k r_9.1).bind fun r_19 =>
      some (((r_19).length : Int) == 3)
     else
      some false
    else
     some false
   else
    some false
  else
   some false
 else
  some false := by kernel_rfl
theorem quiverref7_Build.f_eq (bar : Bar) (k : Nat) (a0 : List Nod) (a1 : Int) (a2 : List (List UInt8)) : quiverref7_Build.f bar (k + 1) a0 a1 a2 =
 (quiverref1_NodeMay.f bar k a0 a1).bind fun r_1 =>
 bif (!r_1) then
  some ((Arr.mk 0 0 0 [] [] [] ([] : List Arr)), 1000)
 else
  quiverref7_Build.l0 bar k k a1 a2 0 a0 := by kernel_rfl
theorem quiverref7_Build.l0_eq (bar : Bar) (k : Nat) (n : Nat) (at_1 : Int) (vs2 : List (List UInt8)) (i8 : Int) (t3 : List Nod) : quiverref7_Build.l0 bar k (n + 1) at_1 vs2 i8 t3 =
 bif decide (i8 < ((vs2).length : Int)) then
  (rd vs2 i8).bind fun e_1 =>
  (quiverref7_Fits.f bar k t3 at_1 e_1).bind fun r_2 =>
  bif (!r_2) then
   some ((Arr.mk 0 0 0 [] [] [] ([] : List Arr)), 1000)
  else
   quiverref7_Build.l0 bar k n at_1 vs2 (IntKind.i64.wrap (i8 + 1)) t3
 else
  (quiverref7_build.f bar k t3 at_1 vs2).bind fun r_3 =>
  bif (!r_3.2) then
   some ((Arr.mk 0 0 0 [] [] [] ([] : List Arr)), 1001)
  else
   some ((Arr.mk r_3.1.layout r_3.1.offset r_3.1.length r_3.1.valid r_3.1.ends r_3.1.data r_3.1.kids), 0) := by kernel_rfl
theorem quiverref11_Slice.f_eq (bar : Bar) (k : Nat) (a0 : List Nod) (a1 : Int) (a2 : Arr) (a3 : Int) (a4 : Int) : quiverref11_Slice.f bar (k + 1) a0 a1 a2 a3 a4 =
 (quiverref7_ArrayMay.f bar k a0 a1 a2).bind fun r_1 =>
 bif (!r_1) then
  some ((Arr.mk 0 0 0 [] [] [] ([] : List Arr)), 1100)
 else
  bif (!(decide (a3 < 0))) then
   bif (!(decide (a4 < 0))) then
    bif (!(decide (a3 > a2.length))) then
     bif decide (a4 > (IntKind.i64.wrap (a2.length - a3))) then
      some ((Arr.mk 0 0 0 [] [] [] ([] : List Arr)), 1101)
     else
      (quiverref11_CopyArray.f bar k a2).bind fun r_2 =>
      some ((Arr.mk r_2.layout (IntKind.i64.wrap (r_2.offset + a3)) a4 r_2.valid r_2.ends r_2.data r_2.kids), 0)
    else
     some ((Arr.mk 0 0 0 [] [] [] ([] : List Arr)), 1101)
   else
    some ((Arr.mk 0 0 0 [] [] [] ([] : List Arr)), 1101)
  else
   some ((Arr.mk 0 0 0 [] [] [] ([] : List Arr)), 1101) := by kernel_rfl
theorem read_Value.f_eq (bar : Bar) (k : Nat) (a0 : List Nod) (a1 : Int) (a2 : Arr) (a3 : Int) : read_Value.f bar (k + 1) a0 a1 a2 a3 =
 (array_May.f bar k a0 a1 a2).bind fun r_1 =>
 bif (!(!r_1)) then
  bif (!(decide (a3 < 0))) then
   bif decide (a3 ≥ a2.length) then
    some (([] : List UInt8), 900)
   else
    (read_reader_row.f bar k a0 a1 a2 a3).bind fun r_2 =>
    some (r_2, 0)
  else
   some (([] : List UInt8), 900)
 else
  some (([] : List UInt8), 900) := by kernel_rfl
theorem array_May.f_eq (bar : Bar) (k : Nat) (a0 : List Nod) (a1 : Int) (a2 : Arr) : array_May.f bar (k + 1) a0 a1 a2 =
 (types_Node.f bar k a0 a1).bind fun r_1 =>
 bif (!(!r_1)) then
  (rd a0 a1).bind fun e_2 =>
  (array_buffers.f bar k e_2 a2).bind fun r_3 =>
  bif (!r_3) then
   some false
  else
   bif (a2.layout == 0) then
    (array_plain.f bar k a0 a1 a2).bind fun r_4 =>
    some r_4
   else
    bif (a2.layout == 1) then
     (array_dict.f bar k a0 a1 a2).bind fun r_5 =>
     some r_5
    else
     bif (a2.layout == 2) then
      (array_run.f bar k a0 a1 a2).bind fun r_6 =>
      some r_6
     else
      some false
 else
  some false := by kernel_rfl
theorem read_reader_row.f_eq (bar : Bar) (k : Nat) (a0 : List Nod) (a1 : Int) (a2 : Arr) (a3 : Int) : read_reader_row.f bar (k + 1) a0 a1 a2 a3 =
 (read_reader_text.f bar k a0 a1 a2 (IntKind.i64.wrap (a2.offset + a3))).bind fun r_1 =>
 some r_1 := by kernel_rfl
theorem quiverref11_leafValues.f_eq (bar : Bar) (k : Nat) (a0 : List Nod) (a1 : Int) (a2 : Arr) : quiverref11_leafValues.f bar (k + 1) a0 a1 a2 =
 (quiverref7_Values.f bar k a0 a1 a2).bind fun r_1 =>
 bif (r_1.2 == 0) then
  (rd a0 a1).bind fun e_2 =>
  (quiverref1_IsLeaf.f bar k e_2.kind).bind fun r_3 =>
  some (r_1.1, r_3)
 else
  some (r_1.1, false) := by kernel_rfl
theorem quiverref1_Low.f_eq (bar : Bar) (k : Nat) (a0 : Int) (a1 : Int) : quiverref1_Low.f bar (k + 1) a0 a1 =
 bif (a1 == a1) && (decide (0 ≤ a1) && decide (a1 * 1 ≤ 140737488355328)) then
  quiverref1_Low.l0 bar k k a0 a1 0 (List.replicate (a1).toNat (0 : Int) : List Int)
 else
  none := by kernel_rfl
theorem quiverref1_Low.l0_eq (bar : Bar) (k : Nat) (n : Nat) (x0 : Int) (size1 : Int) (i6 : Int) (x2005 : List Int) : quiverref1_Low.l0 bar k (n + 1) x0 size1 i6 x2005 =
 bif decide (i6 < size1) then
  bif decide (IntKind.i64.wrap (8 * i6) < 0) then
   none
  else
   bif decide (0 ≤ i6) && decide (i6 < ((x2005).length : Int)) then
    (x2005[(i6).toNat]?).bind fun e_1 =>
    quiverref1_Low.l0 bar k n x0 size1 (IntKind.i64.wrap (i6 + 1)) ((x2005).set ((i6).toNat) (IntKind.u8.wrap (Int.fdiv x0 (2 ^ (min (IntKind.i64.wrap (8 * i6)).toNat IntKind.i64.bits)))))
   else
    none
 else
  some (strOfBytes x2005) := by kernel_rfl
theorem quiverref7_Values.f_eq (bar : Bar) (k : Nat) (a0 : List Nod) (a1 : Int) (a2 : Arr) : quiverref7_Values.f bar (k + 1) a0 a1 a2 =
 (quiverref7_ArrayMay.f bar k a0 a1 a2).bind fun r_1 =>
 bif (!r_1) then
  some (([] : List (List UInt8)), 900)
 else
  quiverref7_Values.l0 bar k k a1 0 a0 a2.layout a2.offset a2.length a2.valid a2.ends a2.data a2.kids ([] : List (List UInt8)) := by kernel_rfl
theorem quiverref7_Values.l0_eq (bar : Bar) (k : Nat) (n : Nat) (at_1 : Int) (i9 : Int) (t3 : List Nod) (a5 : Int) (a5_1 : Int) (a5_2 : Int) (a5_3 : List UInt8) (a5_4 : List UInt8) (a5_5 : List UInt8) (a5_6 : List Arr) (x2008 : List (List UInt8)) : quiverref7_Values.l0 bar k (n + 1) at_1 i9 t3 a5 a5_1 a5_2 a5_3 a5_4 a5_5 a5_6 x2008 =
 bif decide (i9 < a5_2) then
  (quiverref7_value.f bar k t3 at_1 (Arr.mk a5 a5_1 a5_2 a5_3 a5_4 a5_5 a5_6) i9).bind fun r_1 =>
  bif decide (((x2008).length + (([r_1] : List (List UInt8))).length) * 16 ≤ 140737488355328) then
   quiverref7_Values.l0 bar k n at_1 (IntKind.i64.wrap (i9 + 1)) t3 a5 a5_1 a5_2 a5_3 a5_4 a5_5 a5_6 (x2008 ++ ([r_1] : List (List UInt8)))
  else
   none
 else
  some (x2008, 0) := by kernel_rfl
theorem quiverref11_built.f_eq (bar : Bar) (k : Nat) (a0 : List Nod) (a1 : Int) (a2 : List (List UInt8)) (a3 : Int) : quiverref11_built.f bar (k + 1) a0 a1 a2 a3 =
 (quiverref7_Build.f bar k a0 a1 a2).bind fun r_1 =>
 bif (r_1.2 != 0) then
  some ((Arr.mk 0 0 0 [] [] [] ([] : List Arr)), a3)
 else
  some ((Arr.mk r_1.1.layout r_1.1.offset r_1.1.length r_1.1.valid r_1.1.ends r_1.1.data r_1.1.kids), 0) := by kernel_rfl
theorem quiverref1_NodeMay.f_eq (bar : Bar) (k : Nat) (a0 : List Nod) (a1 : Int) : quiverref1_NodeMay.f bar (k + 1) a0 a1 =
 (quiverref1_TypeMay.f bar k a0).bind fun r_1 =>
 bif r_1 then
  bif decide (a1 ≥ 0) then
   some (decide (a1 < ((a0).length : Int)))
  else
   some false
 else
  some false := by kernel_rfl
theorem quiverref1_BitBytes.f_eq (bar : Bar) (k : Nat) (a0 : Int) : quiverref1_BitBytes.f bar (k + 1) a0 =
 some (IntKind.i64.wrap (Int.tdiv (IntKind.i64.wrap (a0 + 7)) 8)) := by kernel_rfl
theorem quiverref7_plainMay.f_eq (bar : Bar) (k : Nat) (a0 : List Nod) (a1 : Int) (a2 : Arr) (a3 : Int) : quiverref7_plainMay.f bar (k + 1) a0 a1 a2 a3 =
 (quiverref1_Kids.f bar k a0 a1).bind fun r_1 =>
 (rd a0 a1).bind fun e_2 =>
 bif (e_2.kind == 0) then
  (quiverref7_bare.f bar k a2).bind fun r_3 =>
  bif r_3 then
   some (decide (((a2.data).length : Int) ≥ (IntKind.i64.wrap (8 * a3))))
  else
   some false
 else
  bif (e_2.kind == 1) then
   (quiverref7_bare.f bar k a2).bind fun r_4 =>
   bif r_4 then
    (quiverref1_BitBytes.f bar k a3).bind fun r_5 =>
    some (decide (((a2.data).length : Int) ≥ r_5))
   else
    some false
  else
   bif (e_2.kind == 2) then
    bif (((a2.kids).length : Int) == 0) then
     (quiverref7_mayEnds.f bar k a2.ends a3 a2.offset ((a2.data).length : Int) 16).bind fun r_6 =>
     some r_6
    else
     some false
   else
    bif (e_2.kind == 3) then
     bif (a2.data == ([] : List UInt8)) then
      bif (((a2.kids).length : Int) == 1) then
       bif decide (0 ≤ 0) && decide (0 < ((r_1.1).length : Int)) then
        (r_1.1[0]?).bind fun e_7 =>
        (rd a2.kids 0).bind fun e_8 =>
        (quiverref7_ArrayMay.f bar k a0 e_7 e_8).bind fun r_9 =>
        bif r_9 then
         (rd a2.kids 0).bind fun e_10 =>
         (quiverref7_mayEnds.f bar k a2.ends a3 a2.offset e_10.length 2147483647).bind fun r_11 =>
         some r_11
        else
         some false
       else
        none
      else
       some false
     else
      some false
    else
     bif (!(a2.data != ([] : List UInt8))) then
      bif (!(a2.ends != ([] : List UInt8))) then
       bif (((a2.kids).length : Int) != ((r_1.1).length : Int)) then
        some false
       else
        quiverref7_plainMay.l1 bar k k a3 0 a0 a2.layout a2.offset a2.length a2.valid a2.ends a2.data a2.kids r_1.1
      else
       some false
     else
      some false := by kernel_rfl
theorem quiverref7_plainMay.l1_eq (bar : Bar) (k : Nat) (n : Nat) (rows3 : Int) (i11 : Int) (t4 : List Nod) (a6 : Int) (a6_1 : Int) (a6_2 : Int) (a6_3 : List UInt8) (a6_4 : List UInt8) (a6_5 : List UInt8) (a6_6 : List Arr) (x2009 : List Int) : quiverref7_plainMay.l1 bar k (n + 1) rows3 i11 t4 a6 a6_1 a6_2 a6_3 a6_4 a6_5 a6_6 x2009 =
 bif decide (i11 < ((x2009).length : Int)) then
  bif decide (0 ≤ i11) && decide (i11 < ((x2009).length : Int)) then
   (x2009[(i11).toNat]?).bind fun e_1 =>
   (rd a6_6 i11).bind fun e_2 =>
   (quiverref7_ArrayMay.f bar k t4 e_1 e_2).bind fun r_3 =>
   bif (!(!r_3)) then
    (rd a6_6 i11).bind fun e_4 =>
    bif decide (e_4.length < rows3) then
     some false
    else
     quiverref7_plainMay.l1 bar k n rows3 (IntKind.i64.wrap (i11 + 1)) t4 a6 a6_1 a6_2 a6_3 a6_4 a6_5 a6_6 x2009
   else
    some false
  else
   none
 else
  some true := by kernel_rfl
theorem quiverref1_IsLeaf.f_eq (bar : Bar) (k : Nat) (a0 : Int) : quiverref1_IsLeaf.f bar (k + 1) a0 =
 bif (a0 != 3) then
  some (a0 != 4)
 else
  some false := by kernel_rfl
theorem quiverref1_GetNum.f_eq (bar : Bar) (k : Nat) (a0 : List UInt8) (a1 : Int) (a2 : Int) : quiverref1_GetNum.f bar (k + 1) a0 a1 a2 =
 bif (a2 != 4) then
  bif (!(a2 != 8)) then
   bif (!(decide (a1 < 0))) then
    bif decide (a1 > (IntKind.i64.wrap (((a0).length : Int) - a2))) then
     some (0, 300)
    else
     bif decide (0 ≤ IntKind.i64.wrap (a1 + a2)) && decide (IntKind.i64.wrap (a1 + a2) ≤ (((a0).length : Nat) : Int)) then
      bif decide (0 ≤ a1) && decide (a1 ≤ (((IntKind.i64.wrap (a1 + a2)).toNat : Nat) : Int)) then
       (quiverref1_Num.f bar k (List.drop ((a1).toNat) (List.take ((IntKind.i64.wrap (a1 + a2)).toNat) a0))).bind fun r_1 =>
       bif (a2 == 4) then
        (quiverref1_in.f bar k r_1).bind fun r_2 =>
        bif (!r_2) then
         some (0, 300)
        else
         some (r_1, 0)
       else
        some (r_1, 0)
      else
       none
     else
      none
   else
    some (0, 300)
  else
   some (0, 300)
 else
  bif (!(decide (a1 < 0))) then
   bif decide (a1 > (IntKind.i64.wrap (((a0).length : Int) - a2))) then
    some (0, 300)
   else
    bif decide (0 ≤ IntKind.i64.wrap (a1 + a2)) && decide (IntKind.i64.wrap (a1 + a2) ≤ (((a0).length : Nat) : Int)) then
     bif decide (0 ≤ a1) && decide (a1 ≤ (((IntKind.i64.wrap (a1 + a2)).toNat : Nat) : Int)) then
      (quiverref1_Num.f bar k (List.drop ((a1).toNat) (List.take ((IntKind.i64.wrap (a1 + a2)).toNat) a0))).bind fun r_3 =>
      bif (a2 == 4) then
       (quiverref1_in.f bar k r_3).bind fun r_4 =>
       bif (!r_4) then
        some (0, 300)
       else
        some (r_3, 0)
      else
       some (r_3, 0)
     else
      none
    else
     none
  else
   some (0, 300) := by kernel_rfl
theorem quiverref7_there.f_eq (bar : Bar) (k : Nat) (a0 : Arr) (a1 : Int) : quiverref7_there.f bar (k + 1) a0 a1 =
 bif (!(a0.valid == ([] : List UInt8))) then
  (quiverref1_Bit.f bar k a0.valid a1).bind fun r_1 =>
  some r_1
 else
  some true := by kernel_rfl
theorem slices_Equal_string_string.f_eq (bar : Bar) (k : Nat) (a0 : List (List UInt8)) (a1 : List (List UInt8)) : slices_Equal_string_string.f bar (k + 1) a0 a1 =
 bif (((a0).length : Int) != ((a1).length : Int)) then
  some false
 else
  slices_Equal_string_string.l0 bar k k a0 a1 ((a0).length : Int) 0 := by kernel_rfl
theorem slices_Equal_string_string.l0_eq (bar : Bar) (k : Nat) (n : Nat) (s10 : List (List UInt8)) (s21 : List (List UInt8)) (x12 : Int) (x13 : Int) : slices_Equal_string_string.l0 bar k (n + 1) s10 s21 x12 x13 =
 bif decide (x13 < x12) then
  (rd s10 x13).bind fun e_1 =>
  (rd s21 x13).bind fun e_2 =>
  bif (e_1 != e_2) then
   some false
  else
   slices_Equal_string_string.l0 bar k n s10 s21 x12 (IntKind.i64.wrap (x13 + 1))
 else
  some true := by kernel_rfl
theorem quiverlaw15_ints.f_eq (bar : Bar) (k : Nat) : quiverlaw15_ints.f bar (k + 1) =
 some ([(Nod.mk 0 (-1) true)] : List Nod) := by kernel_rfl
theorem quiverlaw15_given.f_eq (bar : Bar) (k : Nat) : quiverlaw15_given.f bar (k + 1) =
 (quiverlaw15_ints.f bar k).bind fun r_1 =>
 (quiverref7_Build.f bar k r_1 0 ([([105, 53, 59] : List UInt8), ([110] : List UInt8), ([105, 55, 59] : List UInt8), ([105, 55, 59] : List UInt8)] : List (List UInt8))).bind fun r_2 =>
 some (Arr.mk r_2.1.layout r_2.1.offset r_2.1.length r_2.1.valid r_2.1.ends r_2.1.data r_2.1.kids) := by kernel_rfl
theorem quiverlaw15_vals.f_eq (bar : Bar) (k : Nat) (a0 : Arr) : quiverlaw15_vals.f bar (k + 1) a0 =
 (quiverlaw15_ints.f bar k).bind fun r_1 =>
 (quiverref7_Values.f bar k r_1 0 a0).bind fun r_2 =>
 some r_2.1 := by kernel_rfl
theorem quiverref7_Fits.f_eq (bar : Bar) (k : Nat) (a0 : List Nod) (a1 : Int) (a2 : List UInt8) : quiverref7_Fits.f bar (k + 1) a0 a1 a2 =
 (quiverref1_NodeMay.f bar k a0 a1).bind fun r_1 =>
 bif (!r_1) then
  some false
 else
  (rd a0 a1).bind fun e_2 =>
  (quiverref7_Parts.f bar k a2).bind fun r_3 =>
  bif (r_3.2.2 != 0) then
   some false
  else
   bif decide (r_3.1 < 0) then
    some e_2.null
   else
    (quiverref1_Kids.f bar k a0 a1).bind fun r_4 =>
    bif (!(r_3.1 != e_2.kind)) then
     bif (r_3.1 == 2) then
      bif decide (0 ≤ 0) && decide (0 < ((r_3.2.1).length : Int)) then
       (r_3.2.1[0]?).bind fun e_5 =>
       bif (!(decide (((e_5).length : Int) > 16))) then
        bif (r_3.1 == 3) then
         bif (!(decide (((r_3.2.1).length : Int) > 64))) then
          bif (r_3.1 == 4) then
           bif (((r_3.2.1).length : Int) != ((r_4.1).length : Int)) then
            some false
           else
            quiverref7_Fits.l0 bar k k r_3.1 0 a0 r_3.2.1 r_4.1
          else
           quiverref7_Fits.l0 bar k k r_3.1 0 a0 r_3.2.1 r_4.1
         else
          some false
        else
         bif (r_3.1 == 4) then
          bif (((r_3.2.1).length : Int) != ((r_4.1).length : Int)) then
           some false
          else
           quiverref7_Fits.l0 bar k k r_3.1 0 a0 r_3.2.1 r_4.1
         else
          quiverref7_Fits.l0 bar k k r_3.1 0 a0 r_3.2.1 r_4.1
       else
        some false
      else
       none
     else
      bif (r_3.1 == 3) then
       bif (!(decide (((r_3.2.1).length : Int) > 64))) then
        bif (r_3.1 == 4) then
         bif (((r_3.2.1).length : Int) != ((r_4.1).length : Int)) then
          some false
         else
          quiverref7_Fits.l0 bar k k r_3.1 0 a0 r_3.2.1 r_4.1
        else
         quiverref7_Fits.l0 bar k k r_3.1 0 a0 r_3.2.1 r_4.1
       else
        some false
      else
       bif (r_3.1 == 4) then
        bif (((r_3.2.1).length : Int) != ((r_4.1).length : Int)) then
         some false
        else
         quiverref7_Fits.l0 bar k k r_3.1 0 a0 r_3.2.1 r_4.1
       else
        quiverref7_Fits.l0 bar k k r_3.1 0 a0 r_3.2.1 r_4.1
    else
     some false := by kernel_rfl
theorem quiverref7_Fits.l0_eq (bar : Bar) (k : Nat) (n : Nat) (kind8 : Int) (i13 : Int) (t3 : List Nod) (x2009 : List (List UInt8)) (x2011 : List Int) : quiverref7_Fits.l0 bar k (n + 1) kind8 i13 t3 x2009 x2011 =
 bif decide (i13 < ((x2009).length : Int)) then
  (quiverref1_IsLeaf.f bar k kind8).bind fun r_1 =>
  bif (!r_1) then
   bif decide (0 ≤ 0) && decide (0 < ((x2011).length : Int)) then
    (x2011[0]?).bind fun e_2 =>
    bif (kind8 == 4) then
     bif decide (0 ≤ i13) && decide (i13 < ((x2011).length : Int)) then
      (x2011[(i13).toNat]?).bind fun e_3 =>
      bif decide (0 ≤ i13) && decide (i13 < ((x2009).length : Int)) then
       (x2009[(i13).toNat]?).bind fun e_4 =>
       (quiverref7_Fits.f bar k t3 e_3 e_4).bind fun r_5 =>
       bif (!r_5) then
        some false
       else
        quiverref7_Fits.l0 bar k n kind8 (IntKind.i64.wrap (i13 + 1)) t3 x2009 x2011
      else
       none
     else
      none
    else
     bif decide (0 ≤ i13) && decide (i13 < ((x2009).length : Int)) then
      (x2009[(i13).toNat]?).bind fun e_6 =>
      (quiverref7_Fits.f bar k t3 e_2 e_6).bind fun r_7 =>
      bif (!r_7) then
       some false
      else
       quiverref7_Fits.l0 bar k n kind8 (IntKind.i64.wrap (i13 + 1)) t3 x2009 x2011
     else
      none
   else
    none
  else
   some true
 else
  some true := by kernel_rfl
theorem quiverref7_build.f_eq (bar : Bar) (k : Nat) (a0 : List Nod) (a1 : Int) (a2 : List (List UInt8)) : quiverref7_build.f bar (k + 1) a0 a1 a2 =
 (quiverref7_valid.f bar k a2).bind fun r_1 =>
 bif decide (((a2).length : Int) > 64) then
  some ((Arr.mk 0 0 ((a2).length : Int) r_1 [] [] ([] : List Arr)), false)
 else
  (quiverref1_Kids.f bar k a0 a1).bind fun r_2 =>
  bif (((r_2.1).length : Int) == ((r_2.1).length : Int)) && (decide (0 ≤ ((r_2.1).length : Int)) && decide (((r_2.1).length : Int) * 24 ≤ 140737488355328)) then
   quiverref7_build.l0 bar k k a1 a2 ((((r_2.1).length : Int)).toNat) 0 a0 ((a2).length : Int) r_1 [] [] (killCC 8 6 (killCC 6 6 (killC 2012 (killC 2009 (killC 40 (frzC false (List.replicate ((((r_2.1).length : Int)).toNat) (Cell.sl .str true [])))))))) r_2.1 ([] : List Bool)
  else
   none := by kernel_rfl
theorem quiverref7_build.l0_eq (bar : Bar) (k : Nat) (n : Nat) (at_1 : Int) (vs2 : List (List UInt8)) (rows11 : Nat) (i13 : Int) (t3 : List Nod) (a8 : Int) (a8_1 : List UInt8) (a8_2 : List UInt8) (a8_3 : List UInt8) (x40 : List Cell) (x2009 : List Int) (x2012 : List Bool) : quiverref7_build.l0 bar k (n + 1) at_1 vs2 rows11 i13 t3 a8 a8_1 a8_2 a8_3 x40 x2009 x2012 =
 bif decide (i13 < ((vs2).length : Int)) then
  (rd vs2 i13).bind fun e_1 =>
  (quiverref7_Parts.f bar k e_1).bind fun r_2 =>
  (rd t3 at_1).bind fun e_3 =>
  bif (e_3.kind == 0) then
   bif decide (r_2.1 ≥ 0) then
    bif decide (0 ≤ 0) && decide (0 < ((r_2.2.1).length : Int)) then
     (r_2.2.1[0]?).bind fun e_4 =>
     (quiverref7_whole.f bar k e_4).bind fun r_5 =>
     (quiverref1_Low.f bar k r_5.1 8).bind fun r_6 =>
     bif decide ((a8_3).length + (r_6).length ≤ 9223372036854775807) then
      quiverref7_build.l0 bar k n at_1 vs2 rows11 (IntKind.i64.wrap (i13 + 1)) t3 a8 a8_1 a8_2 (a8_3 ++ r_6) (killsC [101, 102, 103, 104, 105, 106] (killC 52 x40)) x2009 x2012
     else
      none
    else
     none
   else
    (quiverref1_Low.f bar k 0 8).bind fun r_7 =>
    bif decide ((a8_3).length + (r_7).length ≤ 9223372036854775807) then
     quiverref7_build.l0 bar k n at_1 vs2 rows11 (IntKind.i64.wrap (i13 + 1)) t3 a8 a8_1 a8_2 (a8_3 ++ r_7) (killsC [101, 102, 103, 104, 105, 106] (killC 52 x40)) x2009 x2012
    else
     none
  else
   bif (e_3.kind == 1) then
    (rd vs2 i13).bind fun e_8 =>
    bif decide (((x2012).length + (([(e_8 == ([116] : List UInt8))] : List Bool)).length) * 1 ≤ 140737488355328) then
     quiverref7_build.l0 bar k n at_1 vs2 rows11 (IntKind.i64.wrap (i13 + 1)) t3 a8 a8_1 a8_2 a8_3 (killC 2012 (killC 116 (killC 115 (killC 52 x40)))) x2009 (x2012 ++ ([(e_8 == ([116] : List UInt8))] : List Bool))
    else
     none
   else
    bif (e_3.kind == 2) then
     (quiverref1_Low.f bar k ((a8_3).length : Int) 4).bind fun r_9 =>
     bif decide ((a8_2).length + (r_9).length ≤ 9223372036854775807) then
      (quiverref7_all.f bar k r_2.2.1).bind fun r_10 =>
      bif decide ((a8_3).length + (r_10).length ≤ 9223372036854775807) then
       quiverref7_build.l0 bar k n at_1 vs2 rows11 (IntKind.i64.wrap (i13 + 1)) t3 a8 a8_1 (a8_2 ++ r_9) (a8_3 ++ r_10) (killsC [127, 128, 129, 130, 131, 132] (killsC [119, 120, 121, 122, 123, 124, 125, 126] (killC 52 x40))) x2009 x2012
      else
       none
     else
      none
    else
     bif (e_3.kind == 3) then
      bif decide (0 ≤ 0) && decide (0 < ((rows11 : Nat) : Int)) then
       ((killsC [135, 136, 137, 138, 139, 140, 141, 142, 143] (killC 52 x40))[0]?).bind fun c_11 =>
       (slOf .str c_11).bind fun p_12 =>
       bif p_12.1 then
        (quiverref1_Low.f bar k ((p_12.2).length : Int) 4).bind fun r_13 =>
        bif decide ((a8_2).length + (r_13).length ≤ 9223372036854775807) then
         bif decide (0 ≤ 0) && decide (0 < ((rows11 : Nat) : Int)) then
          ((killsC [135, 136, 137, 138, 139, 140, 141, 142, 143] (killC 52 x40))[0]?).bind fun c_14 =>
          (slOf .str c_14).bind fun p_15 =>
          bif p_15.1 then
           ((killsC [135, 136, 137, 138, 139, 140, 141, 142, 143] (killC 52 x40))[0]?).bind fun c_16 =>
           (slOf .str c_16).bind fun p_17 =>
           bif decide (((p_17.2).length + (r_2.2.1).length) * 16 ≤ 140737488355328) then
            bif decide (0 ≤ 0) && decide (0 < ((rows11 : Nat) : Int)) then
             bif Nat.blt 0 (killC 149 ((killsC [135, 136, 137, 138, 139, 140, 141, 142, 143] (killC 52 x40)).set 0 (.av .und))).length then
              quiverref7_build.l0 bar k n at_1 vs2 rows11 (IntKind.i64.wrap (i13 + 1)) t3 a8 a8_1 (a8_2 ++ r_13) a8_3 (killBC 40 ((killC 149 ((killsC [135, 136, 137, 138, 139, 140, 141, 142, 143] (killC 52 x40)).set 0 (.av .und))).set 0 (Cell.sl .str true (p_17.2 ++ r_2.2.1)))) x2009 x2012
             else
              none
            else
             none
           else
            none
          else
           none
         else
          none
        else
         none
       else
        none
      else
       none
     else
      quiverref7_build.l3 bar k n k at_1 vs2 rows11 i13 r_2.1 0 t3 a8 a8_1 a8_2 a8_3 (killC 2015 (killC 52 x40)) x2009 x2012 r_2.2.1
 else
  (rd t3 at_1).bind fun e_18 =>
  bif (e_18.kind == 1) then
   (quiverref1_BitsOf.f bar k x2012).bind fun r_19 =>
   bar _ (quiverref7_build.j39 bar k rows11 t3 a8 a8_1 a8_2 r_19 x40 x2009)
  else
   bif (e_18.kind == 2) then
    (quiverref1_Low.f bar k ((a8_3).length : Int) 4).bind fun r_20 =>
    bif decide ((a8_2).length + (r_20).length ≤ 9223372036854775807) then
     bar _ (quiverref7_build.j39 bar k rows11 t3 a8 a8_1 (a8_2 ++ r_20) a8_3 (killsC [164, 165, 166, 167, 168, 169, 170, 171] x40) x2009)
    else
     none
   else
    bif (e_18.kind == 3) then
     bif decide (0 ≤ 0) && decide (0 < ((rows11 : Nat) : Int)) then
      ((killsC [174, 175, 176, 177, 178, 179, 180, 181, 182] x40)[0]?).bind fun c_21 =>
      (slOf .str c_21).bind fun p_22 =>
      bif p_22.1 then
       (quiverref1_Low.f bar k ((p_22.2).length : Int) 4).bind fun r_23 =>
       bif decide ((a8_2).length + (r_23).length ≤ 9223372036854775807) then
        bar _ (quiverref7_build.j39 bar k rows11 t3 a8 a8_1 (a8_2 ++ r_23) a8_3 (killsC [174, 175, 176, 177, 178, 179, 180, 181, 182] x40) x2009)
       else
        none
      else
       none
     else
      none
    else
     bar _ (quiverref7_build.j39 bar k rows11 t3 a8 a8_1 a8_2 a8_3 x40 x2009) := by kernel_rfl
theorem quiverref7_build.l3_eq (bar : Bar) (k : Nat) (m1 : Nat) (n : Nat) (at_1 : Int) (vs2 : List (List UInt8)) (rows11 : Nat) (i13 : Int) (kind14 : Int) (j18 : Int) (t3 : List Nod) (a8 : Int) (a8_1 : List UInt8) (a8_2 : List UInt8) (a8_3 : List UInt8) (x40 : List Cell) (x2009 : List Int) (x2012 : List Bool) (x2015 : List (List UInt8)) : quiverref7_build.l3 bar k m1 (n + 1) at_1 vs2 rows11 i13 kind14 j18 t3 a8 a8_1 a8_2 a8_3 x40 x2009 x2012 x2015 =
 bif decide (j18 < ((x2009).length : Int)) then
  bif decide (0 ≤ j18) && decide (j18 < ((x2009).length : Int)) then
   (x2009[(j18).toNat]?).bind fun e_1 =>
   (quiverref7_zero.f bar k t3 e_1).bind fun r_2 =>
   bif decide (kind14 ≥ 0) then
    bif decide (0 ≤ j18) && decide (j18 < ((x2015).length : Int)) then
     (x2015[(j18).toNat]?).bind fun e_3 =>
     bif decide (0 ≤ j18) && decide (j18 < ((rows11 : Nat) : Int)) then
      ((killsC [68, 69, 70, 71, 72, 73, 19] x40)[(j18).toNat]?).bind fun c_4 =>
      (slOf .str c_4).bind fun p_5 =>
      bif p_5.1 then
       ((killC 87 (killsC [68, 69, 70, 71, 72, 73, 19] x40))[(j18).toNat]?).bind fun c_6 =>
       (slOf .str c_6).bind fun p_7 =>
       bif decide (((p_7.2).length + (([e_3] : List (List UInt8))).length) * 16 ≤ 140737488355328) then
        bif decide (0 ≤ j18) && decide (j18 < ((rows11 : Nat) : Int)) then
         bif Nat.blt ((j18).toNat) (killC 88 ((killC 87 (killsC [68, 69, 70, 71, 72, 73, 19] x40)).set ((j18).toNat) (.av .und))).length then
          quiverref7_build.l3 bar k m1 n at_1 vs2 rows11 i13 kind14 (IntKind.i64.wrap (j18 + 1)) t3 a8 a8_1 a8_2 a8_3 (killBC 40 ((killC 88 ((killC 87 (killsC [68, 69, 70, 71, 72, 73, 19] x40)).set ((j18).toNat) (.av .und))).set ((j18).toNat) (Cell.sl .str true (p_7.2 ++ ([e_3] : List (List UInt8)))))) x2009 x2012 x2015
         else
          none
        else
         none
       else
        none
      else
       none
     else
      none
    else
     none
   else
    bif decide (0 ≤ j18) && decide (j18 < ((rows11 : Nat) : Int)) then
     ((killsC [68, 69, 70, 71, 72, 73, 19] x40)[(j18).toNat]?).bind fun c_8 =>
     (slOf .str c_8).bind fun p_9 =>
     bif p_9.1 then
      ((killC 87 (killsC [68, 69, 70, 71, 72, 73, 19] x40))[(j18).toNat]?).bind fun c_10 =>
      (slOf .str c_10).bind fun p_11 =>
      bif decide (((p_11.2).length + (([r_2] : List (List UInt8))).length) * 16 ≤ 140737488355328) then
       bif decide (0 ≤ j18) && decide (j18 < ((rows11 : Nat) : Int)) then
        bif Nat.blt ((j18).toNat) (killC 88 ((killC 87 (killsC [68, 69, 70, 71, 72, 73, 19] x40)).set ((j18).toNat) (.av .und))).length then
         quiverref7_build.l3 bar k m1 n at_1 vs2 rows11 i13 kind14 (IntKind.i64.wrap (j18 + 1)) t3 a8 a8_1 a8_2 a8_3 (killBC 40 ((killC 88 ((killC 87 (killsC [68, 69, 70, 71, 72, 73, 19] x40)).set ((j18).toNat) (.av .und))).set ((j18).toNat) (Cell.sl .str true (p_11.2 ++ ([r_2] : List (List UInt8)))))) x2009 x2012 x2015
        else
         none
       else
        none
      else
       none
     else
      none
    else
     none
  else
   none
 else
  quiverref7_build.l0 bar k m1 at_1 vs2 rows11 (IntKind.i64.wrap (i13 + 1)) t3 a8 a8_1 a8_2 a8_3 x40 x2009 x2012 := by kernel_rfl
theorem quiverref7_build.j39_eq (bar : Bar) (k : Nat) (rows11 : Nat) (t3 : List Nod) (a8 : Int) (a8_1 : List UInt8) (a8_2 : List UInt8) (a8_3 : List UInt8) (x40 : List Cell) (x2009 : List Int) : quiverref7_build.j39 bar k rows11 t3 a8 a8_1 a8_2 a8_3 x40 x2009 =
 quiverref7_build.l6 bar k k rows11 0 t3 a8 a8_1 a8_2 a8_3 ([] : List Arr) x40 x2009 := by kernel_rfl
theorem quiverref7_build.l6_eq (bar : Bar) (k : Nat) (n : Nat) (rows11 : Nat) (j20 : Int) (t3 : List Nod) (a8 : Int) (a8_1 : List UInt8) (a8_2 : List UInt8) (a8_3 : List UInt8) (a8_4 : List Arr) (x40 : List Cell) (x2009 : List Int) : quiverref7_build.l6 bar k (n + 1) rows11 j20 t3 a8 a8_1 a8_2 a8_3 a8_4 x40 x2009 =
 bif decide (j20 < ((x2009).length : Int)) then
  bif decide (0 ≤ j20) && decide (j20 < ((x2009).length : Int)) then
   (x2009[(j20).toNat]?).bind fun e_1 =>
   bif decide (0 ≤ j20) && decide (j20 < ((rows11 : Nat) : Int)) then
    ((killsC [190, 191, 192, 193, 194, 195, 196, 197, 198, 199, 189, 200, 201, 21, 22] x40)[(j20).toNat]?).bind fun c_2 =>
    (slOf .str c_2).bind fun p_3 =>
    bif p_3.1 then
     (quiverref7_build.f bar k t3 e_1 p_3.2).bind fun r_4 =>
     bif (!r_4.2) then
      some ((Arr.mk 0 0 a8 a8_1 a8_2 a8_3 a8_4), false)
     else
      bif decide (((a8_4).length + (([(Arr.mk r_4.1.layout r_4.1.offset r_4.1.length r_4.1.valid r_4.1.ends r_4.1.data r_4.1.kids)] : List Arr)).length) * 96 ≤ 140737488355328) then
       quiverref7_build.l6 bar k n rows11 (IntKind.i64.wrap (j20 + 1)) t3 a8 a8_1 a8_2 a8_3 (a8_4 ++ ([(Arr.mk r_4.1.layout r_4.1.offset r_4.1.length r_4.1.valid r_4.1.ends r_4.1.data r_4.1.kids)] : List Arr)) (killCC 8 6 (killC 209 (killC 208 (killsC [190, 191, 192, 193, 194, 195, 196, 197, 198, 199, 189, 200, 201, 21, 22] x40)))) x2009
      else
       none
    else
     none
   else
    none
  else
   none
 else
  bif decide (((a8_3).length : Int) ≤ 4096) then
   some ((Arr.mk 0 0 a8 a8_1 a8_2 a8_3 a8_4), decide (((a8_2).length : Int) ≤ 4096))
  else
   some ((Arr.mk 0 0 a8 a8_1 a8_2 a8_3 a8_4), false) := by kernel_rfl

end Go.Proofs.YtppmpfddcohkjaaGreatDoorA
