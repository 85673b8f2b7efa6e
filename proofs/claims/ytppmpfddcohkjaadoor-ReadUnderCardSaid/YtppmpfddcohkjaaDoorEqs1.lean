/- Each function and each loop of the program answers as its equation says; no condition. -/
import Derived.Test.YtppmpfddcohkjaaDoorFns
namespace Go.Proofs.YtppmpfddcohkjaaDoorA
open Go
set_option linter.unusedVariables false
theorem quiverref7_end.f_eq (bar : Bar) (k : Nat) (a0 : List UInt8) (a1 : Int) (a2 : Int) : quiverref7_end.f bar (k + 1) a0 a1 a2 =
 bif decide (a1 ≥ ((a0).length : Int)) then
  some (-1)
 else
  (rd a0 a1).bind fun b_1 =>
  bif ((b_1.toNat : Int) == 110) then
   bif ((b_1.toNat : Int) == 110) then
    some (IntKind.i64.wrap (a1 + 1))
   else
    bif ((b_1.toNat : Int) == 105) then
     (quiverref7_upto.f bar k a0 a1 59).bind fun r_2 =>
     bif decide (r_2 < 0) then
      some (-1)
     else
      bif decide (0 ≤ r_2) && decide (r_2 ≤ (((a0).length : Nat) : Int)) then
       bif decide (0 ≤ IntKind.i64.wrap (a1 + 1)) && decide (IntKind.i64.wrap (a1 + 1) ≤ (((r_2).toNat : Nat) : Int)) then
        (quiverref7_whole.f bar k (List.drop ((IntKind.i64.wrap (a1 + 1)).toNat) (List.take ((r_2).toNat) a0))).bind fun r_3 =>
        bif (!r_3.2) then
         some (-1)
        else
         some (IntKind.i64.wrap (r_2 + 1))
       else
        none
      else
       none
    else
     bif ((b_1.toNat : Int) == 115) then
      (quiverref7_upto.f bar k a0 a1 58).bind fun r_4 =>
      bif decide (r_4 < 0) then
       some (-1)
      else
       bif decide (0 ≤ r_4) && decide (r_4 ≤ (((a0).length : Nat) : Int)) then
        bif decide (0 ≤ IntKind.i64.wrap (a1 + 1)) && decide (IntKind.i64.wrap (a1 + 1) ≤ (((r_4).toNat : Nat) : Int)) then
         (quiverref7_whole.f bar k (List.drop ((IntKind.i64.wrap (a1 + 1)).toNat) (List.take ((r_4).toNat) a0))).bind fun r_5 =>
         bif (!(!r_5.2)) then
          bif (!(decide (r_5.1 < 0))) then
           bif decide (r_5.1 > (IntKind.i64.wrap ((IntKind.i64.wrap (((a0).length : Int) - r_4)) - 1))) then
            some (-1)
           else
            some (IntKind.i64.wrap ((IntKind.i64.wrap (r_4 + 1)) + r_5.1))
          else
           some (-1)
         else
          some (-1)
        else
         none
       else
        none
     else
      bif ((b_1.toNat : Int) == 91) then
       bif ((b_1.toNat : Int) == 91) then
        (rd a0 a1).bind fun b_6 =>
        quiverref7_end.l1 bar k k a0 (IntKind.i64.wrap (a1 + 1)) a2 (IntKind.u8.wrap ((b_6.toNat : Int) + 2))
       else
        some (-1)
      else
       bif ((b_1.toNat : Int) == 123) then
        (rd a0 a1).bind fun b_7 =>
        quiverref7_end.l1 bar k k a0 (IntKind.i64.wrap (a1 + 1)) a2 (IntKind.u8.wrap ((b_7.toNat : Int) + 2))
       else
        some (-1)
  else
   bif ((b_1.toNat : Int) == 116) then
    bif ((b_1.toNat : Int) == 116) then
     some (IntKind.i64.wrap (a1 + 1))
    else
     bif ((b_1.toNat : Int) == 105) then
      (quiverref7_upto.f bar k a0 a1 59).bind fun r_8 =>
      bif decide (r_8 < 0) then
       some (-1)
      else
       bif decide (0 ≤ r_8) && decide (r_8 ≤ (((a0).length : Nat) : Int)) then
        bif decide (0 ≤ IntKind.i64.wrap (a1 + 1)) && decide (IntKind.i64.wrap (a1 + 1) ≤ (((r_8).toNat : Nat) : Int)) then
         (quiverref7_whole.f bar k (List.drop ((IntKind.i64.wrap (a1 + 1)).toNat) (List.take ((r_8).toNat) a0))).bind fun r_9 =>
         bif (!r_9.2) then
          some (-1)
         else
          some (IntKind.i64.wrap (r_8 + 1))
        else
         none
       else
        none
     else
      bif ((b_1.toNat : Int) == 115) then
       (quiverref7_upto.f bar k a0 a1 58).bind fun r_10 =>
       bif decide (r_10 < 0) then
        some (-1)
       else
        bif decide (0 ≤ r_10) && decide (r_10 ≤ (((a0).length : Nat) : Int)) then
         bif decide (0 ≤ IntKind.i64.wrap (a1 + 1)) && decide (IntKind.i64.wrap (a1 + 1) ≤ (((r_10).toNat : Nat) : Int)) then
          (quiverref7_whole.f bar k (List.drop ((IntKind.i64.wrap (a1 + 1)).toNat) (List.take ((r_10).toNat) a0))).bind fun r_11 =>
          bif (!(!r_11.2)) then
           bif (!(decide (r_11.1 < 0))) then
            bif decide (r_11.1 > (IntKind.i64.wrap ((IntKind.i64.wrap (((a0).length : Int) - r_10)) - 1))) then
             some (-1)
            else
             some (IntKind.i64.wrap ((IntKind.i64.wrap (r_10 + 1)) + r_11.1))
           else
            some (-1)
          else
           some (-1)
         else
          none
        else
         none
      else
       bif ((b_1.toNat : Int) == 91) then
        bif ((b_1.toNat : Int) == 91) then
         (rd a0 a1).bind fun b_12 =>
         quiverref7_end.l1 bar k k a0 (IntKind.i64.wrap (a1 + 1)) a2 (IntKind.u8.wrap ((b_12.toNat : Int) + 2))
        else
         some (-1)
       else
        bif ((b_1.toNat : Int) == 123) then
         (rd a0 a1).bind fun b_13 =>
         quiverref7_end.l1 bar k k a0 (IntKind.i64.wrap (a1 + 1)) a2 (IntKind.u8.wrap ((b_13.toNat : Int) + 2))
        else
         some (-1)
   else
    bif ((b_1.toNat : Int) == 102) then
     some (IntKind.i64.wrap (a1 + 1))
    else
     bif ((b_1.toNat : Int) == 105) then
      (quiverref7_upto.f bar k a0 a1 59).bind fun r_14 =>
      bif decide (r_14 < 0) then
       some (-1)
      else
       bif decide (0 ≤ r_14) && decide (r_14 ≤ (((a0).length : Nat) : Int)) then
        bif decide (0 ≤ IntKind.i64.wrap (a1 + 1)) && decide (IntKind.i64.wrap (a1 + 1) ≤ (((r_14).toNat : Nat) : Int)) then
         (quiverref7_whole.f bar k (List.drop ((IntKind.i64.wrap (a1 + 1)).toNat) (List.take ((r_14).toNat) a0))).bind fun r_15 =>
         bif (!r_15.2) then
          some (-1)
         else
          some (IntKind.i64.wrap (r_14 + 1))
        else
         none
       else
        none
     else
      bif ((b_1.toNat : Int) == 115) then
       (quiverref7_upto.f bar k a0 a1 58).bind fun r_16 =>
       bif decide (r_16 < 0) then
        some (-1)
       else
        bif decide (0 ≤ r_16) && decide (r_16 ≤ (((a0).length : Nat) : Int)) then
         bif decide (0 ≤ IntKind.i64.wrap (a1 + 1)) && decide (IntKind.i64.wrap (a1 + 1) ≤ (((r_16).toNat : Nat) : Int)) then
          (quiverref7_whole.f bar k (List.drop ((IntKind.i64.wrap (a1 + 1)).toNat) (List.take ((r_16).toNat) a0))).bind fun r_17 =>
          bif (!(!r_17.2)) then
           bif (!(decide (r_17.1 < 0))) then
            bif decide (r_17.1 > (IntKind.i64.wrap ((IntKind.i64.wrap (((a0).length : Int) - r_16)) - 1))) then
             some (-1)
            else
             some (IntKind.i64.wrap ((IntKind.i64.wrap (r_16 + 1)) + r_17.1))
           else
            some (-1)
          else
           some (-1)
         else
          none
        else
         none
      else
       bif ((b_1.toNat : Int) == 91) then
        bif ((b_1.toNat : Int) == 91) then
         (rd a0 a1).bind fun b_18 =>
         quiverref7_end.l1 bar k k a0 (IntKind.i64.wrap (a1 + 1)) a2 (IntKind.u8.wrap ((b_18.toNat : Int) + 2))
        else
         some (-1)
       else
        bif ((b_1.toNat : Int) == 123) then
         (rd a0 a1).bind fun b_19 =>
         quiverref7_end.l1 bar k k a0 (IntKind.i64.wrap (a1 + 1)) a2 (IntKind.u8.wrap ((b_19.toNat : Int) + 2))
        else
         some (-1) := by kernel_rfl
theorem quiverref7_end.l1_eq (bar : Bar) (k : Nat) (n : Nat) (s0 : List UInt8) (at_1 : Int) (deep2 : Int) (stop13 : Int) : quiverref7_end.l1 bar k (n + 1) s0 at_1 deep2 stop13 =
 bif decide (deep2 > 0) then
  bif decide (at_1 < ((s0).length : Int)) then
   (rd s0 at_1).bind fun b_1 =>
   bif ((b_1.toNat : Int) != stop13) then
    (quiverref7_end.f bar k s0 at_1 (IntKind.i64.wrap (deep2 - 1))).bind fun r_2 =>
    bif decide (r_2 < 0) then
     some (-1)
    else
     quiverref7_end.l1 bar k n s0 r_2 deep2 stop13
   else
    bif decide (at_1 < ((s0).length : Int)) then
     (rd s0 at_1).bind fun b_3 =>
     bif ((b_3.toNat : Int) == stop13) then
      some (IntKind.i64.wrap (at_1 + 1))
     else
      some (-1)
    else
     some (-1)
  else
   bif decide (at_1 < ((s0).length : Int)) then
    (rd s0 at_1).bind fun b_4 =>
    bif ((b_4.toNat : Int) == stop13) then
     some (IntKind.i64.wrap (at_1 + 1))
    else
     some (-1)
   else
    some (-1)
 else
  bif decide (at_1 < ((s0).length : Int)) then
   (rd s0 at_1).bind fun b_5 =>
   bif ((b_5.toNat : Int) == stop13) then
    some (IntKind.i64.wrap (at_1 + 1))
   else
    some (-1)
  else
   some (-1) := by kernel_rfl
theorem quiverref7_upto.f_eq (bar : Bar) (k : Nat) (a0 : List UInt8) (a1 : Int) (a2 : Int) : quiverref7_upto.f bar (k + 1) a0 a1 a2 =
 quiverref7_upto.l0 bar k k a0 a1 a2 a1 := by kernel_rfl
theorem quiverref7_upto.l0_eq (bar : Bar) (k : Nat) (n : Nat) (s0 : List UInt8) (at_1 : Int) (sign2 : Int) (i7 : Int) : quiverref7_upto.l0 bar k (n + 1) s0 at_1 sign2 i7 =
 bif decide (i7 < ((s0).length : Int)) then
  bif decide (i7 < (IntKind.i64.wrap (at_1 + 22))) then
   (rd s0 i7).bind fun b_1 =>
   bif ((b_1.toNat : Int) == sign2) then
    some i7
   else
    quiverref7_upto.l0 bar k n s0 at_1 sign2 (IntKind.i64.wrap (i7 + 1))
  else
   some (-1)
 else
  some (-1) := by kernel_rfl
theorem quiverref1_kids.f_eq (bar : Bar) (k : Nat) (a0 : List Nod) (a1 : Int) : quiverref1_kids.f bar (k + 1) a0 a1 =
 quiverref1_kids.l0 bar k k a1 1 a0 ([] : List Int) := by kernel_rfl
theorem quiverref1_kids.l0_eq (bar : Bar) (k : Nat) (n : Nat) (at_1 : Int) (i6 : Int) (t2 : List Nod) (x2005 : List Int) : quiverref1_kids.l0 bar k (n + 1) at_1 i6 t2 x2005 =
 bif decide (i6 < ((t2).length : Int)) then
  (rd t2 i6).bind fun e_1 =>
  bif (e_1.parent == at_1) then
   bif decide (((x2005).length + (([i6] : List Int)).length) * 8 ≤ 140737488355328) then
    quiverref1_kids.l0 bar k n at_1 (IntKind.i64.wrap (i6 + 1)) t2 (x2005 ++ ([i6] : List Int))
   else
    none
  else
   quiverref1_kids.l0 bar k n at_1 (IntKind.i64.wrap (i6 + 1)) t2 x2005
 else
  some x2005 := by kernel_rfl
theorem quiverref0_Decimal.f_eq (bar : Bar) (k : Nat) (a0 : Int) : quiverref0_Decimal.f bar (k + 1) a0 =
 bif decide (a0 < 0) then
  bar _ (quiverref0_Decimal.j4 bar k a0 (IntKind.u64.wrap ((IntKind.u64.wrap (IntKind.i64.wrap (0 - (IntKind.i64.wrap (a0 + 1))))) + 1)))
 else
  bar _ (quiverref0_Decimal.j4 bar k a0 (IntKind.u64.wrap a0)) := by kernel_rfl
theorem quiverref0_Decimal.j4_eq (bar : Bar) (k : Nat) (x0 : Int) (size3 : Int) : quiverref0_Decimal.j4 bar k x0 size3 =
 quiverref0_Decimal.l0 bar k k x0 size3 ([] : List Int) := by kernel_rfl
theorem quiverref0_Decimal.l0_eq (bar : Bar) (k : Nat) (n : Nat) (x0 : Int) (size3 : Int) (x2004 : List Int) : quiverref0_Decimal.l0 bar k (n + 1) x0 size3 x2004 =
 bif (!(decide (size3 > 0))) then
  bif (((x2004).length : Int) == 0) then
   bif decide (((([IntKind.u8.wrap (IntKind.u64.wrap (48 + (Int.tmod size3 10)))] : List Int)).length + (x2004).length) * 1 ≤ 140737488355328) then
    quiverref0_Decimal.l0 bar k n x0 (IntKind.u64.wrap (Int.tdiv size3 10)) (([IntKind.u8.wrap (IntKind.u64.wrap (48 + (Int.tmod size3 10)))] : List Int) ++ x2004)
   else
    none
  else
   bif decide (x0 < 0) then
    bif decide (((([45] : List Int)).length + (x2004).length) * 1 ≤ 140737488355328) then
     some (strOfBytes (([45] : List Int) ++ x2004))
    else
     none
   else
    some (strOfBytes x2004)
 else
  bif decide (((([IntKind.u8.wrap (IntKind.u64.wrap (48 + (Int.tmod size3 10)))] : List Int)).length + (x2004).length) * 1 ≤ 140737488355328) then
   quiverref0_Decimal.l0 bar k n x0 (IntKind.u64.wrap (Int.tdiv size3 10)) (([IntKind.u8.wrap (IntKind.u64.wrap (48 + (Int.tmod size3 10)))] : List Int) ++ x2004)
  else
   none := by kernel_rfl
theorem types_May.f_eq (bar : Bar) (k : Nat) (a0 : List Nod) : types_May.f bar (k + 1) a0 =
 bif (!(((a0).length : Int) == 0)) then
  bif decide (((a0).length : Int) > 8) then
   some false
  else
   types_May.l0 bar k k a0 ((a0).length : Int) 0
 else
  some false := by kernel_rfl
theorem types_May.l0_eq (bar : Bar) (k : Nat) (n : Nat) (x19 : List Nod) (x20 : Int) (x21 : Int) : types_May.l0 bar k (n + 1) x19 x20 x21 =
 bif decide (x21 < x20) then
  (rd x19 x21).bind fun e_1 =>
  bif (!(decide (e_1.kind < 0))) then
   bif (!(decide (e_1.kind > 4))) then
    (types_stands.f bar k x19 x21).bind fun r_2 =>
    bif (!r_2) then
     some false
    else
     types_May.l0 bar k n x19 x20 (IntKind.i64.wrap (x21 + 1))
   else
    some false
  else
   some false
 else
  types_May.l2 bar k k x19 ((x19).length : Int) 0 := by kernel_rfl
theorem types_May.l2_eq (bar : Bar) (k : Nat) (n : Nat) (x41 : List Nod) (x42 : Int) (x43 : Int) : types_May.l2 bar k (n + 1) x41 x42 x43 =
 bif decide (x43 < x42) then
  (rd x41 x43).bind fun e_1 =>
  (types_kids.f bar k x41 x43).bind fun r_2 =>
  bif (e_1.kind == 3) then
   bif (!(((r_2).length : Int) != 1)) then
    bif (e_1.kind == 4) then
     bif (!(((r_2).length : Int) == 0)) then
      (types_way.f bar k x41 x43).bind fun r_3 =>
      bif decide (((r_3).length : Int) > 5) then
       some false
      else
       types_May.l2 bar k n x41 x42 (IntKind.i64.wrap (x43 + 1))
     else
      some false
    else
     (types_way.f bar k x41 x43).bind fun r_4 =>
     bif decide (((r_4).length : Int) > 5) then
      some false
     else
      types_May.l2 bar k n x41 x42 (IntKind.i64.wrap (x43 + 1))
   else
    some false
  else
   bif (e_1.kind == 4) then
    bif (!(((r_2).length : Int) == 0)) then
     (types_way.f bar k x41 x43).bind fun r_5 =>
     bif decide (((r_5).length : Int) > 5) then
      some false
     else
      types_May.l2 bar k n x41 x42 (IntKind.i64.wrap (x43 + 1))
    else
     some false
   else
    (types_way.f bar k x41 x43).bind fun r_6 =>
    bif decide (((r_6).length : Int) > 5) then
     some false
    else
     types_May.l2 bar k n x41 x42 (IntKind.i64.wrap (x43 + 1))
 else
  some true := by kernel_rfl
theorem bits_Bytes.f_eq (bar : Bar) (k : Nat) (a0 : Int) : bits_Bytes.f bar (k + 1) a0 =
 some (IntKind.i64.wrap (Int.tdiv (IntKind.i64.wrap (a0 + 7)) 8)) := by kernel_rfl
theorem types_Kids.f_eq (bar : Bar) (k : Nat) (a0 : List Nod) (a1 : Int) : types_Kids.f bar (k + 1) a0 a1 =
 (types_Node.f bar k a0 a1).bind fun r_1 =>
 bif (!r_1) then
  some (([] : List Int), 500)
 else
  (types_kids.f bar k a0 a1).bind fun r_2 =>
  some (r_2, 0) := by kernel_rfl
theorem array_ends.f_eq (bar : Bar) (k : Nat) (a0 : List UInt8) (a1 : Int) (a2 : Int) (a3 : Int) (a4 : Int) : array_ends.f bar (k + 1) a0 a1 a2 a3 a4 =
 array_ends.l0 bar k k a0 a2 a3 a4 0 (IntKind.i64.wrap (a1 + 1)) 0 := by kernel_rfl
theorem array_ends.l0_eq (bar : Bar) (k : Nat) (n : Nat) (s0 : List UInt8) (most2 : Int) (from_3 : Int) (apart4 : Int) (last11 : Int) (x16 : Int) (x17 : Int) : array_ends.l0 bar k (n + 1) s0 most2 from_3 apart4 last11 x16 x17 =
 bif decide (x17 < x16) then
  (array_Number.f bar k s0 x17).bind fun r_1 =>
  bif (!(!r_1.2)) then
   bif (!(decide (r_1.1 > most2))) then
    bif decide (x17 > 0) then
     bif (!(decide (r_1.1 < last11))) then
      bif decide (x17 > from_3) then
       bif decide ((IntKind.i64.wrap (r_1.1 - last11)) > apart4) then
        some false
       else
        array_ends.l0 bar k n s0 most2 from_3 apart4 r_1.1 x16 (IntKind.i64.wrap (x17 + 1))
      else
       array_ends.l0 bar k n s0 most2 from_3 apart4 r_1.1 x16 (IntKind.i64.wrap (x17 + 1))
     else
      some false
    else
     array_ends.l0 bar k n s0 most2 from_3 apart4 r_1.1 x16 (IntKind.i64.wrap (x17 + 1))
   else
    some false
  else
   some false
 else
  some true := by kernel_rfl
theorem slices_ContainsFunc_api_Array_api_Array_array_plain_1.f_eq (bar : Bar) (k : Nat) (a0 : List Arr) (a1_0 : Int) : slices_ContainsFunc_api_Array_api_Array_array_plain_1.f bar (k + 1) a0 a1_0 =
 (slices_IndexFunc_api_Array_api_Array_array_plain_1.f bar k a0 a1_0).bind fun r_1 =>
 some (decide (r_1 ≥ 0)) := by kernel_rfl
theorem array_one.f_eq (bar : Bar) (k : Nat) (a0 : List Nod) (a1 : Int) (a2 : Arr) : array_one.f bar (k + 1) a0 a1 a2 =
 (rd a0 a1).bind fun e_1 =>
 (types_Inner.f bar k e_1.kind).bind fun r_2 =>
 bif (!r_2) then
  bif (!(a2.ends != ([] : List UInt8))) then
   bif (((a2.kids).length : Int) != 1) then
    some ((none : Option Arr), false)
   else
    (rd a2.kids 0).bind fun e_3 =>
    bif (e_3.layout == 0) then
     (array_May.f bar k a0 a1 e_3).bind fun r_4 =>
     some (some (Arr.mk e_3.layout e_3.offset e_3.length e_3.valid e_3.ends e_3.data e_3.kids), r_4)
    else
     some (some (Arr.mk e_3.layout e_3.offset e_3.length e_3.valid e_3.ends e_3.data e_3.kids), false)
  else
   some ((none : Option Arr), false)
 else
  some ((none : Option Arr), false) := by kernel_rfl
theorem array_Number.f_eq (bar : Bar) (k : Nat) (a0 : List UInt8) (a1 : Int) : array_Number.f bar (k + 1) a0 a1 =
 (num_Get.f bar k a0 (IntKind.i64.wrap (4 * a1)) 4).bind fun r_1 =>
 some (r_1.1, (r_1.2 == 0)) := by kernel_rfl
theorem array_There.f_eq (bar : Bar) (k : Nat) (a0 : Arr) (a1 : Int) : array_There.f bar (k + 1) a0 a1 =
 bif (!(a0.valid == ([] : List UInt8))) then
  (bits_On.f bar k a0.valid a1).bind fun r_1 =>
  some r_1
 else
  some true := by kernel_rfl
theorem value_Null.f_eq (bar : Bar) (k : Nat) : value_Null.f bar (k + 1) =
 some ([110] : List UInt8) := by kernel_rfl
theorem read_run.f_eq (bar : Bar) (k : Nat) (a0 : Arr) (a1 : Int) : read_run.f bar (k + 1) a0 a1 =
 read_run.l0 bar k k a0.layout a0.offset a0.length a0.valid a0.ends a0.data a0.kids a1 0 := by kernel_rfl
theorem read_run.l0_eq (bar : Bar) (k : Nat) (n : Nat) (a0 : Int) (a0_1 : Int) (a0_2 : Int) (a0_3 : List UInt8) (a0_4 : List UInt8) (a0_5 : List UInt8) (a0_6 : List Arr) (row1 : Int) (i5 : Int) : read_run.l0 bar k (n + 1) a0 a0_1 a0_2 a0_3 a0_4 a0_5 a0_6 row1 i5 =
 (array_Number.f bar k a0_5 i5).bind fun r_1 =>
 bif decide (r_1.1 > row1) then
  some i5
 else
  read_run.l0 bar k n a0 a0_1 a0_2 a0_3 a0_4 a0_5 a0_6 row1 (IntKind.i64.wrap (i5 + 1)) := by kernel_rfl
theorem read_reader_plain.f_eq (bar : Bar) (k : Nat) (a0 : List Nod) (a1 : Int) (a2 : Arr) (a3 : Int) : read_reader_plain.f bar (k + 1) a0 a1 a2 a3 =
 (rd a0 a1).bind fun e_1 =>
 bif (e_1.kind == 0) then
  bif decide (0 ≤ IntKind.i64.wrap (8 * (IntKind.i64.wrap (a3 + 1)))) && decide (IntKind.i64.wrap (8 * (IntKind.i64.wrap (a3 + 1))) ≤ (((a2.data).length : Nat) : Int)) then
   bif decide (0 ≤ IntKind.i64.wrap (8 * a3)) && decide (IntKind.i64.wrap (8 * a3) ≤ (((IntKind.i64.wrap (8 * (IntKind.i64.wrap (a3 + 1)))).toNat : Nat) : Int)) then
    (num_Of.f bar k (List.drop ((IntKind.i64.wrap (8 * a3)).toNat) (List.take ((IntKind.i64.wrap (8 * (IntKind.i64.wrap (a3 + 1)))).toNat) a2.data))).bind fun r_2 =>
    (value_Int.f bar k r_2).bind fun r_3 =>
    some r_3
   else
    none
  else
   none
 else
  bif (e_1.kind == 1) then
   (bits_On.f bar k a2.data a3).bind fun r_4 =>
   (value_Bool.f bar k r_4).bind fun r_5 =>
   some r_5
  else
   (types_Kids.f bar k a0 a1).bind fun r_6 =>
   (array_Number.f bar k a2.ends a3).bind fun r_7 =>
   (array_Number.f bar k a2.ends (IntKind.i64.wrap (a3 + 1))).bind fun r_8 =>
   (rd a0 a1).bind fun e_9 =>
   bif (e_9.kind == 2) then
    bif decide (0 ≤ r_8.1) && decide (r_8.1 ≤ (((a2.data).length : Nat) : Int)) then
     bif decide (0 ≤ r_7.1) && decide (r_7.1 ≤ (((r_8.1).toNat : Nat) : Int)) then
      (value_Bytes.f bar k (List.drop ((r_7.1).toNat) (List.take ((r_8.1).toNat) a2.data))).bind fun r_10 =>
      some r_10
     else
      none
    else
     none
   else
    bif (e_9.kind == 3) then
     read_reader_plain.l2 bar k k a2.layout a2.offset a2.length a2.valid a2.ends a2.data a2.kids r_8.1 r_7.1 a0 r_6.1 ([] : List (List UInt8))
    else
     read_reader_plain.l4 bar k k a2.layout a2.offset a2.length a2.valid a2.ends a2.data a2.kids a3 ((r_6.1).length : Int) 0 a0 ([] : List (List UInt8)) r_6.1 := by kernel_rfl
theorem read_reader_plain.l2_eq (bar : Bar) (k : Nat) (n : Nat) (a2 : Int) (a2_1 : Int) (a2_2 : Int) (a2_3 : List UInt8) (a2_4 : List UInt8) (a2_5 : List UInt8) (a2_6 : List Arr) (to13 : Int) (i16 : Int) (r4 : List Nod) (x2009 : List Int) (x2015 : List (List UInt8)) : read_reader_plain.l2 bar k (n + 1) a2 a2_1 a2_2 a2_3 a2_4 a2_5 a2_6 to13 i16 r4 x2009 x2015 =
 bif decide (i16 < to13) then
  bif decide (0 ≤ 0) && decide (0 < ((x2009).length : Int)) then
   (x2009[0]?).bind fun e_1 =>
   (rd a2_6 0).bind fun e_2 =>
   (read_reader_row.f bar k r4 e_1 e_2 i16).bind fun r_3 =>
   bif decide (((x2015).length + (([r_3] : List (List UInt8))).length) * 16 ≤ 140737488355328) then
    read_reader_plain.l2 bar k n a2 a2_1 a2_2 a2_3 a2_4 a2_5 a2_6 to13 (IntKind.i64.wrap (i16 + 1)) r4 x2009 (x2015 ++ ([r_3] : List (List UInt8)))
   else
    none
  else
   none
 else
  (value_List.f bar k x2015).bind fun r_4 =>
  some r_4 := by kernel_rfl
theorem read_reader_plain.l4_eq (bar : Bar) (k : Nat) (n : Nat) (a2 : Int) (a2_1 : Int) (a2_2 : Int) (a2_3 : List UInt8) (a2_4 : List UInt8) (a2_5 : List UInt8) (a2_6 : List Arr) (row3 : Int) (x117 : Int) (x118 : Int) (r4 : List Nod) (x2015 : List (List UInt8)) (x2116 : List Int) : read_reader_plain.l4 bar k (n + 1) a2 a2_1 a2_2 a2_3 a2_4 a2_5 a2_6 row3 x117 x118 r4 x2015 x2116 =
 bif decide (x118 < x117) then
  bif decide (0 ≤ x118) && decide (x118 < ((x2116).length : Int)) then
   (x2116[(x118).toNat]?).bind fun e_1 =>
   (rd a2_6 x118).bind fun e_2 =>
   (read_reader_row.f bar k r4 e_1 e_2 row3).bind fun r_3 =>
   bif decide (((x2015).length + (([r_3] : List (List UInt8))).length) * 16 ≤ 140737488355328) then
    read_reader_plain.l4 bar k n a2 a2_1 a2_2 a2_3 a2_4 a2_5 a2_6 row3 x117 (IntKind.i64.wrap (x118 + 1)) r4 (x2015 ++ ([r_3] : List (List UInt8))) x2116
   else
    none
  else
   none
 else
  (value_Struct.f bar k x2015).bind fun r_4 =>
  some r_4 := by kernel_rfl
theorem quiverref7_bare.f_eq (bar : Bar) (k : Nat) (a0 : Arr) : quiverref7_bare.f bar (k + 1) a0 =
 bif (a0.ends == ([] : List UInt8)) then
  some (((a0.kids).length : Int) == 0)
 else
  some false := by kernel_rfl
theorem quiverref7_mayEnds.f_eq (bar : Bar) (k : Nat) (a0 : List UInt8) (a1 : Int) (a2 : Int) (a3 : Int) (a4 : Int) : quiverref7_mayEnds.f bar (k + 1) a0 a1 a2 a3 a4 =
 quiverref7_mayEnds.l0 bar k k a0 a1 a2 a3 a4 0 0 := by kernel_rfl
theorem quiverref7_mayEnds.l0_eq (bar : Bar) (k : Nat) (n : Nat) (s0 : List UInt8) (rows1 : Int) (first2 : Int) (last3 : Int) (apart4 : Int) (was11 : Int) (i12 : Int) : quiverref7_mayEnds.l0 bar k (n + 1) s0 rows1 first2 last3 apart4 was11 i12 =
 bif decide (i12 ≤ rows1) then
  (quiverref1_GetNum.f bar k s0 (IntKind.i64.wrap (4 * i12)) 4).bind fun r_1 =>
  bif (!(r_1.2 != 0)) then
   bif (!(decide (r_1.1 < was11))) then
    bif (!(decide (r_1.1 > last3))) then
     bif decide (i12 > first2) then
      bif decide ((IntKind.i64.wrap (r_1.1 - was11)) > apart4) then
       some false
      else
       quiverref7_mayEnds.l0 bar k n s0 rows1 first2 last3 apart4 r_1.1 (IntKind.i64.wrap (i12 + 1))
     else
      quiverref7_mayEnds.l0 bar k n s0 rows1 first2 last3 apart4 r_1.1 (IntKind.i64.wrap (i12 + 1))
    else
     some false
   else
    some false
  else
   some false
 else
  some true := by kernel_rfl
theorem quiverref1_in.f_eq (bar : Bar) (k : Nat) (a0 : Int) : quiverref1_in.f bar (k + 1) a0 =
 (quiverref1_upTo.f bar k a0 0 2147483647).bind fun r_1 =>
 some r_1 := by kernel_rfl
theorem quiverref7_all.f_eq (bar : Bar) (k : Nat) (a0 : List (List UInt8)) : quiverref7_all.f bar (k + 1) a0 =
 quiverref7_all.l0 bar k k a0 ([] : List UInt8) 0 := by kernel_rfl
theorem quiverref7_all.l0_eq (bar : Bar) (k : Nat) (n : Nat) (vs0 : List (List UInt8)) (s3 : List UInt8) (i4 : Int) : quiverref7_all.l0 bar k (n + 1) vs0 s3 i4 =
 bif decide (i4 < ((vs0).length : Int)) then
  (rd vs0 i4).bind fun e_1 =>
  bif decide ((s3).length + (e_1).length ≤ 9223372036854775807) then
   quiverref7_all.l0 bar k n vs0 (s3 ++ e_1) (IntKind.i64.wrap (i4 + 1))
  else
   none
 else
  some s3 := by kernel_rfl
theorem quiverref1_upTo.f_eq (bar : Bar) (k : Nat) (a0 : Int) (a1 : Int) (a2 : Int) : quiverref1_upTo.f bar (k + 1) a0 a1 a2 =
 bif decide (a0 ≥ a1) then
  some (decide (a0 ≤ a2))
 else
  some false := by kernel_rfl
theorem quiverref7_whole.f_eq (bar : Bar) (k : Nat) (a0 : List UInt8) : quiverref7_whole.f bar (k + 1) a0 =
 quiverref7_whole.l0 bar k k a0 0 0 := by kernel_rfl
theorem quiverref7_whole.l0_eq (bar : Bar) (k : Nat) (n : Nat) (s0 : List UInt8) (x4 : Int) (i5 : Int) : quiverref7_whole.l0 bar k (n + 1) s0 x4 i5 =
 bif decide (i5 < ((s0).length : Int)) then
  bif decide (((s0).length : Int) < 21) then
   (rd s0 i5).bind fun b_1 =>
   bif ((b_1.toNat : Int) == 45) then
    bif (i5 == 0) then
     quiverref7_whole.l0 bar k n s0 x4 (IntKind.i64.wrap (i5 + 1))
    else
     (rd s0 i5).bind fun b_2 =>
     bif (!(decide ((b_2.toNat : Int) < 48))) then
      (rd s0 i5).bind fun b_3 =>
      bif decide ((b_3.toNat : Int) > 57) then
       some (0, false)
      else
       (rd s0 0).bind fun b_4 =>
       bif ((b_4.toNat : Int) == 45) then
        (rd s0 i5).bind fun b_5 =>
        quiverref7_whole.l0 bar k n s0 (IntKind.i64.wrap ((IntKind.i64.wrap (10 * x4)) - (IntKind.i64.wrap (IntKind.u8.wrap ((b_5.toNat : Int) - 48))))) (IntKind.i64.wrap (i5 + 1))
       else
        (rd s0 i5).bind fun b_6 =>
        quiverref7_whole.l0 bar k n s0 (IntKind.i64.wrap ((IntKind.i64.wrap (10 * x4)) + (IntKind.i64.wrap (IntKind.u8.wrap ((b_6.toNat : Int) - 48))))) (IntKind.i64.wrap (i5 + 1))
     else
      some (0, false)
   else
    (rd s0 i5).bind fun b_7 =>
    bif (!(decide ((b_7.toNat : Int) < 48))) then
     (rd s0 i5).bind fun b_8 =>
     bif decide ((b_8.toNat : Int) > 57) then
      some (0, false)
     else
      (rd s0 0).bind fun b_9 =>
      bif ((b_9.toNat : Int) == 45) then
       (rd s0 i5).bind fun b_10 =>
       quiverref7_whole.l0 bar k n s0 (IntKind.i64.wrap ((IntKind.i64.wrap (10 * x4)) - (IntKind.i64.wrap (IntKind.u8.wrap ((b_10.toNat : Int) - 48))))) (IntKind.i64.wrap (i5 + 1))
      else
       (rd s0 i5).bind fun b_11 =>
       quiverref7_whole.l0 bar k n s0 (IntKind.i64.wrap ((IntKind.i64.wrap (10 * x4)) + (IntKind.i64.wrap (IntKind.u8.wrap ((b_11.toNat : Int) - 48))))) (IntKind.i64.wrap (i5 + 1))
    else
     some (0, false)
  else
   (quiverref7_digits.f bar k x4).bind fun r_12 =>
   some (x4, (r_12 == s0))
 else
  (quiverref7_digits.f bar k x4).bind fun r_13 =>
  some (x4, (r_13 == s0)) := by kernel_rfl
theorem types_stands.f_eq (bar : Bar) (k : Nat) (a0 : List Nod) (a1 : Int) : types_stands.f bar (k + 1) a0 a1 =
 (rd a0 a1).bind fun e_1 =>
 bif (a1 == 0) then
  some (e_1.parent == (-1))
 else
  bif decide (e_1.parent ≥ 0) then
   bif decide (e_1.parent < a1) then
    (rd a0 e_1.parent).bind fun e_2 =>
    (types_Inner.f bar k e_2.kind).bind fun r_3 =>
    some r_3
   else
    some false
  else
   some false := by kernel_rfl
theorem types_kids.f_eq (bar : Bar) (k : Nat) (a0 : List Nod) (a1 : Int) : types_kids.f bar (k + 1) a0 a1 =
 types_kids.l0 bar k k a1 a0 ((a0).length : Int) 0 ([] : List Int) := by kernel_rfl
theorem types_kids.l0_eq (bar : Bar) (k : Nat) (n : Nat) (at_1 : Int) (x11 : List Nod) (x12 : Int) (x13 : Int) (x2005 : List Int) : types_kids.l0 bar k (n + 1) at_1 x11 x12 x13 x2005 =
 bif decide (x13 < x12) then
  (rd x11 x13).bind fun e_1 =>
  bif decide (x13 > 0) then
   bif (e_1.parent == at_1) then
    bif decide (((x2005).length + (([x13] : List Int)).length) * 8 ≤ 140737488355328) then
     types_kids.l0 bar k n at_1 x11 x12 (IntKind.i64.wrap (x13 + 1)) (x2005 ++ ([x13] : List Int))
    else
     none
   else
    types_kids.l0 bar k n at_1 x11 x12 (IntKind.i64.wrap (x13 + 1)) x2005
  else
   types_kids.l0 bar k n at_1 x11 x12 (IntKind.i64.wrap (x13 + 1)) x2005
 else
  some x2005 := by kernel_rfl
theorem types_way.f_eq (bar : Bar) (k : Nat) (a0 : List Nod) (a1 : Int) : types_way.f bar (k + 1) a0 a1 =
 types_way.l0 bar k k a0 a1 ([] : List Int) := by kernel_rfl
theorem types_way.l0_eq (bar : Bar) (k : Nat) (n : Nat) (t0 : List Nod) (at_1 : Int) (x2005 : List Int) : types_way.l0 bar k (n + 1) t0 at_1 x2005 =
 bif decide (at_1 ≥ 0) then
  bif decide (((x2005).length + (([at_1] : List Int)).length) * 8 ≤ 140737488355328) then
   (rd t0 at_1).bind fun e_1 =>
   types_way.l0 bar k n t0 e_1.parent (x2005 ++ ([at_1] : List Int))
  else
   none
 else
  some x2005 := by kernel_rfl
theorem slices_IndexFunc_api_Array_api_Array_array_plain_1.f_eq (bar : Bar) (k : Nat) (a0 : List Arr) (a1_0 : Int) : slices_IndexFunc_api_Array_api_Array_array_plain_1.f bar (k + 1) a0 a1_0 =
 slices_IndexFunc_api_Array_api_Array_array_plain_1.l0 bar k k a0 a1_0 ((a0).length : Int) 0 := by kernel_rfl
theorem slices_IndexFunc_api_Array_api_Array_array_plain_1.l0_eq (bar : Bar) (k : Nat) (n : Nat) (s0 : List Arr) (f1 : Int) (x7 : Int) (x8 : Int) : slices_IndexFunc_api_Array_api_Array_array_plain_1.l0 bar k (n + 1) s0 f1 x7 x8 =
 bif decide (x8 < x7) then
  (rd s0 x8).bind fun e_1 =>
  (array_plain_1.f bar k e_1 f1).bind fun r_2 =>
  bif r_2 then
   some x8
  else
   slices_IndexFunc_api_Array_api_Array_array_plain_1.l0 bar k n s0 f1 x7 (IntKind.i64.wrap (x8 + 1))
 else
  some (-1) := by kernel_rfl
theorem types_Inner.f_eq (bar : Bar) (k : Nat) (a0 : Int) : types_Inner.f bar (k + 1) a0 =
 bif (!(a0 == 3)) then
  some (a0 == 4)
 else
  some true := by kernel_rfl
theorem num_Get.f_eq (bar : Bar) (k : Nat) (a0 : List UInt8) (a1 : Int) (a2 : Int) : num_Get.f bar (k + 1) a0 a1 a2 =
 bif (a2 != 4) then
  bif (!(a2 != 8)) then
   bif (!(decide (a1 < 0))) then
    bif (!(decide (a1 > ((a0).length : Int)))) then
     bif decide ((IntKind.i64.wrap (((a0).length : Int) - a1)) < a2) then
      some (0, 300)
     else
      bif decide (0 ≤ IntKind.i64.wrap (a1 + a2)) && decide (IntKind.i64.wrap (a1 + a2) ≤ (((a0).length : Nat) : Int)) then
       bif decide (0 ≤ a1) && decide (a1 ≤ (((IntKind.i64.wrap (a1 + a2)).toNat : Nat) : Int)) then
        (num_Of.f bar k (List.drop ((a1).toNat) (List.take ((IntKind.i64.wrap (a1 + a2)).toNat) a0))).bind fun r_1 =>
        bif (a2 == 4) then
         (pad_May.f bar k r_1).bind fun r_2 =>
         bif (!r_2) then
          some (0, 300)
         else
          some (r_1, 0)
        else
         some (r_1, 0)
       else
        none
      else
       none
    else
     some (0, 300)
   else
    some (0, 300)
  else
   some (0, 300)
 else
  bif (!(decide (a1 < 0))) then
   bif (!(decide (a1 > ((a0).length : Int)))) then
    bif decide ((IntKind.i64.wrap (((a0).length : Int) - a1)) < a2) then
     some (0, 300)
    else
     bif decide (0 ≤ IntKind.i64.wrap (a1 + a2)) && decide (IntKind.i64.wrap (a1 + a2) ≤ (((a0).length : Nat) : Int)) then
      bif decide (0 ≤ a1) && decide (a1 ≤ (((IntKind.i64.wrap (a1 + a2)).toNat : Nat) : Int)) then
       (num_Of.f bar k (List.drop ((a1).toNat) (List.take ((IntKind.i64.wrap (a1 + a2)).toNat) a0))).bind fun r_3 =>
       bif (a2 == 4) then
        (pad_May.f bar k r_3).bind fun r_4 =>
        bif (!r_4) then
         some (0, 300)
        else
         some (r_3, 0)
       else
        some (r_3, 0)
      else
       none
     else
      none
   else
    some (0, 300)
  else
   some (0, 300) := by kernel_rfl
theorem bits_On.f_eq (bar : Bar) (k : Nat) (a0 : List UInt8) (a1 : Int) : bits_On.f bar (k + 1) a0 a1 =
 (rd a0 (IntKind.i64.wrap (Int.tdiv a1 8))).bind fun b_1 =>
 bif decide (Int.tmod a1 8 < 0) then
  none
 else
  some ((bitsOp .and .u8 (Int.fdiv (b_1.toNat : Int) (2 ^ (min (Int.tmod a1 8).toNat IntKind.u8.bits))) 1) == 1) := by kernel_rfl
theorem value_Int.f_eq (bar : Bar) (k : Nat) (a0 : Int) : value_Int.f bar (k + 1) a0 =
 (strconv_Itoa.f bar k a0).bind fun r_1 =>
 bif decide ((([105] : List UInt8)).length + (r_1).length ≤ 9223372036854775807) then
  bif decide ((([105] : List UInt8) ++ r_1).length + (([59] : List UInt8)).length ≤ 9223372036854775807) then
   some ((([105] : List UInt8) ++ r_1) ++ ([59] : List UInt8))
  else
   none
 else
  none := by kernel_rfl
theorem num_Of.f_eq (bar : Bar) (k : Nat) (a0 : List UInt8) : num_Of.f bar (k + 1) a0 =
 num_Of.l0 bar k k a0 0 ((a0).length : Int) 0 := by kernel_rfl
theorem num_Of.l0_eq (bar : Bar) (k : Nat) (n : Nat) (s0 : List UInt8) (out3 : Int) (x6 : Int) (x7 : Int) : num_Of.l0 bar k (n + 1) s0 out3 x6 x7 =
 bif decide (x7 < x6) then
  (rd s0 x7).bind fun b_1 =>
  bif decide (IntKind.i64.wrap (8 * x7) < 0) then
   none
  else
   num_Of.l0 bar k n s0 (bitsOp .or .u64 out3 (IntKind.u64.wrap ((IntKind.u64.wrap (b_1.toNat : Int)) * 2 ^ (min (IntKind.i64.wrap (8 * x7)).toNat IntKind.u64.bits)))) x6 (IntKind.i64.wrap (x7 + 1))
 else
  some (IntKind.i64.wrap out3) := by kernel_rfl
theorem value_Bool.f_eq (bar : Bar) (k : Nat) (a0 : Bool) : value_Bool.f bar (k + 1) a0 =
 bif a0 then
  some ([116] : List UInt8)
 else
  some ([102] : List UInt8) := by kernel_rfl
theorem value_Bytes.f_eq (bar : Bar) (k : Nat) (a0 : List UInt8) : value_Bytes.f bar (k + 1) a0 =
 (strconv_Itoa.f bar k ((a0).length : Int)).bind fun r_1 =>
 bif decide ((([115] : List UInt8)).length + (r_1).length ≤ 9223372036854775807) then
  bif decide ((([115] : List UInt8) ++ r_1).length + (([58] : List UInt8)).length ≤ 9223372036854775807) then
   bif decide (((([115] : List UInt8) ++ r_1) ++ ([58] : List UInt8)).length + (a0).length ≤ 9223372036854775807) then
    some (((([115] : List UInt8) ++ r_1) ++ ([58] : List UInt8)) ++ a0)
   else
    none
  else
   none
 else
  none := by kernel_rfl
theorem value_List.f_eq (bar : Bar) (k : Nat) (a0 : List (List UInt8)) : value_List.f bar (k + 1) a0 =
 (strings_Join.f bar k a0 ([] : List UInt8)).bind fun r_1 =>
 bif decide ((([91] : List UInt8)).length + (r_1).length ≤ 9223372036854775807) then
  bif decide ((([91] : List UInt8) ++ r_1).length + (([93] : List UInt8)).length ≤ 9223372036854775807) then
   some ((([91] : List UInt8) ++ r_1) ++ ([93] : List UInt8))
  else
   none
 else
  none := by kernel_rfl
theorem value_Struct.f_eq (bar : Bar) (k : Nat) (a0 : List (List UInt8)) : value_Struct.f bar (k + 1) a0 =
 (strings_Join.f bar k a0 ([] : List UInt8)).bind fun r_1 =>
 bif decide ((([123] : List UInt8)).length + (r_1).length ≤ 9223372036854775807) then
  bif decide ((([123] : List UInt8) ++ r_1).length + (([125] : List UInt8)).length ≤ 9223372036854775807) then
   some ((([123] : List UInt8) ++ r_1) ++ ([125] : List UInt8))
  else
   none
 else
  none := by kernel_rfl
theorem array_plain_1.f_eq (bar : Bar) (k : Nat) (a0 : Arr) (a1 : Int) : array_plain_1.f bar (k + 1) a0 a1 =
 some (decide (a0.length < a1)) := by kernel_rfl
theorem pad_May.f_eq (bar : Bar) (k : Nat) (a0 : Int) : pad_May.f bar (k + 1) a0 =
 bif decide (a0 ≥ 0) then
  some (decide (a0 ≤ 2147483647))
 else
  some false := by kernel_rfl
theorem strconv_Itoa.f_eq (bar : Bar) (k : Nat) (a0 : Int) : strconv_Itoa.f bar (k + 1) a0 =
   extItoa a0 := by kernel_rfl
theorem strings_Join.f_eq (bar : Bar) (k : Nat) (a0 : List (List UInt8)) (a1 : List UInt8) : strings_Join.f bar (k + 1) a0 a1 =
   extJoin a0 a1 := by kernel_rfl

end Go.Proofs.YtppmpfddcohkjaaDoorA
