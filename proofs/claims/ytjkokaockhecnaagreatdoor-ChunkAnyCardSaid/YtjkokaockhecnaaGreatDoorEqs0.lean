/- Each function and each loop of the program answers as its equation says; no condition. -/
import Derived.Test.YtjkokaockhecnaaGreatDoorFns
namespace Go.Proofs.YtjkokaockhecnaaGreatDoorA
open Go
set_option linter.unusedVariables false
theorem quiverlaw23_ChunkAny.f_eq (bar : Bar) (k : Nat) (a0 : List Nod) (a1 : Int) (a2 : Col) (a3 : Int) (a4 : Int) : quiverlaw23_ChunkAny.f bar (k + 1) a0 a1 a2 a3 a4 =
 (quiverlaw23_awake.f bar k).bind fun r_1 =>
 bif (!r_1) then
  some false
 else
  (chunk_Split.f bar k a0 a1 a2 (IntKind.i64.wrap (1 + (bitsOp .and .i64 a3 31)))).bind fun r_2 =>
  (chunk_Split.f bar k a0 a1 a2 (IntKind.i64.wrap (1 + (bitsOp .and .i64 a4 31)))).bind fun r_3 =>
  (chunk_Split.f bar k a0 a1 a2 4096).bind fun r_4 =>
  (quiverlaw0_Num.f bar k r_2.2).bind fun r_5 =>
  bif (r_5 != 0) then
   (quiverlaw0_Num.f bar k r_3.2).bind fun r_6 =>
   bif (r_6 != 0) then
    (quiverlaw0_Num.f bar k r_4.2).bind fun r_7 =>
    some (r_7 != 0)
   else
    some false
  else
   (chunk_Join.f bar k a0 a1 r_2.1).bind fun r_8 =>
   (chunk_Join.f bar k a0 a1 r_3.1).bind fun r_9 =>
   (chunk_Join.f bar k a0 a1 r_4.1).bind fun r_10 =>
   (quiverlaw0_Num.f bar k r_3.2).bind fun r_11 =>
   bif (r_11 == 0) then
    (quiverlaw0_Num.f bar k r_4.2).bind fun r_12 =>
    bif (r_12 == 0) then
     (quiverlaw0_Num.f bar k r_8.2).bind fun r_13 =>
     bif (r_13 == 0) then
      (quiverlaw0_Num.f bar k r_9.2).bind fun r_14 =>
      bif (r_14 == 0) then
       (quiverlaw0_Num.f bar k r_10.2).bind fun r_15 =>
       bif (r_15 == 0) then
        (quiverlaw0_SameColumn.f bar k (Col.mk r_8.1.1 r_8.1.2.1 r_8.1.2.2) (Col.mk r_9.1.1 r_9.1.2.1 r_9.1.2.2)).bind fun r_16 =>
        bif r_16 then
         (quiverlaw0_SameColumn.f bar k (Col.mk r_9.1.1 r_9.1.2.1 r_9.1.2.2) (Col.mk r_10.1.1 r_10.1.2.1 r_10.1.2.2)).bind fun r_17 =>
         bif r_17 then
          some (((r_4.1).length : Int) == (bif decide (((a2.reps).length : Int) < 1) then ((a2.reps).length : Int) else 1))
         else
          some false
        else
         some false
       else
        some false
      else
       some false
     else
      some false
    else
     some false
   else
    some false := by kernel_rfl
theorem quiverlaw0_Num.f_eq (bar : Bar) (k : Nat) (a0 : Int) : quiverlaw0_Num.f bar (k + 1) a0 =
 some a0 := by kernel_rfl
theorem page_Put.f_eq (bar : Bar) (k : Nat) (a0 : List Nod) (a1 : Int) (a2 : Col) : page_Put.f bar (k + 1) a0 a1 a2 =
 (page_May.f bar k a0 a1 a2).bind fun r_1 =>
 bif (!r_1) then
  some (([] : List UInt8), 2200)
 else
  (types_Levels.f bar k a0 a1).bind fun r_2 =>
  (page_levels.f bar k a2.reps r_2.1).bind fun r_3 =>
  (page_levels.f bar k a2.defs r_2.2.1).bind fun r_4 =>
  page_Put.l0 bar k k r_3 r_4 ((([((a2.reps).length : Int), ((r_3).length : Int), ((r_4).length : Int)] : List Int)).length : Int) 0 a2.reps a2.defs a2.values ([] : List Int) ([((a2.reps).length : Int), ((r_3).length : Int), ((r_4).length : Int)] : List Int) := by kernel_rfl
theorem page_Put.l0_eq (bar : Bar) (k : Nat) (n : Nat) (reps11 : List UInt8) (defs12 : List UInt8) (x46 : Int) (x47 : Int) (c5 : List Int) (c5_1 : List Int) (c5_2 : List (List UInt8)) (body13 : List Int) (x2045 : List Int) : page_Put.l0 bar k (n + 1) reps11 defs12 x46 x47 c5 c5_1 c5_2 body13 x2045 =
 bif decide (x47 < x46) then
  bif decide (0 ≤ x47) && decide (x47 < ((x2045).length : Int)) then
   (x2045[(x47).toNat]?).bind fun e_1 =>
   (num_Word.f bar k e_1 4).bind fun r_2 =>
   bif decide ((body13).length + (r_2).length ≤ 140737488355328) then
    page_Put.l0 bar k n reps11 defs12 x46 (IntKind.i64.wrap (x47 + 1)) c5 c5_1 c5_2 (body13 ++ bytesOfStr r_2) x2045
   else
    none
  else
   none
 else
  bif decide ((reps11).length + (defs12).length ≤ 9223372036854775807) then
   bif decide ((body13).length + (reps11 ++ defs12).length ≤ 140737488355328) then
    page_Put.l2 bar k k c5_2 ((c5_2).length : Int) 0 (body13 ++ bytesOfStr (reps11 ++ defs12))
   else
    none
  else
   none := by kernel_rfl
theorem page_Put.l2_eq (bar : Bar) (k : Nat) (n : Nat) (x60 : List (List UInt8)) (x61 : Int) (x62 : Int) (body13 : List Int) : page_Put.l2 bar k (n + 1) x60 x61 x62 body13 =
 bif decide (x62 < x61) then
  (rd x60 x62).bind fun e_1 =>
  (page_bytes.f bar k e_1).bind fun r_2 =>
  bif decide ((body13).length + (r_2).length ≤ 140737488355328) then
   page_Put.l2 bar k n x60 x61 (IntKind.i64.wrap (x62 + 1)) (body13 ++ bytesOfStr r_2)
  else
   none
 else
  (crc_Sum.f bar k (strOfBytes body13)).bind fun r_3 =>
  (num_Word.f bar k r_3 4).bind fun r_4 =>
  bif decide ((r_4).length + (strOfBytes body13).length ≤ 9223372036854775807) then
   some (r_4 ++ (strOfBytes body13), 0)
  else
   none := by kernel_rfl
theorem page_Get.f_eq (bar : Bar) (k : Nat) (a0 : List Nod) (a1 : Int) (a2 : List UInt8) : page_Get.f bar (k + 1) a0 a1 a2 =
 (types_Leaf.f bar k a0 a1).bind fun r_1 =>
 bif (!(!r_1)) then
  bif decide (((a2).length : Int) < 4) then
   some ((([] : List Int), ([] : List Int), ([] : List (List UInt8))), 2200)
  else
   bif decide (0 ≤ 4) && decide (4 ≤ (((a2).length : Nat) : Int)) then
    (num_Of.f bar k (List.drop 0 (List.take 4 a2))).bind fun r_2 =>
    bif decide (0 ≤ 4) && decide (4 ≤ (((a2).length : Nat) : Int)) then
     (crc_Sum.f bar k (List.drop 4 (List.take ((a2).length) a2))).bind fun r_3 =>
     bif (r_2 != r_3) then
      some ((([] : List Int), ([] : List Int), ([] : List (List UInt8))), 2201)
     else
      (types_Levels.f bar k a0 a1).bind fun r_4 =>
      bif decide (0 ≤ 4) && decide (4 ≤ (((a2).length : Nat) : Int)) then
       (page_Taker_Number.f bar k (List.drop 4 (List.take ((a2).length) a2)) false).bind fun r_5 =>
       (page_Taker_Number.f bar k r_5.2.1 r_5.2.2).bind fun r_6 =>
       (page_Taker_Number.f bar k r_6.2.1 r_6.2.2).bind fun r_7 =>
       (page_Taker_Bytes.f bar k r_7.2.1 r_7.2.2 r_6.1).bind fun r_8 =>
       (math_bits_Len.f bar k (IntKind.u64.wrap r_4.1)).bind fun r_9 =>
       (hybrid_Get.f bar k r_8.1 r_9 r_5.1).bind fun r_10 =>
       (page_Taker_Bytes.f bar k r_8.2.1 r_8.2.2 r_7.1).bind fun r_11 =>
       (math_bits_Len.f bar k (IntKind.u64.wrap r_4.2.1)).bind fun r_12 =>
       (hybrid_Get.f bar k r_11.1 r_12 r_5.1).bind fun r_13 =>
       (page_there.f bar k r_13.1 r_4.2.1).bind fun r_14 =>
       page_Get.l0 bar k k a1 a2 r_10.2 r_13.2 r_14 0 a0 r_10.1 r_13.1 ([] : List (List UInt8)) r_11.2.1 r_11.2.2
      else
       none
    else
     none
   else
    none
 else
  some ((([] : List Int), ([] : List Int), ([] : List (List UInt8))), 2200) := by kernel_rfl
theorem page_Get.l0_eq (bar : Bar) (k : Nat) (n : Nat) (leaf1 : Int) (s2 : List UInt8) (e16 : Int) (f17 : Int) (x82 : Int) (x83 : Int) (t3 : List Nod) (out15 : List Int) (out15_1 : List Int) (out15_2 : List (List UInt8)) (x48 : List UInt8) (x48_1 : Bool) : page_Get.l0 bar k (n + 1) leaf1 s2 e16 f17 x82 x83 t3 out15 out15_1 out15_2 x48 x48_1 =
 bif decide (x83 < x82) then
  bif (!x48_1) then
   (rd t3 leaf1).bind fun e_1 =>
   (page_Taker_value.f bar k x48 x48_1 e_1.kind).bind fun r_2 =>
   bif decide (((out15_2).length + (([r_2.1] : List (List UInt8))).length) * 16 ≤ 140737488355328) then
    page_Get.l0 bar k n leaf1 s2 e16 f17 x82 (IntKind.i64.wrap (x83 + 1)) t3 out15 out15_1 (out15_2 ++ ([r_2.1] : List (List UInt8))) r_2.2.1 r_2.2.2
   else
    none
  else
   page_Get.l0 bar k n leaf1 s2 e16 f17 x82 (IntKind.i64.wrap (x83 + 1)) t3 out15 out15_1 out15_2 x48 x48_1
 else
  (page_Put.f bar k t3 leaf1 (Col.mk out15 out15_1 out15_2)).bind fun r_3 =>
  bif (!x48_1) then
   bif (!(e16 != 0)) then
    bif (!(f17 != 0)) then
     bif (!(r_3.2 != 0)) then
      bif (r_3.1 != s2) then
       some ((([] : List Int), ([] : List Int), ([] : List (List UInt8))), 2200)
      else
       some ((out15, out15_1, out15_2), 0)
     else
      some ((([] : List Int), ([] : List Int), ([] : List (List UInt8))), 2200)
    else
     some ((([] : List Int), ([] : List Int), ([] : List (List UInt8))), 2200)
   else
    some ((([] : List Int), ([] : List Int), ([] : List (List UInt8))), 2200)
  else
   some ((([] : List Int), ([] : List Int), ([] : List (List UInt8))), 2200) := by kernel_rfl
theorem quiverlaw0_SameColumn.f_eq (bar : Bar) (k : Nat) (a0 : Col) (a1 : Col) : quiverlaw0_SameColumn.f bar (k + 1) a0 a1 =
 (quiverlaw0_SameInts.f bar k a0.reps a1.reps).bind fun r_1 =>
 bif r_1 then
  (quiverlaw0_SameInts.f bar k a0.defs a1.defs).bind fun r_2 =>
  bif r_2 then
   (quiverlaw0_SameTexts.f bar k a0.values a1.values).bind fun r_3 =>
   some r_3
  else
   some false
 else
  some false := by kernel_rfl
theorem chunk_Split.f_eq (bar : Bar) (k : Nat) (a0 : List Nod) (a1 : Int) (a2 : Col) (a3 : Int) : chunk_Split.f bar (k + 1) a0 a1 a2 a3 =
 (page_May.f bar k a0 a1 a2).bind fun r_1 =>
 bif (!(!r_1)) then
  bif (!(decide (a3 < 1))) then
   bif decide (((a2.reps).length : Int) > 0) then
    (rd a2.reps 0).bind fun e_2 =>
    bif (e_2 != 0) then
     some (([] : List (List UInt8)), 2300)
    else
     (types_Levels.f bar k a0 a1).bind fun r_3 =>
     chunk_Split.l0 bar k k a1 a3 r_3.2.1 a0 a2.reps a2.defs a2.values ([] : List (List UInt8))
   else
    (types_Levels.f bar k a0 a1).bind fun r_4 =>
    chunk_Split.l0 bar k k a1 a3 r_4.2.1 a0 a2.reps a2.defs a2.values ([] : List (List UInt8))
  else
   some (([] : List (List UInt8)), 2300)
 else
  some (([] : List (List UInt8)), 2300) := by kernel_rfl
theorem chunk_Split.l0_eq (bar : Bar) (k : Nat) (n : Nat) (leaf1 : Int) (limit3 : Int) (def_11 : Int) (t4 : List Nod) (c6 : List Int) (c6_1 : List Int) (c6_2 : List (List UInt8)) (x2013 : List (List UInt8)) : chunk_Split.l0 bar k (n + 1) leaf1 limit3 def_11 t4 c6 c6_1 c6_2 x2013 =
 bif decide (((c6).length : Int) > 0) then
  (chunk_cut.f bar k (Col.mk c6 c6_1 c6_2) limit3 def_11).bind fun r_1 =>
  bif decide (0 ≤ r_1.1) && decide (r_1.1 ≤ (((c6).length : Nat) : Int)) then
   bif decide (0 ≤ r_1.1) && decide (r_1.1 ≤ (((c6_1).length : Nat) : Int)) then
    bif decide (0 ≤ r_1.2) && decide (r_1.2 ≤ (((c6_2).length : Nat) : Int)) then
     (page_Put.f bar k t4 leaf1 (Col.mk (List.drop 0 (List.take ((r_1.1).toNat) c6)) (List.drop 0 (List.take ((r_1.1).toNat) c6_1)) (List.drop 0 (List.take ((r_1.2).toNat) c6_2)))).bind fun r_2 =>
     bif decide (((x2013).length + (([r_2.1] : List (List UInt8))).length) * 16 ≤ 140737488355328) then
      bif decide (0 ≤ r_1.1) && decide (r_1.1 ≤ (((c6).length : Nat) : Int)) then
       bif decide (0 ≤ r_1.1) && decide (r_1.1 ≤ (((c6_1).length : Nat) : Int)) then
        bif decide (0 ≤ r_1.2) && decide (r_1.2 ≤ (((c6_2).length : Nat) : Int)) then
         chunk_Split.l0 bar k n leaf1 limit3 def_11 t4 (List.drop ((r_1.1).toNat) (List.take ((c6).length) c6)) (List.drop ((r_1.1).toNat) (List.take ((c6_1).length) c6_1)) (List.drop ((r_1.2).toNat) (List.take ((c6_2).length) c6_2)) (x2013 ++ ([r_2.1] : List (List UInt8)))
        else
         none
       else
        none
      else
       none
     else
      none
    else
     none
   else
    none
  else
   none
 else
  some (x2013, 0) := by kernel_rfl
theorem chunk_Join.f_eq (bar : Bar) (k : Nat) (a0 : List Nod) (a1 : Int) (a2 : List (List UInt8)) : chunk_Join.f bar (k + 1) a0 a1 a2 =
 (types_Leaf.f bar k a0 a1).bind fun r_1 =>
 chunk_Join.l0 bar k k a1 r_1 a2 ((a2).length : Int) 0 a0 ([] : List Int) ([] : List Int) ([] : List (List UInt8)) := by kernel_rfl
theorem chunk_Join.l0_eq (bar : Bar) (k : Nat) (n : Nat) (leaf1 : Int) (is9 : Bool) (x17 : List (List UInt8)) (x18 : Int) (x19 : Int) (t3 : List Nod) (out8 : List Int) (out8_1 : List Int) (out8_2 : List (List UInt8)) : chunk_Join.l0 bar k (n + 1) leaf1 is9 x17 x18 x19 t3 out8 out8_1 out8_2 =
 bif decide (x19 < x18) then
  (rd x17 x19).bind fun e_1 =>
  (page_Get.f bar k t3 leaf1 e_1).bind fun r_2 =>
  bif (!(r_2.2 != 0)) then
   bif (!(((r_2.1.1).length : Int) == 0)) then
    bif decide (0 ≤ 0) && decide (0 < ((r_2.1.1).length : Int)) then
     (r_2.1.1[0]?).bind fun e_3 =>
     bif (!(e_3 != 0)) then
      bif decide ((IntKind.i64.wrap (((out8).length : Int) + ((r_2.1.1).length : Int))) > 4096) then
       some ((([] : List Int), ([] : List Int), ([] : List (List UInt8))), 2300)
      else
       bif decide (((out8).length + (r_2.1.1).length) * 8 ≤ 140737488355328) then
        bif decide (((out8_1).length + (r_2.1.2.1).length) * 8 ≤ 140737488355328) then
         bif decide (((out8_2).length + (r_2.1.2.2).length) * 16 ≤ 140737488355328) then
          chunk_Join.l0 bar k n leaf1 is9 x17 x18 (IntKind.i64.wrap (x19 + 1)) t3 (out8 ++ r_2.1.1) (out8_1 ++ r_2.1.2.1) (out8_2 ++ r_2.1.2.2)
         else
          none
        else
         none
       else
        none
     else
      some ((([] : List Int), ([] : List Int), ([] : List (List UInt8))), 2300)
    else
     none
   else
    some ((([] : List Int), ([] : List Int), ([] : List (List UInt8))), 2300)
  else
   some ((([] : List Int), ([] : List Int), ([] : List (List UInt8))), 2300)
 else
  bif (!is9) then
   some ((([] : List Int), ([] : List Int), ([] : List (List UInt8))), 2300)
  else
   some ((out8, out8_1, out8_2), 0) := by kernel_rfl
theorem quiverlaw23_awake.f_eq (bar : Bar) (k : Nat) : quiverlaw23_awake.f bar (k + 1) =
 (quiverlaw23_ints.f bar k).bind fun r_1 =>
 (chunk_Split.f bar k r_1 0 (Col.mk ([0, 0, 0] : List Int) ([1, 0, 1] : List Int) ([([105, 53, 59] : List UInt8), ([105, 54, 59] : List UInt8)] : List (List UInt8))) 2).bind fun r_2 =>
 (quiverlaw23_ints.f bar k).bind fun r_3 =>
 (chunk_Join.f bar k r_3 0 r_2.1).bind fun r_4 =>
 (quiverlaw23_ints.f bar k).bind fun r_5 =>
 (chunk_Split.f bar k r_5 0 (Col.mk ([0, 0, 0] : List Int) ([1, 0, 1] : List Int) ([([105, 53, 59] : List UInt8), ([105, 54, 59] : List UInt8)] : List (List UInt8))) 0).bind fun r_6 =>
 (quiverlaw23_ints.f bar k).bind fun r_7 =>
 (chunk_Join.f bar k r_7 0 ([([] : List UInt8)] : List (List UInt8))).bind fun r_8 =>
 (quiverlaw23_ints.f bar k).bind fun r_9 =>
 (chunk_Join.f bar k r_9 0 ([] : List (List UInt8))).bind fun r_10 =>
 bif (((r_2.1).length : Int) == 2) then
  (quiverlaw0_Num.f bar k r_2.2).bind fun r_11 =>
  bif (r_11 == 0) then
   (quiverlaw0_SameColumn.f bar k (Col.mk ([0, 0, 0] : List Int) ([1, 0, 1] : List Int) ([([105, 53, 59] : List UInt8), ([105, 54, 59] : List UInt8)] : List (List UInt8))) (Col.mk r_4.1.1 r_4.1.2.1 r_4.1.2.2)).bind fun r_12 =>
   bif r_12 then
    (quiverlaw0_Num.f bar k r_4.2).bind fun r_13 =>
    bif (r_13 == 0) then
     (quiverlaw0_Num.f bar k r_6.2).bind fun r_14 =>
     bif (r_14 == 2300) then
      (quiverlaw0_Num.f bar k r_8.2).bind fun r_15 =>
      bif (r_15 == 2300) then
       (quiverlaw0_SameColumn.f bar k (Col.mk r_10.1.1 r_10.1.2.1 r_10.1.2.2) (Col.mk ([] : List Int) ([] : List Int) ([] : List (List UInt8)))).bind fun r_16 =>
       bif r_16 then
        (quiverlaw0_Num.f bar k r_10.2).bind fun r_17 =>
        some (r_17 == 0)
       else
        some false
      else
       some false
     else
      some false
    else
     some false
   else
    some false
  else
   some false
 else
  some false := by kernel_rfl
theorem page_May.f_eq (bar : Bar) (k : Nat) (a0 : List Nod) (a1 : Int) (a2 : Col) : page_May.f bar (k + 1) a0 a1 a2 =
 (types_Levels.f bar k a0 a1).bind fun r_1 =>
 (types_Leaf.f bar k a0 a1).bind fun r_2 =>
 bif (!(!r_2)) then
  bif (!(((a2.reps).length : Int) != ((a2.defs).length : Int))) then
   bif (!(decide (((a2.reps).length : Int) > 4096))) then
    (page_within.f bar k a2.reps r_1.1).bind fun r_3 =>
    bif (!(!r_3)) then
     (page_within.f bar k a2.defs r_1.2.1).bind fun r_4 =>
     bif (!r_4) then
      some false
     else
      page_May.l0 bar k k a1 r_1.2.1 a2.values ((a2.values).length : Int) 0 a0 a2.reps a2.defs
    else
     some false
   else
    some false
  else
   some false
 else
  some false := by kernel_rfl
theorem page_May.l0_eq (bar : Bar) (k : Nat) (n : Nat) (leaf1 : Int) (def_8 : Int) (x53 : List (List UInt8)) (x54 : Int) (x55 : Int) (t3 : List Nod) (c5 : List Int) (c5_1 : List Int) : page_May.l0 bar k (n + 1) leaf1 def_8 x53 x54 x55 t3 c5 c5_1 =
 bif decide (x55 < x54) then
  (rd x53 x55).bind fun e_1 =>
  (value_Null.f bar k).bind fun r_2 =>
  bif (!(e_1 == r_2)) then
   (value_Fits.f bar k t3 leaf1 e_1).bind fun r_3 =>
   bif (!r_3) then
    some false
   else
    page_May.l0 bar k n leaf1 def_8 x53 x54 (IntKind.i64.wrap (x55 + 1)) t3 c5 c5_1
  else
   some false
 else
  (page_there.f bar k c5_1 def_8).bind fun r_4 =>
  some (((x53).length : Int) == r_4) := by kernel_rfl
theorem types_Levels.f_eq (bar : Bar) (k : Nat) (a0 : List Nod) (a1 : Int) : types_Levels.f bar (k + 1) a0 a1 =
 (types_Node.f bar k a0 a1).bind fun r_1 =>
 bif (!r_1) then
  some (0, 0, 500)
 else
  (types_way.f bar k a0 a1).bind fun r_2 =>
  types_Levels.l0 bar k k 0 0 ((r_2).length : Int) 0 a0 r_2 := by kernel_rfl
theorem types_Levels.l0_eq (bar : Bar) (k : Nat) (n : Nat) (rep7 : Int) (def_8 : Int) (x17 : Int) (x18 : Int) (t2 : List Nod) (x2016 : List Int) : types_Levels.l0 bar k (n + 1) rep7 def_8 x17 x18 t2 x2016 =
 bif decide (x18 < x17) then
  bif decide (0 ≤ x18) && decide (x18 < ((x2016).length : Int)) then
   (x2016[(x18).toNat]?).bind fun e_1 =>
   (rd t2 e_1).bind fun e_2 =>
   bif (e_2.kind == 3) then
    (rd t2 e_1).bind fun e_3 =>
    bif e_3.null then
     types_Levels.l0 bar k n (IntKind.i64.wrap (rep7 + 1)) (IntKind.i64.wrap ((IntKind.i64.wrap (def_8 + 1)) + 1)) x17 (IntKind.i64.wrap (x18 + 1)) t2 x2016
    else
     types_Levels.l0 bar k n (IntKind.i64.wrap (rep7 + 1)) (IntKind.i64.wrap (def_8 + 1)) x17 (IntKind.i64.wrap (x18 + 1)) t2 x2016
   else
    (rd t2 e_1).bind fun e_4 =>
    bif e_4.null then
     types_Levels.l0 bar k n rep7 (IntKind.i64.wrap (def_8 + 1)) x17 (IntKind.i64.wrap (x18 + 1)) t2 x2016
    else
     types_Levels.l0 bar k n rep7 def_8 x17 (IntKind.i64.wrap (x18 + 1)) t2 x2016
  else
   none
 else
  some (rep7, def_8, 0) := by kernel_rfl
theorem page_levels.f_eq (bar : Bar) (k : Nat) (a0 : List Int) (a1 : Int) : page_levels.f bar (k + 1) a0 a1 =
 (math_bits_Len.f bar k (IntKind.u64.wrap a1)).bind fun r_1 =>
 (hybrid_Put.f bar k a0 r_1).bind fun r_2 =>
 some r_2.1 := by kernel_rfl
theorem page_bytes.f_eq (bar : Bar) (k : Nat) (a0 : List UInt8) : page_bytes.f bar (k + 1) a0 =
 (value_Parts.f bar k a0).bind fun r_1 =>
 bif (r_1.1 == 0) then
  bif decide (0 ≤ 0) && decide (0 < ((r_1.2.1).length : Int)) then
   (r_1.2.1[0]?).bind fun e_2 =>
   (strconv_Atoi.f bar k e_2).bind fun r_3 =>
   (num_Word.f bar k r_3.1 8).bind fun r_4 =>
   some r_4
  else
   none
 else
  bif (r_1.1 == 1) then
   bif decide (0 ≤ 0) && decide (0 < ((r_1.2.1).length : Int)) then
    (r_1.2.1[0]?).bind fun e_5 =>
    (rd e_5 0).bind fun b_6 =>
    (page_there.f bar k ([IntKind.i64.wrap (b_6.toNat : Int)] : List Int) 116).bind fun r_7 =>
    (num_Word.f bar k r_7 1).bind fun r_8 =>
    some r_8
   else
    none
  else
   bif decide (0 ≤ 0) && decide (0 < ((r_1.2.1).length : Int)) then
    (r_1.2.1[0]?).bind fun e_9 =>
    (num_Word.f bar k ((e_9).length : Int) 4).bind fun r_10 =>
    bif decide (0 ≤ 0) && decide (0 < ((r_1.2.1).length : Int)) then
     (r_1.2.1[0]?).bind fun e_11 =>
     bif decide ((r_10).length + (e_11).length ≤ 9223372036854775807) then
      some (r_10 ++ e_11)
     else
      none
    else
     none
   else
    none := by kernel_rfl
theorem crc_Sum.f_eq (bar : Bar) (k : Nat) (a0 : List UInt8) : crc_Sum.f bar (k + 1) a0 =
 crc_Sum.l0 bar k k a0 4294967295 ((a0).length : Int) 0 := by kernel_rfl
theorem crc_Sum.l0_eq (bar : Bar) (k : Nat) (n : Nat) (s0 : List UInt8) (sum3 : Int) (x7 : Int) (x8 : Int) : crc_Sum.l0 bar k (n + 1) s0 sum3 x7 x8 =
 bif decide (x8 < x7) then
  (rd s0 x8).bind fun b_1 =>
  crc_Sum.l2 bar k n k s0 (bitsOp .xor .u32 sum3 (IntKind.u32.wrap (b_1.toNat : Int))) x7 x8 0
 else
  some (IntKind.i64.wrap (bitsOp .xor .u32 sum3 4294967295)) := by kernel_rfl
theorem crc_Sum.l2_eq (bar : Bar) (k : Nat) (m1 : Nat) (n : Nat) (s0 : List UInt8) (sum3 : Int) (x7 : Int) (x8 : Int) (x17 : Int) : crc_Sum.l2 bar k m1 (n + 1) s0 sum3 x7 x8 x17 =
 bif decide (x17 < 8) then
  crc_Sum.l2 bar k m1 n s0 (bitsOp .xor .u32 (Int.fdiv sum3 (2 ^ (min 1 IntKind.u32.bits))) (IntKind.u32.wrap (3988292384 * (bitsOp .and .u32 sum3 1)))) x7 x8 (IntKind.i64.wrap (x17 + 1))
 else
  crc_Sum.l0 bar k m1 s0 sum3 x7 (IntKind.i64.wrap (x8 + 1)) := by kernel_rfl
theorem types_Leaf.f_eq (bar : Bar) (k : Nat) (a0 : List Nod) (a1 : Int) : types_Leaf.f bar (k + 1) a0 a1 =
 (types_Node.f bar k a0 a1).bind fun r_1 =>
 bif r_1 then
  (rd a0 a1).bind fun e_2 =>
  (types_Inner.f bar k e_2.kind).bind fun r_3 =>
  some (!r_3)
 else
  some false := by kernel_rfl
theorem num_Of.f_eq (bar : Bar) (k : Nat) (a0 : List UInt8) : num_Of.f bar (k + 1) a0 =
 num_Of.l0 bar k k a0 0 ((a0).length : Int) 0 := by kernel_rfl
theorem num_Of.l0_eq (bar : Bar) (k : Nat) (n : Nat) (s0 : List UInt8) (out3 : Int) (x6 : Int) (x7 : Int) : num_Of.l0 bar k (n + 1) s0 out3 x6 x7 =
 bif decide (x7 < x6) then
  (rd s0 x7).bind fun b_1 =>
  bif decide (IntKind.i64.wrap (8 * x7) < 0) then
   none
  else
   num_Of.l0 bar k n s0 (bitsOp .or .u64 out3 (IntKind.u64.wrap ((IntKind.u64.wrap (b_1.toNat : Int)) * 2 ^ (min (IntKind.i64.wrap (8 * x7)).toNat IntKind.u64.bits)))) x6 (IntKind.i64.wrap (x7 + 1))
 else
  some (IntKind.i64.wrap out3) := by kernel_rfl
theorem page_Taker_Number.f_eq (bar : Bar) (k : Nat) (a0_0 : List UInt8) (a0_1 : Bool) : page_Taker_Number.f bar (k + 1) a0_0 a0_1 =
 (num_Get.f bar k a0_0 0 4).bind fun r_1 =>
 bif (!a0_1) then
  (page_Taker_Bytes.f bar k a0_0 (r_1.2 != 0) 4).bind fun r_2 =>
  some (r_1.1, (r_2.2.1, r_2.2.2))
 else
  (page_Taker_Bytes.f bar k a0_0 true 4).bind fun r_3 =>
  some (r_1.1, (r_3.2.1, r_3.2.2)) := by kernel_rfl
theorem hybrid_Get.f_eq (bar : Bar) (k : Nat) (a0 : List UInt8) (a1 : Int) (a2 : Int) : hybrid_Get.f bar (k + 1) a0 a1 a2 =
 bif (!(decide (a1 < 0))) then
  bif (!(decide (a1 > 16))) then
   bif (!(decide (a2 < 0))) then
    bif decide (a2 > 4096) then
     some (([] : List Int), 2100)
    else
     hybrid_Get.l0 bar k k a0 a1 a2 a0 a1 ([] : List Int) false
   else
    some (([] : List Int), 2100)
  else
   some (([] : List Int), 2100)
 else
  some (([] : List Int), 2100) := by kernel_rfl
theorem hybrid_Get.l0_eq (bar : Bar) (k : Nat) (n : Nat) (s0 : List UInt8) (width1 : Int) (count2 : Int) (x32 : List UInt8) (x32_1 : Int) (x32_2 : List Int) (x32_3 : Bool) : hybrid_Get.l0 bar k (n + 1) s0 width1 count2 x32 x32_1 x32_2 x32_3 =
 bif (!x32_3) then
  bif decide (((x32_2).length : Int) < count2) then
   (num_GetVar.f bar k x32 0).bind fun r_1 =>
   bif decide (0 ≤ r_1.2.1) && decide (r_1.2.1 ≤ (((x32).length : Nat) : Int)) then
    bif ((Int.tmod r_1.1 2) == 0) then
     (hybrid_taker_run.f bar k (List.drop ((r_1.2.1).toNat) (List.take ((x32).length) x32)) x32_1 x32_2 (r_1.2.2 != 0) (IntKind.i64.wrap (Int.tdiv r_1.1 2)) (IntKind.i64.wrap (count2 - ((x32_2).length : Int)))).bind fun r_2 =>
     bar _ (hybrid_Get.j12 bar k n s0 width1 count2 r_1.1 r_2.1 r_2.2.1 r_2.2.2.1 r_2.2.2.2)
    else
     (hybrid_taker_groups.f bar k (List.drop ((r_1.2.1).toNat) (List.take ((x32).length) x32)) x32_1 x32_2 (r_1.2.2 != 0) (IntKind.i64.wrap (Int.tdiv r_1.1 2)) (IntKind.i64.wrap (count2 - ((x32_2).length : Int)))).bind fun r_3 =>
     bar _ (hybrid_Get.j12 bar k n s0 width1 count2 r_1.1 r_3.1 r_3.2.1 r_3.2.2.1 r_3.2.2.2)
   else
    none
  else
   (hybrid_Put.f bar k x32_2 width1).bind fun r_4 =>
   bif (!x32_3) then
    bif (!(r_4.2 != 0)) then
     bif (!(r_4.1 != s0)) then
      bif (((x32_2).length : Int) != count2) then
       some (([] : List Int), 2100)
      else
       some (x32_2, 0)
     else
      some (([] : List Int), 2100)
    else
     some (([] : List Int), 2100)
   else
    some (([] : List Int), 2100)
 else
  (hybrid_Put.f bar k x32_2 width1).bind fun r_5 =>
  bif (!x32_3) then
   bif (!(r_5.2 != 0)) then
    bif (!(r_5.1 != s0)) then
     bif (((x32_2).length : Int) != count2) then
      some (([] : List Int), 2100)
     else
      some (x32_2, 0)
    else
     some (([] : List Int), 2100)
   else
    some (([] : List Int), 2100)
  else
   some (([] : List Int), 2100) := by kernel_rfl
theorem hybrid_Get.j12_eq (bar : Bar) (k : Nat) (m1 : Nat) (s0 : List UInt8) (width1 : Int) (count2 : Int) (head9 : Int) (x32 : List UInt8) (x32_1 : Int) (x32_2 : List Int) (x32_3 : Bool) : hybrid_Get.j12 bar k m1 s0 width1 count2 head9 x32 x32_1 x32_2 x32_3 =
 bif (!x32_3) then
  hybrid_Get.l0 bar k m1 s0 width1 count2 x32 x32_1 x32_2 (decide (head9 < 2))
 else
  hybrid_Get.l0 bar k m1 s0 width1 count2 x32 x32_1 x32_2 true := by kernel_rfl
theorem page_Taker_Bytes.f_eq (bar : Bar) (k : Nat) (a0_0 : List UInt8) (a0_1 : Bool) (a1 : Int) : page_Taker_Bytes.f bar (k + 1) a0_0 a0_1 a1 =
 bif (!a0_1) then
  bif (!(decide (a1 < 0))) then
   bif decide (a1 > ((a0_0).length : Int)) then
    some (([] : List UInt8), (a0_0, true))
   else
    bif decide (0 ≤ a1) && decide (a1 ≤ (((a0_0).length : Nat) : Int)) then
     bif decide (0 ≤ a1) && decide (a1 ≤ (((a0_0).length : Nat) : Int)) then
      some (List.drop 0 (List.take ((a1).toNat) a0_0), (List.drop ((a1).toNat) (List.take ((a0_0).length) a0_0), a0_1))
     else
      none
    else
     none
  else
   some (([] : List UInt8), (a0_0, true))
 else
  some (([] : List UInt8), (a0_0, true)) := by kernel_rfl
theorem page_there.f_eq (bar : Bar) (k : Nat) (a0 : List Int) (a1 : Int) : page_there.f bar (k + 1) a0 a1 =
 page_there.l0 bar k k a1 0 a0 ((a0).length : Int) 0 := by kernel_rfl
theorem page_there.l0_eq (bar : Bar) (k : Nat) (n : Nat) (one1 : Int) (out5 : Int) (x8 : List Int) (x9 : Int) (x10 : Int) : page_there.l0 bar k (n + 1) one1 out5 x8 x9 x10 =
 bif decide (x10 < x9) then
  (rd x8 x10).bind fun e_1 =>
  bif (e_1 == one1) then
   page_there.l0 bar k n one1 (IntKind.i64.wrap (out5 + 1)) x8 x9 (IntKind.i64.wrap (x10 + 1))
  else
   page_there.l0 bar k n one1 out5 x8 x9 (IntKind.i64.wrap (x10 + 1))
 else
  some out5 := by kernel_rfl
theorem page_Taker_value.f_eq (bar : Bar) (k : Nat) (a0_0 : List UInt8) (a0_1 : Bool) (a1 : Int) : page_Taker_value.f bar (k + 1) a0_0 a0_1 a1 =
 bif (a1 == 0) then
  (page_Taker_Bytes.f bar k a0_0 a0_1 8).bind fun r_1 =>
  (num_Of.f bar k r_1.1).bind fun r_2 =>
  (value_Int.f bar k r_2).bind fun r_3 =>
  some (r_3, (r_1.2.1, r_1.2.2))
 else
  bif (a1 == 1) then
   (page_Taker_Bytes.f bar k a0_0 a0_1 1).bind fun r_4 =>
   (num_Of.f bar k r_4.1).bind fun r_5 =>
   (value_Bool.f bar k (r_5 == 1)).bind fun r_6 =>
   some (r_6, (r_4.2.1, r_4.2.2))
  else
   (page_Taker_Text.f bar k a0_0 a0_1).bind fun r_7 =>
   (value_Bytes.f bar k r_7.1).bind fun r_8 =>
   some (r_8, (r_7.2.1, r_7.2.2)) := by kernel_rfl
end Go.Proofs.YtjkokaockhecnaaGreatDoorA
