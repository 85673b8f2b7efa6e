/- Each function and each loop of the program answers as its equation says; no condition. -/
import Derived.Test.YtjkokaockhecnaaGreatDoorFns
namespace Go.Proofs.YtjkokaockhecnaaGreatDoorA
open Go
set_option linter.unusedVariables false
theorem quiverlaw0_SameTexts.f_eq (bar : Bar) (k : Nat) (a0 : List (List UInt8)) (a1 : List (List UInt8)) : quiverlaw0_SameTexts.f bar (k + 1) a0 a1 =
 bif (((a0).length : Int) != ((a1).length : Int)) then
  some false
 else
  quiverlaw0_SameTexts.l0 bar k k a0 a1 0 := by kernel_rfl
theorem quiverlaw0_SameTexts.l0_eq (bar : Bar) (k : Nat) (n : Nat) (a0 : List (List UInt8)) (b1 : List (List UInt8)) (i5 : Int) : quiverlaw0_SameTexts.l0 bar k (n + 1) a0 b1 i5 =
 bif decide (i5 < ((a0).length : Int)) then
  (rd a0 i5).bind fun e_1 =>
  (rd b1 i5).bind fun e_2 =>
  bif (e_1 != e_2) then
   some false
  else
   quiverlaw0_SameTexts.l0 bar k n a0 b1 (IntKind.i64.wrap (i5 + 1))
 else
  some true := by kernel_rfl
theorem quiverlaw0_SameInts.f_eq (bar : Bar) (k : Nat) (a0 : List Int) (a1 : List Int) : quiverlaw0_SameInts.f bar (k + 1) a0 a1 =
 bif (((a0).length : Int) != ((a1).length : Int)) then
  some false
 else
  quiverlaw0_SameInts.l0 bar k k a0 a1 0 := by kernel_rfl
theorem quiverlaw0_SameInts.l0_eq (bar : Bar) (k : Nat) (n : Nat) (a0 : List Int) (b1 : List Int) (i5 : Int) : quiverlaw0_SameInts.l0 bar k (n + 1) a0 b1 i5 =
 bif decide (i5 < ((a0).length : Int)) then
  (rd a0 i5).bind fun e_1 =>
  (rd b1 i5).bind fun e_2 =>
  bif (e_1 != e_2) then
   some false
  else
   quiverlaw0_SameInts.l0 bar k n a0 b1 (IntKind.i64.wrap (i5 + 1))
 else
  some true := by kernel_rfl
theorem chunk_cut.f_eq (bar : Bar) (k : Nat) (a0 : Col) (a1 : Int) (a2 : Int) : chunk_cut.f bar (k + 1) a0 a1 a2 =
 chunk_cut.l0 bar k k a0.reps a0.defs a0.values a1 a2 0 0 ((a0.reps).length : Int) 0 := by kernel_rfl
theorem chunk_cut.l0_eq (bar : Bar) (k : Nat) (n : Nat) (c0 : List Int) (c0_1 : List Int) (c0_2 : List (List UInt8)) (records1 : Int) (def_2 : Int) (seen8 : Int) (values9 : Int) (x16 : Int) (x17 : Int) : chunk_cut.l0 bar k (n + 1) c0 c0_1 c0_2 records1 def_2 seen8 values9 x16 x17 =
 bif decide (x17 < x16) then
  (rd c0 x17).bind fun e_1 =>
  bif (e_1 == 0) then
   bif (seen8 == records1) then
    some (x17, values9)
   else
    bar _ (chunk_cut.j9 bar k n c0 c0_1 c0_2 records1 def_2 (IntKind.i64.wrap (seen8 + 1)) values9 x17 x16)
  else
   bar _ (chunk_cut.j9 bar k n c0 c0_1 c0_2 records1 def_2 seen8 values9 x17 x16)
 else
  some (((c0).length : Int), values9) := by kernel_rfl
theorem chunk_cut.j9_eq (bar : Bar) (k : Nat) (m1 : Nat) (c0 : List Int) (c0_1 : List Int) (c0_2 : List (List UInt8)) (records1 : Int) (def_2 : Int) (seen8 : Int) (values9 : Int) (i10 : Int) (x16 : Int) : chunk_cut.j9 bar k m1 c0 c0_1 c0_2 records1 def_2 seen8 values9 i10 x16 =
 (rd c0_1 i10).bind fun e_1 =>
 bif (e_1 == def_2) then
  chunk_cut.l0 bar k m1 c0 c0_1 c0_2 records1 def_2 seen8 (IntKind.i64.wrap (values9 + 1)) x16 (IntKind.i64.wrap (i10 + 1))
 else
  chunk_cut.l0 bar k m1 c0 c0_1 c0_2 records1 def_2 seen8 values9 x16 (IntKind.i64.wrap (i10 + 1)) := by kernel_rfl
theorem quiverlaw23_ints.f_eq (bar : Bar) (k : Nat) : quiverlaw23_ints.f bar (k + 1) =
 some ([(Nod.mk 0 (-1) true)] : List Nod) := by kernel_rfl
theorem page_within.f_eq (bar : Bar) (k : Nat) (a0 : List Int) (a1 : Int) : page_within.f bar (k + 1) a0 a1 =
 page_within.l0 bar k k a1 a0 ((a0).length : Int) 0 := by kernel_rfl
theorem page_within.l0_eq (bar : Bar) (k : Nat) (n : Nat) (most1 : Int) (x7 : List Int) (x8 : Int) (x9 : Int) : page_within.l0 bar k (n + 1) most1 x7 x8 x9 =
 bif decide (x9 < x8) then
  (rd x7 x9).bind fun e_1 =>
  bif (!(decide (e_1 < 0))) then
   bif decide (e_1 > most1) then
    some false
   else
    page_within.l0 bar k n most1 x7 x8 (IntKind.i64.wrap (x9 + 1))
  else
   some false
 else
  some true := by kernel_rfl
theorem value_Null.f_eq (bar : Bar) (k : Nat) : value_Null.f bar (k + 1) =
 some ([110] : List UInt8) := by kernel_rfl
theorem value_Fits.f_eq (bar : Bar) (k : Nat) (a0 : List Nod) (a1 : Int) (a2 : List UInt8) : value_Fits.f bar (k + 1) a0 a1 a2 =
 (types_Node.f bar k a0 a1).bind fun r_1 =>
 bif (!r_1) then
  some false
 else
  (value_Parts.f bar k a2).bind fun r_2 =>
  (rd a0 a1).bind fun e_3 =>
  bif (!(r_2.2.2 != 0)) then
   bif (r_2.1 == (-1)) then
    bif (r_2.2.2 == 0) then
     some e_3.null
    else
     some false
   else
    (types_Kids.f bar k a0 a1).bind fun r_4 =>
    bif (r_2.1 != e_3.kind) then
     some false
    else
     bif (r_2.1 == 2) then
      bif decide (0 ≤ 0) && decide (0 < ((r_2.2.1).length : Int)) then
       (r_2.2.1[0]?).bind fun e_5 =>
       some (decide (((e_5).length : Int) ≤ 16))
      else
       none
     else
      bif (r_2.1 == 4) then
       (value_all_int_string_value_Fits_1.f bar k r_4.1 r_2.2.1 a0).bind fun r_6 =>
       some r_6
      else
       value_Fits.l1 bar k k r_2.2.1 r_2.1 ((r_2.2.1).length : Int) 0 a0 r_4.1
  else
   bif (r_2.2.2 == 0) then
    some e_3.null
   else
    some false := by kernel_rfl
theorem value_Fits.l1_eq (bar : Bar) (k : Nat) (n : Nat) (x70 : List (List UInt8)) (kind7 : Int) (x71 : Int) (x72 : Int) (t3 : List Nod) (x2011 : List Int) : value_Fits.l1 bar k (n + 1) x70 kind7 x71 x72 t3 x2011 =
 bif decide (x72 < x71) then
  (rd x70 x72).bind fun e_1 =>
  bif (kind7 == 3) then
   bif decide (0 ≤ 0) && decide (0 < ((x2011).length : Int)) then
    (x2011[0]?).bind fun e_2 =>
    (value_Fits_1.f bar k e_2 e_1 t3).bind fun r_3 =>
    bif (!r_3) then
     some false
    else
     value_Fits.l1 bar k n x70 kind7 x71 (IntKind.i64.wrap (x72 + 1)) t3 x2011
   else
    none
  else
   value_Fits.l1 bar k n x70 kind7 x71 (IntKind.i64.wrap (x72 + 1)) t3 x2011
 else
  some (decide (((x70).length : Int) ≤ 64)) := by kernel_rfl
theorem types_Node.f_eq (bar : Bar) (k : Nat) (a0 : List Nod) (a1 : Int) : types_Node.f bar (k + 1) a0 a1 =
 (types_May.f bar k a0).bind fun r_1 =>
 bif r_1 then
  bif decide (a1 ≥ 0) then
   some (decide (a1 < ((a0).length : Int)))
  else
   some false
 else
  some false := by kernel_rfl
theorem types_way.f_eq (bar : Bar) (k : Nat) (a0 : List Nod) (a1 : Int) : types_way.f bar (k + 1) a0 a1 =
 types_way.l0 bar k k a0 a1 ([] : List Int) := by kernel_rfl
theorem types_way.l0_eq (bar : Bar) (k : Nat) (n : Nat) (t0 : List Nod) (at_1 : Int) (x2005 : List Int) : types_way.l0 bar k (n + 1) t0 at_1 x2005 =
 bif decide (at_1 ≥ 0) then
  bif decide (((x2005).length + (([at_1] : List Int)).length) * 8 ≤ 140737488355328) then
   (rd t0 at_1).bind fun e_1 =>
   types_way.l0 bar k n t0 e_1.parent (x2005 ++ ([at_1] : List Int))
  else
   none
 else
  some x2005 := by kernel_rfl
theorem hybrid_Put.f_eq (bar : Bar) (k : Nat) (a0 : List Int) (a1 : Int) : hybrid_Put.f bar (k + 1) a0 a1 =
 (hybrid_may.f bar k a0 a1).bind fun r_1 =>
 bif (!r_1) then
  some (([] : List UInt8), 2100)
 else
  hybrid_Put.l0 bar k k a0 a1 ([] : List Int) := by kernel_rfl
theorem hybrid_Put.l0_eq (bar : Bar) (k : Nat) (n : Nat) (xs0 : List Int) (width1 : Int) (out6 : List Int) : hybrid_Put.l0 bar k (n + 1) xs0 width1 out6 =
 bif decide (((xs0).length : Int) > 0) then
  (hybrid_same.f bar k xs0).bind fun r_1 =>
  bif decide (r_1 ≥ 8) then
   (num_PutVar.f bar k (IntKind.i64.wrap (2 * r_1))).bind fun r_2 =>
   (rd xs0 0).bind fun e_3 =>
   (bits_Bytes.f bar k width1).bind fun r_4 =>
   (num_Word.f bar k e_3 r_4).bind fun r_5 =>
   bif decide ((r_2.1).length + (r_5).length ≤ 9223372036854775807) then
    bif decide ((out6).length + (r_2.1 ++ r_5).length ≤ 140737488355328) then
     bif decide (0 ≤ r_1) && decide (r_1 ≤ (((xs0).length : Nat) : Int)) then
      hybrid_Put.l0 bar k n (List.drop ((r_1).toNat) (List.take ((xs0).length) xs0)) width1 (out6 ++ bytesOfStr (r_2.1 ++ r_5))
     else
      none
    else
     none
   else
    none
  else
   (hybrid_groups.f bar k xs0).bind fun r_6 =>
   (num_PutVar.f bar k (IntKind.i64.wrap ((IntKind.i64.wrap (2 * (IntKind.i64.wrap (Int.tdiv (IntKind.i64.wrap ((IntKind.i64.wrap (r_6 + 8)) - 1)) 8)))) + 1))).bind fun r_7 =>
   bif decide (0 ≤ r_6) && decide (r_6 ≤ (((xs0).length : Nat) : Int)) then
    (hybrid_wide.f bar k (List.drop 0 (List.take ((r_6).toNat) xs0)) width1).bind fun r_8 =>
    bif decide ((r_7.1).length + (r_8).length ≤ 9223372036854775807) then
     bif decide ((out6).length + (r_7.1 ++ r_8).length ≤ 140737488355328) then
      bif decide (0 ≤ r_6) && decide (r_6 ≤ (((xs0).length : Nat) : Int)) then
       hybrid_Put.l0 bar k n (List.drop ((r_6).toNat) (List.take ((xs0).length) xs0)) width1 (out6 ++ bytesOfStr (r_7.1 ++ r_8))
      else
       none
     else
      none
    else
     none
   else
    none
 else
  some (strOfBytes out6, 0) := by kernel_rfl
theorem value_Parts.f_eq (bar : Bar) (k : Nat) (a0 : List UInt8) : value_Parts.f bar (k + 1) a0 =
 bif decide (((a0).length : Int) > 65536) then
  some (0, ([] : List (List UInt8)), 700)
 else
  (value_taker_value.f bar k a0 false 0).bind fun r_1 =>
  bif (!r_1.2.2) then
   bif (r_1.2.1 != ([] : List UInt8)) then
    some (0, ([] : List (List UInt8)), 700)
   else
    some (r_1.1.1, r_1.1.2, 0)
  else
   some (0, ([] : List (List UInt8)), 700) := by kernel_rfl
theorem strconv_Atoi.f_eq (bar : Bar) (k : Nat) (a0 : List UInt8) : strconv_Atoi.f bar (k + 1) a0 =
   extAtoi a0 := by kernel_rfl
theorem types_Inner.f_eq (bar : Bar) (k : Nat) (a0 : Int) : types_Inner.f bar (k + 1) a0 =
 bif (!(a0 == 3)) then
  some (a0 == 4)
 else
  some true := by kernel_rfl
theorem num_Get.f_eq (bar : Bar) (k : Nat) (a0 : List UInt8) (a1 : Int) (a2 : Int) : num_Get.f bar (k + 1) a0 a1 a2 =
 bif (a2 != 4) then
  bif (!(a2 != 8)) then
   bif (!(decide (a1 < 0))) then
    bif (!(decide (a1 > ((a0).length : Int)))) then
     bif decide ((IntKind.i64.wrap (((a0).length : Int) - a1)) < a2) then
      some (0, 300)
     else
      bif decide (0 ≤ IntKind.i64.wrap (a1 + a2)) && decide (IntKind.i64.wrap (a1 + a2) ≤ (((a0).length : Nat) : Int)) then
       bif decide (0 ≤ a1) && decide (a1 ≤ (((IntKind.i64.wrap (a1 + a2)).toNat : Nat) : Int)) then
        (num_Of.f bar k (List.drop ((a1).toNat) (List.take ((IntKind.i64.wrap (a1 + a2)).toNat) a0))).bind fun r_1 =>
        bif (a2 == 4) then
         (pad_May.f bar k r_1).bind fun r_2 =>
         bif (!r_2) then
          some (0, 300)
         else
          some (r_1, 0)
        else
         some (r_1, 0)
       else
        none
      else
       none
    else
     some (0, 300)
   else
    some (0, 300)
  else
   some (0, 300)
 else
  bif (!(decide (a1 < 0))) then
   bif (!(decide (a1 > ((a0).length : Int)))) then
    bif decide ((IntKind.i64.wrap (((a0).length : Int) - a1)) < a2) then
     some (0, 300)
    else
     bif decide (0 ≤ IntKind.i64.wrap (a1 + a2)) && decide (IntKind.i64.wrap (a1 + a2) ≤ (((a0).length : Nat) : Int)) then
      bif decide (0 ≤ a1) && decide (a1 ≤ (((IntKind.i64.wrap (a1 + a2)).toNat : Nat) : Int)) then
       (num_Of.f bar k (List.drop ((a1).toNat) (List.take ((IntKind.i64.wrap (a1 + a2)).toNat) a0))).bind fun r_3 =>
       bif (a2 == 4) then
        (pad_May.f bar k r_3).bind fun r_4 =>
        bif (!r_4) then
         some (0, 300)
        else
         some (r_3, 0)
       else
        some (r_3, 0)
      else
       none
     else
      none
   else
    some (0, 300)
  else
   some (0, 300) := by kernel_rfl
theorem num_GetVar.f_eq (bar : Bar) (k : Nat) (a0 : List UInt8) (a1 : Int) : num_GetVar.f bar (k + 1) a0 a1 =
 bif (!(decide (a1 < 0))) then
  bif decide (a1 > ((a0).length : Int)) then
   some (0, 0, 300)
  else
   num_GetVar.l0 bar k k a0 a1 0 0
 else
  some (0, 0, 300) := by kernel_rfl
theorem num_GetVar.l0_eq (bar : Bar) (k : Nat) (n : Nat) (s0 : List UInt8) (at_1 : Int) (x7 : Int) (i8 : Int) : num_GetVar.l0 bar k (n + 1) s0 at_1 x7 i8 =
 bif decide (i8 < 5) then
  bif decide ((IntKind.i64.wrap (at_1 + i8)) < ((s0).length : Int)) then
   (rd s0 (IntKind.i64.wrap (at_1 + i8))).bind fun b_1 =>
   bif decide (IntKind.i64.wrap (7 * i8) < 0) then
    none
   else
    bif decide ((b_1.toNat : Int) ≥ 128) then
     num_GetVar.l0 bar k n s0 at_1 (bitsOp .or .i64 x7 (IntKind.i64.wrap ((IntKind.i64.wrap (Int.tmod (b_1.toNat : Int) 128)) * 2 ^ (min (IntKind.i64.wrap (7 * i8)).toNat IntKind.i64.bits)))) (IntKind.i64.wrap (i8 + 1))
    else
     (num_PutVar.f bar k (bitsOp .or .i64 x7 (IntKind.i64.wrap ((IntKind.i64.wrap (Int.tmod (b_1.toNat : Int) 128)) * 2 ^ (min (IntKind.i64.wrap (7 * i8)).toNat IntKind.i64.bits))))).bind fun r_2 =>
     bif (!(r_2.2 != 0)) then
      bif decide (0 ≤ IntKind.i64.wrap ((IntKind.i64.wrap (at_1 + i8)) + 1)) && decide (IntKind.i64.wrap ((IntKind.i64.wrap (at_1 + i8)) + 1) ≤ (((s0).length : Nat) : Int)) then
       bif decide (0 ≤ at_1) && decide (at_1 ≤ (((IntKind.i64.wrap ((IntKind.i64.wrap (at_1 + i8)) + 1)).toNat : Nat) : Int)) then
        bif (r_2.1 != (List.drop ((at_1).toNat) (List.take ((IntKind.i64.wrap ((IntKind.i64.wrap (at_1 + i8)) + 1)).toNat) s0))) then
         some (0, 0, 300)
        else
         some (bitsOp .or .i64 x7 (IntKind.i64.wrap ((IntKind.i64.wrap (Int.tmod (b_1.toNat : Int) 128)) * 2 ^ (min (IntKind.i64.wrap (7 * i8)).toNat IntKind.i64.bits))), IntKind.i64.wrap ((IntKind.i64.wrap (at_1 + i8)) + 1), 0)
       else
        none
      else
       none
     else
      some (0, 0, 300)
  else
   some (0, 0, 300)
 else
  some (0, 0, 300) := by kernel_rfl
theorem hybrid_taker_run.f_eq (bar : Bar) (k : Nat) (a0_0 : List UInt8) (a0_1 : Int) (a0_2 : List Int) (a0_3 : Bool) (a1 : Int) (a2 : Int) : hybrid_taker_run.f bar (k + 1) a0_0 a0_1 a0_2 a0_3 a1 a2 =
 (bits_Bytes.f bar k a0_1).bind fun r_1 =>
 (hybrid_taker_bytes.f bar k a0_0 a0_1 a0_2 a0_3 r_1).bind fun r_2 =>
 (num_Of.f bar k r_2.1).bind fun r_3 =>
 bif (!r_2.2.2.2.2) then
  bif (!(decide (a1 > a2))) then
   (slices_Repeat_int_int.f bar k ([r_3] : List Int) a1).bind fun r_4 =>
   bif decide (((r_2.2.2.2.1).length + (r_4).length) * 8 ≤ 140737488355328) then
    some (r_2.2.1, r_2.2.2.1, r_2.2.2.2.1 ++ r_4, decide (a1 > a2))
   else
    none
  else
   some (r_2.2.1, r_2.2.2.1, r_2.2.2.2.1, decide (a1 > a2))
 else
  some (r_2.2.1, r_2.2.2.1, r_2.2.2.2.1, true) := by kernel_rfl
theorem hybrid_taker_groups.f_eq (bar : Bar) (k : Nat) (a0_0 : List UInt8) (a0_1 : Int) (a0_2 : List Int) (a0_3 : Bool) (a1 : Int) (a2 : Int) : hybrid_taker_groups.f bar (k + 1) a0_0 a0_1 a0_2 a0_3 a1 a2 =
 bif decide (a1 > (IntKind.i64.wrap (Int.tdiv (IntKind.i64.wrap ((IntKind.i64.wrap (a2 + 8)) - 1)) 8))) then
  some (a0_0, a0_1, a0_2, true)
 else
  (hybrid_taker_bytes.f bar k a0_0 a0_1 a0_2 a0_3 (IntKind.i64.wrap (a1 * a0_1))).bind fun r_1 =>
  hybrid_taker_groups.l0 bar k k r_1.1 (bif decide (a2 < (IntKind.i64.wrap (a1 * 8))) then a2 else IntKind.i64.wrap (a1 * 8)) 0 r_1.2.1 r_1.2.2.1 r_1.2.2.2.1 r_1.2.2.2.2 := by kernel_rfl
theorem hybrid_taker_groups.l0_eq (bar : Bar) (k : Nat) (n : Nat) (s6 : List UInt8) (x30 : Int) (x31 : Int) (x1000 : List UInt8) (x1000_1 : Int) (x1000_2 : List Int) (x1000_3 : Bool) : hybrid_taker_groups.l0 bar k (n + 1) s6 x30 x31 x1000 x1000_1 x1000_2 x1000_3 =
 bif decide (x31 < x30) then
  hybrid_taker_groups.l2 bar k n k s6 x31 0 x30 x1000_1 0 x1000 x1000_2 x1000_3
 else
  some (x1000, x1000_1, x1000_2, x1000_3) := by kernel_rfl
theorem hybrid_taker_groups.l2_eq (bar : Bar) (k : Nat) (m1 : Nat) (n : Nat) (s6 : List UInt8) (i7 : Int) (x8 : Int) (x30 : Int) (x37 : Int) (x38 : Int) (x1000 : List UInt8) (x1000_1 : List Int) (x1000_2 : Bool) : hybrid_taker_groups.l2 bar k m1 (n + 1) s6 i7 x8 x30 x37 x38 x1000 x1000_1 x1000_2 =
 bif decide (x38 < x37) then
  bif (!x1000_2) then
   (bits_On.f bar k s6 (IntKind.i64.wrap ((IntKind.i64.wrap (i7 * x37)) + x38))).bind fun r_1 =>
   bif r_1 then
    bif decide (x38 < 0) then
     none
    else
     hybrid_taker_groups.l2 bar k m1 n s6 i7 (bitsOp .or .i64 x8 (IntKind.i64.wrap (1 * 2 ^ (min (x38).toNat IntKind.i64.bits)))) x30 x37 (IntKind.i64.wrap (x38 + 1)) x1000 x1000_1 x1000_2
   else
    hybrid_taker_groups.l2 bar k m1 n s6 i7 x8 x30 x37 (IntKind.i64.wrap (x38 + 1)) x1000 x1000_1 x1000_2
  else
   hybrid_taker_groups.l2 bar k m1 n s6 i7 x8 x30 x37 (IntKind.i64.wrap (x38 + 1)) x1000 x1000_1 x1000_2
 else
  bif decide (((x1000_1).length + (([x8] : List Int)).length) * 8 ≤ 140737488355328) then
   hybrid_taker_groups.l0 bar k m1 s6 x30 (IntKind.i64.wrap (i7 + 1)) x1000 x37 (x1000_1 ++ ([x8] : List Int)) x1000_2
  else
   none := by kernel_rfl
theorem value_Int.f_eq (bar : Bar) (k : Nat) (a0 : Int) : value_Int.f bar (k + 1) a0 =
 (strconv_Itoa.f bar k a0).bind fun r_1 =>
 bif decide ((([105] : List UInt8)).length + (r_1).length ≤ 9223372036854775807) then
  bif decide ((([105] : List UInt8) ++ r_1).length + (([59] : List UInt8)).length ≤ 9223372036854775807) then
   some ((([105] : List UInt8) ++ r_1) ++ ([59] : List UInt8))
  else
   none
 else
  none := by kernel_rfl
theorem value_Bool.f_eq (bar : Bar) (k : Nat) (a0 : Bool) : value_Bool.f bar (k + 1) a0 =
 bif a0 then
  some ([116] : List UInt8)
 else
  some ([102] : List UInt8) := by kernel_rfl
theorem value_Bytes.f_eq (bar : Bar) (k : Nat) (a0 : List UInt8) : value_Bytes.f bar (k + 1) a0 =
 (strconv_Itoa.f bar k ((a0).length : Int)).bind fun r_1 =>
 bif decide ((([115] : List UInt8)).length + (r_1).length ≤ 9223372036854775807) then
  bif decide ((([115] : List UInt8) ++ r_1).length + (([58] : List UInt8)).length ≤ 9223372036854775807) then
   bif decide (((([115] : List UInt8) ++ r_1) ++ ([58] : List UInt8)).length + (a0).length ≤ 9223372036854775807) then
    some (((([115] : List UInt8) ++ r_1) ++ ([58] : List UInt8)) ++ a0)
   else
    none
  else
   none
 else
  none := by kernel_rfl
theorem page_Taker_Text.f_eq (bar : Bar) (k : Nat) (a0_0 : List UInt8) (a0_1 : Bool) : page_Taker_Text.f bar (k + 1) a0_0 a0_1 =
 (page_Taker_Number.f bar k a0_0 a0_1).bind fun r_1 =>
 (page_Taker_Bytes.f bar k r_1.2.1 r_1.2.2 r_1.1).bind fun r_2 =>
 some (r_2.1, (r_2.2.1, r_2.2.2)) := by kernel_rfl
theorem quiverref7_Parts.f_eq (bar : Bar) (k : Nat) (a0 : List UInt8) : quiverref7_Parts.f bar (k + 1) a0 =
 bif (!(decide (((a0).length : Int) > 65536))) then
  (quiverref7_end.f bar k a0 0 4).bind fun r_1 =>
  bif (r_1 != ((a0).length : Int)) then
   some (0, ([] : List (List UInt8)), 700)
  else
   (rd a0 0).bind fun b_2 =>
   bif ((b_2.toNat : Int) == 110) then
    some ((-1), ([] : List (List UInt8)), 0)
   else
    bif ((b_2.toNat : Int) == 105) then
     bif decide (0 ≤ IntKind.i64.wrap (((a0).length : Int) - 1)) && decide (IntKind.i64.wrap (((a0).length : Int) - 1) ≤ (((a0).length : Nat) : Int)) then
      bif decide (0 ≤ 1) && decide (1 ≤ (((IntKind.i64.wrap (((a0).length : Int) - 1)).toNat : Nat) : Int)) then
       some (0, ([List.drop 1 (List.take ((IntKind.i64.wrap (((a0).length : Int) - 1)).toNat) a0)] : List (List UInt8)), 0)
      else
       none
     else
      none
    else
     bif ((b_2.toNat : Int) == 116) then
      bif ((b_2.toNat : Int) == 116) then
       some (1, ([a0] : List (List UInt8)), 0)
      else
       bif ((b_2.toNat : Int) == 115) then
        (quiverref7_upto.f bar k a0 0 58).bind fun r_3 =>
        bif decide (0 ≤ IntKind.i64.wrap (r_3 + 1)) && decide (IntKind.i64.wrap (r_3 + 1) ≤ (((a0).length : Nat) : Int)) then
         some (2, ([List.drop ((IntKind.i64.wrap (r_3 + 1)).toNat) (List.take ((a0).length) a0)] : List (List UInt8)), 0)
        else
         none
       else
        bar _ (quiverref7_Parts.j13 bar k a0)
     else
      bif ((b_2.toNat : Int) == 102) then
       some (1, ([a0] : List (List UInt8)), 0)
      else
       bif ((b_2.toNat : Int) == 115) then
        (quiverref7_upto.f bar k a0 0 58).bind fun r_4 =>
        bif decide (0 ≤ IntKind.i64.wrap (r_4 + 1)) && decide (IntKind.i64.wrap (r_4 + 1) ≤ (((a0).length : Nat) : Int)) then
         some (2, ([List.drop ((IntKind.i64.wrap (r_4 + 1)).toNat) (List.take ((a0).length) a0)] : List (List UInt8)), 0)
        else
         none
       else
        bar _ (quiverref7_Parts.j13 bar k a0)
 else
  some (0, ([] : List (List UInt8)), 700) := by kernel_rfl
theorem quiverref7_Parts.j13_eq (bar : Bar) (k : Nat) (v0 : List UInt8) : quiverref7_Parts.j13 bar k v0 =
 quiverref7_Parts.l1 bar k k v0 1 ([] : List (List UInt8)) := by kernel_rfl
theorem quiverref7_Parts.l1_eq (bar : Bar) (k : Nat) (n : Nat) (v0 : List UInt8) (at_6 : Int) (x2005 : List (List UInt8)) : quiverref7_Parts.l1 bar k (n + 1) v0 at_6 x2005 =
 bif decide (at_6 < (IntKind.i64.wrap (((v0).length : Int) - 1))) then
  (quiverref7_end.f bar k v0 at_6 4).bind fun r_1 =>
  bif decide (0 ≤ r_1) && decide (r_1 ≤ (((v0).length : Nat) : Int)) then
   bif decide (0 ≤ at_6) && decide (at_6 ≤ (((r_1).toNat : Nat) : Int)) then
    bif decide (((x2005).length + (([List.drop ((at_6).toNat) (List.take ((r_1).toNat) v0)] : List (List UInt8))).length) * 16 ≤ 140737488355328) then
     quiverref7_Parts.l1 bar k n v0 r_1 (x2005 ++ ([List.drop ((at_6).toNat) (List.take ((r_1).toNat) v0)] : List (List UInt8)))
    else
     none
   else
    none
  else
   none
 else
  (rd v0 0).bind fun b_2 =>
  bif ((b_2.toNat : Int) == 91) then
   some (3, x2005, 0)
  else
   some (4, x2005, 0) := by kernel_rfl
theorem types_Kids.f_eq (bar : Bar) (k : Nat) (a0 : List Nod) (a1 : Int) : types_Kids.f bar (k + 1) a0 a1 =
 (types_Node.f bar k a0 a1).bind fun r_1 =>
 bif (!r_1) then
  some (([] : List Int), 500)
 else
  (types_kids.f bar k a0 a1).bind fun r_2 =>
  some (r_2, 0) := by kernel_rfl
theorem types_May.f_eq (bar : Bar) (k : Nat) (a0 : List Nod) : types_May.f bar (k + 1) a0 =
 bif (!(((a0).length : Int) == 0)) then
  bif decide (((a0).length : Int) > 8) then
   some false
  else
   types_May.l0 bar k k a0 ((a0).length : Int) 0
 else
  some false := by kernel_rfl
theorem types_May.l0_eq (bar : Bar) (k : Nat) (n : Nat) (x19 : List Nod) (x20 : Int) (x21 : Int) : types_May.l0 bar k (n + 1) x19 x20 x21 =
 bif decide (x21 < x20) then
  (rd x19 x21).bind fun e_1 =>
  bif (!(decide (e_1.kind < 0))) then
   bif (!(decide (e_1.kind > 4))) then
    (types_stands.f bar k x19 x21).bind fun r_2 =>
    bif (!r_2) then
     some false
    else
     types_May.l0 bar k n x19 x20 (IntKind.i64.wrap (x21 + 1))
   else
    some false
  else
   some false
 else
  types_May.l2 bar k k x19 ((x19).length : Int) 0 := by kernel_rfl
theorem types_May.l2_eq (bar : Bar) (k : Nat) (n : Nat) (x41 : List Nod) (x42 : Int) (x43 : Int) : types_May.l2 bar k (n + 1) x41 x42 x43 =
 bif decide (x43 < x42) then
  (rd x41 x43).bind fun e_1 =>
  (types_kids.f bar k x41 x43).bind fun r_2 =>
  bif (e_1.kind == 3) then
   bif (!(((r_2).length : Int) != 1)) then
    bif (e_1.kind == 4) then
     bif (!(((r_2).length : Int) == 0)) then
      (types_way.f bar k x41 x43).bind fun r_3 =>
      bif decide (((r_3).length : Int) > 5) then
       some false
      else
       types_May.l2 bar k n x41 x42 (IntKind.i64.wrap (x43 + 1))
     else
      some false
    else
     (types_way.f bar k x41 x43).bind fun r_4 =>
     bif decide (((r_4).length : Int) > 5) then
      some false
     else
      types_May.l2 bar k n x41 x42 (IntKind.i64.wrap (x43 + 1))
   else
    some false
  else
   bif (e_1.kind == 4) then
    bif (!(((r_2).length : Int) == 0)) then
     (types_way.f bar k x41 x43).bind fun r_5 =>
     bif decide (((r_5).length : Int) > 5) then
      some false
     else
      types_May.l2 bar k n x41 x42 (IntKind.i64.wrap (x43 + 1))
    else
     some false
   else
    (types_way.f bar k x41 x43).bind fun r_6 =>
    bif decide (((r_6).length : Int) > 5) then
     some false
    else
     types_May.l2 bar k n x41 x42 (IntKind.i64.wrap (x43 + 1))
 else
  some true := by kernel_rfl
theorem hybrid_may.f_eq (bar : Bar) (k : Nat) (a0 : List Int) (a1 : Int) : hybrid_may.f bar (k + 1) a0 a1 =
 bif decide (a1 ≥ 0) then
  bif decide (a1 ≤ 16) then
   bif decide (((a0).length : Int) ≤ 4096) then
    (slices_ContainsFunc_int_int_hybrid_may_1.f bar k a0 a1).bind fun r_1 =>
    some (!r_1)
   else
    some false
  else
   some false
 else
  some false := by kernel_rfl
theorem hybrid_same.f_eq (bar : Bar) (k : Nat) (a0 : List Int) : hybrid_same.f bar (k + 1) a0 =
 hybrid_same.l0 bar k k a0 ((a0).length : Int) 0 := by kernel_rfl
theorem hybrid_same.l0_eq (bar : Bar) (k : Nat) (n : Nat) (xs0 : List Int) (x6 : Int) (x7 : Int) : hybrid_same.l0 bar k (n + 1) xs0 x6 x7 =
 bif decide (x7 < x6) then
  (rd xs0 x7).bind fun e_1 =>
  (rd xs0 0).bind fun e_2 =>
  bif (e_1 != e_2) then
   some x7
  else
   hybrid_same.l0 bar k n xs0 x6 (IntKind.i64.wrap (x7 + 1))
 else
  some ((xs0).length : Int) := by kernel_rfl
theorem num_PutVar.f_eq (bar : Bar) (k : Nat) (a0 : Int) : num_PutVar.f bar (k + 1) a0 =
 (pad_May.f bar k a0).bind fun r_1 =>
 bif (!r_1) then
  some (([] : List UInt8), 300)
 else
  num_PutVar.l0 bar k k a0 ([] : List Int) := by kernel_rfl
theorem num_PutVar.l0_eq (bar : Bar) (k : Nat) (n : Nat) (x0 : Int) (x2004 : List Int) : num_PutVar.l0 bar k (n + 1) x0 x2004 =
 bif decide (x0 ≥ 128) then
  bif decide (((x2004).length + (([bitsOp .or .u8 (IntKind.u8.wrap x0) 128] : List Int)).length) * 1 ≤ 140737488355328) then
   num_PutVar.l0 bar k n (Int.fdiv x0 (2 ^ (min 7 IntKind.i64.bits))) (x2004 ++ ([bitsOp .or .u8 (IntKind.u8.wrap x0) 128] : List Int))
  else
   none
 else
  bif decide (((x2004).length + (([IntKind.u8.wrap x0] : List Int)).length) * 1 ≤ 140737488355328) then
   some (strOfBytes (x2004 ++ ([IntKind.u8.wrap x0] : List Int)), 0)
  else
   none := by kernel_rfl
theorem bits_Bytes.f_eq (bar : Bar) (k : Nat) (a0 : Int) : bits_Bytes.f bar (k + 1) a0 =
 some (IntKind.i64.wrap (Int.tdiv (IntKind.i64.wrap (a0 + 7)) 8)) := by kernel_rfl
theorem hybrid_groups.f_eq (bar : Bar) (k : Nat) (a0 : List Int) : hybrid_groups.f bar (k + 1) a0 =
 hybrid_groups.l0 bar k k a0 0 := by kernel_rfl
theorem hybrid_groups.l0_eq (bar : Bar) (k : Nat) (n : Nat) (xs0 : List Int) (at_3 : Int) : hybrid_groups.l0 bar k (n + 1) xs0 at_3 =
 bif decide (at_3 < ((xs0).length : Int)) then
  bif decide (0 ≤ at_3) && decide (at_3 ≤ (((xs0).length : Nat) : Int)) then
   (hybrid_same.f bar k (List.drop ((at_3).toNat) (List.take ((xs0).length) xs0))).bind fun r_1 =>
   bif decide (r_1 ≥ 8) then
    some at_3
   else
    hybrid_groups.l0 bar k n xs0 (IntKind.i64.wrap (at_3 + 8))
  else
   none
 else
  some ((xs0).length : Int) := by kernel_rfl
theorem hybrid_wide.f_eq (bar : Bar) (k : Nat) (a0 : List Int) (a1 : Int) : hybrid_wide.f bar (k + 1) a0 a1 =
 bif (IntKind.i64.wrap ((IntKind.i64.wrap ((IntKind.i64.wrap (Int.tdiv (IntKind.i64.wrap ((IntKind.i64.wrap (((a0).length : Int) + 8)) - 1)) 8)) * 8)) * a1) == IntKind.i64.wrap ((IntKind.i64.wrap ((IntKind.i64.wrap (Int.tdiv (IntKind.i64.wrap ((IntKind.i64.wrap (((a0).length : Int) + 8)) - 1)) 8)) * 8)) * a1)) && (decide (0 ≤ IntKind.i64.wrap ((IntKind.i64.wrap ((IntKind.i64.wrap (Int.tdiv (IntKind.i64.wrap ((IntKind.i64.wrap (((a0).length : Int) + 8)) - 1)) 8)) * 8)) * a1)) && decide ((IntKind.i64.wrap ((IntKind.i64.wrap ((IntKind.i64.wrap (Int.tdiv (IntKind.i64.wrap ((IntKind.i64.wrap (((a0).length : Int) + 8)) - 1)) 8)) * 8)) * a1)) * 1 ≤ 140737488355328)) then
  hybrid_wide.l0 bar k k a1 a0 ((a0).length : Int) 0 (List.replicate (IntKind.i64.wrap ((IntKind.i64.wrap ((IntKind.i64.wrap (Int.tdiv (IntKind.i64.wrap ((IntKind.i64.wrap (((a0).length : Int) + 8)) - 1)) 8)) * 8)) * a1)).toNat (false : Bool) : List Bool)
 else
  none := by kernel_rfl
theorem hybrid_wide.l0_eq (bar : Bar) (k : Nat) (n : Nat) (width1 : Int) (x18 : List Int) (x19 : Int) (x20 : Int) (x2005 : List Bool) : hybrid_wide.l0 bar k (n + 1) width1 x18 x19 x20 x2005 =
 bif decide (x20 < x19) then
  (rd x18 x20).bind fun e_1 =>
  hybrid_wide.l2 bar k n k width1 x20 e_1 x18 x19 0 x2005
 else
  (bits_Of.f bar k x2005).bind fun r_2 =>
  some r_2 := by kernel_rfl
theorem hybrid_wide.l2_eq (bar : Bar) (k : Nat) (m1 : Nat) (n : Nat) (width1 : Int) (i6 : Int) (x7 : Int) (x18 : List Int) (x19 : Int) (x26 : Int) (x2005 : List Bool) : hybrid_wide.l2 bar k m1 (n + 1) width1 i6 x7 x18 x19 x26 x2005 =
 bif decide (x26 < width1) then
  bif decide (x26 < 0) then
   none
  else
   bif decide (0 ≤ IntKind.i64.wrap ((IntKind.i64.wrap (i6 * width1)) + x26)) && decide (IntKind.i64.wrap ((IntKind.i64.wrap (i6 * width1)) + x26) < ((x2005).length : Int)) then
    (x2005[(IntKind.i64.wrap ((IntKind.i64.wrap (i6 * width1)) + x26)).toNat]?).bind fun e_1 =>
    hybrid_wide.l2 bar k m1 n width1 i6 x7 x18 x19 (IntKind.i64.wrap (x26 + 1)) ((x2005).set ((IntKind.i64.wrap ((IntKind.i64.wrap (i6 * width1)) + x26)).toNat) ((bitsOp .and .i64 (Int.fdiv x7 (2 ^ (min (x26).toNat IntKind.i64.bits))) 1) == 1))
   else
    none
 else
  hybrid_wide.l0 bar k m1 width1 x18 x19 (IntKind.i64.wrap (i6 + 1)) x2005 := by kernel_rfl
theorem value_taker_value.f_eq (bar : Bar) (k : Nat) (a0_0 : List UInt8) (a0_1 : Bool) (a1 : Int) : value_taker_value.f bar (k + 1) a0_0 a0_1 a1 =
 bif decide (a1 > 4) then
  (value_taker_fail.f bar k a0_0 a0_1).bind fun r_1 =>
  some ((r_1.1.1, r_1.1.2), (r_1.2.1, r_1.2.2))
 else
  (value_taker_byte.f bar k a0_0 a0_1).bind fun r_2 =>
  bif (r_2.1 == 110) then
   some (((-1), ([] : List (List UInt8))), (r_2.2.1, r_2.2.2))
  else
   bif (r_2.1 == 105) then
    (value_taker_number.f bar k r_2.2.1 r_2.2.2 ([59] : List UInt8)).bind fun r_3 =>
    some ((0, ([r_3.1.2] : List (List UInt8))), (r_3.2.1, r_3.2.2))
   else
    bif (r_2.1 == 116) then
     bif (r_2.1 == 116) then
      some ((1, ([strOfBytes ([r_2.1] : List Int)] : List (List UInt8))), (r_2.2.1, r_2.2.2))
     else
      bif (r_2.1 == 115) then
       (value_taker_number.f bar k r_2.2.1 r_2.2.2 ([58] : List UInt8)).bind fun r_4 =>
       (value_taker_bytes.f bar k r_4.2.1 r_4.2.2 r_4.1.1).bind fun r_5 =>
       some ((2, ([r_5.1] : List (List UInt8))), (r_5.2.1, r_5.2.2))
      else
       bif (r_2.1 == 91) then
        (value_taker_row.f bar k r_2.2.1 r_2.2.2 93 (IntKind.i64.wrap (a1 + 1))).bind fun r_6 =>
        some ((3, r_6.1), (r_6.2.1, r_6.2.2))
       else
        bif (r_2.1 == 123) then
         (value_taker_row.f bar k r_2.2.1 r_2.2.2 125 (IntKind.i64.wrap (a1 + 1))).bind fun r_7 =>
         some ((4, r_7.1), (r_7.2.1, r_7.2.2))
        else
         (value_taker_fail.f bar k r_2.2.1 r_2.2.2).bind fun r_8 =>
         some ((r_8.1.1, r_8.1.2), (r_8.2.1, r_8.2.2))
    else
     bif (r_2.1 == 102) then
      some ((1, ([strOfBytes ([r_2.1] : List Int)] : List (List UInt8))), (r_2.2.1, r_2.2.2))
     else
      bif (r_2.1 == 115) then
       (value_taker_number.f bar k r_2.2.1 r_2.2.2 ([58] : List UInt8)).bind fun r_9 =>
       (value_taker_bytes.f bar k r_9.2.1 r_9.2.2 r_9.1.1).bind fun r_10 =>
       some ((2, ([r_10.1] : List (List UInt8))), (r_10.2.1, r_10.2.2))
      else
       bif (r_2.1 == 91) then
        (value_taker_row.f bar k r_2.2.1 r_2.2.2 93 (IntKind.i64.wrap (a1 + 1))).bind fun r_11 =>
        some ((3, r_11.1), (r_11.2.1, r_11.2.2))
       else
        bif (r_2.1 == 123) then
         (value_taker_row.f bar k r_2.2.1 r_2.2.2 125 (IntKind.i64.wrap (a1 + 1))).bind fun r_12 =>
         some ((4, r_12.1), (r_12.2.1, r_12.2.2))
        else
         (value_taker_fail.f bar k r_2.2.1 r_2.2.2).bind fun r_13 =>
         some ((r_13.1.1, r_13.1.2), (r_13.2.1, r_13.2.2)) := by kernel_rfl
theorem pad_May.f_eq (bar : Bar) (k : Nat) (a0 : Int) : pad_May.f bar (k + 1) a0 =
 bif decide (a0 ≥ 0) then
  some (decide (a0 ≤ 2147483647))
 else
  some false := by kernel_rfl
theorem hybrid_taker_bytes.f_eq (bar : Bar) (k : Nat) (a0_0 : List UInt8) (a0_1 : Int) (a0_2 : List Int) (a0_3 : Bool) (a1 : Int) : hybrid_taker_bytes.f bar (k + 1) a0_0 a0_1 a0_2 a0_3 a1 =
 bif (!a0_3) then
  bif decide (a1 > ((a0_0).length : Int)) then
   some (([] : List UInt8), (a0_0, a0_1, a0_2, true))
  else
   bif decide (0 ≤ a1) && decide (a1 ≤ (((a0_0).length : Nat) : Int)) then
    bif decide (0 ≤ a1) && decide (a1 ≤ (((a0_0).length : Nat) : Int)) then
     some (List.drop 0 (List.take ((a1).toNat) a0_0), (List.drop ((a1).toNat) (List.take ((a0_0).length) a0_0), a0_1, a0_2, a0_3))
    else
     none
   else
    none
 else
  some (([] : List UInt8), (a0_0, a0_1, a0_2, true)) := by kernel_rfl
theorem slices_Repeat_int_int.f_eq (bar : Bar) (k : Nat) (a0 : List Int) (a1 : Int) : slices_Repeat_int_int.f bar (k + 1) a0 a1 =
 bif decide (a1 < 0) then
  none
 else
  bar _ (slices_Repeat_int_int.j3 bar k a0 a1) := by kernel_rfl
theorem slices_Repeat_int_int.j3_eq (bar : Bar) (k : Nat) (x0 : List Int) (count1 : Int) : slices_Repeat_int_int.j3 bar k x0 count1 =
 (math_bits_Mul.f bar k (IntKind.u64.wrap ((x0).length : Int)) (IntKind.u64.wrap count1)).bind fun r_1 =>
 bif (!(decide (r_1.1 > 0))) then
  bif decide (r_1.2 > 9223372036854775807) then
   none
  else
   bar _ (slices_Repeat_int_int.j6 bar k x0 r_1.2)
 else
  none := by kernel_rfl
theorem slices_Repeat_int_int.j6_eq (bar : Bar) (k : Nat) (x0 : List Int) (lo6 : Int) : slices_Repeat_int_int.j6 bar k x0 lo6 =
 bif (IntKind.i64.wrap lo6 == IntKind.i64.wrap lo6) && (decide (0 ≤ IntKind.i64.wrap lo6) && decide ((IntKind.i64.wrap lo6) * 8 ≤ 140737488355328)) then
  bif Nat.ble (0 + ((List.replicate (IntKind.i64.wrap lo6).toNat (0 : Int) : List Int)).length) ((List.replicate (IntKind.i64.wrap lo6).toNat (0 : Int) : List Int)).length then
   slices_Repeat_int_int.l0 bar k k ((min (x0).length (((List.replicate (IntKind.i64.wrap lo6).toNat (0 : Int) : List Int)).length) : Nat) : Int) (List.take 0 (List.replicate (IntKind.i64.wrap lo6).toNat (0 : Int) : List Int) ++ List.take (((List.replicate (IntKind.i64.wrap lo6).toNat (0 : Int) : List Int)).length) x0 ++ List.drop (0 + (min (x0).length (((List.replicate (IntKind.i64.wrap lo6).toNat (0 : Int) : List Int)).length))) (List.replicate (IntKind.i64.wrap lo6).toNat (0 : Int) : List Int))
  else
   none
 else
  none := by kernel_rfl
theorem slices_Repeat_int_int.l0_eq (bar : Bar) (k : Nat) (n : Nat) (n_8 : Int) (x2007 : List Int) : slices_Repeat_int_int.l0 bar k (n + 1) n_8 x2007 =
 bif decide (n_8 < ((x2007).length : Int)) then
  bif decide (0 ≤ n_8) && decide (n_8 ≤ (((x2007).length : Nat) : Int)) then
   bif decide (0 ≤ n_8) && decide (n_8 ≤ (((x2007).length : Nat) : Int)) then
    bif Nat.ble ((n_8).toNat + (((x2007).length) - ((n_8).toNat))) (x2007).length then
     (bif Nat.ble (0 + (n_8).toNat) (x2007).length then some (List.take ((n_8).toNat) (List.drop 0 x2007)) else none).bind fun ys_1 =>
     slices_Repeat_int_int.l0 bar k n (IntKind.i64.wrap (n_8 + ((min (ys_1).length (((x2007).length) - ((n_8).toNat)) : Nat) : Int))) (List.take ((n_8).toNat) x2007 ++ List.take (((x2007).length) - ((n_8).toNat)) ys_1 ++ List.drop (((n_8).toNat) + (min (ys_1).length (((x2007).length) - ((n_8).toNat)))) x2007)
    else
     none
   else
    none
  else
   none
 else
  some x2007 := by kernel_rfl
theorem bits_On.f_eq (bar : Bar) (k : Nat) (a0 : List UInt8) (a1 : Int) : bits_On.f bar (k + 1) a0 a1 =
 (rd a0 (IntKind.i64.wrap (Int.tdiv a1 8))).bind fun b_1 =>
 bif decide (Int.tmod a1 8 < 0) then
  none
 else
  some ((bitsOp .and .u8 (Int.fdiv (b_1.toNat : Int) (2 ^ (min (Int.tmod a1 8).toNat IntKind.u8.bits))) 1) == 1) := by kernel_rfl
theorem strconv_Itoa.f_eq (bar : Bar) (k : Nat) (a0 : Int) : strconv_Itoa.f bar (k + 1) a0 =
   extItoa a0 := by kernel_rfl
theorem quiverref7_end.f_eq (bar : Bar) (k : Nat) (a0 : List UInt8) (a1 : Int) (a2 : Int) : quiverref7_end.f bar (k + 1) a0 a1 a2 =
 bif decide (a1 ≥ ((a0).length : Int)) then
  some (-1)
 else
  (rd a0 a1).bind fun b_1 =>
  bif ((b_1.toNat : Int) == 110) then
   bif ((b_1.toNat : Int) == 110) then
    some (IntKind.i64.wrap (a1 + 1))
   else
    bif ((b_1.toNat : Int) == 105) then
     (quiverref7_upto.f bar k a0 a1 59).bind fun r_2 =>
     bif decide (r_2 < 0) then
      some (-1)
     else
      bif decide (0 ≤ r_2) && decide (r_2 ≤ (((a0).length : Nat) : Int)) then
       bif decide (0 ≤ IntKind.i64.wrap (a1 + 1)) && decide (IntKind.i64.wrap (a1 + 1) ≤ (((r_2).toNat : Nat) : Int)) then
        (quiverref7_whole.f bar k (List.drop ((IntKind.i64.wrap (a1 + 1)).toNat) (List.take ((r_2).toNat) a0))).bind fun r_3 =>
        bif (!r_3.2) then
         some (-1)
        else
         some (IntKind.i64.wrap (r_2 + 1))
       else
        none
      else
       none
    else
     bif ((b_1.toNat : Int) == 115) then
      (quiverref7_upto.f bar k a0 a1 58).bind fun r_4 =>
      bif decide (r_4 < 0) then
       some (-1)
      else
       bif decide (0 ≤ r_4) && decide (r_4 ≤ (((a0).length : Nat) : Int)) then
        bif decide (0 ≤ IntKind.i64.wrap (a1 + 1)) && decide (IntKind.i64.wrap (a1 + 1) ≤ (((r_4).toNat : Nat) : Int)) then
         (quiverref7_whole.f bar k (List.drop ((IntKind.i64.wrap (a1 + 1)).toNat) (List.take ((r_4).toNat) a0))).bind fun r_5 =>
         bif (!(!r_5.2)) then
          bif (!(decide (r_5.1 < 0))) then
           bif decide (r_5.1 > (IntKind.i64.wrap ((IntKind.i64.wrap (((a0).length : Int) - r_4)) - 1))) then
            some (-1)
           else
            some (IntKind.i64.wrap ((IntKind.i64.wrap (r_4 + 1)) + r_5.1))
          else
           some (-1)
         else
          some (-1)
        else
         none
       else
        none
     else
      bif ((b_1.toNat : Int) == 91) then
       bif ((b_1.toNat : Int) == 91) then
        (rd a0 a1).bind fun b_6 =>
        quiverref7_end.l1 bar k k a0 (IntKind.i64.wrap (a1 + 1)) a2 (IntKind.u8.wrap ((b_6.toNat : Int) + 2))
       else
        some (-1)
      else
       bif ((b_1.toNat : Int) == 123) then
        (rd a0 a1).bind fun b_7 =>
        quiverref7_end.l1 bar k k a0 (IntKind.i64.wrap (a1 + 1)) a2 (IntKind.u8.wrap ((b_7.toNat : Int) + 2))
       else
        some (-1)
  else
   bif ((b_1.toNat : Int) == 116) then
    bif ((b_1.toNat : Int) == 116) then
     some (IntKind.i64.wrap (a1 + 1))
    else
     bif ((b_1.toNat : Int) == 105) then
      (quiverref7_upto.f bar k a0 a1 59).bind fun r_8 =>
      bif decide (r_8 < 0) then
       some (-1)
      else
       bif decide (0 ≤ r_8) && decide (r_8 ≤ (((a0).length : Nat) : Int)) then
        bif decide (0 ≤ IntKind.i64.wrap (a1 + 1)) && decide (IntKind.i64.wrap (a1 + 1) ≤ (((r_8).toNat : Nat) : Int)) then
         (quiverref7_whole.f bar k (List.drop ((IntKind.i64.wrap (a1 + 1)).toNat) (List.take ((r_8).toNat) a0))).bind fun r_9 =>
         bif (!r_9.2) then
          some (-1)
         else
          some (IntKind.i64.wrap (r_8 + 1))
        else
         none
       else
        none
     else
      bif ((b_1.toNat : Int) == 115) then
       (quiverref7_upto.f bar k a0 a1 58).bind fun r_10 =>
       bif decide (r_10 < 0) then
        some (-1)
       else
        bif decide (0 ≤ r_10) && decide (r_10 ≤ (((a0).length : Nat) : Int)) then
         bif decide (0 ≤ IntKind.i64.wrap (a1 + 1)) && decide (IntKind.i64.wrap (a1 + 1) ≤ (((r_10).toNat : Nat) : Int)) then
          (quiverref7_whole.f bar k (List.drop ((IntKind.i64.wrap (a1 + 1)).toNat) (List.take ((r_10).toNat) a0))).bind fun r_11 =>
          bif (!(!r_11.2)) then
           bif (!(decide (r_11.1 < 0))) then
            bif decide (r_11.1 > (IntKind.i64.wrap ((IntKind.i64.wrap (((a0).length : Int) - r_10)) - 1))) then
             some (-1)
            else
             some (IntKind.i64.wrap ((IntKind.i64.wrap (r_10 + 1)) + r_11.1))
           else
            some (-1)
          else
           some (-1)
         else
          none
        else
         none
      else
       bif ((b_1.toNat : Int) == 91) then
        bif ((b_1.toNat : Int) == 91) then
         (rd a0 a1).bind fun b_12 =>
         quiverref7_end.l1 bar k k a0 (IntKind.i64.wrap (a1 + 1)) a2 (IntKind.u8.wrap ((b_12.toNat : Int) + 2))
        else
         some (-1)
       else
        bif ((b_1.toNat : Int) == 123) then
         (rd a0 a1).bind fun b_13 =>
         quiverref7_end.l1 bar k k a0 (IntKind.i64.wrap (a1 + 1)) a2 (IntKind.u8.wrap ((b_13.toNat : Int) + 2))
        else
         some (-1)
   else
    bif ((b_1.toNat : Int) == 102) then
     some (IntKind.i64.wrap (a1 + 1))
    else
     bif ((b_1.toNat : Int) == 105) then
      (quiverref7_upto.f bar k a0 a1 59).bind fun r_14 =>
      bif decide (r_14 < 0) then
       some (-1)
      else
       bif decide (0 ≤ r_14) && decide (r_14 ≤ (((a0).length : Nat) : Int)) then
        bif decide (0 ≤ IntKind.i64.wrap (a1 + 1)) && decide (IntKind.i64.wrap (a1 + 1) ≤ (((r_14).toNat : Nat) : Int)) then
         (quiverref7_whole.f bar k (List.drop ((IntKind.i64.wrap (a1 + 1)).toNat) (List.take ((r_14).toNat) a0))).bind fun r_15 =>
         bif (!r_15.2) then
          some (-1)
         else
          some (IntKind.i64.wrap (r_14 + 1))
        else
         none
       else
        none
     else
      bif ((b_1.toNat : Int) == 115) then
       (quiverref7_upto.f bar k a0 a1 58).bind fun r_16 =>
       bif decide (r_16 < 0) then
        some (-1)
       else
        bif decide (0 ≤ r_16) && decide (r_16 ≤ (((a0).length : Nat) : Int)) then
         bif decide (0 ≤ IntKind.i64.wrap (a1 + 1)) && decide (IntKind.i64.wrap (a1 + 1) ≤ (((r_16).toNat : Nat) : Int)) then
          (quiverref7_whole.f bar k (List.drop ((IntKind.i64.wrap (a1 + 1)).toNat) (List.take ((r_16).toNat) a0))).bind fun r_17 =>
          bif (!(!r_17.2)) then
           bif (!(decide (r_17.1 < 0))) then
            bif decide (r_17.1 > (IntKind.i64.wrap ((IntKind.i64.wrap (((a0).length : Int) - r_16)) - 1))) then
             some (-1)
            else
             some (IntKind.i64.wrap ((IntKind.i64.wrap (r_16 + 1)) + r_17.1))
           else
            some (-1)
          else
           some (-1)
         else
          none
        else
         none
      else
       bif ((b_1.toNat : Int) == 91) then
        bif ((b_1.toNat : Int) == 91) then
         (rd a0 a1).bind fun b_18 =>
         quiverref7_end.l1 bar k k a0 (IntKind.i64.wrap (a1 + 1)) a2 (IntKind.u8.wrap ((b_18.toNat : Int) + 2))
        else
         some (-1)
       else
        bif ((b_1.toNat : Int) == 123) then
         (rd a0 a1).bind fun b_19 =>
         quiverref7_end.l1 bar k k a0 (IntKind.i64.wrap (a1 + 1)) a2 (IntKind.u8.wrap ((b_19.toNat : Int) + 2))
        else
         some (-1) := by kernel_rfl
theorem quiverref7_end.l1_eq (bar : Bar) (k : Nat) (n : Nat) (s0 : List UInt8) (at_1 : Int) (deep2 : Int) (stop13 : Int) : quiverref7_end.l1 bar k (n + 1) s0 at_1 deep2 stop13 =
 bif decide (deep2 > 0) then
  bif decide (at_1 < ((s0).length : Int)) then
   (rd s0 at_1).bind fun b_1 =>
   bif ((b_1.toNat : Int) != stop13) then
    (quiverref7_end.f bar k s0 at_1 (IntKind.i64.wrap (deep2 - 1))).bind fun r_2 =>
    bif decide (r_2 < 0) then
     some (-1)
    else
     quiverref7_end.l1 bar k n s0 r_2 deep2 stop13
   else
    bif decide (at_1 < ((s0).length : Int)) then
     (rd s0 at_1).bind fun b_3 =>
     bif ((b_3.toNat : Int) == stop13) then
      some (IntKind.i64.wrap (at_1 + 1))
     else
      some (-1)
    else
     some (-1)
  else
   bif decide (at_1 < ((s0).length : Int)) then
    (rd s0 at_1).bind fun b_4 =>
    bif ((b_4.toNat : Int) == stop13) then
     some (IntKind.i64.wrap (at_1 + 1))
    else
     some (-1)
   else
    some (-1)
 else
  bif decide (at_1 < ((s0).length : Int)) then
   (rd s0 at_1).bind fun b_5 =>
   bif ((b_5.toNat : Int) == stop13) then
    some (IntKind.i64.wrap (at_1 + 1))
   else
    some (-1)
  else
   some (-1) := by kernel_rfl
theorem quiverref7_upto.f_eq (bar : Bar) (k : Nat) (a0 : List UInt8) (a1 : Int) (a2 : Int) : quiverref7_upto.f bar (k + 1) a0 a1 a2 =
 quiverref7_upto.l0 bar k k a0 a1 a2 a1 := by kernel_rfl
theorem quiverref7_upto.l0_eq (bar : Bar) (k : Nat) (n : Nat) (s0 : List UInt8) (at_1 : Int) (sign2 : Int) (i7 : Int) : quiverref7_upto.l0 bar k (n + 1) s0 at_1 sign2 i7 =
 bif decide (i7 < ((s0).length : Int)) then
  bif decide (i7 < (IntKind.i64.wrap (at_1 + 22))) then
   (rd s0 i7).bind fun b_1 =>
   bif ((b_1.toNat : Int) == sign2) then
    some i7
   else
    quiverref7_upto.l0 bar k n s0 at_1 sign2 (IntKind.i64.wrap (i7 + 1))
  else
   some (-1)
 else
  some (-1) := by kernel_rfl
theorem types_kids.f_eq (bar : Bar) (k : Nat) (a0 : List Nod) (a1 : Int) : types_kids.f bar (k + 1) a0 a1 =
 types_kids.l0 bar k k a1 a0 ((a0).length : Int) 0 ([] : List Int) := by kernel_rfl
theorem types_kids.l0_eq (bar : Bar) (k : Nat) (n : Nat) (at_1 : Int) (x11 : List Nod) (x12 : Int) (x13 : Int) (x2005 : List Int) : types_kids.l0 bar k (n + 1) at_1 x11 x12 x13 x2005 =
 bif decide (x13 < x12) then
  (rd x11 x13).bind fun e_1 =>
  bif decide (x13 > 0) then
   bif (e_1.parent == at_1) then
    bif decide (((x2005).length + (([x13] : List Int)).length) * 8 ≤ 140737488355328) then
     types_kids.l0 bar k n at_1 x11 x12 (IntKind.i64.wrap (x13 + 1)) (x2005 ++ ([x13] : List Int))
    else
     none
   else
    types_kids.l0 bar k n at_1 x11 x12 (IntKind.i64.wrap (x13 + 1)) x2005
  else
   types_kids.l0 bar k n at_1 x11 x12 (IntKind.i64.wrap (x13 + 1)) x2005
 else
  some x2005 := by kernel_rfl
theorem types_stands.f_eq (bar : Bar) (k : Nat) (a0 : List Nod) (a1 : Int) : types_stands.f bar (k + 1) a0 a1 =
 (rd a0 a1).bind fun e_1 =>
 bif (a1 == 0) then
  some (e_1.parent == (-1))
 else
  bif decide (e_1.parent ≥ 0) then
   bif decide (e_1.parent < a1) then
    (rd a0 e_1.parent).bind fun e_2 =>
    (types_Inner.f bar k e_2.kind).bind fun r_3 =>
    some r_3
   else
    some false
  else
   some false := by kernel_rfl
theorem slices_ContainsFunc_int_int_hybrid_may_1.f_eq (bar : Bar) (k : Nat) (a0 : List Int) (a1_0 : Int) : slices_ContainsFunc_int_int_hybrid_may_1.f bar (k + 1) a0 a1_0 =
 (slices_IndexFunc_int_int_hybrid_may_1.f bar k a0 a1_0).bind fun r_1 =>
 some (decide (r_1 ≥ 0)) := by kernel_rfl
theorem bits_Of.f_eq (bar : Bar) (k : Nat) (a0 : List Bool) : bits_Of.f bar (k + 1) a0 =
 (bits_Bytes.f bar k ((a0).length : Int)).bind fun r_1 =>
 bif (r_1 == r_1) && (decide (0 ≤ r_1) && decide (r_1 * 1 ≤ 140737488355328)) then
  bits_Of.l0 bar k k a0 ((a0).length : Int) 0 (List.replicate (r_1).toNat (0 : Int) : List Int)
 else
  none := by kernel_rfl
theorem bits_Of.l0_eq (bar : Bar) (k : Nat) (n : Nat) (x10 : List Bool) (x11 : Int) (x12 : Int) (x2003 : List Int) : bits_Of.l0 bar k (n + 1) x10 x11 x12 x2003 =
 bif decide (x12 < x11) then
  (rd x10 x12).bind fun e_1 =>
  bif e_1 then
   bif decide (0 ≤ IntKind.i64.wrap (Int.tdiv x12 8)) && decide (IntKind.i64.wrap (Int.tdiv x12 8) < ((x2003).length : Int)) then
    (x2003[(IntKind.i64.wrap (Int.tdiv x12 8)).toNat]?).bind fun e_2 =>
    bif decide (Int.tmod x12 8 < 0) then
     none
    else
     bif decide (0 ≤ IntKind.i64.wrap (Int.tdiv x12 8)) && decide (IntKind.i64.wrap (Int.tdiv x12 8) < ((x2003).length : Int)) then
      (x2003[(IntKind.i64.wrap (Int.tdiv x12 8)).toNat]?).bind fun e_3 =>
      bits_Of.l0 bar k n x10 x11 (IntKind.i64.wrap (x12 + 1)) ((x2003).set ((IntKind.i64.wrap (Int.tdiv x12 8)).toNat) (bitsOp .or .u8 e_2 (IntKind.u8.wrap (1 * 2 ^ (min (Int.tmod x12 8).toNat IntKind.u8.bits)))))
     else
      none
   else
    none
  else
   bits_Of.l0 bar k n x10 x11 (IntKind.i64.wrap (x12 + 1)) x2003
 else
  some (strOfBytes x2003) := by kernel_rfl
theorem value_taker_fail.f_eq (bar : Bar) (k : Nat) (a0_0 : List UInt8) (a0_1 : Bool) : value_taker_fail.f bar (k + 1) a0_0 a0_1 =
 some ((0, ([] : List (List UInt8))), (a0_0, true)) := by kernel_rfl
theorem value_taker_byte.f_eq (bar : Bar) (k : Nat) (a0_0 : List UInt8) (a0_1 : Bool) : value_taker_byte.f bar (k + 1) a0_0 a0_1 =
 bif (a0_0 == ([] : List UInt8)) then
  some (0, (a0_0, true))
 else
  (rd a0_0 0).bind fun b_1 =>
  bif decide (0 ≤ 1) && decide (1 ≤ (((a0_0).length : Nat) : Int)) then
   some ((b_1.toNat : Int), (List.drop 1 (List.take ((a0_0).length) a0_0), a0_1))
  else
   none := by kernel_rfl
theorem value_taker_number.f_eq (bar : Bar) (k : Nat) (a0_0 : List UInt8) (a0_1 : Bool) (a1 : List UInt8) : value_taker_number.f bar (k + 1) a0_0 a0_1 a1 =
 (strings_Cut.f bar k a0_0 a1).bind fun r_1 =>
 (strconv_Atoi.f bar k r_1.1).bind fun r_2 =>
 bif (!(!r_1.2.2)) then
  bif (!r_2.2) then
   (strconv_Itoa.f bar k r_2.1).bind fun r_3 =>
   bif (r_3 != r_1.1) then
    some ((r_2.1, r_1.1), (r_1.2.1, true))
   else
    some ((r_2.1, r_1.1), (r_1.2.1, a0_1))
  else
   some ((r_2.1, r_1.1), (r_1.2.1, true))
 else
  some ((r_2.1, r_1.1), (r_1.2.1, true)) := by kernel_rfl
theorem value_taker_bytes.f_eq (bar : Bar) (k : Nat) (a0_0 : List UInt8) (a0_1 : Bool) (a1 : Int) : value_taker_bytes.f bar (k + 1) a0_0 a0_1 a1 =
 bif (!a0_1) then
  bif (!(decide (a1 < 0))) then
   bif decide (a1 > ((a0_0).length : Int)) then
    some (([] : List UInt8), (a0_0, true))
   else
    bif decide (0 ≤ a1) && decide (a1 ≤ (((a0_0).length : Nat) : Int)) then
     bif decide (0 ≤ a1) && decide (a1 ≤ (((a0_0).length : Nat) : Int)) then
      some (List.drop 0 (List.take ((a1).toNat) a0_0), (List.drop ((a1).toNat) (List.take ((a0_0).length) a0_0), a0_1))
     else
      none
    else
     none
  else
   some (([] : List UInt8), (a0_0, true))
 else
  some (([] : List UInt8), (a0_0, true)) := by kernel_rfl
theorem value_taker_row.f_eq (bar : Bar) (k : Nat) (a0_0 : List UInt8) (a0_1 : Bool) (a1 : Int) (a2 : Int) : value_taker_row.f bar (k + 1) a0_0 a0_1 a1 a2 =
 value_taker_row.l0 bar k k a1 a2 a0_0 a0_1 ([] : List (List UInt8)) := by kernel_rfl
theorem value_taker_row.l0_eq (bar : Bar) (k : Nat) (n : Nat) (end_1 : Int) (within2 : Int) (x1000 : List UInt8) (x1000_1 : Bool) (x2007 : List (List UInt8)) : value_taker_row.l0 bar k (n + 1) end_1 within2 x1000 x1000_1 x2007 =
 bif (!x1000_1) then
  bif (x1000 != ([] : List UInt8)) then
   (rd x1000 0).bind fun b_1 =>
   bif ((b_1.toNat : Int) != end_1) then
    (value_taker_value.f bar k x1000 x1000_1 within2).bind fun r_2 =>
    bif decide (0 ≤ IntKind.i64.wrap (((x1000).length : Int) - ((r_2.2.1).length : Int))) && decide (IntKind.i64.wrap (((x1000).length : Int) - ((r_2.2.1).length : Int)) ≤ (((x1000).length : Nat) : Int)) then
     bif decide (((x2007).length + (([List.drop 0 (List.take ((IntKind.i64.wrap (((x1000).length : Int) - ((r_2.2.1).length : Int))).toNat) x1000)] : List (List UInt8))).length) * 16 ≤ 140737488355328) then
      value_taker_row.l0 bar k n end_1 within2 r_2.2.1 r_2.2.2 (x2007 ++ ([List.drop 0 (List.take ((IntKind.i64.wrap (((x1000).length : Int) - ((r_2.2.1).length : Int))).toNat) x1000)] : List (List UInt8)))
     else
      none
    else
     none
   else
    (value_taker_byte.f bar k x1000 x1000_1).bind fun r_3 =>
    some (x2007, (r_3.2.1, r_3.2.2))
  else
   (value_taker_byte.f bar k x1000 x1000_1).bind fun r_4 =>
   some (x2007, (r_4.2.1, r_4.2.2))
 else
  (value_taker_byte.f bar k x1000 x1000_1).bind fun r_5 =>
  some (x2007, (r_5.2.1, r_5.2.2)) := by kernel_rfl

end Go.Proofs.YtjkokaockhecnaaGreatDoorA
