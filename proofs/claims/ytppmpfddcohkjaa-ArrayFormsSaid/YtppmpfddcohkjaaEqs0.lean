/- Each function and each loop of the program answers as its equation says; no condition. -/
import Derived.Test.YtppmpfddcohkjaaFns
namespace Go.Proofs.YtppmpfddcohkjaaA
open Go
set_option linter.unusedVariables false
theorem quiverlaw8_ArrayForms.f_eq (bar : Bar) (k : Nat) (a0 : Int) (a1 : Int) : quiverlaw8_ArrayForms.f bar (k + 1) a0 a1 =
 (quiverlaw8_awake.f bar k).bind fun r_1 =>
 bif (!r_1) then
  some false
 else
  (quiverref7_Build.f bar k ([(Nod.mk 0 (-1) true)] : List Nod) 0 ([([105, 53, 59] : List UInt8), ([110] : List UInt8), ([105, 53, 59] : List UInt8)] : List (List UInt8))).bind fun r_2 =>
  (quiverref11_DictOf.f bar k ([(Nod.mk 0 (-1) true)] : List Nod) 0 r_2.1).bind fun r_3 =>
  (quiverref11_RunsOf.f bar k ([(Nod.mk 0 (-1) true)] : List Nod) 0 r_2.1).bind fun r_4 =>
  (quiverlaw0_CopyArray.f bar k r_2.1).bind fun r_5 =>
  bif ((Int.tmod (IntKind.u64.wrap a0) 18) == 0) then
   bar _ (quiverlaw8_ArrayForms.j53 bar k ([(Nod.mk 0 (-1) true)] : List Nod) r_2.1.layout r_2.1.offset r_2.1.length r_2.1.valid r_2.1.ends r_2.1.data r_2.1.kids r_3.1.layout r_3.1.offset r_3.1.length r_3.1.valid r_3.1.ends r_3.1.data r_3.1.kids r_4.1.layout r_4.1.offset r_4.1.length r_4.1.valid r_4.1.ends r_4.1.data r_4.1.kids r_5.1 (IntKind.i64.wrap (0 - (IntKind.i64.wrap (1 + (bitsOp .and .i64 a1 1023))))) r_5.2.2.1 r_5.2.2.2.1 r_5.2.2.2.2.1 r_5.2.2.2.2.2.1 r_5.2.2.2.2.2.2)
  else
   bif ((Int.tmod (IntKind.u64.wrap a0) 18) == 1) then
    bar _ (quiverlaw8_ArrayForms.j53 bar k ([(Nod.mk 0 (-1) true)] : List Nod) r_2.1.layout r_2.1.offset r_2.1.length r_2.1.valid r_2.1.ends r_2.1.data r_2.1.kids r_3.1.layout r_3.1.offset r_3.1.length r_3.1.valid r_3.1.ends r_3.1.data r_3.1.kids r_4.1.layout r_4.1.offset r_4.1.length r_4.1.valid r_4.1.ends r_4.1.data r_4.1.kids r_5.1 r_5.2.1 (IntKind.i64.wrap (0 - (IntKind.i64.wrap (1 + (bitsOp .and .i64 a1 1023))))) r_5.2.2.2.1 r_5.2.2.2.2.1 r_5.2.2.2.2.2.1 r_5.2.2.2.2.2.2)
   else
    bif ((Int.tmod (IntKind.u64.wrap a0) 18) == 2) then
     bar _ (quiverlaw8_ArrayForms.j53 bar k ([(Nod.mk 0 (-1) true)] : List Nod) r_2.1.layout r_2.1.offset r_2.1.length r_2.1.valid r_2.1.ends r_2.1.data r_2.1.kids r_3.1.layout r_3.1.offset r_3.1.length r_3.1.valid r_3.1.ends r_3.1.data r_3.1.kids r_4.1.layout r_4.1.offset r_4.1.length r_4.1.valid r_4.1.ends r_4.1.data r_4.1.kids r_5.1 1 r_5.2.2.1 r_5.2.2.2.1 r_5.2.2.2.2.1 r_5.2.2.2.2.2.1 r_5.2.2.2.2.2.2)
    else
     bif ((Int.tmod (IntKind.u64.wrap a0) 18) == 3) then
      bar _ (quiverlaw8_ArrayForms.j53 bar k ([(Nod.mk 0 (-1) true)] : List Nod) r_2.1.layout r_2.1.offset r_2.1.length r_2.1.valid r_2.1.ends r_2.1.data r_2.1.kids r_3.1.layout r_3.1.offset r_3.1.length r_3.1.valid r_3.1.ends r_3.1.data r_3.1.kids r_4.1.layout r_4.1.offset r_4.1.length r_4.1.valid r_4.1.ends r_4.1.data r_4.1.kids r_5.1 r_5.2.1 (IntKind.i64.wrap (64 + (IntKind.i64.wrap (1 + (bitsOp .and .i64 a1 1023))))) r_5.2.2.2.1 r_5.2.2.2.2.1 r_5.2.2.2.2.2.1 r_5.2.2.2.2.2.2)
     else
      bif ((Int.tmod (IntKind.u64.wrap a0) 18) == 4) then
       bif decide (0 ≤ 23) && decide (23 ≤ (((r_5.2.2.2.2.2.1).length : Nat) : Int)) then
        bar _ (quiverlaw8_ArrayForms.j53 bar k ([(Nod.mk 0 (-1) true)] : List Nod) r_2.1.layout r_2.1.offset r_2.1.length r_2.1.valid r_2.1.ends r_2.1.data r_2.1.kids r_3.1.layout r_3.1.offset r_3.1.length r_3.1.valid r_3.1.ends r_3.1.data r_3.1.kids r_4.1.layout r_4.1.offset r_4.1.length r_4.1.valid r_4.1.ends r_4.1.data r_4.1.kids r_5.1 r_5.2.1 r_5.2.2.1 r_5.2.2.2.1 r_5.2.2.2.2.1 (List.drop 0 (List.take 23 r_5.2.2.2.2.2.1)) r_5.2.2.2.2.2.2)
       else
        none
      else
       bif ((Int.tmod (IntKind.u64.wrap a0) 18) == 5) then
        bar _ (quiverlaw8_ArrayForms.j53 bar k ([(Nod.mk 0 (-1) true)] : List Nod) r_2.1.layout r_2.1.offset r_2.1.length r_2.1.valid r_2.1.ends r_2.1.data r_2.1.kids r_3.1.layout r_3.1.offset r_3.1.length r_3.1.valid r_3.1.ends r_3.1.data r_3.1.kids r_4.1.layout r_4.1.offset r_4.1.length r_4.1.valid r_4.1.ends r_4.1.data r_4.1.kids r_5.1 r_5.2.1 r_5.2.2.1 r_5.2.2.2.1 ([120] : List UInt8) r_5.2.2.2.2.2.1 r_5.2.2.2.2.2.2)
       else
        bif ((Int.tmod (IntKind.u64.wrap a0) 18) == 6) then
         bar _ (quiverlaw8_ArrayForms.j53 bar k ([(Nod.mk 0 (-1) true)] : List Nod) r_2.1.layout r_2.1.offset r_2.1.length r_2.1.valid r_2.1.ends r_2.1.data r_2.1.kids r_3.1.layout r_3.1.offset r_3.1.length r_3.1.valid r_3.1.ends r_3.1.data r_3.1.kids r_4.1.layout r_4.1.offset r_4.1.length r_4.1.valid r_4.1.ends r_4.1.data r_4.1.kids r_5.1 r_5.2.1 r_5.2.2.1 r_5.2.2.2.1 r_5.2.2.2.2.1 r_5.2.2.2.2.2.1 ([(Arr.mk r_2.1.layout r_2.1.offset r_2.1.length r_2.1.valid r_2.1.ends r_2.1.data r_2.1.kids)] : List Arr))
        else
         bif ((Int.tmod (IntKind.u64.wrap a0) 18) == 7) then
          bar _ (quiverlaw8_ArrayForms.j53 bar k ([(Nod.mk 0 (-1) true)] : List Nod) r_2.1.layout r_2.1.offset r_2.1.length r_2.1.valid r_2.1.ends r_2.1.data r_2.1.kids r_3.1.layout r_3.1.offset r_3.1.length r_3.1.valid r_3.1.ends r_3.1.data r_3.1.kids r_4.1.layout r_4.1.offset r_4.1.length r_4.1.valid r_4.1.ends r_4.1.data r_4.1.kids (IntKind.i64.wrap (2 + (IntKind.i64.wrap (1 + (bitsOp .and .i64 a1 1023))))) r_5.2.1 r_5.2.2.1 r_5.2.2.2.1 r_5.2.2.2.2.1 r_5.2.2.2.2.2.1 r_5.2.2.2.2.2.2)
         else
          bif ((Int.tmod (IntKind.u64.wrap a0) 18) == 8) then
           bif (IntKind.i64.wrap (4096 + (IntKind.i64.wrap (1 + (bitsOp .and .i64 a1 1023)))) == IntKind.i64.wrap (4096 + (IntKind.i64.wrap (1 + (bitsOp .and .i64 a1 1023))))) && (decide (0 ≤ IntKind.i64.wrap (4096 + (IntKind.i64.wrap (1 + (bitsOp .and .i64 a1 1023))))) && decide ((IntKind.i64.wrap (4096 + (IntKind.i64.wrap (1 + (bitsOp .and .i64 a1 1023))))) * 1 ≤ 140737488355328)) then
            bar _ (quiverlaw8_ArrayForms.j53 bar k ([(Nod.mk 0 (-1) true)] : List Nod) r_2.1.layout r_2.1.offset r_2.1.length r_2.1.valid r_2.1.ends r_2.1.data r_2.1.kids r_3.1.layout r_3.1.offset r_3.1.length r_3.1.valid r_3.1.ends r_3.1.data r_3.1.kids r_4.1.layout r_4.1.offset r_4.1.length r_4.1.valid r_4.1.ends r_4.1.data r_4.1.kids r_5.1 r_5.2.1 r_5.2.2.1 r_5.2.2.2.1 r_5.2.2.2.2.1 (strOfBytes (List.replicate (IntKind.i64.wrap (4096 + (IntKind.i64.wrap (1 + (bitsOp .and .i64 a1 1023))))).toNat (0 : Int) : List Int)) r_5.2.2.2.2.2.2)
           else
            none
          else
           bif ((Int.tmod (IntKind.u64.wrap a0) 18) == 9) then
            bif (IntKind.i64.wrap (4096 + (IntKind.i64.wrap (1 + (bitsOp .and .i64 a1 1023)))) == IntKind.i64.wrap (4096 + (IntKind.i64.wrap (1 + (bitsOp .and .i64 a1 1023))))) && (decide (0 ≤ IntKind.i64.wrap (4096 + (IntKind.i64.wrap (1 + (bitsOp .and .i64 a1 1023))))) && decide ((IntKind.i64.wrap (4096 + (IntKind.i64.wrap (1 + (bitsOp .and .i64 a1 1023))))) * 1 ≤ 140737488355328)) then
             bar _ (quiverlaw8_ArrayForms.j53 bar k ([(Nod.mk 0 (-1) true)] : List Nod) r_2.1.layout r_2.1.offset r_2.1.length r_2.1.valid r_2.1.ends r_2.1.data r_2.1.kids r_3.1.layout r_3.1.offset r_3.1.length r_3.1.valid r_3.1.ends r_3.1.data r_3.1.kids r_4.1.layout r_4.1.offset r_4.1.length r_4.1.valid r_4.1.ends r_4.1.data r_4.1.kids r_5.1 r_5.2.1 r_5.2.2.1 (strOfBytes (List.replicate (IntKind.i64.wrap (4096 + (IntKind.i64.wrap (1 + (bitsOp .and .i64 a1 1023))))).toNat (0 : Int) : List Int)) r_5.2.2.2.2.1 r_5.2.2.2.2.2.1 r_5.2.2.2.2.2.2)
            else
             none
           else
            bif ((Int.tmod (IntKind.u64.wrap a0) 18) == 10) then
             (quiverlaw0_CopyArray.f bar k r_3.1).bind fun r_6 =>
             bif decide (0 ≤ 1) && decide (1 ≤ (((r_6.2.2.2.2.2.1).length : Nat) : Int)) then
              bif decide ((([1] : List UInt8)).length + (List.drop 1 (List.take ((r_6.2.2.2.2.2.1).length) r_6.2.2.2.2.2.1)).length ≤ 9223372036854775807) then
               bar _ (quiverlaw8_ArrayForms.j53 bar k ([(Nod.mk 0 (-1) true)] : List Nod) r_2.1.layout r_2.1.offset r_2.1.length r_2.1.valid r_2.1.ends r_2.1.data r_2.1.kids r_3.1.layout r_3.1.offset r_3.1.length r_3.1.valid r_3.1.ends r_3.1.data r_3.1.kids r_4.1.layout r_4.1.offset r_4.1.length r_4.1.valid r_4.1.ends r_4.1.data r_4.1.kids r_6.1 r_6.2.1 r_6.2.2.1 r_6.2.2.2.1 r_6.2.2.2.2.1 (([1] : List UInt8) ++ (List.drop 1 (List.take ((r_6.2.2.2.2.2.1).length) r_6.2.2.2.2.2.1))) r_6.2.2.2.2.2.2)
              else
               none
             else
              none
            else
             bif ((Int.tmod (IntKind.u64.wrap a0) 18) == 11) then
              (quiverlaw0_CopyArray.f bar k r_3.1).bind fun r_7 =>
              bif decide (0 ≤ 0) && decide (0 < ((r_7.2.2.2.2.2.2).length : Int)) then
               (r_7.2.2.2.2.2.2[0]?).bind fun e_8 =>
               bar _ (quiverlaw8_ArrayForms.j53 bar k ([(Nod.mk 0 (-1) true)] : List Nod) r_2.1.layout r_2.1.offset r_2.1.length r_2.1.valid r_2.1.ends r_2.1.data r_2.1.kids r_3.1.layout r_3.1.offset r_3.1.length r_3.1.valid r_3.1.ends r_3.1.data r_3.1.kids r_4.1.layout r_4.1.offset r_4.1.length r_4.1.valid r_4.1.ends r_4.1.data r_4.1.kids r_7.1 r_7.2.1 r_7.2.2.1 r_7.2.2.2.1 r_7.2.2.2.2.1 r_7.2.2.2.2.2.1 ((r_7.2.2.2.2.2.2).set 0 (Arr.mk e_8.layout e_8.offset e_8.length ([1] : List UInt8) e_8.ends e_8.data e_8.kids)))
              else
               none
             else
              bif ((Int.tmod (IntKind.u64.wrap a0) 18) == 12) then
               (quiverlaw0_CopyArray.f bar k r_3.1).bind fun r_9 =>
               bif decide (0 ≤ 11) && decide (11 ≤ (((r_9.2.2.2.2.2.1).length : Nat) : Int)) then
                bar _ (quiverlaw8_ArrayForms.j53 bar k ([(Nod.mk 0 (-1) true)] : List Nod) r_2.1.layout r_2.1.offset r_2.1.length r_2.1.valid r_2.1.ends r_2.1.data r_2.1.kids r_3.1.layout r_3.1.offset r_3.1.length r_3.1.valid r_3.1.ends r_3.1.data r_3.1.kids r_4.1.layout r_4.1.offset r_4.1.length r_4.1.valid r_4.1.ends r_4.1.data r_4.1.kids r_9.1 r_9.2.1 r_9.2.2.1 r_9.2.2.2.1 r_9.2.2.2.2.1 (List.drop 0 (List.take 11 r_9.2.2.2.2.2.1)) r_9.2.2.2.2.2.2)
               else
                none
              else
               bif ((Int.tmod (IntKind.u64.wrap a0) 18) == 13) then
                (quiverlaw0_CopyArray.f bar k r_4.1).bind fun r_10 =>
                bar _ (quiverlaw8_ArrayForms.j53 bar k ([(Nod.mk 0 (-1) true)] : List Nod) r_2.1.layout r_2.1.offset r_2.1.length r_2.1.valid r_2.1.ends r_2.1.data r_2.1.kids r_3.1.layout r_3.1.offset r_3.1.length r_3.1.valid r_3.1.ends r_3.1.data r_3.1.kids r_4.1.layout r_4.1.offset r_4.1.length r_4.1.valid r_4.1.ends r_4.1.data r_4.1.kids r_10.1 r_10.2.1 r_10.2.2.1 ([7] : List UInt8) r_10.2.2.2.2.1 r_10.2.2.2.2.2.1 r_10.2.2.2.2.2.2)
               else
                bif ((Int.tmod (IntKind.u64.wrap a0) 18) == 14) then
                 (quiverlaw0_CopyArray.f bar k r_4.1).bind fun r_11 =>
                 bif decide (0 ≤ 8) && decide (8 ≤ (((r_11.2.2.2.2.2.1).length : Nat) : Int)) then
                  bar _ (quiverlaw8_ArrayForms.j53 bar k ([(Nod.mk 0 (-1) true)] : List Nod) r_2.1.layout r_2.1.offset r_2.1.length r_2.1.valid r_2.1.ends r_2.1.data r_2.1.kids r_3.1.layout r_3.1.offset r_3.1.length r_3.1.valid r_3.1.ends r_3.1.data r_3.1.kids r_4.1.layout r_4.1.offset r_4.1.length r_4.1.valid r_4.1.ends r_4.1.data r_4.1.kids r_11.1 r_11.2.1 r_11.2.2.1 r_11.2.2.2.1 r_11.2.2.2.2.1 (List.drop 0 (List.take 8 r_11.2.2.2.2.2.1)) r_11.2.2.2.2.2.2)
                 else
                  none
                else
                 bif ((Int.tmod (IntKind.u64.wrap a0) 18) == 15) then
                  (quiverlaw0_CopyArray.f bar k r_4.1).bind fun r_12 =>
                  bif decide (0 ≤ 4) && decide (4 ≤ (((r_12.2.2.2.2.2.1).length : Nat) : Int)) then
                   bif decide (0 ≤ 4) && decide (4 ≤ (((r_12.2.2.2.2.2.1).length : Nat) : Int)) then
                    bif decide ((List.drop 0 (List.take 4 r_12.2.2.2.2.2.1)).length + (List.drop 0 (List.take 4 r_12.2.2.2.2.2.1)).length ≤ 9223372036854775807) then
                     bif decide (0 ≤ 8) && decide (8 ≤ (((r_12.2.2.2.2.2.1).length : Nat) : Int)) then
                      bif decide (((List.drop 0 (List.take 4 r_12.2.2.2.2.2.1)) ++ (List.drop 0 (List.take 4 r_12.2.2.2.2.2.1))).length + (List.drop 8 (List.take ((r_12.2.2.2.2.2.1).length) r_12.2.2.2.2.2.1)).length ≤ 9223372036854775807) then
                       bar _ (quiverlaw8_ArrayForms.j53 bar k ([(Nod.mk 0 (-1) true)] : List Nod) r_2.1.layout r_2.1.offset r_2.1.length r_2.1.valid r_2.1.ends r_2.1.data r_2.1.kids r_3.1.layout r_3.1.offset r_3.1.length r_3.1.valid r_3.1.ends r_3.1.data r_3.1.kids r_4.1.layout r_4.1.offset r_4.1.length r_4.1.valid r_4.1.ends r_4.1.data r_4.1.kids r_12.1 r_12.2.1 r_12.2.2.1 r_12.2.2.2.1 r_12.2.2.2.2.1 (((List.drop 0 (List.take 4 r_12.2.2.2.2.2.1)) ++ (List.drop 0 (List.take 4 r_12.2.2.2.2.2.1))) ++ (List.drop 8 (List.take ((r_12.2.2.2.2.2.1).length) r_12.2.2.2.2.2.1))) r_12.2.2.2.2.2.2)
                      else
                       none
                     else
                      none
                    else
                     none
                   else
                    none
                  else
                   none
                 else
                  bif ((Int.tmod (IntKind.u64.wrap a0) 18) == 16) then
                   (quiverlaw0_CopyArray.f bar k r_4.1).bind fun r_13 =>
                   bar _ (quiverlaw8_ArrayForms.j53 bar k ([(Nod.mk 0 (-1) true)] : List Nod) r_2.1.layout r_2.1.offset r_2.1.length r_2.1.valid r_2.1.ends r_2.1.data r_2.1.kids r_3.1.layout r_3.1.offset r_3.1.length r_3.1.valid r_3.1.ends r_3.1.data r_3.1.kids r_4.1.layout r_4.1.offset r_4.1.length r_4.1.valid r_4.1.ends r_4.1.data r_4.1.kids r_13.1 r_13.2.1 4 r_13.2.2.2.1 r_13.2.2.2.2.1 r_13.2.2.2.2.2.1 r_13.2.2.2.2.2.2)
                  else
                   (quiverlaw0_CopyArray.f bar k r_4.1).bind fun r_14 =>
                   bif decide (((r_14.2.2.2.2.2.2).length + (([(Arr.mk r_2.1.layout r_2.1.offset r_2.1.length r_2.1.valid r_2.1.ends r_2.1.data r_2.1.kids)] : List Arr)).length) * 96 ≤ 140737488355328) then
                    bar _ (quiverlaw8_ArrayForms.j53 bar k ([(Nod.mk 0 (-1) true)] : List Nod) r_2.1.layout r_2.1.offset r_2.1.length r_2.1.valid r_2.1.ends r_2.1.data r_2.1.kids r_3.1.layout r_3.1.offset r_3.1.length r_3.1.valid r_3.1.ends r_3.1.data r_3.1.kids r_4.1.layout r_4.1.offset r_4.1.length r_4.1.valid r_4.1.ends r_4.1.data r_4.1.kids r_14.1 r_14.2.1 r_14.2.2.1 r_14.2.2.2.1 r_14.2.2.2.2.1 r_14.2.2.2.2.2.1 (r_14.2.2.2.2.2.2 ++ ([(Arr.mk r_2.1.layout r_2.1.offset r_2.1.length r_2.1.valid r_2.1.ends r_2.1.data r_2.1.kids)] : List Arr)))
                   else
                    none := by kernel_rfl
theorem quiverlaw8_ArrayForms.j53_eq (bar : Bar) (k : Nat) (t6 : List Nod) (g7 : Int) (g7_1 : Int) (g7_2 : Int) (g7_3 : List UInt8) (g7_4 : List UInt8) (g7_5 : List UInt8) (g7_6 : List Arr) (dict9 : Int) (dict9_1 : Int) (dict9_2 : Int) (dict9_3 : List UInt8) (dict9_4 : List UInt8) (dict9_5 : List UInt8) (dict9_6 : List Arr) (run11 : Int) (run11_1 : Int) (run11_2 : Int) (run11_3 : List UInt8) (run11_4 : List UInt8) (run11_5 : List UInt8) (run11_6 : List Arr) (b13 : Int) (b13_1 : Int) (b13_2 : Int) (b13_3 : List UInt8) (b13_4 : List UInt8) (b13_5 : List UInt8) (b13_6 : List Arr) : quiverlaw8_ArrayForms.j53 bar k t6 g7 g7_1 g7_2 g7_3 g7_4 g7_5 g7_6 dict9 dict9_1 dict9_2 dict9_3 dict9_4 dict9_5 dict9_6 run11 run11_1 run11_2 run11_3 run11_4 run11_5 run11_6 b13 b13_1 b13_2 b13_3 b13_4 b13_5 b13_6 =
 (quiverlaw0_Num.f bar k 0).bind fun r_1 =>
 bif (r_1 == 0) then
  (array_May.f bar k t6 0 (Arr.mk g7 g7_1 g7_2 g7_3 g7_4 g7_5 g7_6)).bind fun r_2 =>
  bif r_2 then
   (array_May.f bar k t6 0 (Arr.mk dict9 dict9_1 dict9_2 dict9_3 dict9_4 dict9_5 dict9_6)).bind fun r_3 =>
   bif r_3 then
    (array_May.f bar k t6 0 (Arr.mk run11 run11_1 run11_2 run11_3 run11_4 run11_5 run11_6)).bind fun r_4 =>
    bif r_4 then
     (array_May.f bar k t6 0 (Arr.mk b13 b13_1 b13_2 b13_3 b13_4 b13_5 b13_6)).bind fun r_5 =>
     some (!r_5)
    else
     some false
   else
    some false
  else
   some false
 else
  some false := by kernel_rfl
theorem quiverlaw0_CopyArray.f_eq (bar : Bar) (k : Nat) (a0 : Arr) : quiverlaw0_CopyArray.f bar (k + 1) a0 =
 quiverlaw0_CopyArray.l0 bar k k 0 a0.layout a0.offset a0.length a0.valid a0.ends a0.data a0.kids ([] : List Arr) := by kernel_rfl
theorem quiverlaw0_CopyArray.l0_eq (bar : Bar) (k : Nat) (n : Nat) (i4 : Int) (a1 : Int) (a1_1 : Int) (a1_2 : Int) (a1_3 : List UInt8) (a1_4 : List UInt8) (a1_5 : List UInt8) (a1_6 : List Arr) (x2003 : List Arr) : quiverlaw0_CopyArray.l0 bar k (n + 1) i4 a1 a1_1 a1_2 a1_3 a1_4 a1_5 a1_6 x2003 =
 bif decide (i4 < ((a1_6).length : Int)) then
  (rd a1_6 i4).bind fun e_1 =>
  (quiverlaw0_CopyArray.f bar k e_1).bind fun r_2 =>
  bif decide (((x2003).length + (([(Arr.mk r_2.1 r_2.2.1 r_2.2.2.1 r_2.2.2.2.1 r_2.2.2.2.2.1 r_2.2.2.2.2.2.1 r_2.2.2.2.2.2.2)] : List Arr)).length) * 96 ≤ 140737488355328) then
   quiverlaw0_CopyArray.l0 bar k n (IntKind.i64.wrap (i4 + 1)) a1 a1_1 a1_2 a1_3 a1_4 a1_5 a1_6 (x2003 ++ ([(Arr.mk r_2.1 r_2.2.1 r_2.2.2.1 r_2.2.2.2.1 r_2.2.2.2.2.1 r_2.2.2.2.2.2.1 r_2.2.2.2.2.2.2)] : List Arr))
  else
   none
 else
  some (a1, a1_1, a1_2, a1_3, a1_4, a1_5, x2003) := by kernel_rfl
theorem array_May.f_eq (bar : Bar) (k : Nat) (a0 : List Nod) (a1 : Int) (a2 : Arr) : array_May.f bar (k + 1) a0 a1 a2 =
 (types_Node.f bar k a0 a1).bind fun r_1 =>
 bif (!(!r_1)) then
  (rd a0 a1).bind fun e_2 =>
  (array_buffers.f bar k e_2 a2).bind fun r_3 =>
  bif (!r_3) then
   some false
  else
   bif (a2.layout == 0) then
    (array_plain.f bar k a0 a1 a2).bind fun r_4 =>
    some r_4
   else
    bif (a2.layout == 1) then
     (array_dict.f bar k a0 a1 a2).bind fun r_5 =>
     some r_5
    else
     bif (a2.layout == 2) then
      (array_run.f bar k a0 a1 a2).bind fun r_6 =>
      some r_6
     else
      some false
 else
  some false := by kernel_rfl
theorem quiverlaw8_awake.f_eq (bar : Bar) (k : Nat) : quiverlaw8_awake.f bar (k + 1) =
 bif (16 == 16) && (decide (0 ≤ 16) && decide (16 * 1 ≤ 140737488355328)) then
  bif decide (0 ≤ 1) && decide (1 ≤ (((strOfBytes (List.replicate (16 : Int).toNat (0 : Int) : List Int)).length : Nat) : Int)) then
   (quiverlaw0_Num.f bar k 0).bind fun r_1 =>
   bif (r_1 == 0) then
    (array_May.f bar k ([(Nod.mk 0 (-1) true)] : List Nod) 0 (Arr.mk 0 1 1 ([2] : List UInt8) [] (strOfBytes (List.replicate (16 : Int).toNat (0 : Int) : List Int)) ([] : List Arr))).bind fun r_2 =>
    bif r_2 then
     (array_May.f bar k ([(Nod.mk 0 (-1) true)] : List Nod) 0 (Arr.mk 0 1 1 ([2] : List UInt8) [] (List.drop 1 (List.take ((strOfBytes (List.replicate (16 : Int).toNat (0 : Int) : List Int)).length) (strOfBytes (List.replicate (16 : Int).toNat (0 : Int) : List Int)))) ([] : List Arr))).bind fun r_3 =>
     bif (!r_3) then
      (array_May.f bar k ([(Nod.mk 0 (-1) true)] : List Nod) 1 (Arr.mk 0 1 1 ([2] : List UInt8) [] (strOfBytes (List.replicate (16 : Int).toNat (0 : Int) : List Int)) ([] : List Arr))).bind fun r_4 =>
      some (!r_4)
     else
      some false
    else
     some false
   else
    some false
  else
   none
 else
  none := by kernel_rfl
theorem quiverref7_Build.f_eq (bar : Bar) (k : Nat) (a0 : List Nod) (a1 : Int) (a2 : List (List UInt8)) : quiverref7_Build.f bar (k + 1) a0 a1 a2 =
 (quiverref1_NodeMay.f bar k a0 a1).bind fun r_1 =>
 bif (!r_1) then
  some ((Arr.mk 0 0 0 [] [] [] ([] : List Arr)), 1000)
 else
  quiverref7_Build.l0 bar k k a1 a2 0 a0 := by kernel_rfl
theorem quiverref7_Build.l0_eq (bar : Bar) (k : Nat) (n : Nat) (at_1 : Int) (vs2 : List (List UInt8)) (i8 : Int) (t3 : List Nod) : quiverref7_Build.l0 bar k (n + 1) at_1 vs2 i8 t3 =
 bif decide (i8 < ((vs2).length : Int)) then
  (rd vs2 i8).bind fun e_1 =>
  (quiverref7_Fits.f bar k t3 at_1 e_1).bind fun r_2 =>
  bif (!r_2) then
   some ((Arr.mk 0 0 0 [] [] [] ([] : List Arr)), 1000)
  else
   quiverref7_Build.l0 bar k n at_1 vs2 (IntKind.i64.wrap (i8 + 1)) t3
 else
  (quiverref7_build.f bar k t3 at_1 vs2).bind fun r_3 =>
  bif (!r_3.2) then
   some ((Arr.mk 0 0 0 [] [] [] ([] : List Arr)), 1001)
  else
   some ((Arr.mk r_3.1.layout r_3.1.offset r_3.1.length r_3.1.valid r_3.1.ends r_3.1.data r_3.1.kids), 0) := by kernel_rfl
theorem quiverref11_DictOf.f_eq (bar : Bar) (k : Nat) (a0 : List Nod) (a1 : Int) (a2 : Arr) : quiverref11_DictOf.f bar (k + 1) a0 a1 a2 =
 (quiverref11_leafValues.f bar k a0 a1 a2).bind fun r_1 =>
 bif (!r_1.2) then
  some ((Arr.mk 0 0 0 [] [] [] ([] : List Arr)), 1600)
 else
  (quiverref7_Build.f bar k a0 a1 r_1.1).bind fun r_2 =>
  quiverref11_DictOf.l0 bar k k a1 0 a0 ((r_1.1).length : Int) r_2.1.valid [] r_1.1 ([] : List (List UInt8)) := by kernel_rfl
theorem quiverref11_DictOf.l0_eq (bar : Bar) (k : Nat) (n : Nat) (at_1 : Int) (i14 : Int) (t3 : List Nod) (b12 : Int) (b12_1 : List UInt8) (b12_2 : List UInt8) (x2008 : List (List UInt8)) (x2013 : List (List UInt8)) : quiverref11_DictOf.l0 bar k (n + 1) at_1 i14 t3 b12 b12_1 b12_2 x2008 x2013 =
 bif decide (i14 < ((x2008).length : Int)) then
  quiverref11_DictOf.l2 bar k n k at_1 i14 0 t3 b12 b12_1 b12_2 x2008 x2013
 else
  (quiverref7_Build.f bar k t3 at_1 x2013).bind fun r_1 =>
  some ((Arr.mk 1 0 b12 b12_1 [] b12_2 ([(Arr.mk r_1.1.layout r_1.1.offset r_1.1.length r_1.1.valid r_1.1.ends r_1.1.data r_1.1.kids)] : List Arr)), 0) := by kernel_rfl
theorem quiverref11_DictOf.l2_eq (bar : Bar) (k : Nat) (m1 : Nat) (n : Nat) (at_1 : Int) (i14 : Int) (k_15 : Int) (t3 : List Nod) (b12 : Int) (b12_1 : List UInt8) (b12_2 : List UInt8) (x2008 : List (List UInt8)) (x2013 : List (List UInt8)) : quiverref11_DictOf.l2 bar k m1 (n + 1) at_1 i14 k_15 t3 b12 b12_1 b12_2 x2008 x2013 =
 bif decide (k_15 < ((x2013).length : Int)) then
  bif decide (0 ≤ k_15) && decide (k_15 < ((x2013).length : Int)) then
   (x2013[(k_15).toNat]?).bind fun e_1 =>
   (rd x2008 i14).bind fun e_2 =>
   bif (e_1 != e_2) then
    quiverref11_DictOf.l2 bar k m1 n at_1 i14 (IntKind.i64.wrap (k_15 + 1)) t3 b12 b12_1 b12_2 x2008 x2013
   else
    (rd x2008 i14).bind fun e_3 =>
    bif (e_3 == ([110] : List UInt8)) then
     (quiverref1_Low.f bar k 0 4).bind fun r_4 =>
     bif decide ((b12_2).length + (r_4).length ≤ 9223372036854775807) then
      quiverref11_DictOf.l0 bar k m1 at_1 (IntKind.i64.wrap (i14 + 1)) t3 b12 b12_1 (b12_2 ++ r_4) x2008 x2013
     else
      none
    else
     bif (k_15 == ((x2013).length : Int)) then
      (rd x2008 i14).bind fun e_5 =>
      bif decide (((x2013).length + (([e_5] : List (List UInt8))).length) * 16 ≤ 140737488355328) then
       (quiverref1_Low.f bar k k_15 4).bind fun r_6 =>
       bif decide ((b12_2).length + (r_6).length ≤ 9223372036854775807) then
        quiverref11_DictOf.l0 bar k m1 at_1 (IntKind.i64.wrap (i14 + 1)) t3 b12 b12_1 (b12_2 ++ r_6) x2008 (x2013 ++ ([e_5] : List (List UInt8)))
       else
        none
      else
       none
     else
      (quiverref1_Low.f bar k k_15 4).bind fun r_7 =>
      bif decide ((b12_2).length + (r_7).length ≤ 9223372036854775807) then
       quiverref11_DictOf.l0 bar k m1 at_1 (IntKind.i64.wrap (i14 + 1)) t3 b12 b12_1 (b12_2 ++ r_7) x2008 x2013
      else
       none
  else
   none
 else
  (rd x2008 i14).bind fun e_8 =>
  bif (e_8 == ([110] : List UInt8)) then
   (quiverref1_Low.f bar k 0 4).bind fun r_9 =>
   bif decide ((b12_2).length + (r_9).length ≤ 9223372036854775807) then
    quiverref11_DictOf.l0 bar k m1 at_1 (IntKind.i64.wrap (i14 + 1)) t3 b12 b12_1 (b12_2 ++ r_9) x2008 x2013
   else
    none
  else
   bif (k_15 == ((x2013).length : Int)) then
    (rd x2008 i14).bind fun e_10 =>
    bif decide (((x2013).length + (([e_10] : List (List UInt8))).length) * 16 ≤ 140737488355328) then
     (quiverref1_Low.f bar k k_15 4).bind fun r_11 =>
     bif decide ((b12_2).length + (r_11).length ≤ 9223372036854775807) then
      quiverref11_DictOf.l0 bar k m1 at_1 (IntKind.i64.wrap (i14 + 1)) t3 b12 b12_1 (b12_2 ++ r_11) x2008 (x2013 ++ ([e_10] : List (List UInt8)))
     else
      none
    else
     none
   else
    (quiverref1_Low.f bar k k_15 4).bind fun r_12 =>
    bif decide ((b12_2).length + (r_12).length ≤ 9223372036854775807) then
     quiverref11_DictOf.l0 bar k m1 at_1 (IntKind.i64.wrap (i14 + 1)) t3 b12 b12_1 (b12_2 ++ r_12) x2008 x2013
    else
     none := by kernel_rfl
theorem quiverref11_RunsOf.f_eq (bar : Bar) (k : Nat) (a0 : List Nod) (a1 : Int) (a2 : Arr) : quiverref11_RunsOf.f bar (k + 1) a0 a1 a2 =
 (quiverref11_leafValues.f bar k a0 a1 a2).bind fun r_1 =>
 bif (!r_1.2) then
  some ((Arr.mk 0 0 0 [] [] [] ([] : List Arr)), 1700)
 else
  quiverref11_RunsOf.l0 bar k k a1 0 a0 ((r_1.1).length : Int) [] r_1.1 ([] : List (List UInt8)) := by kernel_rfl
theorem quiverref11_RunsOf.l0_eq (bar : Bar) (k : Nat) (n : Nat) (at_1 : Int) (i12 : Int) (t3 : List Nod) (b10 : Int) (b10_1 : List UInt8) (x2008 : List (List UInt8)) (x2011 : List (List UInt8)) : quiverref11_RunsOf.l0 bar k (n + 1) at_1 i12 t3 b10 b10_1 x2008 x2011 =
 bif decide (i12 < ((x2008).length : Int)) then
  bif (!(i12 == (IntKind.i64.wrap (((x2008).length : Int) - 1)))) then
   bif decide (0 ≤ IntKind.i64.wrap (i12 + 1)) && decide (IntKind.i64.wrap (i12 + 1) < ((x2008).length : Int)) then
    (x2008[(IntKind.i64.wrap (i12 + 1)).toNat]?).bind fun e_1 =>
    bif decide (0 ≤ i12) && decide (i12 < ((x2008).length : Int)) then
     (x2008[(i12).toNat]?).bind fun e_2 =>
     bif (e_1 != e_2) then
      bif decide (0 ≤ i12) && decide (i12 < ((x2008).length : Int)) then
       (x2008[(i12).toNat]?).bind fun e_3 =>
       bif decide (((x2011).length + (([e_3] : List (List UInt8))).length) * 16 ≤ 140737488355328) then
        (quiverref1_Low.f bar k (IntKind.i64.wrap (i12 + 1)) 4).bind fun r_4 =>
        bif decide ((b10_1).length + (r_4).length ≤ 9223372036854775807) then
         quiverref11_RunsOf.l0 bar k n at_1 (IntKind.i64.wrap (i12 + 1)) t3 b10 (b10_1 ++ r_4) x2008 (x2011 ++ ([e_3] : List (List UInt8)))
        else
         none
       else
        none
      else
       none
     else
      quiverref11_RunsOf.l0 bar k n at_1 (IntKind.i64.wrap (i12 + 1)) t3 b10 b10_1 x2008 x2011
    else
     none
   else
    none
  else
   bif decide (0 ≤ i12) && decide (i12 < ((x2008).length : Int)) then
    (x2008[(i12).toNat]?).bind fun e_5 =>
    bif decide (((x2011).length + (([e_5] : List (List UInt8))).length) * 16 ≤ 140737488355328) then
     (quiverref1_Low.f bar k (IntKind.i64.wrap (i12 + 1)) 4).bind fun r_6 =>
     bif decide ((b10_1).length + (r_6).length ≤ 9223372036854775807) then
      quiverref11_RunsOf.l0 bar k n at_1 (IntKind.i64.wrap (i12 + 1)) t3 b10 (b10_1 ++ r_6) x2008 (x2011 ++ ([e_5] : List (List UInt8)))
     else
      none
    else
     none
   else
    none
 else
  (quiverref7_Build.f bar k t3 at_1 x2011).bind fun r_7 =>
  some ((Arr.mk 2 0 b10 [] [] b10_1 ([(Arr.mk r_7.1.layout r_7.1.offset r_7.1.length r_7.1.valid r_7.1.ends r_7.1.data r_7.1.kids)] : List Arr)), 0) := by kernel_rfl
theorem quiverlaw0_Num.f_eq (bar : Bar) (k : Nat) (a0 : Int) : quiverlaw0_Num.f bar (k + 1) a0 =
 some a0 := by kernel_rfl
theorem types_Node.f_eq (bar : Bar) (k : Nat) (a0 : List Nod) (a1 : Int) : types_Node.f bar (k + 1) a0 a1 =
 (types_May.f bar k a0).bind fun r_1 =>
 bif r_1 then
  bif decide (a1 ≥ 0) then
   some (decide (a1 < ((a0).length : Int)))
  else
   some false
 else
  some false := by kernel_rfl
theorem array_buffers.f_eq (bar : Bar) (k : Nat) (a0 : Nod) (a1 : Arr) : array_buffers.f bar (k + 1) a0 a1 =
 bif (!(decide (a1.offset < 0))) then
  bif (!(decide (a1.length < 0))) then
   bif (!(decide (a1.offset > 64))) then
    bif decide (a1.length > (IntKind.i64.wrap (64 - a1.offset))) then
     some false
    else
     bif decide ((bif decide (((a1.data).length : Int) > (bif decide (((a1.ends).length : Int) > ((a1.valid).length : Int)) then ((a1.ends).length : Int) else ((a1.valid).length : Int))) then ((a1.data).length : Int) else (bif decide (((a1.ends).length : Int) > ((a1.valid).length : Int)) then ((a1.ends).length : Int) else ((a1.valid).length : Int))) > 4096) then
      some false
     else
      bif (!(a1.valid == ([] : List UInt8))) then
       bif a0.null then
        (bits_Bytes.f bar k (IntKind.i64.wrap (a1.offset + a1.length))).bind fun r_1 =>
        some (decide (((a1.valid).length : Int) ≥ r_1))
       else
        some false
      else
       some true
   else
    some false
  else
   some false
 else
  some false := by kernel_rfl
theorem array_plain.f_eq (bar : Bar) (k : Nat) (a0 : List Nod) (a1 : Int) (a2 : Arr) : array_plain.f bar (k + 1) a0 a1 a2 =
 (types_Kids.f bar k a0 a1).bind fun r_1 =>
 bif (((a2.kids).length : Int) != ((r_1.1).length : Int)) then
  some false
 else
  array_plain.l0 bar k k a0 a1 a2.layout a2.offset a2.length a2.valid a2.ends a2.data a2.kids ((r_1.1).length : Int) 0 (IntKind.i64.wrap (a2.offset + a2.length)) r_1.1 := by kernel_rfl
theorem array_plain.l0_eq (bar : Bar) (k : Nat) (n : Nat) (t0 : List Nod) (at_1 : Int) (a2 : Int) (a2_1 : Int) (a2_2 : Int) (a2_3 : List UInt8) (a2_4 : List UInt8) (a2_5 : List UInt8) (a2_6 : List Arr) (x39 : Int) (x40 : Int) (rows7 : Int) (x2038 : List Int) : array_plain.l0 bar k (n + 1) t0 at_1 a2 a2_1 a2_2 a2_3 a2_4 a2_5 a2_6 x39 x40 rows7 x2038 =
 bif decide (x40 < x39) then
  bif decide (0 ≤ x40) && decide (x40 < ((x2038).length : Int)) then
   (x2038[(x40).toNat]?).bind fun e_1 =>
   (rd a2_6 x40).bind fun e_2 =>
   (array_May.f bar k t0 e_1 e_2).bind fun r_3 =>
   bif (!r_3) then
    some false
   else
    array_plain.l0 bar k n t0 at_1 a2 a2_1 a2_2 a2_3 a2_4 a2_5 a2_6 x39 (IntKind.i64.wrap (x40 + 1)) rows7 x2038
  else
   none
 else
  (rd t0 at_1).bind fun e_4 =>
  bif (e_4.kind == 0) then
   bif (a2_4 == ([] : List UInt8)) then
    some (decide (((a2_5).length : Int) ≥ (IntKind.i64.wrap (8 * rows7))))
   else
    some false
  else
   bif (e_4.kind == 1) then
    bif (a2_4 == ([] : List UInt8)) then
     (bits_Bytes.f bar k rows7).bind fun r_5 =>
     some (decide (((a2_5).length : Int) ≥ r_5))
    else
     some false
   else
    bif (e_4.kind == 2) then
     (array_ends.f bar k a2_4 rows7 ((a2_5).length : Int) a2_1 16).bind fun r_6 =>
     some r_6
    else
     bif (e_4.kind == 3) then
      bif (a2_5 == ([] : List UInt8)) then
       (rd a2_6 0).bind fun e_7 =>
       (array_ends.f bar k a2_4 rows7 e_7.length 0 64).bind fun r_8 =>
       some r_8
      else
       some false
     else
      bif (a2_4 == ([] : List UInt8)) then
       bif (a2_5 == ([] : List UInt8)) then
        (slices_ContainsFunc_api_Array_api_Array_array_plain_1.f bar k a2_6 rows7).bind fun r_9 =>
        some (!r_9)
       else
        some false
      else
       some false := by kernel_rfl
theorem array_dict.f_eq (bar : Bar) (k : Nat) (a0 : List Nod) (a1 : Int) (a2 : Arr) : array_dict.f bar (k + 1) a0 a1 a2 =
 (array_one.f bar k a0 a1 a2).bind fun r_1 =>
 bif (!(!r_1.2)) then
  (r_1.1).bind fun p_2 =>
  bif (!(p_2.valid != ([] : List UInt8))) then
   bif decide (((a2.data).length : Int) < (IntKind.i64.wrap (4 * (IntKind.i64.wrap (a2.offset + a2.length))))) then
    some false
   else
    array_dict.l0 bar k k a2.layout a2.offset a2.length a2.valid a2.ends a2.data a2.kids r_1.1 a2.offset
  else
   some false
 else
  some false := by kernel_rfl
theorem array_dict.l0_eq (bar : Bar) (k : Nat) (n : Nat) (a2 : Int) (a2_1 : Int) (a2_2 : Int) (a2_3 : List UInt8) (a2_4 : List UInt8) (a2_5 : List UInt8) (a2_6 : List Arr) (kid7 : Option Arr) (row9 : Int) : array_dict.l0 bar k (n + 1) a2 a2_1 a2_2 a2_3 a2_4 a2_5 a2_6 kid7 row9 =
 bif decide (row9 < (IntKind.i64.wrap (a2_1 + a2_2))) then
  (array_Number.f bar k a2_5 row9).bind fun r_1 =>
  (array_There.f bar k (Arr.mk a2 a2_1 a2_2 a2_3 a2_4 a2_5 a2_6) row9).bind fun r_2 =>
  bif r_2 then
   bif (!(!r_1.2)) then
    (kid7).bind fun p_3 =>
    bif decide (r_1.1 ≥ p_3.length) then
     some false
    else
     array_dict.l0 bar k n a2 a2_1 a2_2 a2_3 a2_4 a2_5 a2_6 kid7 (IntKind.i64.wrap (row9 + 1))
   else
    some false
  else
   array_dict.l0 bar k n a2 a2_1 a2_2 a2_3 a2_4 a2_5 a2_6 kid7 (IntKind.i64.wrap (row9 + 1))
 else
  some true := by kernel_rfl
theorem array_run.f_eq (bar : Bar) (k : Nat) (a0 : List Nod) (a1 : Int) (a2 : Arr) : array_run.f bar (k + 1) a0 a1 a2 =
 (array_one.f bar k a0 a1 a2).bind fun r_1 =>
 bif (!(!r_1.2)) then
  bif (!(a2.valid != ([] : List UInt8))) then
   (r_1.1).bind fun p_2 =>
   bif (((a2.data).length : Int) != (IntKind.i64.wrap (4 * p_2.length))) then
    some false
   else
    (r_1.1).bind fun p_3 =>
    array_run.l0 bar k k a2.layout a2.offset a2.length a2.valid a2.ends a2.data a2.kids 0 p_3.length 0
  else
   some false
 else
  some false := by kernel_rfl
theorem array_run.l0_eq (bar : Bar) (k : Nat) (n : Nat) (a2 : Int) (a2_1 : Int) (a2_2 : Int) (a2_3 : List UInt8) (a2_4 : List UInt8) (a2_5 : List UInt8) (a2_6 : List Arr) (last9 : Int) (x45 : Int) (x46 : Int) : array_run.l0 bar k (n + 1) a2 a2_1 a2_2 a2_3 a2_4 a2_5 a2_6 last9 x45 x46 =
 bif decide (x46 < x45) then
  (array_Number.f bar k a2_5 x46).bind fun r_1 =>
  bif (!(!r_1.2)) then
   bif decide (r_1.1 ≤ last9) then
    some false
   else
    array_run.l0 bar k n a2 a2_1 a2_2 a2_3 a2_4 a2_5 a2_6 r_1.1 x45 (IntKind.i64.wrap (x46 + 1))
  else
   some false
 else
  some (decide (last9 ≥ (IntKind.i64.wrap (a2_1 + a2_2)))) := by kernel_rfl
theorem quiverref1_NodeMay.f_eq (bar : Bar) (k : Nat) (a0 : List Nod) (a1 : Int) : quiverref1_NodeMay.f bar (k + 1) a0 a1 =
 (quiverref1_TypeMay.f bar k a0).bind fun r_1 =>
 bif r_1 then
  bif decide (a1 ≥ 0) then
   some (decide (a1 < ((a0).length : Int)))
  else
   some false
 else
  some false := by kernel_rfl
theorem quiverref7_Fits.f_eq (bar : Bar) (k : Nat) (a0 : List Nod) (a1 : Int) (a2 : List UInt8) : quiverref7_Fits.f bar (k + 1) a0 a1 a2 =
 (quiverref1_NodeMay.f bar k a0 a1).bind fun r_1 =>
 bif (!r_1) then
  some false
 else
  (rd a0 a1).bind fun e_2 =>
  (quiverref7_Parts.f bar k a2).bind fun r_3 =>
  bif (r_3.2.2 != 0) then
   some false
  else
   bif decide (r_3.1 < 0) then
    some e_2.null
   else
    (quiverref1_Kids.f bar k a0 a1).bind fun r_4 =>
    bif (!(r_3.1 != e_2.kind)) then
     bif (r_3.1 == 2) then
      bif decide (0 ≤ 0) && decide (0 < ((r_3.2.1).length : Int)) then
       (r_3.2.1[0]?).bind fun e_5 =>
       bif (!(decide (((e_5).length : Int) > 16))) then
        bif (r_3.1 == 3) then
         bif (!(decide (((r_3.2.1).length : Int) > 64))) then
          bif (r_3.1 == 4) then
           bif (((r_3.2.1).length : Int) != ((r_4.1).length : Int)) then
            some false
           else
            quiverref7_Fits.l0 bar k k r_3.1 0 a0 r_3.2.1 r_4.1
          else
           quiverref7_Fits.l0 bar k k r_3.1 0 a0 r_3.2.1 r_4.1
         else
          some false
        else
         bif (r_3.1 == 4) then
          bif (((r_3.2.1).length : Int) != ((r_4.1).length : Int)) then
           some false
          else
           quiverref7_Fits.l0 bar k k r_3.1 0 a0 r_3.2.1 r_4.1
         else
          quiverref7_Fits.l0 bar k k r_3.1 0 a0 r_3.2.1 r_4.1
       else
        some false
      else
       none
     else
      bif (r_3.1 == 3) then
       bif (!(decide (((r_3.2.1).length : Int) > 64))) then
        bif (r_3.1 == 4) then
         bif (((r_3.2.1).length : Int) != ((r_4.1).length : Int)) then
          some false
         else
          quiverref7_Fits.l0 bar k k r_3.1 0 a0 r_3.2.1 r_4.1
        else
         quiverref7_Fits.l0 bar k k r_3.1 0 a0 r_3.2.1 r_4.1
       else
        some false
      else
       bif (r_3.1 == 4) then
        bif (((r_3.2.1).length : Int) != ((r_4.1).length : Int)) then
         some false
        else
         quiverref7_Fits.l0 bar k k r_3.1 0 a0 r_3.2.1 r_4.1
       else
        quiverref7_Fits.l0 bar k k r_3.1 0 a0 r_3.2.1 r_4.1
    else
     some false := by kernel_rfl
theorem quiverref7_Fits.l0_eq (bar : Bar) (k : Nat) (n : Nat) (kind8 : Int) (i13 : Int) (t3 : List Nod) (x2009 : List (List UInt8)) (x2011 : List Int) : quiverref7_Fits.l0 bar k (n + 1) kind8 i13 t3 x2009 x2011 =
 bif decide (i13 < ((x2009).length : Int)) then
  (quiverref1_IsLeaf.f bar k kind8).bind fun r_1 =>
  bif (!r_1) then
   bif decide (0 ≤ 0) && decide (0 < ((x2011).length : Int)) then
    (x2011[0]?).bind fun e_2 =>
    bif (kind8 == 4) then
     bif decide (0 ≤ i13) && decide (i13 < ((x2011).length : Int)) then
      (x2011[(i13).toNat]?).bind fun e_3 =>
      bif decide (0 ≤ i13) && decide (i13 < ((x2009).length : Int)) then
       (x2009[(i13).toNat]?).bind fun e_4 =>
       (quiverref7_Fits.f bar k t3 e_3 e_4).bind fun r_5 =>
       bif (!r_5) then
        some false
       else
        quiverref7_Fits.l0 bar k n kind8 (IntKind.i64.wrap (i13 + 1)) t3 x2009 x2011
      else
       none
     else
      none
    else
     bif decide (0 ≤ i13) && decide (i13 < ((x2009).length : Int)) then
      (x2009[(i13).toNat]?).bind fun e_6 =>
      (quiverref7_Fits.f bar k t3 e_2 e_6).bind fun r_7 =>
      bif (!r_7) then
       some false
      else
       quiverref7_Fits.l0 bar k n kind8 (IntKind.i64.wrap (i13 + 1)) t3 x2009 x2011
     else
      none
   else
    none
  else
   some true
 else
  some true := by kernel_rfl
theorem quiverref7_build.f_eq (bar : Bar) (k : Nat) (a0 : List Nod) (a1 : Int) (a2 : List (List UInt8)) : quiverref7_build.f bar (k + 1) a0 a1 a2 =
 (quiverref7_valid.f bar k a2).bind fun r_1 =>
 bif decide (((a2).length : Int) > 64) then
  some ((Arr.mk 0 0 ((a2).length : Int) r_1 [] [] ([] : List Arr)), false)
 else
  (quiverref1_Kids.f bar k a0 a1).bind fun r_2 =>
  bif (((r_2.1).length : Int) == ((r_2.1).length : Int)) && (decide (0 ≤ ((r_2.1).length : Int)) && decide (((r_2.1).length : Int) * 24 ≤ 140737488355328)) then
   quiverref7_build.l0 bar k k a1 a2 ((((r_2.1).length : Int)).toNat) 0 a0 ((a2).length : Int) r_1 [] [] (killCC 8 6 (killCC 6 6 (killC 2012 (killC 2009 (killC 40 (frzC false (List.replicate ((((r_2.1).length : Int)).toNat) (Cell.sl .str true [])))))))) r_2.1 ([] : List Bool)
  else
   none := by kernel_rfl
theorem quiverref7_build.l0_eq (bar : Bar) (k : Nat) (n : Nat) (at_1 : Int) (vs2 : List (List UInt8)) (rows11 : Nat) (i13 : Int) (t3 : List Nod) (a8 : Int) (a8_1 : List UInt8) (a8_2 : List UInt8) (a8_3 : List UInt8) (x40 : List Cell) (x2009 : List Int) (x2012 : List Bool) : quiverref7_build.l0 bar k (n + 1) at_1 vs2 rows11 i13 t3 a8 a8_1 a8_2 a8_3 x40 x2009 x2012 =
 bif decide (i13 < ((vs2).length : Int)) then
  (rd vs2 i13).bind fun e_1 =>
  (quiverref7_Parts.f bar k e_1).bind fun r_2 =>
  (rd t3 at_1).bind fun e_3 =>
  bif (e_3.kind == 0) then
   bif decide (r_2.1 ≥ 0) then
    bif decide (0 ≤ 0) && decide (0 < ((r_2.2.1).length : Int)) then
     (r_2.2.1[0]?).bind fun e_4 =>
     (quiverref7_whole.f bar k e_4).bind fun r_5 =>
     (quiverref1_Low.f bar k r_5.1 8).bind fun r_6 =>
     bif decide ((a8_3).length + (r_6).length ≤ 9223372036854775807) then
      quiverref7_build.l0 bar k n at_1 vs2 rows11 (IntKind.i64.wrap (i13 + 1)) t3 a8 a8_1 a8_2 (a8_3 ++ r_6) (killsC [101, 102, 103, 104, 105, 106] (killC 52 x40)) x2009 x2012
     else
      none
    else
     none
   else
    (quiverref1_Low.f bar k 0 8).bind fun r_7 =>
    bif decide ((a8_3).length + (r_7).length ≤ 9223372036854775807) then
     quiverref7_build.l0 bar k n at_1 vs2 rows11 (IntKind.i64.wrap (i13 + 1)) t3 a8 a8_1 a8_2 (a8_3 ++ r_7) (killsC [101, 102, 103, 104, 105, 106] (killC 52 x40)) x2009 x2012
    else
     none
  else
   bif (e_3.kind == 1) then
    (rd vs2 i13).bind fun e_8 =>
    bif decide (((x2012).length + (([(e_8 == ([116] : List UInt8))] : List Bool)).length) * 1 ≤ 140737488355328) then
     quiverref7_build.l0 bar k n at_1 vs2 rows11 (IntKind.i64.wrap (i13 + 1)) t3 a8 a8_1 a8_2 a8_3 (killC 2012 (killC 116 (killC 115 (killC 52 x40)))) x2009 (x2012 ++ ([(e_8 == ([116] : List UInt8))] : List Bool))
    else
     none
   else
    bif (e_3.kind == 2) then
     (quiverref1_Low.f bar k ((a8_3).length : Int) 4).bind fun r_9 =>
     bif decide ((a8_2).length + (r_9).length ≤ 9223372036854775807) then
      (quiverref7_all.f bar k r_2.2.1).bind fun r_10 =>
      bif decide ((a8_3).length + (r_10).length ≤ 9223372036854775807) then
       quiverref7_build.l0 bar k n at_1 vs2 rows11 (IntKind.i64.wrap (i13 + 1)) t3 a8 a8_1 (a8_2 ++ r_9) (a8_3 ++ r_10) (killsC [127, 128, 129, 130, 131, 132] (killsC [119, 120, 121, 122, 123, 124, 125, 126] (killC 52 x40))) x2009 x2012
      else
       none
     else
      none
    else
     bif (e_3.kind == 3) then
      bif decide (0 ≤ 0) && decide (0 < ((rows11 : Nat) : Int)) then
       ((killsC [135, 136, 137, 138, 139, 140, 141, 142, 143] (killC 52 x40))[0]?).bind fun c_11 =>
       (slOf .str c_11).bind fun p_12 =>
       bif p_12.1 then
        (quiverref1_Low.f bar k ((p_12.2).length : Int) 4).bind fun r_13 =>
        bif decide ((a8_2).length + (r_13).length ≤ 9223372036854775807) then
         bif decide (0 ≤ 0) && decide (0 < ((rows11 : Nat) : Int)) then
          ((killsC [135, 136, 137, 138, 139, 140, 141, 142, 143] (killC 52 x40))[0]?).bind fun c_14 =>
          (slOf .str c_14).bind fun p_15 =>
          bif p_15.1 then
           ((killsC [135, 136, 137, 138, 139, 140, 141, 142, 143] (killC 52 x40))[0]?).bind fun c_16 =>
           (slOf .str c_16).bind fun p_17 =>
           bif decide (((p_17.2).length + (r_2.2.1).length) * 16 ≤ 140737488355328) then
            bif decide (0 ≤ 0) && decide (0 < ((rows11 : Nat) : Int)) then
             bif Nat.blt 0 (killC 149 ((killsC [135, 136, 137, 138, 139, 140, 141, 142, 143] (killC 52 x40)).set 0 (.av .und))).length then
              quiverref7_build.l0 bar k n at_1 vs2 rows11 (IntKind.i64.wrap (i13 + 1)) t3 a8 a8_1 (a8_2 ++ r_13) a8_3 (killBC 40 ((killC 149 ((killsC [135, 136, 137, 138, 139, 140, 141, 142, 143] (killC 52 x40)).set 0 (.av .und))).set 0 (Cell.sl .str true (p_17.2 ++ r_2.2.1)))) x2009 x2012
             else
              none
            else
             none
           else
            none
          else
           none
         else
          none
        else
         none
       else
        none
      else
       none
     else
      quiverref7_build.l3 bar k n k at_1 vs2 rows11 i13 r_2.1 0 t3 a8 a8_1 a8_2 a8_3 (killC 2015 (killC 52 x40)) x2009 x2012 r_2.2.1
 else
  (rd t3 at_1).bind fun e_18 =>
  bif (e_18.kind == 1) then
   (quiverref1_BitsOf.f bar k x2012).bind fun r_19 =>
   bar _ (quiverref7_build.j39 bar k rows11 t3 a8 a8_1 a8_2 r_19 x40 x2009)
  else
   bif (e_18.kind == 2) then
    (quiverref1_Low.f bar k ((a8_3).length : Int) 4).bind fun r_20 =>
    bif decide ((a8_2).length + (r_20).length ≤ 9223372036854775807) then
     bar _ (quiverref7_build.j39 bar k rows11 t3 a8 a8_1 (a8_2 ++ r_20) a8_3 (killsC [164, 165, 166, 167, 168, 169, 170, 171] x40) x2009)
    else
     none
   else
    bif (e_18.kind == 3) then
     bif decide (0 ≤ 0) && decide (0 < ((rows11 : Nat) : Int)) then
      ((killsC [174, 175, 176, 177, 178, 179, 180, 181, 182] x40)[0]?).bind fun c_21 =>
      (slOf .str c_21).bind fun p_22 =>
      bif p_22.1 then
       (quiverref1_Low.f bar k ((p_22.2).length : Int) 4).bind fun r_23 =>
       bif decide ((a8_2).length + (r_23).length ≤ 9223372036854775807) then
        bar _ (quiverref7_build.j39 bar k rows11 t3 a8 a8_1 (a8_2 ++ r_23) a8_3 (killsC [174, 175, 176, 177, 178, 179, 180, 181, 182] x40) x2009)
       else
        none
      else
       none
     else
      none
    else
     bar _ (quiverref7_build.j39 bar k rows11 t3 a8 a8_1 a8_2 a8_3 x40 x2009) := by kernel_rfl
theorem quiverref7_build.l3_eq (bar : Bar) (k : Nat) (m1 : Nat) (n : Nat) (at_1 : Int) (vs2 : List (List UInt8)) (rows11 : Nat) (i13 : Int) (kind14 : Int) (j18 : Int) (t3 : List Nod) (a8 : Int) (a8_1 : List UInt8) (a8_2 : List UInt8) (a8_3 : List UInt8) (x40 : List Cell) (x2009 : List Int) (x2012 : List Bool) (x2015 : List (List UInt8)) : quiverref7_build.l3 bar k m1 (n + 1) at_1 vs2 rows11 i13 kind14 j18 t3 a8 a8_1 a8_2 a8_3 x40 x2009 x2012 x2015 =
 bif decide (j18 < ((x2009).length : Int)) then
  bif decide (0 ≤ j18) && decide (j18 < ((x2009).length : Int)) then
   (x2009[(j18).toNat]?).bind fun e_1 =>
   (quiverref7_zero.f bar k t3 e_1).bind fun r_2 =>
   bif decide (kind14 ≥ 0) then
    bif decide (0 ≤ j18) && decide (j18 < ((x2015).length : Int)) then
     (x2015[(j18).toNat]?).bind fun e_3 =>
     bif decide (0 ≤ j18) && decide (j18 < ((rows11 : Nat) : Int)) then
      ((killsC [68, 69, 70, 71, 72, 73, 19] x40)[(j18).toNat]?).bind fun c_4 =>
      (slOf .str c_4).bind fun p_5 =>
      bif p_5.1 then
       ((killC 87 (killsC [68, 69, 70, 71, 72, 73, 19] x40))[(j18).toNat]?).bind fun c_6 =>
       (slOf .str c_6).bind fun p_7 =>
       bif decide (((p_7.2).length + (([e_3] : List (List UInt8))).length) * 16 ≤ 140737488355328) then
        bif decide (0 ≤ j18) && decide (j18 < ((rows11 : Nat) : Int)) then
         bif Nat.blt ((j18).toNat) (killC 88 ((killC 87 (killsC [68, 69, 70, 71, 72, 73, 19] x40)).set ((j18).toNat) (.av .und))).length then
          quiverref7_build.l3 bar k m1 n at_1 vs2 rows11 i13 kind14 (IntKind.i64.wrap (j18 + 1)) t3 a8 a8_1 a8_2 a8_3 (killBC 40 ((killC 88 ((killC 87 (killsC [68, 69, 70, 71, 72, 73, 19] x40)).set ((j18).toNat) (.av .und))).set ((j18).toNat) (Cell.sl .str true (p_7.2 ++ ([e_3] : List (List UInt8)))))) x2009 x2012 x2015
         else
          none
        else
         none
       else
        none
      else
       none
     else
      none
    else
     none
   else
    bif decide (0 ≤ j18) && decide (j18 < ((rows11 : Nat) : Int)) then
     ((killsC [68, 69, 70, 71, 72, 73, 19] x40)[(j18).toNat]?).bind fun c_8 =>
     (slOf .str c_8).bind fun p_9 =>
     bif p_9.1 then
      ((killC 87 (killsC [68, 69, 70, 71, 72, 73, 19] x40))[(j18).toNat]?).bind fun c_10 =>
      (slOf .str c_10).bind fun p_11 =>
      bif decide (((p_11.2).length + (([r_2] : List (List UInt8))).length) * 16 ≤ 140737488355328) then
       bif decide (0 ≤ j18) && decide (j18 < ((rows11 : Nat) : Int)) then
        bif Nat.blt ((j18).toNat) (killC 88 ((killC 87 (killsC [68, 69, 70, 71, 72, 73, 19] x40)).set ((j18).toNat) (.av .und))).length then
         quiverref7_build.l3 bar k m1 n at_1 vs2 rows11 i13 kind14 (IntKind.i64.wrap (j18 + 1)) t3 a8 a8_1 a8_2 a8_3 (killBC 40 ((killC 88 ((killC 87 (killsC [68, 69, 70, 71, 72, 73, 19] x40)).set ((j18).toNat) (.av .und))).set ((j18).toNat) (Cell.sl .str true (p_11.2 ++ ([r_2] : List (List UInt8)))))) x2009 x2012 x2015
        else
         none
       else
        none
      else
       none
     else
      none
    else
     none
  else
   none
 else
  quiverref7_build.l0 bar k m1 at_1 vs2 rows11 (IntKind.i64.wrap (i13 + 1)) t3 a8 a8_1 a8_2 a8_3 x40 x2009 x2012 := by kernel_rfl
theorem quiverref7_build.j39_eq (bar : Bar) (k : Nat) (rows11 : Nat) (t3 : List Nod) (a8 : Int) (a8_1 : List UInt8) (a8_2 : List UInt8) (a8_3 : List UInt8) (x40 : List Cell) (x2009 : List Int) : quiverref7_build.j39 bar k rows11 t3 a8 a8_1 a8_2 a8_3 x40 x2009 =
 quiverref7_build.l6 bar k k rows11 0 t3 a8 a8_1 a8_2 a8_3 ([] : List Arr) x40 x2009 := by kernel_rfl
theorem quiverref7_build.l6_eq (bar : Bar) (k : Nat) (n : Nat) (rows11 : Nat) (j20 : Int) (t3 : List Nod) (a8 : Int) (a8_1 : List UInt8) (a8_2 : List UInt8) (a8_3 : List UInt8) (a8_4 : List Arr) (x40 : List Cell) (x2009 : List Int) : quiverref7_build.l6 bar k (n + 1) rows11 j20 t3 a8 a8_1 a8_2 a8_3 a8_4 x40 x2009 =
 bif decide (j20 < ((x2009).length : Int)) then
  bif decide (0 ≤ j20) && decide (j20 < ((x2009).length : Int)) then
   (x2009[(j20).toNat]?).bind fun e_1 =>
   bif decide (0 ≤ j20) && decide (j20 < ((rows11 : Nat) : Int)) then
    ((killsC [190, 191, 192, 193, 194, 195, 196, 197, 198, 199, 189, 200, 201, 21, 22] x40)[(j20).toNat]?).bind fun c_2 =>
    (slOf .str c_2).bind fun p_3 =>
    bif p_3.1 then
     (quiverref7_build.f bar k t3 e_1 p_3.2).bind fun r_4 =>
     bif (!r_4.2) then
      some ((Arr.mk 0 0 a8 a8_1 a8_2 a8_3 a8_4), false)
     else
      bif decide (((a8_4).length + (([(Arr.mk r_4.1.layout r_4.1.offset r_4.1.length r_4.1.valid r_4.1.ends r_4.1.data r_4.1.kids)] : List Arr)).length) * 96 ≤ 140737488355328) then
       quiverref7_build.l6 bar k n rows11 (IntKind.i64.wrap (j20 + 1)) t3 a8 a8_1 a8_2 a8_3 (a8_4 ++ ([(Arr.mk r_4.1.layout r_4.1.offset r_4.1.length r_4.1.valid r_4.1.ends r_4.1.data r_4.1.kids)] : List Arr)) (killCC 8 6 (killC 209 (killC 208 (killsC [190, 191, 192, 193, 194, 195, 196, 197, 198, 199, 189, 200, 201, 21, 22] x40)))) x2009
      else
       none
    else
     none
   else
    none
  else
   none
 else
  bif decide (((a8_3).length : Int) ≤ 4096) then
   some ((Arr.mk 0 0 a8 a8_1 a8_2 a8_3 a8_4), decide (((a8_2).length : Int) ≤ 4096))
  else
   some ((Arr.mk 0 0 a8 a8_1 a8_2 a8_3 a8_4), false) := by kernel_rfl
theorem quiverref11_leafValues.f_eq (bar : Bar) (k : Nat) (a0 : List Nod) (a1 : Int) (a2 : Arr) : quiverref11_leafValues.f bar (k + 1) a0 a1 a2 =
 (quiverref7_Values.f bar k a0 a1 a2).bind fun r_1 =>
 bif (r_1.2 == 0) then
  (rd a0 a1).bind fun e_2 =>
  (quiverref1_IsLeaf.f bar k e_2.kind).bind fun r_3 =>
  some (r_1.1, r_3)
 else
  some (r_1.1, false) := by kernel_rfl
theorem quiverref1_Low.f_eq (bar : Bar) (k : Nat) (a0 : Int) (a1 : Int) : quiverref1_Low.f bar (k + 1) a0 a1 =
 bif (a1 == a1) && (decide (0 ≤ a1) && decide (a1 * 1 ≤ 140737488355328)) then
  quiverref1_Low.l0 bar k k a0 a1 0 (List.replicate (a1).toNat (0 : Int) : List Int)
 else
  none := by kernel_rfl
theorem quiverref1_Low.l0_eq (bar : Bar) (k : Nat) (n : Nat) (x0 : Int) (size1 : Int) (i6 : Int) (x2005 : List Int) : quiverref1_Low.l0 bar k (n + 1) x0 size1 i6 x2005 =
 bif decide (i6 < size1) then
  bif decide (IntKind.i64.wrap (8 * i6) < 0) then
   none
  else
   bif decide (0 ≤ i6) && decide (i6 < ((x2005).length : Int)) then
    (x2005[(i6).toNat]?).bind fun e_1 =>
    quiverref1_Low.l0 bar k n x0 size1 (IntKind.i64.wrap (i6 + 1)) ((x2005).set ((i6).toNat) (IntKind.u8.wrap (Int.fdiv x0 (2 ^ (min (IntKind.i64.wrap (8 * i6)).toNat IntKind.i64.bits)))))
   else
    none
 else
  some (strOfBytes x2005) := by kernel_rfl
theorem types_May.f_eq (bar : Bar) (k : Nat) (a0 : List Nod) : types_May.f bar (k + 1) a0 =
 bif (!(((a0).length : Int) == 0)) then
  bif decide (((a0).length : Int) > 8) then
   some false
  else
   types_May.l0 bar k k a0 ((a0).length : Int) 0
 else
  some false := by kernel_rfl
theorem types_May.l0_eq (bar : Bar) (k : Nat) (n : Nat) (x19 : List Nod) (x20 : Int) (x21 : Int) : types_May.l0 bar k (n + 1) x19 x20 x21 =
 bif decide (x21 < x20) then
  (rd x19 x21).bind fun e_1 =>
  bif (!(decide (e_1.kind < 0))) then
   bif (!(decide (e_1.kind > 4))) then
    (types_stands.f bar k x19 x21).bind fun r_2 =>
    bif (!r_2) then
     some false
    else
     types_May.l0 bar k n x19 x20 (IntKind.i64.wrap (x21 + 1))
   else
    some false
  else
   some false
 else
  types_May.l2 bar k k x19 ((x19).length : Int) 0 := by kernel_rfl
theorem types_May.l2_eq (bar : Bar) (k : Nat) (n : Nat) (x41 : List Nod) (x42 : Int) (x43 : Int) : types_May.l2 bar k (n + 1) x41 x42 x43 =
 bif decide (x43 < x42) then
  (rd x41 x43).bind fun e_1 =>
  (types_kids.f bar k x41 x43).bind fun r_2 =>
  bif (e_1.kind == 3) then
   bif (!(((r_2).length : Int) != 1)) then
    bif (e_1.kind == 4) then
     bif (!(((r_2).length : Int) == 0)) then
      (types_way.f bar k x41 x43).bind fun r_3 =>
      bif decide (((r_3).length : Int) > 5) then
       some false
      else
       types_May.l2 bar k n x41 x42 (IntKind.i64.wrap (x43 + 1))
     else
      some false
    else
     (types_way.f bar k x41 x43).bind fun r_4 =>
     bif decide (((r_4).length : Int) > 5) then
      some false
     else
      types_May.l2 bar k n x41 x42 (IntKind.i64.wrap (x43 + 1))
   else
    some false
  else
   bif (e_1.kind == 4) then
    bif (!(((r_2).length : Int) == 0)) then
     (types_way.f bar k x41 x43).bind fun r_5 =>
     bif decide (((r_5).length : Int) > 5) then
      some false
     else
      types_May.l2 bar k n x41 x42 (IntKind.i64.wrap (x43 + 1))
    else
     some false
   else
    (types_way.f bar k x41 x43).bind fun r_6 =>
    bif decide (((r_6).length : Int) > 5) then
     some false
    else
     types_May.l2 bar k n x41 x42 (IntKind.i64.wrap (x43 + 1))
 else
  some true := by kernel_rfl
theorem bits_Bytes.f_eq (bar : Bar) (k : Nat) (a0 : Int) : bits_Bytes.f bar (k + 1) a0 =
 some (IntKind.i64.wrap (Int.tdiv (IntKind.i64.wrap (a0 + 7)) 8)) := by kernel_rfl
theorem types_Kids.f_eq (bar : Bar) (k : Nat) (a0 : List Nod) (a1 : Int) : types_Kids.f bar (k + 1) a0 a1 =
 (types_Node.f bar k a0 a1).bind fun r_1 =>
 bif (!r_1) then
  some (([] : List Int), 500)
 else
  (types_kids.f bar k a0 a1).bind fun r_2 =>
  some (r_2, 0) := by kernel_rfl
theorem array_ends.f_eq (bar : Bar) (k : Nat) (a0 : List UInt8) (a1 : Int) (a2 : Int) (a3 : Int) (a4 : Int) : array_ends.f bar (k + 1) a0 a1 a2 a3 a4 =
 array_ends.l0 bar k k a0 a2 a3 a4 0 (IntKind.i64.wrap (a1 + 1)) 0 := by kernel_rfl
theorem array_ends.l0_eq (bar : Bar) (k : Nat) (n : Nat) (s0 : List UInt8) (most2 : Int) (from_3 : Int) (apart4 : Int) (last11 : Int) (x16 : Int) (x17 : Int) : array_ends.l0 bar k (n + 1) s0 most2 from_3 apart4 last11 x16 x17 =
 bif decide (x17 < x16) then
  (array_Number.f bar k s0 x17).bind fun r_1 =>
  bif (!(!r_1.2)) then
   bif (!(decide (r_1.1 > most2))) then
    bif decide (x17 > 0) then
     bif (!(decide (r_1.1 < last11))) then
      bif decide (x17 > from_3) then
       bif decide ((IntKind.i64.wrap (r_1.1 - last11)) > apart4) then
        some false
       else
        array_ends.l0 bar k n s0 most2 from_3 apart4 r_1.1 x16 (IntKind.i64.wrap (x17 + 1))
      else
       array_ends.l0 bar k n s0 most2 from_3 apart4 r_1.1 x16 (IntKind.i64.wrap (x17 + 1))
     else
      some false
    else
     array_ends.l0 bar k n s0 most2 from_3 apart4 r_1.1 x16 (IntKind.i64.wrap (x17 + 1))
   else
    some false
  else
   some false
 else
  some true := by kernel_rfl
theorem slices_ContainsFunc_api_Array_api_Array_array_plain_1.f_eq (bar : Bar) (k : Nat) (a0 : List Arr) (a1_0 : Int) : slices_ContainsFunc_api_Array_api_Array_array_plain_1.f bar (k + 1) a0 a1_0 =
 (slices_IndexFunc_api_Array_api_Array_array_plain_1.f bar k a0 a1_0).bind fun r_1 =>
 some (decide (r_1 ≥ 0)) := by kernel_rfl
theorem array_one.f_eq (bar : Bar) (k : Nat) (a0 : List Nod) (a1 : Int) (a2 : Arr) : array_one.f bar (k + 1) a0 a1 a2 =
 (rd a0 a1).bind fun e_1 =>
 (types_Inner.f bar k e_1.kind).bind fun r_2 =>
 bif (!r_2) then
  bif (!(a2.ends != ([] : List UInt8))) then
   bif (((a2.kids).length : Int) != 1) then
    some ((none : Option Arr), false)
   else
    (rd a2.kids 0).bind fun e_3 =>
    bif (e_3.layout == 0) then
     (array_May.f bar k a0 a1 e_3).bind fun r_4 =>
     some (some (Arr.mk e_3.layout e_3.offset e_3.length e_3.valid e_3.ends e_3.data e_3.kids), r_4)
    else
     some (some (Arr.mk e_3.layout e_3.offset e_3.length e_3.valid e_3.ends e_3.data e_3.kids), false)
  else
   some ((none : Option Arr), false)
 else
  some ((none : Option Arr), false) := by kernel_rfl
theorem array_Number.f_eq (bar : Bar) (k : Nat) (a0 : List UInt8) (a1 : Int) : array_Number.f bar (k + 1) a0 a1 =
 (num_Get.f bar k a0 (IntKind.i64.wrap (4 * a1)) 4).bind fun r_1 =>
 some (r_1.1, (r_1.2 == 0)) := by kernel_rfl
theorem array_There.f_eq (bar : Bar) (k : Nat) (a0 : Arr) (a1 : Int) : array_There.f bar (k + 1) a0 a1 =
 bif (!(a0.valid == ([] : List UInt8))) then
  (bits_On.f bar k a0.valid a1).bind fun r_1 =>
  some r_1
 else
  some true := by kernel_rfl
theorem quiverref1_TypeMay.f_eq (bar : Bar) (k : Nat) (a0 : List Nod) : quiverref1_TypeMay.f bar (k + 1) a0 =
 bif (!(decide (((a0).length : Int) < 1))) then
  bif (!(decide (((a0).length : Int) > 8))) then
   (rd a0 0).bind fun e_1 =>
   bif (e_1.parent != (-1)) then
    some false
   else
    bif (((a0).length : Int) == ((a0).length : Int)) && (decide (0 ≤ ((a0).length : Int)) && decide (((a0).length : Int) * 8 ≤ 140737488355328)) then
     quiverref1_TypeMay.l0 bar k k 0 a0 (List.replicate (((a0).length : Int)).toNat (0 : Int) : List Int)
    else
     none
  else
   some false
 else
  some false := by kernel_rfl
theorem quiverref1_TypeMay.l0_eq (bar : Bar) (k : Nat) (n : Nat) (i4 : Int) (t1 : List Nod) (x2003 : List Int) : quiverref1_TypeMay.l0 bar k (n + 1) i4 t1 x2003 =
 bif decide (i4 < ((t1).length : Int)) then
  (rd t1 i4).bind fun e_1 =>
  (quiverref1_upTo.f bar k e_1.kind 0 4).bind fun r_2 =>
  bif (!r_2) then
   some false
  else
   (quiverref1_kids.f bar k t1 i4).bind fun r_3 =>
   (quiverref1_IsLeaf.f bar k e_1.kind).bind fun r_4 =>
   bif r_4 then
    bif (!(decide (((r_3).length : Int) > 0))) then
     bif (e_1.kind == 3) then
      bif (!(((r_3).length : Int) != 1)) then
       bif (e_1.kind == 4) then
        bif decide (((r_3).length : Int) < 1) then
         some false
        else
         bif (i4 == 0) then
          quiverref1_TypeMay.l0 bar k n (IntKind.i64.wrap (i4 + 1)) t1 x2003
         else
          (quiverref1_upTo.f bar k e_1.parent 0 (IntKind.i64.wrap (i4 - 1))).bind fun r_5 =>
          bif (!(!r_5)) then
           bif decide (0 ≤ e_1.parent) && decide (e_1.parent < ((x2003).length : Int)) then
            (x2003[(e_1.parent).toNat]?).bind fun e_6 =>
            bif decide (e_6 ≥ 4) then
             some false
            else
             bif decide (0 ≤ e_1.parent) && decide (e_1.parent < ((x2003).length : Int)) then
              (x2003[(e_1.parent).toNat]?).bind fun e_7 =>
              bif decide (0 ≤ i4) && decide (i4 < ((x2003).length : Int)) then
               (x2003[(i4).toNat]?).bind fun e_8 =>
               quiverref1_TypeMay.l0 bar k n (IntKind.i64.wrap (i4 + 1)) t1 ((x2003).set ((i4).toNat) (IntKind.i64.wrap (e_7 + 1)))
              else
               none
             else
              none
           else
            none
          else
           some false
       else
        bif (i4 == 0) then
         quiverref1_TypeMay.l0 bar k n (IntKind.i64.wrap (i4 + 1)) t1 x2003
        else
         (quiverref1_upTo.f bar k e_1.parent 0 (IntKind.i64.wrap (i4 - 1))).bind fun r_9 =>
         bif (!(!r_9)) then
          bif decide (0 ≤ e_1.parent) && decide (e_1.parent < ((x2003).length : Int)) then
           (x2003[(e_1.parent).toNat]?).bind fun e_10 =>
           bif decide (e_10 ≥ 4) then
            some false
           else
            bif decide (0 ≤ e_1.parent) && decide (e_1.parent < ((x2003).length : Int)) then
             (x2003[(e_1.parent).toNat]?).bind fun e_11 =>
             bif decide (0 ≤ i4) && decide (i4 < ((x2003).length : Int)) then
              (x2003[(i4).toNat]?).bind fun e_12 =>
              quiverref1_TypeMay.l0 bar k n (IntKind.i64.wrap (i4 + 1)) t1 ((x2003).set ((i4).toNat) (IntKind.i64.wrap (e_11 + 1)))
             else
              none
            else
             none
          else
           none
         else
          some false
      else
       some false
     else
      bif (e_1.kind == 4) then
       bif decide (((r_3).length : Int) < 1) then
        some false
       else
        bif (i4 == 0) then
         quiverref1_TypeMay.l0 bar k n (IntKind.i64.wrap (i4 + 1)) t1 x2003
        else
         (quiverref1_upTo.f bar k e_1.parent 0 (IntKind.i64.wrap (i4 - 1))).bind fun r_13 =>
         bif (!(!r_13)) then
          bif decide (0 ≤ e_1.parent) && decide (e_1.parent < ((x2003).length : Int)) then
           (x2003[(e_1.parent).toNat]?).bind fun e_14 =>
           bif decide (e_14 ≥ 4) then
            some false
           else
            bif decide (0 ≤ e_1.parent) && decide (e_1.parent < ((x2003).length : Int)) then
             (x2003[(e_1.parent).toNat]?).bind fun e_15 =>
             bif decide (0 ≤ i4) && decide (i4 < ((x2003).length : Int)) then
              (x2003[(i4).toNat]?).bind fun e_16 =>
              quiverref1_TypeMay.l0 bar k n (IntKind.i64.wrap (i4 + 1)) t1 ((x2003).set ((i4).toNat) (IntKind.i64.wrap (e_15 + 1)))
             else
              none
            else
             none
          else
           none
         else
          some false
      else
       bif (i4 == 0) then
        quiverref1_TypeMay.l0 bar k n (IntKind.i64.wrap (i4 + 1)) t1 x2003
       else
        (quiverref1_upTo.f bar k e_1.parent 0 (IntKind.i64.wrap (i4 - 1))).bind fun r_17 =>
        bif (!(!r_17)) then
         bif decide (0 ≤ e_1.parent) && decide (e_1.parent < ((x2003).length : Int)) then
          (x2003[(e_1.parent).toNat]?).bind fun e_18 =>
          bif decide (e_18 ≥ 4) then
           some false
          else
           bif decide (0 ≤ e_1.parent) && decide (e_1.parent < ((x2003).length : Int)) then
            (x2003[(e_1.parent).toNat]?).bind fun e_19 =>
            bif decide (0 ≤ i4) && decide (i4 < ((x2003).length : Int)) then
             (x2003[(i4).toNat]?).bind fun e_20 =>
             quiverref1_TypeMay.l0 bar k n (IntKind.i64.wrap (i4 + 1)) t1 ((x2003).set ((i4).toNat) (IntKind.i64.wrap (e_19 + 1)))
            else
             none
           else
            none
         else
          none
        else
         some false
    else
     some false
   else
    bif (e_1.kind == 3) then
     bif (!(((r_3).length : Int) != 1)) then
      bif (e_1.kind == 4) then
       bif decide (((r_3).length : Int) < 1) then
        some false
       else
        bif (i4 == 0) then
         quiverref1_TypeMay.l0 bar k n (IntKind.i64.wrap (i4 + 1)) t1 x2003
        else
         (quiverref1_upTo.f bar k e_1.parent 0 (IntKind.i64.wrap (i4 - 1))).bind fun r_21 =>
         bif (!(!r_21)) then
          bif decide (0 ≤ e_1.parent) && decide (e_1.parent < ((x2003).length : Int)) then
           (x2003[(e_1.parent).toNat]?).bind fun e_22 =>
           bif decide (e_22 ≥ 4) then
            some false
           else
            bif decide (0 ≤ e_1.parent) && decide (e_1.parent < ((x2003).length : Int)) then
             (x2003[(e_1.parent).toNat]?).bind fun e_23 =>
             bif decide (0 ≤ i4) && decide (i4 < ((x2003).length : Int)) then
              (x2003[(i4).toNat]?).bind fun e_24 =>
              quiverref1_TypeMay.l0 bar k n (IntKind.i64.wrap (i4 + 1)) t1 ((x2003).set ((i4).toNat) (IntKind.i64.wrap (e_23 + 1)))
             else
              none
            else
             none
          else
           none
         else
          some false
      else
       bif (i4 == 0) then
        quiverref1_TypeMay.l0 bar k n (IntKind.i64.wrap (i4 + 1)) t1 x2003
       else
        (quiverref1_upTo.f bar k e_1.parent 0 (IntKind.i64.wrap (i4 - 1))).bind fun r_25 =>
        bif (!(!r_25)) then
         bif decide (0 ≤ e_1.parent) && decide (e_1.parent < ((x2003).length : Int)) then
          (x2003[(e_1.parent).toNat]?).bind fun e_26 =>
          bif decide (e_26 ≥ 4) then
           some false
          else
           bif decide (0 ≤ e_1.parent) && decide (e_1.parent < ((x2003).length : Int)) then
            (x2003[(e_1.parent).toNat]?).bind fun e_27 =>
            bif decide (0 ≤ i4) && decide (i4 < ((x2003).length : Int)) then
             (x2003[(i4).toNat]?).bind fun e_28 =>
             quiverref1_TypeMay.l0 bar k n (IntKind.i64.wrap (i4 + 1)) t1 ((x2003).set ((i4).toNat) (IntKind.i64.wrap (e_27 + 1)))
            else
             none
           else
            none
         else
          none
        else
         some false
     else
      some false
    else
     bif (e_1.kind == 4) then
      bif decide (((r_3).length : Int) < 1) then
       some false
      else
       bif (i4 == 0) then
        quiverref1_TypeMay.l0 bar k n (IntKind.i64.wrap (i4 + 1)) t1 x2003
       else
        (quiverref1_upTo.f bar k e_1.parent 0 (IntKind.i64.wrap (i4 - 1))).bind fun r_29 =>
        bif (!(!r_29)) then
         bif decide (0 ≤ e_1.parent) && decide (e_1.parent < ((x2003).length : Int)) then
          (x2003[(e_1.parent).toNat]?).bind fun e_30 =>
          bif decide (e_30 ≥ 4) then
           some false
          else
           bif decide (0 ≤ e_1.parent) && decide (e_1.parent < ((x2003).length : Int)) then
            (x2003[(e_1.parent).toNat]?).bind fun e_31 =>
            bif decide (0 ≤ i4) && decide (i4 < ((x2003).length : Int)) then
             (x2003[(i4).toNat]?).bind fun e_32 =>
             quiverref1_TypeMay.l0 bar k n (IntKind.i64.wrap (i4 + 1)) t1 ((x2003).set ((i4).toNat) (IntKind.i64.wrap (e_31 + 1)))
            else
             none
           else
            none
         else
          none
        else
         some false
     else
      bif (i4 == 0) then
       quiverref1_TypeMay.l0 bar k n (IntKind.i64.wrap (i4 + 1)) t1 x2003
      else
       (quiverref1_upTo.f bar k e_1.parent 0 (IntKind.i64.wrap (i4 - 1))).bind fun r_33 =>
       bif (!(!r_33)) then
        bif decide (0 ≤ e_1.parent) && decide (e_1.parent < ((x2003).length : Int)) then
         (x2003[(e_1.parent).toNat]?).bind fun e_34 =>
         bif decide (e_34 ≥ 4) then
          some false
         else
          bif decide (0 ≤ e_1.parent) && decide (e_1.parent < ((x2003).length : Int)) then
           (x2003[(e_1.parent).toNat]?).bind fun e_35 =>
           bif decide (0 ≤ i4) && decide (i4 < ((x2003).length : Int)) then
            (x2003[(i4).toNat]?).bind fun e_36 =>
            quiverref1_TypeMay.l0 bar k n (IntKind.i64.wrap (i4 + 1)) t1 ((x2003).set ((i4).toNat) (IntKind.i64.wrap (e_35 + 1)))
           else
            none
          else
           none
        else
         none
       else
        some false
 else
  some true := by kernel_rfl

end Go.Proofs.YtppmpfddcohkjaaA
