/- Each function and each loop of the program answers as its equation says; no condition. -/
import Derived.Test.YtgedegmcbkligaaFns
namespace Go.Proofs.YtgedegmcbkligaaA
open Go
set_option linter.unusedVariables false
theorem quiverlaw0_CopyType.f_eq (bar : Bar) (k : Nat) (a0 : List Nod) : quiverlaw0_CopyType.f bar (k + 1) a0 =
 bif decide (((([] : List Nod)).length + (a0).length) * 24 ≤ 140737488355328) then
  some (([] : List Nod) ++ a0)
 else
  none := by kernel_rfl
theorem schema_Put.f_eq (bar : Bar) (k : Nat) (a0 : List Nod) : schema_Put.f bar (k + 1) a0 =
 (types_May.f bar k a0).bind fun r_1 =>
 bif (!r_1) then
  some (([] : List UInt8), 600)
 else
  schema_Put.l0 bar k k a0 ((a0).length : Int) 0 ([IntKind.u8.wrap ((a0).length : Int)] : List Int) := by kernel_rfl
theorem schema_Put.l0_eq (bar : Bar) (k : Nat) (n : Nat) (x17 : List Nod) (x18 : Int) (x19 : Int) (out4 : List Int) : schema_Put.l0 bar k (n + 1) x17 x18 x19 out4 =
 bif decide (x19 < x18) then
  (rd x17 x19).bind fun e_1 =>
  bif e_1.null then
   bar _ (schema_Put.j10 bar k n 1 x17 x18 x19 out4 e_1.kind e_1.parent e_1.null)
  else
   bar _ (schema_Put.j10 bar k n 0 x17 x18 x19 out4 e_1.kind e_1.parent e_1.null)
 else
  some (strOfBytes out4, 0) := by kernel_rfl
theorem schema_Put.j10_eq (bar : Bar) (k : Nat) (m1 : Nat) (null7 : Int) (x17 : List Nod) (x18 : Int) (x19 : Int) (out4 : List Int) (n_6 : Int) (n_6_1 : Int) (n_6_2 : Bool) : schema_Put.j10 bar k m1 null7 x17 x18 x19 out4 n_6 n_6_1 n_6_2 =
 bif decide (((out4).length + (([IntKind.u8.wrap n_6, IntKind.u8.wrap (IntKind.i64.wrap (n_6_1 + 1)), null7] : List Int)).length) * 1 ≤ 140737488355328) then
  schema_Put.l0 bar k m1 x17 x18 (IntKind.i64.wrap (x19 + 1)) (out4 ++ ([IntKind.u8.wrap n_6, IntKind.u8.wrap (IntKind.i64.wrap (n_6_1 + 1)), null7] : List Int))
 else
  none := by kernel_rfl
theorem quiverref1_PutSchema.f_eq (bar : Bar) (k : Nat) (a0 : List Nod) : quiverref1_PutSchema.f bar (k + 1) a0 =
 (quiverref1_TypeMay.f bar k a0).bind fun r_1 =>
 bif (!r_1) then
  some (([] : List UInt8), 600)
 else
  quiverref1_PutSchema.l0 bar k k 0 a0 ([IntKind.u8.wrap ((a0).length : Int)] : List Int) := by kernel_rfl
theorem quiverref1_PutSchema.l0_eq (bar : Bar) (k : Nat) (n : Nat) (i5 : Int) (t1 : List Nod) (b4 : List Int) : quiverref1_PutSchema.l0 bar k (n + 1) i5 t1 b4 =
 bif decide (i5 < ((t1).length : Int)) then
  (rd t1 i5).bind fun e_1 =>
  bif e_1.null then
   bar _ (quiverref1_PutSchema.j11 bar k n i5 1 t1 b4 e_1.kind e_1.parent e_1.null)
  else
   bar _ (quiverref1_PutSchema.j11 bar k n i5 0 t1 b4 e_1.kind e_1.parent e_1.null)
 else
  some (strOfBytes b4, 0) := by kernel_rfl
theorem quiverref1_PutSchema.j11_eq (bar : Bar) (k : Nat) (m1 : Nat) (i5 : Int) (null7 : Int) (t1 : List Nod) (b4 : List Int) (x6 : Int) (x6_1 : Int) (x6_2 : Bool) : quiverref1_PutSchema.j11 bar k m1 i5 null7 t1 b4 x6 x6_1 x6_2 =
 bif decide (((b4).length + (([IntKind.u8.wrap x6, IntKind.u8.wrap (IntKind.i64.wrap (x6_1 + 1)), null7] : List Int)).length) * 1 ≤ 140737488355328) then
  quiverref1_PutSchema.l0 bar k m1 (IntKind.i64.wrap (i5 + 1)) t1 (b4 ++ ([IntKind.u8.wrap x6, IntKind.u8.wrap (IntKind.i64.wrap (x6_1 + 1)), null7] : List Int))
 else
  none := by kernel_rfl
theorem schema_Get.f_eq (bar : Bar) (k : Nat) (a0 : List UInt8) : schema_Get.f bar (k + 1) a0 =
 schema_Get.l0 bar k k a0 1 ([] : List Nod) := by kernel_rfl
theorem schema_Get.l0_eq (bar : Bar) (k : Nat) (n : Nat) (s0 : List UInt8) (at_5 : Int) (out4 : List Nod) : schema_Get.l0 bar k (n + 1) s0 at_5 out4 =
 bif decide ((IntKind.i64.wrap (at_5 + 3)) ≤ ((s0).length : Int)) then
  bif decide (((out4).length : Int) ≤ 8) then
   (rd s0 at_5).bind fun b_1 =>
   (rd s0 (IntKind.i64.wrap (at_5 + 1))).bind fun b_2 =>
   (rd s0 (IntKind.i64.wrap (at_5 + 2))).bind fun b_3 =>
   bif decide (((out4).length + (([(Nod.mk (IntKind.i64.wrap (b_1.toNat : Int)) (IntKind.i64.wrap ((IntKind.i64.wrap (b_2.toNat : Int)) - 1)) ((b_3.toNat : Int) == 1))] : List Nod)).length) * 24 ≤ 140737488355328) then
    schema_Get.l0 bar k n s0 (IntKind.i64.wrap (at_5 + 3)) (out4 ++ ([(Nod.mk (IntKind.i64.wrap (b_1.toNat : Int)) (IntKind.i64.wrap ((IntKind.i64.wrap (b_2.toNat : Int)) - 1)) ((b_3.toNat : Int) == 1))] : List Nod))
   else
    none
  else
   (schema_Put.f bar k out4).bind fun r_4 =>
   bif (!(r_4.2 != 0)) then
    bif (r_4.1 != s0) then
     some (([] : List Nod), 600)
    else
     some (out4, 0)
   else
    some (([] : List Nod), 600)
 else
  (schema_Put.f bar k out4).bind fun r_5 =>
  bif (!(r_5.2 != 0)) then
   bif (r_5.1 != s0) then
    some (([] : List Nod), 600)
   else
    some (out4, 0)
  else
   some (([] : List Nod), 600) := by kernel_rfl
theorem quiverref1_GetSchema.f_eq (bar : Bar) (k : Nat) (a0 : List UInt8) : quiverref1_GetSchema.f bar (k + 1) a0 =
 bif (!(a0 == ([] : List UInt8))) then
  (rd a0 0).bind fun b_1 =>
  bif (((a0).length : Int) != (IntKind.i64.wrap (1 + (IntKind.i64.wrap (3 * (IntKind.i64.wrap (b_1.toNat : Int))))))) then
   some (([] : List Nod), 600)
  else
   quiverref1_GetSchema.l0 bar k k a0 1 ([] : List Nod)
 else
  some (([] : List Nod), 600) := by kernel_rfl
theorem quiverref1_GetSchema.l0_eq (bar : Bar) (k : Nat) (n : Nat) (s0 : List UInt8) (i5 : Int) (t4 : List Nod) : quiverref1_GetSchema.l0 bar k (n + 1) s0 i5 t4 =
 bif decide (i5 < ((s0).length : Int)) then
  (rd s0 i5).bind fun b_1 =>
  (rd s0 (IntKind.i64.wrap (i5 + 1))).bind fun b_2 =>
  (rd s0 (IntKind.i64.wrap (i5 + 2))).bind fun b_3 =>
  bif decide (((t4).length + (([(Nod.mk (IntKind.i64.wrap (b_1.toNat : Int)) (IntKind.i64.wrap ((IntKind.i64.wrap (b_2.toNat : Int)) - 1)) ((b_3.toNat : Int) == 1))] : List Nod)).length) * 24 ≤ 140737488355328) then
   quiverref1_GetSchema.l0 bar k n s0 (IntKind.i64.wrap (i5 + 3)) (t4 ++ ([(Nod.mk (IntKind.i64.wrap (b_1.toNat : Int)) (IntKind.i64.wrap ((IntKind.i64.wrap (b_2.toNat : Int)) - 1)) ((b_3.toNat : Int) == 1))] : List Nod))
  else
   none
 else
  (quiverref1_PutSchema.f bar k t4).bind fun r_4 =>
  bif (!(r_4.2 != 0)) then
   bif (r_4.1 != s0) then
    some (([] : List Nod), 600)
   else
    some (t4, 0)
  else
   some (([] : List Nod), 600) := by kernel_rfl
theorem quiverlaw0_SameType.f_eq (bar : Bar) (k : Nat) (a0 : List Nod) (a1 : List Nod) : quiverlaw0_SameType.f bar (k + 1) a0 a1 =
 (quiverlaw0_SameNodes.f bar k a0 a1).bind fun r_1 =>
 some r_1 := by kernel_rfl
theorem quiverlaw0_SpoilType.f_eq (bar : Bar) (k : Nat) (a0 : List Nod) : quiverlaw0_SpoilType.f bar (k + 1) a0 =
 (quiverlaw0_SpoilNodes.f bar k a0).bind fun r_1 =>
 some () := by kernel_rfl
theorem quiverlaw6_awake.f_eq (bar : Bar) (k : Nat) : quiverlaw6_awake.f bar (k + 1) =
 (schema_Put.f bar k ([(Nod.mk 3 (-1) false), (Nod.mk 1 0 true)] : List Nod)).bind fun r_1 =>
 (schema_Get.f bar k r_1.1).bind fun r_2 =>
 (schema_Put.f bar k ([] : List Nod)).bind fun r_3 =>
 (schema_Get.f bar k ([] : List UInt8)).bind fun r_4 =>
 bif (r_1.1 == ([2, 3, 0, 0, 1, 1, 1] : List UInt8)) then
  (quiverlaw0_Num.f bar k r_1.2).bind fun r_5 =>
  bif (r_5 == 0) then
   (quiverlaw0_SameType.f bar k ([(Nod.mk 3 (-1) false), (Nod.mk 1 0 true)] : List Nod) r_2.1).bind fun r_6 =>
   bif r_6 then
    (quiverlaw0_Num.f bar k r_2.2).bind fun r_7 =>
    bif (r_7 == 0) then
     (quiverlaw0_Num.f bar k r_3.2).bind fun r_8 =>
     bif (r_8 == 600) then
      (quiverlaw0_Num.f bar k r_4.2).bind fun r_9 =>
      some (r_9 == 600)
     else
      some false
    else
     some false
   else
    some false
  else
   some false
 else
  some false := by kernel_rfl
theorem types_Kids.f_eq (bar : Bar) (k : Nat) (a0 : List Nod) (a1 : Int) : types_Kids.f bar (k + 1) a0 a1 =
 (types_Node.f bar k a0 a1).bind fun r_1 =>
 bif (!r_1) then
  some (([] : List Int), 500)
 else
  (types_kids.f bar k a0 a1).bind fun r_2 =>
  some (r_2, 0) := by kernel_rfl
theorem quiverref1_Kids.f_eq (bar : Bar) (k : Nat) (a0 : List Nod) (a1 : Int) : quiverref1_Kids.f bar (k + 1) a0 a1 =
 (quiverref1_NodeMay.f bar k a0 a1).bind fun r_1 =>
 bif (!r_1) then
  some (([] : List Int), 500)
 else
  (quiverref1_kids.f bar k a0 a1).bind fun r_2 =>
  some (r_2, 0) := by kernel_rfl
theorem types_Leaves.f_eq (bar : Bar) (k : Nat) (a0 : List Nod) : types_Leaves.f bar (k + 1) a0 =
 (types_May.f bar k a0).bind fun r_1 =>
 bif (!r_1) then
  some (([] : List Int), 500)
 else
  types_Leaves.l0 bar k k a0 ((a0).length : Int) 0 ([] : List Int) := by kernel_rfl
theorem types_Leaves.l0_eq (bar : Bar) (k : Nat) (n : Nat) (x11 : List Nod) (x12 : Int) (x13 : Int) (out4 : List Int) : types_Leaves.l0 bar k (n + 1) x11 x12 x13 out4 =
 bif decide (x13 < x12) then
  (rd x11 x13).bind fun e_1 =>
  (types_Inner.f bar k e_1.kind).bind fun r_2 =>
  bif (!r_2) then
   bif decide (((out4).length + (([x13] : List Int)).length) * 8 ≤ 140737488355328) then
    types_Leaves.l0 bar k n x11 x12 (IntKind.i64.wrap (x13 + 1)) (out4 ++ ([x13] : List Int))
   else
    none
  else
   types_Leaves.l0 bar k n x11 x12 (IntKind.i64.wrap (x13 + 1)) out4
 else
  some (out4, 0) := by kernel_rfl
theorem quiverref1_Leaves.f_eq (bar : Bar) (k : Nat) (a0 : List Nod) : quiverref1_Leaves.f bar (k + 1) a0 =
 (quiverref1_TypeMay.f bar k a0).bind fun r_1 =>
 bif (!r_1) then
  some (([] : List Int), 500)
 else
  quiverref1_Leaves.l0 bar k k 0 a0 ([] : List Int) := by kernel_rfl
theorem quiverref1_Leaves.l0_eq (bar : Bar) (k : Nat) (n : Nat) (i5 : Int) (t1 : List Nod) (out4 : List Int) : quiverref1_Leaves.l0 bar k (n + 1) i5 t1 out4 =
 bif decide (i5 < ((t1).length : Int)) then
  (rd t1 i5).bind fun e_1 =>
  (quiverref1_IsLeaf.f bar k e_1.kind).bind fun r_2 =>
  bif r_2 then
   bif decide (((out4).length + (([i5] : List Int)).length) * 8 ≤ 140737488355328) then
    quiverref1_Leaves.l0 bar k n (IntKind.i64.wrap (i5 + 1)) t1 (out4 ++ ([i5] : List Int))
   else
    none
  else
   quiverref1_Leaves.l0 bar k n (IntKind.i64.wrap (i5 + 1)) t1 out4
 else
  some (out4, 0) := by kernel_rfl
theorem types_Levels.f_eq (bar : Bar) (k : Nat) (a0 : List Nod) (a1 : Int) : types_Levels.f bar (k + 1) a0 a1 =
 (types_Node.f bar k a0 a1).bind fun r_1 =>
 bif (!r_1) then
  some (0, 0, 500)
 else
  (types_way.f bar k a0 a1).bind fun r_2 =>
  types_Levels.l0 bar k k 0 0 ((r_2).length : Int) 0 a0 r_2 := by kernel_rfl
theorem types_Levels.l0_eq (bar : Bar) (k : Nat) (n : Nat) (rep7 : Int) (def_8 : Int) (x17 : Int) (x18 : Int) (t2 : List Nod) (x16 : List Int) : types_Levels.l0 bar k (n + 1) rep7 def_8 x17 x18 t2 x16 =
 bif decide (x18 < x17) then
  bif decide (0 ≤ x18) && decide (x18 < ((x16).length : Int)) then
   (x16[(x18).toNat]?).bind fun e_1 =>
   (rd t2 e_1).bind fun e_2 =>
   bif (e_2.kind == 3) then
    (rd t2 e_1).bind fun e_3 =>
    bif e_3.null then
     types_Levels.l0 bar k n (IntKind.i64.wrap (rep7 + 1)) (IntKind.i64.wrap ((IntKind.i64.wrap (def_8 + 1)) + 1)) x17 (IntKind.i64.wrap (x18 + 1)) t2 x16
    else
     types_Levels.l0 bar k n (IntKind.i64.wrap (rep7 + 1)) (IntKind.i64.wrap (def_8 + 1)) x17 (IntKind.i64.wrap (x18 + 1)) t2 x16
   else
    (rd t2 e_1).bind fun e_4 =>
    bif e_4.null then
     types_Levels.l0 bar k n rep7 (IntKind.i64.wrap (def_8 + 1)) x17 (IntKind.i64.wrap (x18 + 1)) t2 x16
    else
     types_Levels.l0 bar k n rep7 def_8 x17 (IntKind.i64.wrap (x18 + 1)) t2 x16
  else
   none
 else
  some (rep7, def_8, 0) := by kernel_rfl
theorem quiverref1_Levels.f_eq (bar : Bar) (k : Nat) (a0 : List Nod) (a1 : Int) : quiverref1_Levels.f bar (k + 1) a0 a1 =
 (quiverref1_NodeMay.f bar k a0 a1).bind fun r_1 =>
 bif (!r_1) then
  some (0, 0, 500)
 else
  quiverref1_Levels.l0 bar k k a1 0 0 a0 := by kernel_rfl
theorem quiverref1_Levels.l0_eq (bar : Bar) (k : Nat) (n : Nat) (at_1 : Int) (rep7 : Int) (def_8 : Int) (t2 : List Nod) : quiverref1_Levels.l0 bar k (n + 1) at_1 rep7 def_8 t2 =
 bif decide (at_1 ≥ 0) then
  (rd t2 at_1).bind fun e_1 =>
  bif (e_1.kind == 3) then
   bar _ (quiverref1_Levels.j8 bar k n at_1 (IntKind.i64.wrap (rep7 + 1)) (IntKind.i64.wrap (def_8 + 1)) t2)
  else
   bar _ (quiverref1_Levels.j8 bar k n at_1 rep7 def_8 t2)
 else
  some (rep7, def_8, 0) := by kernel_rfl
theorem quiverref1_Levels.j8_eq (bar : Bar) (k : Nat) (m1 : Nat) (at_1 : Int) (rep7 : Int) (def_8 : Int) (t2 : List Nod) : quiverref1_Levels.j8 bar k m1 at_1 rep7 def_8 t2 =
 (rd t2 at_1).bind fun e_1 =>
 bif e_1.null then
  (rd t2 at_1).bind fun e_2 =>
  quiverref1_Levels.l0 bar k m1 e_2.parent rep7 (IntKind.i64.wrap (def_8 + 1)) t2
 else
  (rd t2 at_1).bind fun e_3 =>
  quiverref1_Levels.l0 bar k m1 e_3.parent rep7 def_8 t2 := by kernel_rfl
theorem quiverlaw0_SameInts.f_eq (bar : Bar) (k : Nat) (a0 : List Int) (a1 : List Int) : quiverlaw0_SameInts.f bar (k + 1) a0 a1 =
 bif (((a0).length : Int) != ((a1).length : Int)) then
  some false
 else
  quiverlaw0_SameInts.l0 bar k k a0 a1 0 := by kernel_rfl
theorem quiverlaw0_SameInts.l0_eq (bar : Bar) (k : Nat) (n : Nat) (a0 : List Int) (b1 : List Int) (i5 : Int) : quiverlaw0_SameInts.l0 bar k (n + 1) a0 b1 i5 =
 bif decide (i5 < ((a0).length : Int)) then
  (rd a0 i5).bind fun e_1 =>
  (rd b1 i5).bind fun e_2 =>
  bif (e_1 != e_2) then
   some false
  else
   quiverlaw0_SameInts.l0 bar k n a0 b1 (IntKind.i64.wrap (i5 + 1))
 else
  some true := by kernel_rfl
theorem types_May.f_eq (bar : Bar) (k : Nat) (a0 : List Nod) : types_May.f bar (k + 1) a0 =
 bif (!(((a0).length : Int) == 0)) then
  bif decide (((a0).length : Int) > 8) then
   some false
  else
   types_May.l0 bar k k a0 ((a0).length : Int) 0
 else
  some false := by kernel_rfl
theorem types_May.l0_eq (bar : Bar) (k : Nat) (n : Nat) (x19 : List Nod) (x20 : Int) (x21 : Int) : types_May.l0 bar k (n + 1) x19 x20 x21 =
 bif decide (x21 < x20) then
  (rd x19 x21).bind fun e_1 =>
  bif (!(decide (e_1.kind < 0))) then
   bif (!(decide (e_1.kind > 4))) then
    (types_stands.f bar k x19 x21).bind fun r_2 =>
    bif (!r_2) then
     some false
    else
     types_May.l0 bar k n x19 x20 (IntKind.i64.wrap (x21 + 1))
   else
    some false
  else
   some false
 else
  types_May.l2 bar k k x19 ((x19).length : Int) 0 := by kernel_rfl
theorem types_May.l2_eq (bar : Bar) (k : Nat) (n : Nat) (x41 : List Nod) (x42 : Int) (x43 : Int) : types_May.l2 bar k (n + 1) x41 x42 x43 =
 bif decide (x43 < x42) then
  (rd x41 x43).bind fun e_1 =>
  (types_kids.f bar k x41 x43).bind fun r_2 =>
  bif (e_1.kind == 3) then
   bif (!(((r_2).length : Int) != 1)) then
    bif (e_1.kind == 4) then
     bif (!(((r_2).length : Int) == 0)) then
      (types_way.f bar k x41 x43).bind fun r_3 =>
      bif decide (((r_3).length : Int) > 5) then
       some false
      else
       types_May.l2 bar k n x41 x42 (IntKind.i64.wrap (x43 + 1))
     else
      some false
    else
     (types_way.f bar k x41 x43).bind fun r_4 =>
     bif decide (((r_4).length : Int) > 5) then
      some false
     else
      types_May.l2 bar k n x41 x42 (IntKind.i64.wrap (x43 + 1))
   else
    some false
  else
   bif (e_1.kind == 4) then
    bif (!(((r_2).length : Int) == 0)) then
     (types_way.f bar k x41 x43).bind fun r_5 =>
     bif decide (((r_5).length : Int) > 5) then
      some false
     else
      types_May.l2 bar k n x41 x42 (IntKind.i64.wrap (x43 + 1))
    else
     some false
   else
    (types_way.f bar k x41 x43).bind fun r_6 =>
    bif decide (((r_6).length : Int) > 5) then
     some false
    else
     types_May.l2 bar k n x41 x42 (IntKind.i64.wrap (x43 + 1))
 else
  some true := by kernel_rfl
theorem quiverref1_TypeMay.f_eq (bar : Bar) (k : Nat) (a0 : List Nod) : quiverref1_TypeMay.f bar (k + 1) a0 =
 bif (!(decide (((a0).length : Int) < 1))) then
  bif (!(decide (((a0).length : Int) > 8))) then
   (rd a0 0).bind fun e_1 =>
   bif (e_1.parent != (-1)) then
    some false
   else
    bif (((a0).length : Int) == ((a0).length : Int)) && (decide (0 ≤ ((a0).length : Int)) && decide (((a0).length : Int) * 8 ≤ 140737488355328)) then
     quiverref1_TypeMay.l0 bar k k 0 a0 (List.replicate (((a0).length : Int)).toNat (0 : Int) : List Int)
    else
     none
  else
   some false
 else
  some false := by kernel_rfl
theorem quiverref1_TypeMay.l0_eq (bar : Bar) (k : Nat) (n : Nat) (i4 : Int) (t1 : List Nod) (deep3 : List Int) : quiverref1_TypeMay.l0 bar k (n + 1) i4 t1 deep3 =
 bif decide (i4 < ((t1).length : Int)) then
  (rd t1 i4).bind fun e_1 =>
  (quiverref1_upTo.f bar k e_1.kind 0 4).bind fun r_2 =>
  bif (!r_2) then
   some false
  else
   (quiverref1_kids.f bar k t1 i4).bind fun r_3 =>
   (quiverref1_IsLeaf.f bar k e_1.kind).bind fun r_4 =>
   bif r_4 then
    bif (!(decide (((r_3).length : Int) > 0))) then
     bif (e_1.kind == 3) then
      bif (!(((r_3).length : Int) != 1)) then
       bif (e_1.kind == 4) then
        bif decide (((r_3).length : Int) < 1) then
         some false
        else
         bif (i4 == 0) then
          quiverref1_TypeMay.l0 bar k n (IntKind.i64.wrap (i4 + 1)) t1 deep3
         else
          (quiverref1_upTo.f bar k e_1.parent 0 (IntKind.i64.wrap (i4 - 1))).bind fun r_5 =>
          bif (!(!r_5)) then
           bif decide (0 ≤ e_1.parent) && decide (e_1.parent < ((deep3).length : Int)) then
            (deep3[(e_1.parent).toNat]?).bind fun e_6 =>
            bif decide (e_6 ≥ 4) then
             some false
            else
             bif decide (0 ≤ e_1.parent) && decide (e_1.parent < ((deep3).length : Int)) then
              (deep3[(e_1.parent).toNat]?).bind fun e_7 =>
              bif decide (0 ≤ i4) && decide (i4 < ((deep3).length : Int)) then
               (deep3[(i4).toNat]?).bind fun e_8 =>
               quiverref1_TypeMay.l0 bar k n (IntKind.i64.wrap (i4 + 1)) t1 ((deep3).set ((i4).toNat) (IntKind.i64.wrap (e_7 + 1)))
              else
               none
             else
              none
           else
            none
          else
           some false
       else
        bif (i4 == 0) then
         quiverref1_TypeMay.l0 bar k n (IntKind.i64.wrap (i4 + 1)) t1 deep3
        else
         (quiverref1_upTo.f bar k e_1.parent 0 (IntKind.i64.wrap (i4 - 1))).bind fun r_9 =>
         bif (!(!r_9)) then
          bif decide (0 ≤ e_1.parent) && decide (e_1.parent < ((deep3).length : Int)) then
           (deep3[(e_1.parent).toNat]?).bind fun e_10 =>
           bif decide (e_10 ≥ 4) then
            some false
           else
            bif decide (0 ≤ e_1.parent) && decide (e_1.parent < ((deep3).length : Int)) then
             (deep3[(e_1.parent).toNat]?).bind fun e_11 =>
             bif decide (0 ≤ i4) && decide (i4 < ((deep3).length : Int)) then
              (deep3[(i4).toNat]?).bind fun e_12 =>
              quiverref1_TypeMay.l0 bar k n (IntKind.i64.wrap (i4 + 1)) t1 ((deep3).set ((i4).toNat) (IntKind.i64.wrap (e_11 + 1)))
             else
              none
            else
             none
          else
           none
         else
          some false
      else
       some false
     else
      bif (e_1.kind == 4) then
       bif decide (((r_3).length : Int) < 1) then
        some false
       else
        bif (i4 == 0) then
         quiverref1_TypeMay.l0 bar k n (IntKind.i64.wrap (i4 + 1)) t1 deep3
        else
         (quiverref1_upTo.f bar k e_1.parent 0 (IntKind.i64.wrap (i4 - 1))).bind fun r_13 =>
         bif (!(!r_13)) then
          bif decide (0 ≤ e_1.parent) && decide (e_1.parent < ((deep3).length : Int)) then
           (deep3[(e_1.parent).toNat]?).bind fun e_14 =>
           bif decide (e_14 ≥ 4) then
            some false
           else
            bif decide (0 ≤ e_1.parent) && decide (e_1.parent < ((deep3).length : Int)) then
             (deep3[(e_1.parent).toNat]?).bind fun e_15 =>
             bif decide (0 ≤ i4) && decide (i4 < ((deep3).length : Int)) then
              (deep3[(i4).toNat]?).bind fun e_16 =>
              quiverref1_TypeMay.l0 bar k n (IntKind.i64.wrap (i4 + 1)) t1 ((deep3).set ((i4).toNat) (IntKind.i64.wrap (e_15 + 1)))
             else
              none
            else
             none
          else
           none
         else
          some false
      else
       bif (i4 == 0) then
        quiverref1_TypeMay.l0 bar k n (IntKind.i64.wrap (i4 + 1)) t1 deep3
       else
        (quiverref1_upTo.f bar k e_1.parent 0 (IntKind.i64.wrap (i4 - 1))).bind fun r_17 =>
        bif (!(!r_17)) then
         bif decide (0 ≤ e_1.parent) && decide (e_1.parent < ((deep3).length : Int)) then
          (deep3[(e_1.parent).toNat]?).bind fun e_18 =>
          bif decide (e_18 ≥ 4) then
           some false
          else
           bif decide (0 ≤ e_1.parent) && decide (e_1.parent < ((deep3).length : Int)) then
            (deep3[(e_1.parent).toNat]?).bind fun e_19 =>
            bif decide (0 ≤ i4) && decide (i4 < ((deep3).length : Int)) then
             (deep3[(i4).toNat]?).bind fun e_20 =>
             quiverref1_TypeMay.l0 bar k n (IntKind.i64.wrap (i4 + 1)) t1 ((deep3).set ((i4).toNat) (IntKind.i64.wrap (e_19 + 1)))
            else
             none
           else
            none
         else
          none
        else
         some false
    else
     some false
   else
    bif (e_1.kind == 3) then
     bif (!(((r_3).length : Int) != 1)) then
      bif (e_1.kind == 4) then
       bif decide (((r_3).length : Int) < 1) then
        some false
       else
        bif (i4 == 0) then
         quiverref1_TypeMay.l0 bar k n (IntKind.i64.wrap (i4 + 1)) t1 deep3
        else
         (quiverref1_upTo.f bar k e_1.parent 0 (IntKind.i64.wrap (i4 - 1))).bind fun r_21 =>
         bif (!(!r_21)) then
          bif decide (0 ≤ e_1.parent) && decide (e_1.parent < ((deep3).length : Int)) then
           (deep3[(e_1.parent).toNat]?).bind fun e_22 =>
           bif decide (e_22 ≥ 4) then
            some false
           else
            bif decide (0 ≤ e_1.parent) && decide (e_1.parent < ((deep3).length : Int)) then
             (deep3[(e_1.parent).toNat]?).bind fun e_23 =>
             bif decide (0 ≤ i4) && decide (i4 < ((deep3).length : Int)) then
              (deep3[(i4).toNat]?).bind fun e_24 =>
              quiverref1_TypeMay.l0 bar k n (IntKind.i64.wrap (i4 + 1)) t1 ((deep3).set ((i4).toNat) (IntKind.i64.wrap (e_23 + 1)))
             else
              none
            else
             none
          else
           none
         else
          some false
      else
       bif (i4 == 0) then
        quiverref1_TypeMay.l0 bar k n (IntKind.i64.wrap (i4 + 1)) t1 deep3
       else
        (quiverref1_upTo.f bar k e_1.parent 0 (IntKind.i64.wrap (i4 - 1))).bind fun r_25 =>
        bif (!(!r_25)) then
         bif decide (0 ≤ e_1.parent) && decide (e_1.parent < ((deep3).length : Int)) then
          (deep3[(e_1.parent).toNat]?).bind fun e_26 =>
          bif decide (e_26 ≥ 4) then
           some false
          else
           bif decide (0 ≤ e_1.parent) && decide (e_1.parent < ((deep3).length : Int)) then
            (deep3[(e_1.parent).toNat]?).bind fun e_27 =>
            bif decide (0 ≤ i4) && decide (i4 < ((deep3).length : Int)) then
             (deep3[(i4).toNat]?).bind fun e_28 =>
             quiverref1_TypeMay.l0 bar k n (IntKind.i64.wrap (i4 + 1)) t1 ((deep3).set ((i4).toNat) (IntKind.i64.wrap (e_27 + 1)))
            else
             none
           else
            none
         else
          none
        else
         some false
     else
      some false
    else
     bif (e_1.kind == 4) then
      bif decide (((r_3).length : Int) < 1) then
       some false
      else
       bif (i4 == 0) then
        quiverref1_TypeMay.l0 bar k n (IntKind.i64.wrap (i4 + 1)) t1 deep3
       else
        (quiverref1_upTo.f bar k e_1.parent 0 (IntKind.i64.wrap (i4 - 1))).bind fun r_29 =>
        bif (!(!r_29)) then
         bif decide (0 ≤ e_1.parent) && decide (e_1.parent < ((deep3).length : Int)) then
          (deep3[(e_1.parent).toNat]?).bind fun e_30 =>
          bif decide (e_30 ≥ 4) then
           some false
          else
           bif decide (0 ≤ e_1.parent) && decide (e_1.parent < ((deep3).length : Int)) then
            (deep3[(e_1.parent).toNat]?).bind fun e_31 =>
            bif decide (0 ≤ i4) && decide (i4 < ((deep3).length : Int)) then
             (deep3[(i4).toNat]?).bind fun e_32 =>
             quiverref1_TypeMay.l0 bar k n (IntKind.i64.wrap (i4 + 1)) t1 ((deep3).set ((i4).toNat) (IntKind.i64.wrap (e_31 + 1)))
            else
             none
           else
            none
         else
          none
        else
         some false
     else
      bif (i4 == 0) then
       quiverref1_TypeMay.l0 bar k n (IntKind.i64.wrap (i4 + 1)) t1 deep3
      else
       (quiverref1_upTo.f bar k e_1.parent 0 (IntKind.i64.wrap (i4 - 1))).bind fun r_33 =>
       bif (!(!r_33)) then
        bif decide (0 ≤ e_1.parent) && decide (e_1.parent < ((deep3).length : Int)) then
         (deep3[(e_1.parent).toNat]?).bind fun e_34 =>
         bif decide (e_34 ≥ 4) then
          some false
         else
          bif decide (0 ≤ e_1.parent) && decide (e_1.parent < ((deep3).length : Int)) then
           (deep3[(e_1.parent).toNat]?).bind fun e_35 =>
           bif decide (0 ≤ i4) && decide (i4 < ((deep3).length : Int)) then
            (deep3[(i4).toNat]?).bind fun e_36 =>
            quiverref1_TypeMay.l0 bar k n (IntKind.i64.wrap (i4 + 1)) t1 ((deep3).set ((i4).toNat) (IntKind.i64.wrap (e_35 + 1)))
           else
            none
          else
           none
        else
         none
       else
        some false
 else
  some true := by kernel_rfl
theorem quiverlaw0_SpoilInts.f_eq (bar : Bar) (k : Nat) (a0 : List Int) : quiverlaw0_SpoilInts.f bar (k + 1) a0 =
 quiverlaw0_SpoilInts.l0 bar k k 0 a0 := by kernel_rfl
theorem quiverlaw0_SpoilInts.l0_eq (bar : Bar) (k : Nat) (n : Nat) (i2 : Int) (a0 : List Int) : quiverlaw0_SpoilInts.l0 bar k (n + 1) i2 a0 =
 bif decide (i2 < ((a0).length : Int)) then
  bif decide (0 ≤ i2) && decide (i2 < ((a0).length : Int)) then
   (a0[(i2).toNat]?).bind fun e_1 =>
   bif decide (0 ≤ i2) && decide (i2 < ((a0).length : Int)) then
    (a0[(i2).toNat]?).bind fun e_2 =>
    quiverlaw0_SpoilInts.l0 bar k n (IntKind.i64.wrap (i2 + 1)) ((a0).set ((i2).toNat) (IntKind.i64.wrap ((-9) - e_1)))
   else
    none
  else
   none
 else
  some () := by kernel_rfl
theorem quiverlaw5_awake.f_eq (bar : Bar) (k : Nat) : quiverlaw5_awake.f bar (k + 1) =
 (types_Kids.f bar k ([(Nod.mk 4 (-1) false), (Nod.mk 3 0 true), (Nod.mk 0 1 true), (Nod.mk 2 0 false)] : List Nod) 0).bind fun r_1 =>
 (types_Leaves.f bar k ([(Nod.mk 4 (-1) false), (Nod.mk 3 0 true), (Nod.mk 0 1 true), (Nod.mk 2 0 false)] : List Nod)).bind fun r_2 =>
 (types_Levels.f bar k ([(Nod.mk 4 (-1) false), (Nod.mk 3 0 true), (Nod.mk 0 1 true), (Nod.mk 2 0 false)] : List Nod) 2).bind fun r_3 =>
 (types_Kids.f bar k ([(Nod.mk 4 (-1) false), (Nod.mk 3 0 true), (Nod.mk 0 1 true), (Nod.mk 2 0 false)] : List Nod) 4).bind fun r_4 =>
 (types_Leaves.f bar k ([] : List Nod)).bind fun r_5 =>
 (types_May.f bar k ([(Nod.mk 4 (-1) false), (Nod.mk 3 0 true), (Nod.mk 0 1 true), (Nod.mk 2 0 false)] : List Nod)).bind fun r_6 =>
 bif r_6 then
  (types_May.f bar k ([] : List Nod)).bind fun r_7 =>
  bif (!r_7) then
   (quiverlaw0_SameInts.f bar k r_1.1 ([1, 3] : List Int)).bind fun r_8 =>
   bif r_8 then
    (quiverlaw0_Num.f bar k r_1.2).bind fun r_9 =>
    bif (r_9 == 0) then
     (quiverlaw0_SameInts.f bar k r_2.1 ([2, 3] : List Int)).bind fun r_10 =>
     bif r_10 then
      (quiverlaw0_Num.f bar k r_2.2).bind fun r_11 =>
      bif (r_11 == 0) then
       bif (r_3.1 == 1) then
        bif (r_3.2.1 == 3) then
         (quiverlaw0_Num.f bar k r_3.2.2).bind fun r_12 =>
         bif (r_12 == 0) then
          (quiverlaw0_Num.f bar k r_4.2).bind fun r_13 =>
          bif (r_13 == 500) then
           (quiverlaw0_Num.f bar k r_5.2).bind fun r_14 =>
           some (r_14 == 500)
          else
           some false
         else
          some false
        else
         some false
       else
        some false
      else
       some false
     else
      some false
    else
     some false
   else
    some false
  else
   some false
 else
  some false := by kernel_rfl
theorem pad_May.f_eq (bar : Bar) (k : Nat) (a0 : Int) : pad_May.f bar (k + 1) a0 =
 bif decide (a0 ≥ 0) then
  some (decide (a0 ≤ 2147483647))
 else
  some false := by kernel_rfl
theorem num_Word.f_eq (bar : Bar) (k : Nat) (a0 : Int) (a1 : Int) : num_Word.f bar (k + 1) a0 a1 =
 bif (a1 == a1) && (decide (0 ≤ a1) && decide (a1 * 1 ≤ 140737488355328)) then
  num_Word.l0 bar k k a0 (((List.replicate (a1).toNat (0 : Int) : List Int)).length : Int) 0 (List.replicate (a1).toNat (0 : Int) : List Int)
 else
  none := by kernel_rfl
theorem num_Word.l0_eq (bar : Bar) (k : Nat) (n : Nat) (x0 : Int) (x10 : Int) (x11 : Int) (out5 : List Int) : num_Word.l0 bar k (n + 1) x0 x10 x11 out5 =
 bif decide (x11 < x10) then
  bif decide (IntKind.i64.wrap (8 * x11) < 0) then
   none
  else
   bif decide (0 ≤ x11) && decide (x11 < ((out5).length : Int)) then
    (out5[(x11).toNat]?).bind fun e_1 =>
    num_Word.l0 bar k n x0 x10 (IntKind.i64.wrap (x11 + 1)) ((out5).set ((x11).toNat) (IntKind.u8.wrap (Int.fdiv x0 (2 ^ (min (IntKind.i64.wrap (8 * x11)).toNat IntKind.i64.bits)))))
   else
    none
 else
  some (strOfBytes out5) := by kernel_rfl
theorem quiverref1_in.f_eq (bar : Bar) (k : Nat) (a0 : Int) : quiverref1_in.f bar (k + 1) a0 =
 (quiverref1_upTo.f bar k a0 0 2147483647).bind fun r_1 =>
 some r_1 := by kernel_rfl
theorem quiverref1_Low.f_eq (bar : Bar) (k : Nat) (a0 : Int) (a1 : Int) : quiverref1_Low.f bar (k + 1) a0 a1 =
 bif (a1 == a1) && (decide (0 ≤ a1) && decide (a1 * 1 ≤ 140737488355328)) then
  quiverref1_Low.l0 bar k k a0 a1 0 (List.replicate (a1).toNat (0 : Int) : List Int)
 else
  none := by kernel_rfl
theorem quiverref1_Low.l0_eq (bar : Bar) (k : Nat) (n : Nat) (x0 : Int) (size1 : Int) (i6 : Int) (b5 : List Int) : quiverref1_Low.l0 bar k (n + 1) x0 size1 i6 b5 =
 bif decide (i6 < size1) then
  bif decide (IntKind.i64.wrap (8 * i6) < 0) then
   none
  else
   bif decide (0 ≤ i6) && decide (i6 < ((b5).length : Int)) then
    (b5[(i6).toNat]?).bind fun e_1 =>
    quiverref1_Low.l0 bar k n x0 size1 (IntKind.i64.wrap (i6 + 1)) ((b5).set ((i6).toNat) (IntKind.u8.wrap (Int.fdiv x0 (2 ^ (min (IntKind.i64.wrap (8 * i6)).toNat IntKind.i64.bits)))))
   else
    none
 else
  some (strOfBytes b5) := by kernel_rfl
theorem num_Of.f_eq (bar : Bar) (k : Nat) (a0 : List UInt8) : num_Of.f bar (k + 1) a0 =
 num_Of.l0 bar k k a0 0 ((a0).length : Int) 0 := by kernel_rfl
theorem num_Of.l0_eq (bar : Bar) (k : Nat) (n : Nat) (s0 : List UInt8) (out3 : Int) (x6 : Int) (x7 : Int) : num_Of.l0 bar k (n + 1) s0 out3 x6 x7 =
 bif decide (x7 < x6) then
  (rd s0 x7).bind fun b_1 =>
  bif decide (IntKind.i64.wrap (8 * x7) < 0) then
   none
  else
   num_Of.l0 bar k n s0 (bitsOp .or .u64 out3 (IntKind.u64.wrap ((IntKind.u64.wrap (b_1.toNat : Int)) * 2 ^ (min (IntKind.i64.wrap (8 * x7)).toNat IntKind.u64.bits)))) x6 (IntKind.i64.wrap (x7 + 1))
 else
  some (IntKind.i64.wrap out3) := by kernel_rfl
theorem quiverref1_Num.f_eq (bar : Bar) (k : Nat) (a0 : List UInt8) : quiverref1_Num.f bar (k + 1) a0 =
 quiverref1_Num.l0 bar k k a0 0 (IntKind.i64.wrap (((a0).length : Int) - 1)) := by kernel_rfl
theorem quiverref1_Num.l0_eq (bar : Bar) (k : Nat) (n : Nat) (s0 : List UInt8) (x3 : Int) (i4 : Int) : quiverref1_Num.l0 bar k (n + 1) s0 x3 i4 =
 bif decide (i4 ≥ 0) then
  (rd s0 i4).bind fun b_1 =>
  quiverref1_Num.l0 bar k n s0 (bitsOp .or .u64 (IntKind.u64.wrap (x3 * 2 ^ (min 8 IntKind.u64.bits))) (IntKind.u64.wrap (b_1.toNat : Int))) (IntKind.i64.wrap (i4 - 1))
 else
  some (IntKind.i64.wrap x3) := by kernel_rfl
theorem quiverlaw0_SameNodes.f_eq (bar : Bar) (k : Nat) (a0 : List Nod) (a1 : List Nod) : quiverlaw0_SameNodes.f bar (k + 1) a0 a1 =
 bif (((a0).length : Int) != ((a1).length : Int)) then
  some false
 else
  quiverlaw0_SameNodes.l0 bar k k a0 a1 0 := by kernel_rfl
theorem quiverlaw0_SameNodes.l0_eq (bar : Bar) (k : Nat) (n : Nat) (a0 : List Nod) (b1 : List Nod) (i5 : Int) : quiverlaw0_SameNodes.l0 bar k (n + 1) a0 b1 i5 =
 bif decide (i5 < ((a0).length : Int)) then
  (rd a0 i5).bind fun e_1 =>
  (rd b1 i5).bind fun e_2 =>
  bif (!((e_1.kind == e_2.kind) && ((e_1.parent == e_2.parent) && ((e_1.null == e_2.null) && true)))) then
   some false
  else
   quiverlaw0_SameNodes.l0 bar k n a0 b1 (IntKind.i64.wrap (i5 + 1))
 else
  some true := by kernel_rfl
theorem quiverlaw0_SpoilNodes.f_eq (bar : Bar) (k : Nat) (a0 : List Nod) : quiverlaw0_SpoilNodes.f bar (k + 1) a0 =
 quiverlaw0_SpoilNodes.l0 bar k k 0 a0 := by kernel_rfl
theorem quiverlaw0_SpoilNodes.l0_eq (bar : Bar) (k : Nat) (n : Nat) (i2 : Int) (a0 : List Nod) : quiverlaw0_SpoilNodes.l0 bar k (n + 1) i2 a0 =
 bif decide (i2 < ((a0).length : Int)) then
  bif decide (0 ≤ i2) && decide (i2 < ((a0).length : Int)) then
   (a0[(i2).toNat]?).bind fun e_1 =>
   bif decide (0 ≤ i2) && decide (i2 < ((a0).length : Int)) then
    (a0[(i2).toNat]?).bind fun e_2 =>
    quiverlaw0_SpoilNodes.l0 bar k n (IntKind.i64.wrap (i2 + 1)) ((a0).set ((i2).toNat) (Nod.mk (bitsOp .xor .i64 e_1.kind 90) e_2.parent e_2.null))
   else
    none
  else
   none
 else
  some () := by kernel_rfl
theorem types_Node.f_eq (bar : Bar) (k : Nat) (a0 : List Nod) (a1 : Int) : types_Node.f bar (k + 1) a0 a1 =
 (types_May.f bar k a0).bind fun r_1 =>
 bif r_1 then
  bif decide (a1 ≥ 0) then
   some (decide (a1 < ((a0).length : Int)))
  else
   some false
 else
  some false := by kernel_rfl
theorem types_kids.f_eq (bar : Bar) (k : Nat) (a0 : List Nod) (a1 : Int) : types_kids.f bar (k + 1) a0 a1 =
 types_kids.l0 bar k k a1 a0 ((a0).length : Int) 0 ([] : List Int) := by kernel_rfl
theorem types_kids.l0_eq (bar : Bar) (k : Nat) (n : Nat) (at_1 : Int) (x11 : List Nod) (x12 : Int) (x13 : Int) (out5 : List Int) : types_kids.l0 bar k (n + 1) at_1 x11 x12 x13 out5 =
 bif decide (x13 < x12) then
  (rd x11 x13).bind fun e_1 =>
  bif decide (x13 > 0) then
   bif (e_1.parent == at_1) then
    bif decide (((out5).length + (([x13] : List Int)).length) * 8 ≤ 140737488355328) then
     types_kids.l0 bar k n at_1 x11 x12 (IntKind.i64.wrap (x13 + 1)) (out5 ++ ([x13] : List Int))
    else
     none
   else
    types_kids.l0 bar k n at_1 x11 x12 (IntKind.i64.wrap (x13 + 1)) out5
  else
   types_kids.l0 bar k n at_1 x11 x12 (IntKind.i64.wrap (x13 + 1)) out5
 else
  some out5 := by kernel_rfl
theorem quiverref1_NodeMay.f_eq (bar : Bar) (k : Nat) (a0 : List Nod) (a1 : Int) : quiverref1_NodeMay.f bar (k + 1) a0 a1 =
 (quiverref1_TypeMay.f bar k a0).bind fun r_1 =>
 bif r_1 then
  bif decide (a1 ≥ 0) then
   some (decide (a1 < ((a0).length : Int)))
  else
   some false
 else
  some false := by kernel_rfl
theorem quiverref1_kids.f_eq (bar : Bar) (k : Nat) (a0 : List Nod) (a1 : Int) : quiverref1_kids.f bar (k + 1) a0 a1 =
 quiverref1_kids.l0 bar k k a1 1 a0 ([] : List Int) := by kernel_rfl
theorem quiverref1_kids.l0_eq (bar : Bar) (k : Nat) (n : Nat) (at_1 : Int) (i6 : Int) (t2 : List Nod) (out5 : List Int) : quiverref1_kids.l0 bar k (n + 1) at_1 i6 t2 out5 =
 bif decide (i6 < ((t2).length : Int)) then
  (rd t2 i6).bind fun e_1 =>
  bif (e_1.parent == at_1) then
   bif decide (((out5).length + (([i6] : List Int)).length) * 8 ≤ 140737488355328) then
    quiverref1_kids.l0 bar k n at_1 (IntKind.i64.wrap (i6 + 1)) t2 (out5 ++ ([i6] : List Int))
   else
    none
  else
   quiverref1_kids.l0 bar k n at_1 (IntKind.i64.wrap (i6 + 1)) t2 out5
 else
  some out5 := by kernel_rfl
theorem types_Inner.f_eq (bar : Bar) (k : Nat) (a0 : Int) : types_Inner.f bar (k + 1) a0 =
 bif (!(a0 == 3)) then
  some (a0 == 4)
 else
  some true := by kernel_rfl
theorem quiverref1_IsLeaf.f_eq (bar : Bar) (k : Nat) (a0 : Int) : quiverref1_IsLeaf.f bar (k + 1) a0 =
 bif (a0 != 3) then
  some (a0 != 4)
 else
  some false := by kernel_rfl
theorem types_way.f_eq (bar : Bar) (k : Nat) (a0 : List Nod) (a1 : Int) : types_way.f bar (k + 1) a0 a1 =
 types_way.l0 bar k k a0 a1 ([] : List Int) := by kernel_rfl
theorem types_way.l0_eq (bar : Bar) (k : Nat) (n : Nat) (t0 : List Nod) (at_1 : Int) (out5 : List Int) : types_way.l0 bar k (n + 1) t0 at_1 out5 =
 bif decide (at_1 ≥ 0) then
  bif decide (((out5).length + (([at_1] : List Int)).length) * 8 ≤ 140737488355328) then
   (rd t0 at_1).bind fun e_1 =>
   types_way.l0 bar k n t0 e_1.parent (out5 ++ ([at_1] : List Int))
  else
   none
 else
  some out5 := by kernel_rfl
theorem types_stands.f_eq (bar : Bar) (k : Nat) (a0 : List Nod) (a1 : Int) : types_stands.f bar (k + 1) a0 a1 =
 (rd a0 a1).bind fun e_1 =>
 bif (a1 == 0) then
  some (e_1.parent == (-1))
 else
  bif decide (e_1.parent ≥ 0) then
   bif decide (e_1.parent < a1) then
    (rd a0 e_1.parent).bind fun e_2 =>
    (types_Inner.f bar k e_2.kind).bind fun r_3 =>
    some r_3
   else
    some false
  else
   some false := by kernel_rfl
theorem quiverref1_upTo.f_eq (bar : Bar) (k : Nat) (a0 : Int) (a1 : Int) (a2 : Int) : quiverref1_upTo.f bar (k + 1) a0 a1 a2 =
 bif decide (a0 ≥ a1) then
  some (decide (a0 ≤ a2))
 else
  some false := by kernel_rfl

end Go.Proofs.YtgedegmcbkligaaA
