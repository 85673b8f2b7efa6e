/- The functions and loops of the program, as the machine answers them, under names of their own: definitions alone. -/
import Derived.Test.YtgedegmcbkligaaEnv
namespace Go.Proofs.YtgedegmcbkligaaA
open Go
set_option linter.unusedVariables false

/-- quiver/quiverlaw3.Nums -/
noncomputable def quiverlaw3_Nums.f (bar : Bar) (k : Nat) (a0 : Int) (a1 : Int) (a2 : List UInt8) (a3 : Int) : Option Bool := lvl (E bar) k 3 [.v (.int .i64 a0), .v (.int .i64 a1), .v (.str a2), .v (.int .i64 a3)]
/-- quiver/quiverlaw3.NumBack -/
noncomputable def quiverlaw3_NumBack.f (bar : Bar) (k : Nat) (a0 : Int) (a1 : List UInt8) : Option Bool := lvl (E bar) k 4 [.v (.int .i64 a0), .v (.str a1)]
/-- quiver/quiverlaw3.NumForms -/
noncomputable def quiverlaw3_NumForms.f (bar : Bar) (k : Nat) (a0 : Int) (a1 : Int) : Option Bool := lvl (E bar) k 5 [.v (.int .i64 a0), .v (.int .i64 a1)]
/-- quiver/quiverlaw3.NumRow -/
noncomputable def quiverlaw3_NumRow.f (bar : Bar) (k : Nat) (a0 : List Int) : Option Bool := lvl (E bar) k 6 [.v (.L (.int .i64) a0)]
noncomputable def quiverlaw3_NumRow.l0 (bar : Bar) (k : Nat) (n : Nat) (xs0 : List Int) (s3 : List UInt8) (i4 : Int) : Option Bool := loopAt (E bar) k fi6 sg6 [.r, .r, .r, .l, .r] n ⟨[(0, (.L (.int .i64) xs0)), (3, (.str s3)), (4, (.int .i64 i4))], []⟩
noncomputable def quiverlaw3_NumRow.l2 (bar : Bar) (k : Nat) (n : Nat) (xs0 : List Int) (s3 : List UInt8) (at_7 : Int) (i8 : Int) : Option Bool := loopAt (E bar) k fi6 sg6 [.r, .r, .r, .r, .r, .l, .r] n ⟨[(0, (.L (.int .i64) xs0)), (3, (.str s3)), (7, (.int .i64 at_7)), (8, (.int .i64 i8))], []⟩
/-- quiver/quiverlaw3.NumUnlike -/
noncomputable def quiverlaw3_NumUnlike.f (bar : Bar) (k : Nat) (a0 : Int) (a1 : Int) : Option Bool := lvl (E bar) k 7 [.v (.int .i64 a0), .v (.int .i64 a1)]
/-- quiver/quiverlaw6.Schemas -/
noncomputable def quiverlaw6_Schemas.f (bar : Bar) (k : Nat) (a0 : List Nod) (a1 : List UInt8) : Option Bool := lvl (E bar) k 8 [.v (.agg [(.L .node a0)]), .v (.str a1)]
/-- quiver/quiverlaw6.SchemaBack -/
noncomputable def quiverlaw6_SchemaBack.f (bar : Bar) (k : Nat) (a0 : List Nod) (a1 : List UInt8) : Option Bool := lvl (E bar) k 9 [.v (.agg [(.L .node a0)]), .v (.str a1)]
noncomputable def quiverlaw6_SchemaBack.j8 (bar : Bar) (k : Nat) (s1 : List UInt8) : Option Bool := cutAt (E bar) k fi9 sg9 [.r, .r, .r, .r] ⟨[(1, (.str s1))], []⟩
/-- quiver/quiverlaw6.SchemaForms -/
noncomputable def quiverlaw6_SchemaForms.f (bar : Bar) (k : Nat) (a0 : Int) (a1 : Int) : Option Bool := lvl (E bar) k 10 [.v (.int .i64 a0), .v (.int .i64 a1)]
/-- quiver/quiverlaw6.SchemaUnlike -/
noncomputable def quiverlaw6_SchemaUnlike.f (bar : Bar) (k : Nat) (a0 : List Nod) (a1 : Int) : Option Bool := lvl (E bar) k 11 [.v (.agg [(.L .node a0)]), .v (.int .i64 a1)]
/-- quiver/quiverlaw6.SchemaCut -/
noncomputable def quiverlaw6_SchemaCut.f (bar : Bar) (k : Nat) (a0 : List Nod) (a1 : Int) (a2 : List UInt8) : Option Bool := lvl (E bar) k 12 [.v (.agg [(.L .node a0)]), .v (.int .i64 a1), .v (.str a2)]
/-- quiver/quiverlaw5.Types -/
noncomputable def quiverlaw5_Types.f (bar : Bar) (k : Nat) (a0 : List Nod) (a1 : Int) : Option Bool := lvl (E bar) k 13 [.v (.agg [(.L .node a0)]), .v (.int .i64 a1)]
/-- quiver/quiverlaw5.TypesLevels -/
noncomputable def quiverlaw5_TypesLevels.f (bar : Bar) (k : Nat) (a0 : List Nod) : Option Bool := lvl (E bar) k 14 [.v (.agg [(.L .node a0)])]
noncomputable def quiverlaw5_TypesLevels.l0 (bar : Bar) (k : Nat) (n : Nat) (i6 : Int) (t1 : List Nod) : Option Bool := loopAt (E bar) k fi14 sg14 [.r, .r, .r, .l, .r] n ⟨[(1, (.ref 1 0)), (6, (.int .i64 i6))], [(1, ⟨true, [.av (.L .node t1)]⟩)]⟩
noncomputable def quiverlaw5_TypesLevels.j14 (bar : Bar) (k : Nat) (m1 : Nat) (i6 : Int) (x7 : Int) (y8 : Int) (e9 : Int) (rep10 : Int) (def_11 : Int) (f12 : Int) (t1 : List Nod) : Option Bool := cutAt (E bar) k fi14 sg14 [.r, .r, .r, .l, .r, .lp m1, .r, .l, .b, .r, .r, .r, .r] ⟨[(1, (.ref 1 0)), (6, (.int .i64 i6)), (7, (.int .i64 x7)), (8, (.int .i64 y8)), (9, (.int .i64 e9)), (10, (.int .i64 rep10)), (11, (.int .i64 def_11)), (12, (.int .i64 f12))], [(1, ⟨true, [.av (.L .node t1)]⟩)]⟩
noncomputable def quiverlaw5_TypesLevels.j17 (bar : Bar) (k : Nat) (m1 : Nat) (i6 : Int) (x7 : Int) (y8 : Int) (e9 : Int) (rep10 : Int) (def_11 : Int) (f12 : Int) (t1 : List Nod) : Option Bool := cutAt (E bar) k fi14 sg14 [.r, .r, .r, .l, .r, .lp m1, .r, .l, .b, .r, .r, .r, .r, .r] ⟨[(1, (.ref 1 0)), (6, (.int .i64 i6)), (7, (.int .i64 x7)), (8, (.int .i64 y8)), (9, (.int .i64 e9)), (10, (.int .i64 rep10)), (11, (.int .i64 def_11)), (12, (.int .i64 f12))], [(1, ⟨true, [.av (.L .node t1)]⟩)]⟩
noncomputable def quiverlaw5_TypesLevels.j19 (bar : Bar) (k : Nat) (m1 : Nat) (i6 : Int) (x7 : Int) (y8 : Int) (e9 : Int) (rep10 : Int) (def_11 : Int) (f12 : Int) (t1 : List Nod) : Option Bool := cutAt (E bar) k fi14 sg14 [.r, .r, .r, .l, .r, .lp m1, .r, .l, .b, .r, .r, .r, .r, .r, .r] ⟨[(1, (.ref 1 0)), (6, (.int .i64 i6)), (7, (.int .i64 x7)), (8, (.int .i64 y8)), (9, (.int .i64 e9)), (10, (.int .i64 rep10)), (11, (.int .i64 def_11)), (12, (.int .i64 f12))], [(1, ⟨true, [.av (.L .node t1)]⟩)]⟩
/-- quiver/quiverlaw5.TypesForms -/
noncomputable def quiverlaw5_TypesForms.f (bar : Bar) (k : Nat) (a0 : Int) (a1 : Int) : Option Bool := lvl (E bar) k 15 [.v (.int .i64 a0), .v (.int .i64 a1)]
noncomputable def quiverlaw5_TypesForms.j37 (bar : Bar) (k : Nat) (d5 : Int) (g6 : List Nod) (b7 : List Nod) : Option Bool := cutAt (E bar) k fi15 sg15 [.r, .r, .r, .r, .r, .r] ⟨[(5, (.int .i64 d5)), (6, (.ref 6 0)), (7, (.ref 7 0))], [(6, ⟨true, [.sl .node true g6]⟩), (7, ⟨true, [.sl .node false b7]⟩)]⟩
noncomputable def quiverlaw5_TypesForms.l1 (bar : Bar) (k : Nat) (n : Nat) (d5 : Int) (i8 : Int) (g6 : List Nod) (b7 : List Nod) : Option Bool := loopAt (E bar) k fi15 sg15 [.r, .r, .r, .r, .r, .l, .r, .b, .r, .e, .r, .e, .r, .e, .r, .e, .r, .e, .r, .e, .r, .e, .r, .e, .r, .e, .r, .e, .r, .e, .r, .e, .r, .t, .r] n ⟨[(5, (.int .i64 d5)), (6, (.ref 6 0)), (7, (.ref 7 0)), (8, (.int .i64 i8))], [(6, ⟨true, [.sl .node true g6]⟩), (7, ⟨true, [.sl .node false b7]⟩)]⟩
/-- quiver/quiverlaw5.TypesDeep -/
noncomputable def quiverlaw5_TypesDeep.f (bar : Bar) (k : Nat) (a0 : Int) (a1 : Bool) : Option Bool := lvl (E bar) k 16 [.v (.int .i64 a0), .v (.bool a1)]
noncomputable def quiverlaw5_TypesDeep.l0 (bar : Bar) (k : Nat) (n : Nat) (null1 : Bool) (k_5 : Int) (i7 : Int) (t6 : List Nod) : Option Bool := loopAt (E bar) k fi16 sg16 [.r, .r, .r, .r, .l, .r] n ⟨[(1, (.bool null1)), (5, (.int .i64 k_5)), (6, (.ref 6 0)), (7, (.int .i64 i7))], [(6, ⟨true, [.sl .node false t6]⟩)]⟩
noncomputable def quiverlaw5_TypesDeep.j16 (bar : Bar) (k : Nat) (k_5 : Int) (rep8 : Int) (def_9 : Int) (e10 : Int) (want11 : Int) (t6 : List Nod) : Option Bool := cutAt (E bar) k fi16 sg16 [.r, .r, .r, .r, .r, .r, .r, .r, .r, .r] ⟨[(5, (.int .i64 k_5)), (6, (.ref 6 0)), (8, (.int .i64 rep8)), (9, (.int .i64 def_9)), (10, (.int .i64 e10)), (11, (.int .i64 want11))], [(6, ⟨true, [.sl .node false t6]⟩)]⟩
/-- quiver/quiverlaw5.TypesKids -/
noncomputable def quiverlaw5_TypesKids.f (bar : Bar) (k : Nat) (a0 : List Nod) : Option Bool := lvl (E bar) k 17 [.v (.agg [(.L .node a0)])]
noncomputable def quiverlaw5_TypesKids.l0 (bar : Bar) (k : Nat) (n : Nat) (e4 : Int) (leaves6 : Int) (i7 : Int) (t1 : List Nod) (ls3 : List Int) (seen5 : List Int) : Option Bool := loopAt (E bar) k fi17 sg17 [.r, .r, .r, .r, .r, .r, .l, .r] n ⟨[(5, (.al 5 0)), (3, (.al 3 0)), (1, (.ref 1 0)), (4, (.int .i64 e4)), (6, (.int .i64 leaves6)), (7, (.int .i64 i7))], [(1, ⟨true, [.av (.L .node t1)]⟩), (3, ⟨false, [.sl (.int .i64) false ls3]⟩), (5, ⟨false, [.sl (.int .i64) false seen5]⟩)]⟩
noncomputable def quiverlaw5_TypesKids.j18 (bar : Bar) (k : Nat) (m1 : Nat) (e4 : Int) (leaves6 : Int) (i7 : Int) (t1 : List Nod) (ls3 : List Int) (seen5 : List Int) (ks8 : List Int) : Option Bool := cutAt (E bar) k fi17 sg17 [.r, .r, .r, .r, .r, .r, .l, .r, .lp m1, .r, .l, .b, .r, .r, .r] ⟨[(8, (.al 8 0)), (5, (.al 5 0)), (3, (.al 3 0)), (1, (.ref 1 0)), (4, (.int .i64 e4)), (6, (.int .i64 leaves6)), (7, (.int .i64 i7))], [(1, ⟨true, [.av (.L .node t1)]⟩), (3, ⟨false, [.sl (.int .i64) false ls3]⟩), (5, ⟨false, [.sl (.int .i64) false seen5]⟩), (8, ⟨false, [.sl (.int .i64) false ks8]⟩)]⟩
noncomputable def quiverlaw5_TypesKids.l4 (bar : Bar) (k : Nat) (n : Nat) (e4 : Int) (leaves6 : Int) (i11 : Int) (ls3 : List Int) (seen5 : List Int) : Option Bool := loopAt (E bar) k fi17 sg17 [.r, .r, .r, .r, .r, .r, .r, .l, .r] n ⟨[(5, (.al 5 0)), (3, (.al 3 0)), (4, (.int .i64 e4)), (6, (.int .i64 leaves6)), (11, (.int .i64 i11))], [(3, ⟨false, [.sl (.int .i64) false ls3]⟩), (5, ⟨false, [.sl (.int .i64) false seen5]⟩)]⟩
noncomputable def quiverlaw5_TypesKids.l2 (bar : Bar) (k : Nat) (m1 : Nat) (n : Nat) (e4 : Int) (leaves6 : Int) (i7 : Int) (j10 : Int) (t1 : List Nod) (ls3 : List Int) (seen5 : List Int) (ks8 : List Int) : Option Bool := loopAt (E bar) k fi17 sg17 [.r, .r, .r, .r, .r, .r, .l, .r, .lp m1, .r, .l, .b, .r, .r, .r, .r] n ⟨[(8, (.al 8 0)), (5, (.al 5 0)), (3, (.al 3 0)), (1, (.ref 1 0)), (4, (.int .i64 e4)), (6, (.int .i64 leaves6)), (7, (.int .i64 i7)), (10, (.int .i64 j10))], [(1, ⟨true, [.av (.L .node t1)]⟩), (3, ⟨false, [.sl (.int .i64) false ls3]⟩), (5, ⟨false, [.sl (.int .i64) false seen5]⟩), (8, ⟨false, [.sl (.int .i64) false ks8]⟩)]⟩
/-- quiver/quiverlaw5.TypesSchema -/
noncomputable def quiverlaw5_TypesSchema.f (bar : Bar) (k : Nat) (a0 : List Nod) : Option Bool := lvl (E bar) k 18 [.v (.agg [(.L .node a0)])]
/-- quiver/num.Put -/
noncomputable def num_Put.f (bar : Bar) (k : Nat) (a0 : Int) (a1 : Int) : Option (List UInt8 × Int) := lvl (E bar) k 19 [.v (.int .i64 a0), .v (.int .i64 a1)]
/-- quiver/quiverref1.PutNum -/
noncomputable def quiverref1_PutNum.f (bar : Bar) (k : Nat) (a0 : Int) (a1 : Int) : Option (List UInt8 × Int) := lvl (E bar) k 20 [.v (.int .i64 a0), .v (.int .i64 a1)]
/-- quiver/num.Get -/
noncomputable def num_Get.f (bar : Bar) (k : Nat) (a0 : List UInt8) (a1 : Int) (a2 : Int) : Option (Int × Int) := lvl (E bar) k 21 [.v (.str a0), .v (.int .i64 a1), .v (.int .i64 a2)]
/-- quiver/quiverref1.GetNum -/
noncomputable def quiverref1_GetNum.f (bar : Bar) (k : Nat) (a0 : List UInt8) (a1 : Int) (a2 : Int) : Option (Int × Int) := lvl (E bar) k 22 [.v (.str a0), .v (.int .i64 a1), .v (.int .i64 a2)]
/-- quiver/num.PutVar -/
noncomputable def num_PutVar.f (bar : Bar) (k : Nat) (a0 : Int) : Option (List UInt8 × Int) := lvl (E bar) k 23 [.v (.int .i64 a0)]
noncomputable def num_PutVar.l0 (bar : Bar) (k : Nat) (n : Nat) (x0 : Int) (out4 : List Int) : Option (List UInt8 × Int) := loopAt (E bar) k fi23 sg23 [.r, .r, .r, .l] n ⟨[(4, (.al 4 0)), (0, (.int .i64 x0))], [(4, ⟨false, [.sl (.int .u8) false out4]⟩)]⟩
/-- quiver/quiverref1.PutVar -/
noncomputable def quiverref1_PutVar.f (bar : Bar) (k : Nat) (a0 : Int) : Option (List UInt8 × Int) := lvl (E bar) k 24 [.v (.int .i64 a0)]
noncomputable def quiverref1_PutVar.l0 (bar : Bar) (k : Nat) (n : Nat) (x0 : Int) (b4 : List Int) : Option (List UInt8 × Int) := loopAt (E bar) k fi24 sg24 [.r, .r, .r, .l] n ⟨[(4, (.al 4 0)), (0, (.int .i64 x0))], [(4, ⟨false, [.sl (.int .u8) false b4]⟩)]⟩
/-- quiver/num.GetVar -/
noncomputable def num_GetVar.f (bar : Bar) (k : Nat) (a0 : List UInt8) (a1 : Int) : Option (Int × Int × Int) := lvl (E bar) k 25 [.v (.str a0), .v (.int .i64 a1)]
noncomputable def num_GetVar.l0 (bar : Bar) (k : Nat) (n : Nat) (s0 : List UInt8) (at_1 : Int) (x7 : Int) (i8 : Int) : Option (Int × Int × Int) := loopAt (E bar) k fi25 sg25 [.r, .r, .r, .l, .r] n ⟨[(0, (.str s0)), (1, (.int .i64 at_1)), (7, (.int .i64 x7)), (8, (.int .i64 i8))], []⟩
/-- quiver/quiverref1.GetVar -/
noncomputable def quiverref1_GetVar.f (bar : Bar) (k : Nat) (a0 : List UInt8) (a1 : Int) : Option (Int × Int × Int) := lvl (E bar) k 26 [.v (.str a0), .v (.int .i64 a1)]
noncomputable def quiverref1_GetVar.l0 (bar : Bar) (k : Nat) (n : Nat) (s0 : List UInt8) (at_1 : Int) (x7 : Int) (i8 : Int) : Option (Int × Int × Int) := loopAt (E bar) k fi26 sg26 [.r, .r, .l, .r] n ⟨[(0, (.str s0)), (1, (.int .i64 at_1)), (7, (.int .i64 x7)), (8, (.int .i64 i8))], []⟩
/-- quiver/quiverlaw0.Num -/
noncomputable def quiverlaw0_Num.f (bar : Bar) (k : Nat) (a0 : Int) : Option Int := lvl (E bar) k 27 [.v (.int .i64 a0)]
/-- quiver/quiverlaw3.awake -/
noncomputable def quiverlaw3_awake.f (bar : Bar) (k : Nat) : Option Bool := lvl (E bar) k 28 []
/-- quiver/quiverlaw0.CopyType -/
noncomputable def quiverlaw0_CopyType.f (bar : Bar) (k : Nat) (a0 : List Nod) : Option (List Nod) := lvl (E bar) k 29 [.v (.agg [(.L .node a0)])]
/-- quiver/schema.Put -/
noncomputable def schema_Put.f (bar : Bar) (k : Nat) (a0 : List Nod) : Option (List UInt8 × Int) := lvl (E bar) k 30 [.v (.agg [(.L .node a0)])]
noncomputable def schema_Put.l0 (bar : Bar) (k : Nat) (n : Nat) (x17 : List Nod) (x18 : Int) (x19 : Int) (out4 : List Int) : Option (List UInt8 × Int) := loopAt (E bar) k fi30 sg30 [.r, .r, .r, .l, .r] n ⟨[(4, (.al 4 0)), (17, (.L .node x17)), (18, (.int .i64 x18)), (19, (.int .i64 x19))], [(4, ⟨false, [.sl (.int .u8) false out4]⟩)]⟩
noncomputable def schema_Put.j10 (bar : Bar) (k : Nat) (m1 : Nat) (null7 : Int) (x17 : List Nod) (x18 : Int) (x19 : Int) (out4 : List Int) (n_6 : Int) (n_6_1 : Int) (n_6_2 : Bool) : Option (List UInt8 × Int) := cutAt (E bar) k fi30 sg30 [.r, .r, .r, .l, .r, .lp m1, .r, .r, .l, .b, .r, .r, .r] ⟨[(4, (.al 4 0)), (6, (.ref 6 0)), (7, (.int .u8 null7)), (17, (.L .node x17)), (18, (.int .i64 x18)), (19, (.int .i64 x19))], [(4, ⟨false, [.sl (.int .u8) false out4]⟩), (6, ⟨true, [.av (.int .i64 n_6), .av (.int .i64 n_6_1), .av (.bool n_6_2)]⟩)]⟩
/-- quiver/quiverref1.PutSchema -/
noncomputable def quiverref1_PutSchema.f (bar : Bar) (k : Nat) (a0 : List Nod) : Option (List UInt8 × Int) := lvl (E bar) k 31 [.v (.agg [(.L .node a0)])]
noncomputable def quiverref1_PutSchema.l0 (bar : Bar) (k : Nat) (n : Nat) (i5 : Int) (t1 : List Nod) (b4 : List Int) : Option (List UInt8 × Int) := loopAt (E bar) k fi31 sg31 [.r, .r, .r, .l, .r] n ⟨[(4, (.al 4 0)), (1, (.ref 1 0)), (5, (.int .i64 i5))], [(1, ⟨true, [.av (.L .node t1)]⟩), (4, ⟨false, [.sl (.int .u8) false b4]⟩)]⟩
noncomputable def quiverref1_PutSchema.j11 (bar : Bar) (k : Nat) (m1 : Nat) (i5 : Int) (null7 : Int) (t1 : List Nod) (b4 : List Int) (x6 : Int) (x6_1 : Int) (x6_2 : Bool) : Option (List UInt8 × Int) := cutAt (E bar) k fi31 sg31 [.r, .r, .r, .l, .r, .lp m1, .r, .l, .b, .r, .r, .r] ⟨[(4, (.al 4 0)), (1, (.ref 1 0)), (5, (.int .i64 i5)), (6, (.ref 6 0)), (7, (.int .u8 null7))], [(1, ⟨true, [.av (.L .node t1)]⟩), (4, ⟨false, [.sl (.int .u8) false b4]⟩), (6, ⟨true, [.av (.int .i64 x6), .av (.int .i64 x6_1), .av (.bool x6_2)]⟩)]⟩
/-- quiver/schema.Get -/
noncomputable def schema_Get.f (bar : Bar) (k : Nat) (a0 : List UInt8) : Option (List Nod × Int) := lvl (E bar) k 32 [.v (.str a0)]
noncomputable def schema_Get.l0 (bar : Bar) (k : Nat) (n : Nat) (s0 : List UInt8) (at_5 : Int) (out4 : List Nod) : Option (List Nod × Int) := loopAt (E bar) k fi32 sg32 [.r, .r, .l, .r] n ⟨[(0, (.str s0)), (2, (.ref 2 0)), (4, (.ref 4 0)), (5, (.int .i64 at_5))], [(2, ⟨true, [.sl .node false ([] : List Nod)]⟩), (4, ⟨true, [.sl .node false out4]⟩)]⟩
/-- quiver/quiverref1.GetSchema -/
noncomputable def quiverref1_GetSchema.f (bar : Bar) (k : Nat) (a0 : List UInt8) : Option (List Nod × Int) := lvl (E bar) k 33 [.v (.str a0)]
noncomputable def quiverref1_GetSchema.l0 (bar : Bar) (k : Nat) (n : Nat) (s0 : List UInt8) (i5 : Int) (t4 : List Nod) : Option (List Nod × Int) := loopAt (E bar) k fi33 sg33 [.r, .r, .r, .l, .r] n ⟨[(0, (.str s0)), (2, (.ref 2 0)), (4, (.ref 4 0)), (5, (.int .i64 i5))], [(2, ⟨true, [.sl .node false ([] : List Nod)]⟩), (4, ⟨true, [.sl .node false t4]⟩)]⟩
/-- quiver/quiverlaw0.SameType -/
noncomputable def quiverlaw0_SameType.f (bar : Bar) (k : Nat) (a0 : List Nod) (a1 : List Nod) : Option Bool := lvl (E bar) k 34 [.v (.agg [(.L .node a0)]), .v (.agg [(.L .node a1)])]
/-- quiver/quiverlaw0.SpoilType -/
noncomputable def quiverlaw0_SpoilType.f (bar : Bar) (k : Nat) (a0 : List Nod) : Option Unit := lvl (E bar) k 35 [.g [.sl .node false a0]]
/-- quiver/quiverlaw6.awake -/
noncomputable def quiverlaw6_awake.f (bar : Bar) (k : Nat) : Option Bool := lvl (E bar) k 36 []
/-- quiver/types.Kids -/
noncomputable def types_Kids.f (bar : Bar) (k : Nat) (a0 : List Nod) (a1 : Int) : Option (List Int × Int) := lvl (E bar) k 37 [.v (.agg [(.L .node a0)]), .v (.int .i64 a1)]
/-- quiver/quiverref1.Kids -/
noncomputable def quiverref1_Kids.f (bar : Bar) (k : Nat) (a0 : List Nod) (a1 : Int) : Option (List Int × Int) := lvl (E bar) k 38 [.v (.agg [(.L .node a0)]), .v (.int .i64 a1)]
/-- quiver/types.Leaves -/
noncomputable def types_Leaves.f (bar : Bar) (k : Nat) (a0 : List Nod) : Option (List Int × Int) := lvl (E bar) k 39 [.v (.agg [(.L .node a0)])]
noncomputable def types_Leaves.l0 (bar : Bar) (k : Nat) (n : Nat) (x11 : List Nod) (x12 : Int) (x13 : Int) (out4 : List Int) : Option (List Int × Int) := loopAt (E bar) k fi39 sg39 [.r, .r, .r, .l, .r] n ⟨[(4, (.al 4 0)), (11, (.L .node x11)), (12, (.int .i64 x12)), (13, (.int .i64 x13))], [(4, ⟨false, [.sl (.int .i64) false out4]⟩)]⟩
/-- quiver/quiverref1.Leaves -/
noncomputable def quiverref1_Leaves.f (bar : Bar) (k : Nat) (a0 : List Nod) : Option (List Int × Int) := lvl (E bar) k 40 [.v (.agg [(.L .node a0)])]
noncomputable def quiverref1_Leaves.l0 (bar : Bar) (k : Nat) (n : Nat) (i5 : Int) (t1 : List Nod) (out4 : List Int) : Option (List Int × Int) := loopAt (E bar) k fi40 sg40 [.r, .r, .r, .l, .r] n ⟨[(4, (.al 4 0)), (1, (.ref 1 0)), (5, (.int .i64 i5))], [(1, ⟨true, [.av (.L .node t1)]⟩), (4, ⟨false, [.sl (.int .i64) false out4]⟩)]⟩
/-- quiver/types.Levels -/
noncomputable def types_Levels.f (bar : Bar) (k : Nat) (a0 : List Nod) (a1 : Int) : Option (Int × Int × Int) := lvl (E bar) k 41 [.v (.agg [(.L .node a0)]), .v (.int .i64 a1)]
noncomputable def types_Levels.l0 (bar : Bar) (k : Nat) (n : Nat) (rep7 : Int) (def_8 : Int) (x17 : Int) (x18 : Int) (t2 : List Nod) (x16 : List Int) : Option (Int × Int × Int) := loopAt (E bar) k fi41 sg41 [.r, .r, .r, .l, .r] n ⟨[(16, (.al 16 0)), (2, (.ref 2 0)), (7, (.int .i64 rep7)), (8, (.int .i64 def_8)), (17, (.int .i64 x17)), (18, (.int .i64 x18))], [(2, ⟨true, [.av (.L .node t2)]⟩), (16, ⟨false, [.sl (.int .i64) false x16]⟩)]⟩
/-- quiver/quiverref1.Levels -/
noncomputable def quiverref1_Levels.f (bar : Bar) (k : Nat) (a0 : List Nod) (a1 : Int) : Option (Int × Int × Int) := lvl (E bar) k 42 [.v (.agg [(.L .node a0)]), .v (.int .i64 a1)]
noncomputable def quiverref1_Levels.l0 (bar : Bar) (k : Nat) (n : Nat) (at_1 : Int) (rep7 : Int) (def_8 : Int) (t2 : List Nod) : Option (Int × Int × Int) := loopAt (E bar) k fi42 sg42 [.r, .r, .r, .l] n ⟨[(1, (.int .i64 at_1)), (2, (.ref 2 0)), (7, (.int .i64 rep7)), (8, (.int .i64 def_8))], [(2, ⟨true, [.av (.L .node t2)]⟩)]⟩
noncomputable def quiverref1_Levels.j8 (bar : Bar) (k : Nat) (m1 : Nat) (at_1 : Int) (rep7 : Int) (def_8 : Int) (t2 : List Nod) : Option (Int × Int × Int) := cutAt (E bar) k fi42 sg42 [.r, .r, .r, .l, .lp m1, .r, .b, .r] ⟨[(1, (.int .i64 at_1)), (2, (.ref 2 0)), (7, (.int .i64 rep7)), (8, (.int .i64 def_8))], [(2, ⟨true, [.av (.L .node t2)]⟩)]⟩
/-- quiver/quiverlaw0.SameInts -/
noncomputable def quiverlaw0_SameInts.f (bar : Bar) (k : Nat) (a0 : List Int) (a1 : List Int) : Option Bool := lvl (E bar) k 43 [.v (.L (.int .i64) a0), .v (.L (.int .i64) a1)]
noncomputable def quiverlaw0_SameInts.l0 (bar : Bar) (k : Nat) (n : Nat) (a0 : List Int) (b1 : List Int) (i5 : Int) : Option Bool := loopAt (E bar) k fi43 sg43 [.r, .r, .l, .r] n ⟨[(0, (.L (.int .i64) a0)), (1, (.L (.int .i64) b1)), (5, (.int .i64 i5))], []⟩
/-- quiver/types.May -/
noncomputable def types_May.f (bar : Bar) (k : Nat) (a0 : List Nod) : Option Bool := lvl (E bar) k 44 [.v (.agg [(.L .node a0)])]
noncomputable def types_May.l0 (bar : Bar) (k : Nat) (n : Nat) (x19 : List Nod) (x20 : Int) (x21 : Int) : Option Bool := loopAt (E bar) k fi44 sg44 [.r, .r, .l, .r] n ⟨[(1, (.ref 1 0)), (19, (.L .node x19)), (20, (.int .i64 x20)), (21, (.int .i64 x21))], [(1, ⟨true, [.av (.L .node x19)]⟩)]⟩
noncomputable def types_May.l2 (bar : Bar) (k : Nat) (n : Nat) (x41 : List Nod) (x42 : Int) (x43 : Int) : Option Bool := loopAt (E bar) k fi44 sg44 [.r, .r, .r, .l, .r] n ⟨[(1, (.ref 1 0)), (41, (.L .node x41)), (42, (.int .i64 x42)), (43, (.int .i64 x43))], [(1, ⟨true, [.av (.L .node x41)]⟩)]⟩
/-- quiver/quiverref1.TypeMay -/
noncomputable def quiverref1_TypeMay.f (bar : Bar) (k : Nat) (a0 : List Nod) : Option Bool := lvl (E bar) k 45 [.v (.agg [(.L .node a0)])]
noncomputable def quiverref1_TypeMay.l0 (bar : Bar) (k : Nat) (n : Nat) (i4 : Int) (t1 : List Nod) (deep3 : List Int) : Option Bool := loopAt (E bar) k fi45 sg45 [.r, .r, .r, .l, .r] n ⟨[(3, (.al 3 0)), (1, (.ref 1 0)), (4, (.int .i64 i4))], [(1, ⟨true, [.av (.L .node t1)]⟩), (3, ⟨false, [.sl (.int .i64) false deep3]⟩)]⟩
/-- quiver/quiverlaw0.SpoilInts -/
noncomputable def quiverlaw0_SpoilInts.f (bar : Bar) (k : Nat) (a0 : List Int) : Option Unit := lvl (E bar) k 46 [.o (.sl (.int .i64) false a0)]
noncomputable def quiverlaw0_SpoilInts.l0 (bar : Bar) (k : Nat) (n : Nat) (i2 : Int) (a0 : List Int) : Option Unit := loopAt (E bar) k fi46 sg46 [.r] n ⟨[(0, (.al 0 0)), (2, (.int .i64 i2))], [(0, ⟨false, [.sl (.int .i64) false a0]⟩)]⟩
/-- quiver/quiverlaw5.awake -/
noncomputable def quiverlaw5_awake.f (bar : Bar) (k : Nat) : Option Bool := lvl (E bar) k 47 []
/-- quiver/pad.May -/
noncomputable def pad_May.f (bar : Bar) (k : Nat) (a0 : Int) : Option Bool := lvl (E bar) k 48 [.v (.int .i64 a0)]
/-- quiver/num.Word -/
noncomputable def num_Word.f (bar : Bar) (k : Nat) (a0 : Int) (a1 : Int) : Option (List UInt8) := lvl (E bar) k 49 [.v (.int .i64 a0), .v (.int .i64 a1)]
noncomputable def num_Word.l0 (bar : Bar) (k : Nat) (n : Nat) (x0 : Int) (x10 : Int) (x11 : Int) (out5 : List Int) : Option (List UInt8) := loopAt (E bar) k fi49 sg49 [.r, .r, .l, .r] n ⟨[(5, (.al 5 0)), (0, (.int .i64 x0)), (10, (.int .i64 x10)), (11, (.int .i64 x11))], [(5, ⟨false, [.sl (.int .u8) false out5]⟩)]⟩
/-- quiver/quiverref1.in -/
noncomputable def quiverref1_in.f (bar : Bar) (k : Nat) (a0 : Int) : Option Bool := lvl (E bar) k 50 [.v (.int .i64 a0)]
/-- quiver/quiverref1.Low -/
noncomputable def quiverref1_Low.f (bar : Bar) (k : Nat) (a0 : Int) (a1 : Int) : Option (List UInt8) := lvl (E bar) k 51 [.v (.int .i64 a0), .v (.int .i64 a1)]
noncomputable def quiverref1_Low.l0 (bar : Bar) (k : Nat) (n : Nat) (x0 : Int) (size1 : Int) (i6 : Int) (b5 : List Int) : Option (List UInt8) := loopAt (E bar) k fi51 sg51 [.r, .r, .l, .r] n ⟨[(5, (.al 5 0)), (0, (.int .i64 x0)), (1, (.int .i64 size1)), (6, (.int .i64 i6))], [(5, ⟨false, [.sl (.int .u8) false b5]⟩)]⟩
/-- quiver/num.Of -/
noncomputable def num_Of.f (bar : Bar) (k : Nat) (a0 : List UInt8) : Option Int := lvl (E bar) k 52 [.v (.str a0)]
noncomputable def num_Of.l0 (bar : Bar) (k : Nat) (n : Nat) (s0 : List UInt8) (out3 : Int) (x6 : Int) (x7 : Int) : Option Int := loopAt (E bar) k fi52 sg52 [.r, .r, .l, .r] n ⟨[(0, (.str s0)), (3, (.int .u64 out3)), (6, (.int .i64 x6)), (7, (.int .i64 x7))], []⟩
/-- quiver/quiverref1.Num -/
noncomputable def quiverref1_Num.f (bar : Bar) (k : Nat) (a0 : List UInt8) : Option Int := lvl (E bar) k 53 [.v (.str a0)]
noncomputable def quiverref1_Num.l0 (bar : Bar) (k : Nat) (n : Nat) (s0 : List UInt8) (x3 : Int) (i4 : Int) : Option Int := loopAt (E bar) k fi53 sg53 [.r, .r, .l, .r] n ⟨[(0, (.str s0)), (3, (.int .u64 x3)), (4, (.int .i64 i4))], []⟩
/-- quiver/quiverlaw0.SameNodes -/
noncomputable def quiverlaw0_SameNodes.f (bar : Bar) (k : Nat) (a0 : List Nod) (a1 : List Nod) : Option Bool := lvl (E bar) k 54 [.v (.L .node a0), .v (.L .node a1)]
noncomputable def quiverlaw0_SameNodes.l0 (bar : Bar) (k : Nat) (n : Nat) (a0 : List Nod) (b1 : List Nod) (i5 : Int) : Option Bool := loopAt (E bar) k fi54 sg54 [.r, .r, .l, .r] n ⟨[(0, (.L .node a0)), (1, (.L .node b1)), (5, (.int .i64 i5))], []⟩
/-- quiver/quiverlaw0.SpoilNodes -/
noncomputable def quiverlaw0_SpoilNodes.f (bar : Bar) (k : Nat) (a0 : List Nod) : Option Unit := lvl (E bar) k 55 [.o (.sl .node false a0)]
noncomputable def quiverlaw0_SpoilNodes.l0 (bar : Bar) (k : Nat) (n : Nat) (i2 : Int) (a0 : List Nod) : Option Unit := loopAt (E bar) k fi55 sg55 [.r] n ⟨[(0, (.al 0 0)), (2, (.int .i64 i2))], [(0, ⟨false, [.sl .node false a0]⟩)]⟩
/-- quiver/types.Node -/
noncomputable def types_Node.f (bar : Bar) (k : Nat) (a0 : List Nod) (a1 : Int) : Option Bool := lvl (E bar) k 56 [.v (.agg [(.L .node a0)]), .v (.int .i64 a1)]
/-- quiver/types.kids -/
noncomputable def types_kids.f (bar : Bar) (k : Nat) (a0 : List Nod) (a1 : Int) : Option (List Int) := lvl (E bar) k 57 [.v (.vp [(.L .node a0)]), .v (.int .i64 a1)]
noncomputable def types_kids.l0 (bar : Bar) (k : Nat) (n : Nat) (at_1 : Int) (x11 : List Nod) (x12 : Int) (x13 : Int) (out5 : List Int) : Option (List Int) := loopAt (E bar) k fi57 sg57 [.r, .r, .l, .r] n ⟨[(5, (.al 5 0)), (1, (.int .i64 at_1)), (11, (.L .node x11)), (12, (.int .i64 x12)), (13, (.int .i64 x13))], [(5, ⟨false, [.sl (.int .i64) false out5]⟩)]⟩
/-- quiver/quiverref1.NodeMay -/
noncomputable def quiverref1_NodeMay.f (bar : Bar) (k : Nat) (a0 : List Nod) (a1 : Int) : Option Bool := lvl (E bar) k 58 [.v (.agg [(.L .node a0)]), .v (.int .i64 a1)]
/-- quiver/quiverref1.kids -/
noncomputable def quiverref1_kids.f (bar : Bar) (k : Nat) (a0 : List Nod) (a1 : Int) : Option (List Int) := lvl (E bar) k 59 [.v (.agg [(.L .node a0)]), .v (.int .i64 a1)]
noncomputable def quiverref1_kids.l0 (bar : Bar) (k : Nat) (n : Nat) (at_1 : Int) (i6 : Int) (t2 : List Nod) (out5 : List Int) : Option (List Int) := loopAt (E bar) k fi59 sg59 [.r, .r, .l, .r] n ⟨[(5, (.al 5 0)), (1, (.int .i64 at_1)), (2, (.ref 2 0)), (6, (.int .i64 i6))], [(2, ⟨true, [.av (.L .node t2)]⟩), (5, ⟨false, [.sl (.int .i64) false out5]⟩)]⟩
/-- quiver/types.Inner -/
noncomputable def types_Inner.f (bar : Bar) (k : Nat) (a0 : Int) : Option Bool := lvl (E bar) k 60 [.v (.int .i64 a0)]
/-- quiver/quiverref1.IsLeaf -/
noncomputable def quiverref1_IsLeaf.f (bar : Bar) (k : Nat) (a0 : Int) : Option Bool := lvl (E bar) k 61 [.v (.int .i64 a0)]
/-- quiver/types.way -/
noncomputable def types_way.f (bar : Bar) (k : Nat) (a0 : List Nod) (a1 : Int) : Option (List Int) := lvl (E bar) k 62 [.v (.vp [(.L .node a0)]), .v (.int .i64 a1)]
noncomputable def types_way.l0 (bar : Bar) (k : Nat) (n : Nat) (t0 : List Nod) (at_1 : Int) (out5 : List Int) : Option (List Int) := loopAt (E bar) k fi62 sg62 [.r, .r, .l] n ⟨[(5, (.al 5 0)), (0, (.vp [(.L .node t0)])), (1, (.int .i64 at_1))], [(5, ⟨false, [.sl (.int .i64) false out5]⟩)]⟩
/-- quiver/types.stands -/
noncomputable def types_stands.f (bar : Bar) (k : Nat) (a0 : List Nod) (a1 : Int) : Option Bool := lvl (E bar) k 63 [.v (.vp [(.L .node a0)]), .v (.int .i64 a1)]
/-- quiver/quiverref1.upTo -/
noncomputable def quiverref1_upTo.f (bar : Bar) (k : Nat) (a0 : Int) (a1 : Int) (a2 : Int) : Option Bool := lvl (E bar) k 64 [.v (.int .i64 a0), .v (.int .i64 a1), .v (.int .i64 a2)]

end Go.Proofs.YtgedegmcbkligaaA
