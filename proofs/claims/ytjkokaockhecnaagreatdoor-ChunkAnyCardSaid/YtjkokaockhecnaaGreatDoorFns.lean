/- The functions and loops of the program, as the machine answers them, under names of their own: definitions alone. -/
import Derived.Test.YtjkokaockhecnaaGreatDoorEnv
namespace Go.Proofs.YtjkokaockhecnaaGreatDoorA
open Go
set_option linter.unusedVariables false

/-- quiver/quiverlaw22.PageTexts -/
noncomputable def quiverlaw22_PageTexts.f (bar : Bar) (k : Nat) (a0 : Int) (a1 : Int) : Option Bool := lvl (E bar) k 7 [.v (.int .i64 a0), .v (.int .i64 a1)]
/-- quiver/quiverlaw22.PageAgain -/
noncomputable def quiverlaw22_PageAgain.f (bar : Bar) (k : Nat) (a0 : List Nod) (a1 : Int) (a2 : List UInt8) : Option Bool := lvl (E bar) k 8 [.v (.agg [(.L .node a0)]), .v (.int .i64 a1), .v (.str a2)]
/-- quiver/quiverlaw22.PageUnlike -/
noncomputable def quiverlaw22_PageUnlike.f (bar : Bar) (k : Nat) (a0 : List Nod) (a1 : Int) (a2 : Col) (a3 : Col) : Option Bool := lvl (E bar) k 9 [.v (.agg [(.L .node a0)]), .v (.int .i64 a1), .v (.agg [(.L (.int .i64) a2.reps), (.L (.int .i64) a2.defs), (.L .str a2.values)]), .v (.agg [(.L (.int .i64) a3.reps), (.L (.int .i64) a3.defs), (.L .str a3.values)])]
/-- quiver/quiverlaw23.ChunkBack -/
noncomputable def quiverlaw23_ChunkBack.f (bar : Bar) (k : Nat) (a0 : List Nod) (a1 : Int) (a2 : Col) (a3 : Int) : Option Bool := lvl (E bar) k 11 [.v (.agg [(.L .node a0)]), .v (.int .i64 a1), .v (.agg [(.L (.int .i64) a2.reps), (.L (.int .i64) a2.defs), (.L .str a2.values)]), .v (.int .i64 a3)]
noncomputable def quiverlaw23_ChunkBack.l0 (bar : Bar) (k : Nat) (n : Nat) (leaf1 : Int) (k_9 : Int) (records12 : Int) (i13 : Int) (t4 : List Nod) (c6 : List Int) (c6_1 : List Int) (c6_2 : List (List UInt8)) (x2010 : List (List UInt8)) : Option Bool := loopAt (E bar) k fi11 sg11 [.r, .r, .r, .r, .r, .r, .l, .r] n ⟨[(10, (.al 2010 0)), (1, (.int .i64 leaf1)), (4, (.ref 4 0)), (6, (.ref 6 0)), (9, (.int .i64 k_9)), (12, (.int .i64 records12)), (13, (.int .i64 i13))], [(4, ⟨true, [.av (.L .node t4)]⟩), (6, ⟨true, [.av (.L (.int .i64) c6), .av (.L (.int .i64) c6_1), .av (.L .str c6_2)]⟩), (2010, ⟨false, [.sl .str false x2010]⟩)]⟩
/-- quiver/quiverlaw23.ChunkAny -/
noncomputable def quiverlaw23_ChunkAny.f (bar : Bar) (k : Nat) (a0 : List Nod) (a1 : Int) (a2 : Col) (a3 : Int) (a4 : Int) : Option Bool := lvl (E bar) k 13 [.v (.agg [(.L .node a0)]), .v (.int .i64 a1), .v (.agg [(.L (.int .i64) a2.reps), (.L (.int .i64) a2.defs), (.L .str a2.values)]), .v (.int .i64 a3), .v (.int .i64 a4)]
/-- quiver/quiverlaw0.Num -/
noncomputable def quiverlaw0_Num.f (bar : Bar) (k : Nat) (a0 : Int) : Option Int := lvl (E bar) k 20 [.v (.int .i64 a0)]
/-- quiver/page.Put -/
noncomputable def page_Put.f (bar : Bar) (k : Nat) (a0 : List Nod) (a1 : Int) (a2 : Col) : Option (List UInt8 × Int) := lvl (E bar) k 22 [.v (.agg [(.L .node a0)]), .v (.int .i64 a1), .v (.agg [(.L (.int .i64) a2.reps), (.L (.int .i64) a2.defs), (.L .str a2.values)])]
noncomputable def page_Put.l0 (bar : Bar) (k : Nat) (n : Nat) (reps11 : List UInt8) (defs12 : List UInt8) (x46 : Int) (x47 : Int) (c5 : List Int) (c5_1 : List Int) (c5_2 : List (List UInt8)) (body13 : List Int) (x2045 : List Int) : Option (List UInt8 × Int) := loopAt (E bar) k fi22 sg22 [.r, .r, .r, .r, .r, .l, .r] n ⟨[(45, (.al 2045 0)), (5, (.ref 5 0)), (11, (.str reps11)), (12, (.str defs12)), (13, (.refT 13 91)), (46, (.int .i64 x46)), (47, (.int .i64 x47))], [(5, ⟨true, [.av (.L (.int .i64) c5), .av (.L (.int .i64) c5_1), .av (.L .str c5_2)]⟩), (13, ⟨true, [.av (.bad 13), .sl (.int .u8) false body13]⟩), (2045, ⟨false, [.sl (.int .i64) false x2045]⟩)]⟩
noncomputable def page_Put.l2 (bar : Bar) (k : Nat) (n : Nat) (x60 : List (List UInt8)) (x61 : Int) (x62 : Int) (body13 : List Int) : Option (List UInt8 × Int) := loopAt (E bar) k fi22 sg22 [.r, .r, .r, .r, .r, .r, .r, .l, .r] n ⟨[(13, (.refT 13 91)), (60, (.L .str x60)), (61, (.int .i64 x61)), (62, (.int .i64 x62))], [(13, ⟨true, [.av (.bad 13), .sl (.int .u8) false body13]⟩)]⟩
/-- quiver/page.Get -/
noncomputable def page_Get.f (bar : Bar) (k : Nat) (a0 : List Nod) (a1 : Int) (a2 : List UInt8) : Option ((List Int × List Int × List (List UInt8)) × Int) := lvl (E bar) k 24 [.v (.agg [(.L .node a0)]), .v (.int .i64 a1), .v (.str a2)]
noncomputable def page_Get.l0 (bar : Bar) (k : Nat) (n : Nat) (leaf1 : Int) (s2 : List UInt8) (e16 : Int) (f17 : Int) (x82 : Int) (x83 : Int) (t3 : List Nod) (out15 : List Int) (out15_1 : List Int) (out15_2 : List (List UInt8)) (x48 : List UInt8) (x48_1 : Bool) : Option ((List Int × List Int × List (List UInt8)) × Int) := loopAt (E bar) k fi24 sg24 [.r, .r, .r, .r, .r, .r, .r, .r, .r, .r, .l, .r] n ⟨[(1, (.int .i64 leaf1)), (2, (.str s2)), (3, (.ref 3 0)), (6, (.ref 6 0)), (11, (.ref 48 0)), (15, (.ref 15 0)), (16, (.int .i64 e16)), (17, (.int .i64 f17)), (82, (.int .i64 x82)), (83, (.int .i64 x83))], [(3, ⟨true, [.av (.L .node t3)]⟩), (6, ⟨true, [.sl (.int .i64) false ([] : List Int), .sl (.int .i64) false ([] : List Int), .sl .str false ([] : List (List UInt8))]⟩), (15, ⟨true, [.sl (.int .i64) false out15, .sl (.int .i64) false out15_1, .sl .str false out15_2]⟩), (48, ⟨true, [.av (.str x48), .av (.bool x48_1)]⟩)]⟩
/-- quiver/quiverlaw22.awake -/
noncomputable def quiverlaw22_awake.f (bar : Bar) (k : Nat) : Option Bool := lvl (E bar) k 28 []
/-- quiver/quiverlaw22.ints -/
noncomputable def quiverlaw22_ints.f (bar : Bar) (k : Nat) : Option (List Nod) := lvl (E bar) k 29 []
/-- quiver/quiverref1.Crc -/
noncomputable def quiverref1_Crc.f (bar : Bar) (k : Nat) (a0 : List UInt8) : Option Int := lvl (E bar) k 30 [.v (.str a0)]
noncomputable def quiverref1_Crc.l0 (bar : Bar) (k : Nat) (n : Nat) (s0 : List UInt8) (x3 : Int) (i4 : Int) : Option Int := loopAt (E bar) k fi30 sg30 [.r, .r, .l, .r] n ⟨[(0, (.str s0)), (3, (.int .u32 x3)), (4, (.int .i64 i4))], []⟩
noncomputable def quiverref1_Crc.l2 (bar : Bar) (k : Nat) (m1 : Nat) (n : Nat) (s0 : List UInt8) (x3 : Int) (i4 : Int) (j5 : Int) : Option Int := loopAt (E bar) k fi30 sg30 [.r, .r, .l, .r, .lp m1, .r, .l, .b, .r, .r] n ⟨[(0, (.str s0)), (3, (.int .u32 x3)), (4, (.int .i64 i4)), (5, (.int .i64 j5))], []⟩
/-- quiver/quiverref1.Low -/
noncomputable def quiverref1_Low.f (bar : Bar) (k : Nat) (a0 : Int) (a1 : Int) : Option (List UInt8) := lvl (E bar) k 31 [.v (.int .i64 a0), .v (.int .i64 a1)]
noncomputable def quiverref1_Low.l0 (bar : Bar) (k : Nat) (n : Nat) (x0 : Int) (size1 : Int) (i6 : Int) (x2005 : List Int) : Option (List UInt8) := loopAt (E bar) k fi31 sg31 [.r, .r, .l, .r] n ⟨[(5, (.al 2005 0)), (0, (.int .i64 x0)), (1, (.int .i64 size1)), (6, (.int .i64 i6))], [(2005, ⟨false, [.sl (.int .u8) false x2005]⟩)]⟩
/-- quiver/quiverlaw0.SameColumn -/
noncomputable def quiverlaw0_SameColumn.f (bar : Bar) (k : Nat) (a0 : Col) (a1 : Col) : Option Bool := lvl (E bar) k 26 [.v (.agg [(.L (.int .i64) a0.reps), (.L (.int .i64) a0.defs), (.L .str a0.values)]), .v (.agg [(.L (.int .i64) a1.reps), (.L (.int .i64) a1.defs), (.L .str a1.values)])]
/-- quiver/quiverref21.ColumnMay -/
noncomputable def quiverref21_ColumnMay.f (bar : Bar) (k : Nat) (a0 : List Nod) (a1 : Int) (a2 : Col) : Option Bool := lvl (E bar) k 32 [.v (.agg [(.L .node a0)]), .v (.int .i64 a1), .v (.agg [(.L (.int .i64) a2.reps), (.L (.int .i64) a2.defs), (.L .str a2.values)])]
noncomputable def quiverref21_ColumnMay.l0 (bar : Bar) (k : Nat) (n : Nat) (leaf1 : Int) (rep7 : Int) (def_8 : Int) (k_10 : Int) (i11 : Int) (t3 : List Nod) (c5 : List Int) (c5_1 : List Int) (c5_2 : List (List UInt8)) : Option Bool := loopAt (E bar) k fi32 sg32 [.r, .r, .r, .r, .l, .r] n ⟨[(1, (.int .i64 leaf1)), (3, (.ref 3 0)), (5, (.ref 5 0)), (7, (.int .i64 rep7)), (8, (.int .i64 def_8)), (10, (.int .i64 k_10)), (11, (.int .i64 i11))], [(3, ⟨true, [.av (.L .node t3)]⟩), (5, ⟨true, [.av (.L (.int .i64) c5), .av (.L (.int .i64) c5_1), .av (.L .str c5_2)]⟩)]⟩
noncomputable def quiverref21_ColumnMay.l2 (bar : Bar) (k : Nat) (n : Nat) (leaf1 : Int) (k_10 : Int) (i12 : Int) (t3 : List Nod) (c5 : List Int) (c5_1 : List Int) (c5_2 : List (List UInt8)) : Option Bool := loopAt (E bar) k fi32 sg32 [.r, .r, .r, .r, .r, .l, .r] n ⟨[(1, (.int .i64 leaf1)), (3, (.ref 3 0)), (5, (.ref 5 0)), (10, (.int .i64 k_10)), (12, (.int .i64 i12))], [(3, ⟨true, [.av (.L .node t3)]⟩), (5, ⟨true, [.av (.L (.int .i64) c5), .av (.L (.int .i64) c5_1), .av (.L .str c5_2)]⟩)]⟩
/-- quiver/chunk.Split -/
noncomputable def chunk_Split.f (bar : Bar) (k : Nat) (a0 : List Nod) (a1 : Int) (a2 : Col) (a3 : Int) : Option (List (List UInt8) × Int) := lvl (E bar) k 34 [.v (.agg [(.L .node a0)]), .v (.int .i64 a1), .v (.agg [(.L (.int .i64) a2.reps), (.L (.int .i64) a2.defs), (.L .str a2.values)]), .v (.int .i64 a3)]
noncomputable def chunk_Split.l0 (bar : Bar) (k : Nat) (n : Nat) (leaf1 : Int) (limit3 : Int) (def_11 : Int) (t4 : List Nod) (c6 : List Int) (c6_1 : List Int) (c6_2 : List (List UInt8)) (x2013 : List (List UInt8)) : Option (List (List UInt8) × Int) := loopAt (E bar) k fi34 sg34 [.r, .r, .r, .r, .l] n ⟨[(13, (.al 2013 0)), (1, (.int .i64 leaf1)), (3, (.int .i64 limit3)), (4, (.ref 4 0)), (6, (.ref 6 0)), (11, (.int .i64 def_11))], [(4, ⟨true, [.av (.L .node t4)]⟩), (6, ⟨true, [.av (.L (.int .i64) c6), .av (.L (.int .i64) c6_1), .av (.L .str c6_2)]⟩), (2013, ⟨false, [.sl .str false x2013]⟩)]⟩
/-- quiver/chunk.Join -/
noncomputable def chunk_Join.f (bar : Bar) (k : Nat) (a0 : List Nod) (a1 : Int) (a2 : List (List UInt8)) : Option ((List Int × List Int × List (List UInt8)) × Int) := lvl (E bar) k 36 [.v (.agg [(.L .node a0)]), .v (.int .i64 a1), .v (.L .str a2)]
noncomputable def chunk_Join.l0 (bar : Bar) (k : Nat) (n : Nat) (leaf1 : Int) (is9 : Bool) (x17 : List (List UInt8)) (x18 : Int) (x19 : Int) (t3 : List Nod) (out8 : List Int) (out8_1 : List Int) (out8_2 : List (List UInt8)) : Option ((List Int × List Int × List (List UInt8)) × Int) := loopAt (E bar) k fi36 sg36 [.r, .r, .r, .l, .r] n ⟨[(1, (.int .i64 leaf1)), (3, (.ref 3 0)), (6, (.ref 6 0)), (8, (.ref 8 0)), (9, (.bool is9)), (17, (.L .str x17)), (18, (.int .i64 x18)), (19, (.int .i64 x19))], [(3, ⟨true, [.av (.L .node t3)]⟩), (6, ⟨true, [.sl (.int .i64) false ([] : List Int), .sl (.int .i64) false ([] : List Int), .sl .str false ([] : List (List UInt8))]⟩), (8, ⟨true, [.sl (.int .i64) false out8, .sl (.int .i64) false out8_1, .sl .str false out8_2]⟩)]⟩
/-- quiver/quiverlaw23.awake -/
noncomputable def quiverlaw23_awake.f (bar : Bar) (k : Nat) : Option Bool := lvl (E bar) k 41 []
/-- quiver/page.May -/
noncomputable def page_May.f (bar : Bar) (k : Nat) (a0 : List Nod) (a1 : Int) (a2 : Col) : Option Bool := lvl (E bar) k 52 [.v (.agg [(.L .node a0)]), .v (.int .i64 a1), .v (.agg [(.L (.int .i64) a2.reps), (.L (.int .i64) a2.defs), (.L .str a2.values)])]
noncomputable def page_May.l0 (bar : Bar) (k : Nat) (n : Nat) (leaf1 : Int) (def_8 : Int) (x53 : List (List UInt8)) (x54 : Int) (x55 : Int) (t3 : List Nod) (c5 : List Int) (c5_1 : List Int) : Option Bool := loopAt (E bar) k fi52 sg52 [.r, .r, .r, .l, .r] n ⟨[(1, (.int .i64 leaf1)), (3, (.ref 3 0)), (5, (.ref 5 0)), (8, (.int .i64 def_8)), (53, (.L .str x53)), (54, (.int .i64 x54)), (55, (.int .i64 x55))], [(3, ⟨true, [.av (.L .node t3)]⟩), (5, ⟨true, [.av (.L (.int .i64) c5), .av (.L (.int .i64) c5_1), .av (.L .str x53)]⟩)]⟩
/-- quiver/types.Levels -/
noncomputable def types_Levels.f (bar : Bar) (k : Nat) (a0 : List Nod) (a1 : Int) : Option (Int × Int × Int) := lvl (E bar) k 53 [.v (.agg [(.L .node a0)]), .v (.int .i64 a1)]
noncomputable def types_Levels.l0 (bar : Bar) (k : Nat) (n : Nat) (rep7 : Int) (def_8 : Int) (x17 : Int) (x18 : Int) (t2 : List Nod) (x2016 : List Int) : Option (Int × Int × Int) := loopAt (E bar) k fi53 sg53 [.r, .r, .r, .l, .r] n ⟨[(16, (.al 2016 0)), (2, (.ref 2 0)), (7, (.int .i64 rep7)), (8, (.int .i64 def_8)), (17, (.int .i64 x17)), (18, (.int .i64 x18))], [(2, ⟨true, [.av (.L .node t2)]⟩), (2016, ⟨false, [.sl (.int .i64) false x2016]⟩)]⟩
/-- quiver/page.levels -/
noncomputable def page_levels.f (bar : Bar) (k : Nat) (a0 : List Int) (a1 : Int) : Option (List UInt8) := lvl (E bar) k 54 [.v (.L (.int .i64) a0), .v (.int .i64 a1)]
/-- quiver/num.Word -/
noncomputable def num_Word.f (bar : Bar) (k : Nat) (a0 : Int) (a1 : Int) : Option (List UInt8) := lvl (E bar) k 56 [.v (.int .i64 a0), .v (.int .i64 a1)]
noncomputable def num_Word.l0 (bar : Bar) (k : Nat) (n : Nat) (x0 : Int) (x10 : Int) (x11 : Int) (x2005 : List Int) : Option (List UInt8) := loopAt (E bar) k fi56 sg56 [.r, .r, .l, .r] n ⟨[(5, (.al 2005 0)), (0, (.int .i64 x0)), (10, (.int .i64 x10)), (11, (.int .i64 x11))], [(2005, ⟨false, [.sl (.int .u8) false x2005]⟩)]⟩
/-- quiver/page.bytes -/
noncomputable def page_bytes.f (bar : Bar) (k : Nat) (a0 : List UInt8) : Option (List UInt8) := lvl (E bar) k 57 [.v (.str a0)]
/-- quiver/crc.Sum -/
noncomputable def crc_Sum.f (bar : Bar) (k : Nat) (a0 : List UInt8) : Option Int := lvl (E bar) k 58 [.v (.str a0)]
noncomputable def crc_Sum.l0 (bar : Bar) (k : Nat) (n : Nat) (s0 : List UInt8) (sum3 : Int) (x7 : Int) (x8 : Int) : Option Int := loopAt (E bar) k fi58 sg58 [.r, .r, .l, .r] n ⟨[(0, (.str s0)), (3, (.int .u32 sum3)), (7, (.int .i64 x7)), (8, (.int .i64 x8))], []⟩
noncomputable def crc_Sum.l2 (bar : Bar) (k : Nat) (m1 : Nat) (n : Nat) (s0 : List UInt8) (sum3 : Int) (x7 : Int) (x8 : Int) (x17 : Int) : Option Int := loopAt (E bar) k fi58 sg58 [.r, .r, .l, .r, .lp m1, .r, .r, .l, .b, .r, .r, .r] n ⟨[(0, (.str s0)), (3, (.int .u32 sum3)), (7, (.int .i64 x7)), (8, (.int .i64 x8)), (17, (.int .i64 x17))], []⟩
/-- quiver/types.Leaf -/
noncomputable def types_Leaf.f (bar : Bar) (k : Nat) (a0 : List Nod) (a1 : Int) : Option Bool := lvl (E bar) k 64 [.v (.agg [(.L .node a0)]), .v (.int .i64 a1)]
/-- quiver/num.Of -/
noncomputable def num_Of.f (bar : Bar) (k : Nat) (a0 : List UInt8) : Option Int := lvl (E bar) k 65 [.v (.str a0)]
noncomputable def num_Of.l0 (bar : Bar) (k : Nat) (n : Nat) (s0 : List UInt8) (out3 : Int) (x6 : Int) (x7 : Int) : Option Int := loopAt (E bar) k fi65 sg65 [.r, .r, .l, .r] n ⟨[(0, (.str s0)), (3, (.int .u64 out3)), (6, (.int .i64 x6)), (7, (.int .i64 x7))], []⟩
/-- (*quiver/page.Taker).Number -/
noncomputable def page_Taker_Number.f (bar : Bar) (k : Nat) (a0_0 : List UInt8) (a0_1 : Bool) : Option (Int × ((List UInt8 × Bool))) := lvl (E bar) k 66 [.b [.av (.str a0_0), .av (.bool a0_1)]]
/-- quiver/hybrid.Get -/
noncomputable def hybrid_Get.f (bar : Bar) (k : Nat) (a0 : List UInt8) (a1 : Int) (a2 : Int) : Option (List Int × Int) := lvl (E bar) k 67 [.v (.str a0), .v (.int .i64 a1), .v (.int .i64 a2)]
noncomputable def hybrid_Get.l0 (bar : Bar) (k : Nat) (n : Nat) (s0 : List UInt8) (width1 : Int) (count2 : Int) (x32 : List UInt8) (x32_1 : Int) (x32_2 : List Int) (x32_3 : Bool) : Option (List Int × Int) := loopAt (E bar) k fi67 sg67 [.r, .r, .r, .l] n ⟨[(0, (.str s0)), (1, (.int .i64 width1)), (2, (.int .i64 count2)), (8, (.ref 32 0))], [(32, ⟨true, [.av (.str x32), .av (.int .i64 x32_1), .sl (.int .i64) false x32_2, .av (.bool x32_3)]⟩)]⟩
noncomputable def hybrid_Get.j12 (bar : Bar) (k : Nat) (m1 : Nat) (s0 : List UInt8) (width1 : Int) (count2 : Int) (head9 : Int) (x32 : List UInt8) (x32_1 : Int) (x32_2 : List Int) (x32_3 : Bool) : Option (List Int × Int) := cutAt (E bar) k fi67 sg67 [.r, .r, .r, .l, .lp m1, .r, .b, .r, .r, .r, .r] ⟨[(0, (.str s0)), (1, (.int .i64 width1)), (2, (.int .i64 count2)), (8, (.ref 32 0)), (9, (.int .i64 head9))], [(32, ⟨true, [.av (.str x32), .av (.int .i64 x32_1), .sl (.int .i64) false x32_2, .av (.bool x32_3)]⟩)]⟩
/-- (*quiver/page.Taker).Bytes -/
noncomputable def page_Taker_Bytes.f (bar : Bar) (k : Nat) (a0_0 : List UInt8) (a0_1 : Bool) (a1 : Int) : Option (List UInt8 × ((List UInt8 × Bool))) := lvl (E bar) k 68 [.b [.av (.str a0_0), .av (.bool a0_1)], .v (.int .i64 a1)]
/-- math/bits.Len -/
noncomputable def math_bits_Len.f (bar : Bar) (k : Nat) (a0 : Int) : Option Int := lvl (E bar) k 69 [.v (.int .u64 a0)]
/-- quiver/page.there -/
noncomputable def page_there.f (bar : Bar) (k : Nat) (a0 : List Int) (a1 : Int) : Option Int := lvl (E bar) k 70 [.v (.L (.int .i64) a0), .v (.int .i64 a1)]
noncomputable def page_there.l0 (bar : Bar) (k : Nat) (n : Nat) (one1 : Int) (out5 : Int) (x8 : List Int) (x9 : Int) (x10 : Int) : Option Int := loopAt (E bar) k fi70 sg70 [.r, .r, .l, .r] n ⟨[(1, (.int .i64 one1)), (5, (.int .i64 out5)), (8, (.L (.int .i64) x8)), (9, (.int .i64 x9)), (10, (.int .i64 x10))], []⟩
/-- (*quiver/page.Taker).value -/
noncomputable def page_Taker_value.f (bar : Bar) (k : Nat) (a0_0 : List UInt8) (a0_1 : Bool) (a1 : Int) : Option (List UInt8 × ((List UInt8 × Bool))) := lvl (E bar) k 71 [.b [.av (.str a0_0), .av (.bool a0_1)], .v (.int .i64 a1)]
/-- quiver/quiverref1.TypeMay -/
noncomputable def quiverref1_TypeMay.f (bar : Bar) (k : Nat) (a0 : List Nod) : Option Bool := lvl (E bar) k 78 [.v (.agg [(.L .node a0)])]
noncomputable def quiverref1_TypeMay.l0 (bar : Bar) (k : Nat) (n : Nat) (i4 : Int) (t1 : List Nod) (x2003 : List Int) : Option Bool := loopAt (E bar) k fi78 sg78 [.r, .r, .r, .l, .r] n ⟨[(3, (.al 2003 0)), (1, (.ref 1 0)), (4, (.int .i64 i4))], [(1, ⟨true, [.av (.L .node t1)]⟩), (2003, ⟨false, [.sl (.int .i64) false x2003]⟩)]⟩
/-- quiver/quiverlaw0.SameTexts -/
noncomputable def quiverlaw0_SameTexts.f (bar : Bar) (k : Nat) (a0 : List (List UInt8)) (a1 : List (List UInt8)) : Option Bool := lvl (E bar) k 38 [.v (.L .str a0), .v (.L .str a1)]
noncomputable def quiverlaw0_SameTexts.l0 (bar : Bar) (k : Nat) (n : Nat) (a0 : List (List UInt8)) (b1 : List (List UInt8)) (i5 : Int) : Option Bool := loopAt (E bar) k fi38 sg38 [.r, .r, .l, .r] n ⟨[(0, (.L .str a0)), (1, (.L .str b1)), (5, (.int .i64 i5))], []⟩
/-- quiver/quiverlaw0.SameInts -/
noncomputable def quiverlaw0_SameInts.f (bar : Bar) (k : Nat) (a0 : List Int) (a1 : List Int) : Option Bool := lvl (E bar) k 76 [.v (.L (.int .i64) a0), .v (.L (.int .i64) a1)]
noncomputable def quiverlaw0_SameInts.l0 (bar : Bar) (k : Nat) (n : Nat) (a0 : List Int) (b1 : List Int) (i5 : Int) : Option Bool := loopAt (E bar) k fi76 sg76 [.r, .r, .l, .r] n ⟨[(0, (.L (.int .i64) a0)), (1, (.L (.int .i64) b1)), (5, (.int .i64 i5))], []⟩
/-- quiver/quiverref7.Fits -/
noncomputable def quiverref7_Fits.f (bar : Bar) (k : Nat) (a0 : List Nod) (a1 : Int) (a2 : List UInt8) : Option Bool := lvl (E bar) k 48 [.v (.agg [(.L .node a0)]), .v (.int .i64 a1), .v (.str a2)]
noncomputable def quiverref7_Fits.l0 (bar : Bar) (k : Nat) (n : Nat) (kind8 : Int) (i13 : Int) (t3 : List Nod) (x2009 : List (List UInt8)) (x2011 : List Int) : Option Bool := loopAt (E bar) k fi48 sg48 [.r, .r, .r, .r, .r, .r, .r, .r, .l, .r] n ⟨[(11, (.al 2011 0)), (9, (.al 2009 0)), (3, (.ref 3 0)), (8, (.int .i64 kind8)), (13, (.int .i64 i13))], [(3, ⟨true, [.av (.L .node t3)]⟩), (2009, ⟨false, [.sl .str false x2009]⟩), (2011, ⟨false, [.sl (.int .i64) false x2011]⟩)]⟩
/-- quiver/quiverref1.Levels -/
noncomputable def quiverref1_Levels.f (bar : Bar) (k : Nat) (a0 : List Nod) (a1 : Int) : Option (Int × Int × Int) := lvl (E bar) k 60 [.v (.agg [(.L .node a0)]), .v (.int .i64 a1)]
noncomputable def quiverref1_Levels.l0 (bar : Bar) (k : Nat) (n : Nat) (at_1 : Int) (rep7 : Int) (def_8 : Int) (t2 : List Nod) : Option (Int × Int × Int) := loopAt (E bar) k fi60 sg60 [.r, .r, .r, .l] n ⟨[(1, (.int .i64 at_1)), (2, (.ref 2 0)), (7, (.int .i64 rep7)), (8, (.int .i64 def_8))], [(2, ⟨true, [.av (.L .node t2)]⟩)]⟩
noncomputable def quiverref1_Levels.j8 (bar : Bar) (k : Nat) (m1 : Nat) (at_1 : Int) (rep7 : Int) (def_8 : Int) (t2 : List Nod) : Option (Int × Int × Int) := cutAt (E bar) k fi60 sg60 [.r, .r, .r, .l, .lp m1, .r, .b, .r] ⟨[(1, (.int .i64 at_1)), (2, (.ref 2 0)), (7, (.int .i64 rep7)), (8, (.int .i64 def_8))], [(2, ⟨true, [.av (.L .node t2)]⟩)]⟩
/-- quiver/quiverref21.leafMay -/
noncomputable def quiverref21_leafMay.f (bar : Bar) (k : Nat) (a0 : List Nod) (a1 : Int) : Option Bool := lvl (E bar) k 72 [.v (.agg [(.L .node a0)]), .v (.int .i64 a1)]
/-- quiver/chunk.cut -/
noncomputable def chunk_cut.f (bar : Bar) (k : Nat) (a0 : Col) (a1 : Int) (a2 : Int) : Option (Int × Int) := lvl (E bar) k 80 [.v (.vp [(.L (.int .i64) a0.reps), (.L (.int .i64) a0.defs), (.L .str a0.values)]), .v (.int .i64 a1), .v (.int .i64 a2)]
noncomputable def chunk_cut.l0 (bar : Bar) (k : Nat) (n : Nat) (c0 : List Int) (c0_1 : List Int) (c0_2 : List (List UInt8)) (records1 : Int) (def_2 : Int) (seen8 : Int) (values9 : Int) (x16 : Int) (x17 : Int) : Option (Int × Int) := loopAt (E bar) k fi80 sg80 [.r, .r, .l, .r] n ⟨[(0, (.vp [(.L (.int .i64) c0), (.L (.int .i64) c0_1), (.L .str c0_2)])), (1, (.int .i64 records1)), (2, (.int .i64 def_2)), (8, (.int .i64 seen8)), (9, (.int .i64 values9)), (15, (.L (.int .i64) c0)), (16, (.int .i64 x16)), (17, (.int .i64 x17))], []⟩
noncomputable def chunk_cut.j9 (bar : Bar) (k : Nat) (m1 : Nat) (c0 : List Int) (c0_1 : List Int) (c0_2 : List (List UInt8)) (records1 : Int) (def_2 : Int) (seen8 : Int) (values9 : Int) (i10 : Int) (x16 : Int) : Option (Int × Int) := cutAt (E bar) k fi80 sg80 [.r, .r, .l, .r, .lp m1, .r, .r, .l, .b, .r, .r] ⟨[(0, (.vp [(.L (.int .i64) c0), (.L (.int .i64) c0_1), (.L .str c0_2)])), (1, (.int .i64 records1)), (2, (.int .i64 def_2)), (8, (.int .i64 seen8)), (9, (.int .i64 values9)), (10, (.int .i64 i10)), (15, (.L (.int .i64) c0)), (16, (.int .i64 x16)), (17, (.int .i64 i10))], []⟩
/-- quiver/quiverlaw23.ints -/
noncomputable def quiverlaw23_ints.f (bar : Bar) (k : Nat) : Option (List Nod) := lvl (E bar) k 81 []
/-- quiver/page.within -/
noncomputable def page_within.f (bar : Bar) (k : Nat) (a0 : List Int) (a1 : Int) : Option Bool := lvl (E bar) k 97 [.v (.L (.int .i64) a0), .v (.int .i64 a1)]
noncomputable def page_within.l0 (bar : Bar) (k : Nat) (n : Nat) (most1 : Int) (x7 : List Int) (x8 : Int) (x9 : Int) : Option Bool := loopAt (E bar) k fi97 sg97 [.r, .l, .r] n ⟨[(1, (.int .i64 most1)), (7, (.L (.int .i64) x7)), (8, (.int .i64 x8)), (9, (.int .i64 x9))], []⟩
/-- quiver/value.Null -/
noncomputable def value_Null.f (bar : Bar) (k : Nat) : Option (List UInt8) := lvl (E bar) k 98 []
/-- quiver/value.Fits -/
noncomputable def value_Fits.f (bar : Bar) (k : Nat) (a0 : List Nod) (a1 : Int) (a2 : List UInt8) : Option Bool := lvl (E bar) k 99 [.v (.agg [(.L .node a0)]), .v (.int .i64 a1), .v (.str a2)]
noncomputable def value_Fits.l1 (bar : Bar) (k : Nat) (n : Nat) (x70 : List (List UInt8)) (kind7 : Int) (x71 : Int) (x72 : Int) (t3 : List Nod) (x2011 : List Int) : Option Bool := loopAt (E bar) k fi99 sg99 [.r, .r, .r, .r, .r, .r, .r, .r, .l, .r] n ⟨[(70, (.L .str x70)), (11, (.al 2011 0)), (8, (.L .str x70)), (7, (.int .i64 kind7)), (13, (.fn 142 [(.ref 3 0)])), (71, (.int .i64 x71)), (72, (.int .i64 x72))], [(3, ⟨true, [.av (.L .node t3)]⟩), (2011, ⟨false, [.sl (.int .i64) false x2011]⟩)]⟩
/-- quiver/types.Node -/
noncomputable def types_Node.f (bar : Bar) (k : Nat) (a0 : List Nod) (a1 : Int) : Option Bool := lvl (E bar) k 100 [.v (.agg [(.L .node a0)]), .v (.int .i64 a1)]
/-- quiver/types.way -/
noncomputable def types_way.f (bar : Bar) (k : Nat) (a0 : List Nod) (a1 : Int) : Option (List Int) := lvl (E bar) k 101 [.v (.vp [(.L .node a0)]), .v (.int .i64 a1)]
noncomputable def types_way.l0 (bar : Bar) (k : Nat) (n : Nat) (t0 : List Nod) (at_1 : Int) (x2005 : List Int) : Option (List Int) := loopAt (E bar) k fi101 sg101 [.r, .r, .l] n ⟨[(5, (.al 2005 0)), (0, (.vp [(.L .node t0)])), (1, (.int .i64 at_1))], [(2005, ⟨false, [.sl (.int .i64) false x2005]⟩)]⟩
/-- quiver/hybrid.Put -/
noncomputable def hybrid_Put.f (bar : Bar) (k : Nat) (a0 : List Int) (a1 : Int) : Option (List UInt8 × Int) := lvl (E bar) k 102 [.v (.L (.int .i64) a0), .v (.int .i64 a1)]
noncomputable def hybrid_Put.l0 (bar : Bar) (k : Nat) (n : Nat) (xs0 : List Int) (width1 : Int) (out6 : List Int) : Option (List UInt8 × Int) := loopAt (E bar) k fi102 sg102 [.r, .r, .r, .l] n ⟨[(0, (.L (.int .i64) xs0)), (1, (.int .i64 width1)), (6, (.refT 6 91))], [(6, ⟨true, [.av (.bad 6), .sl (.int .u8) false out6]⟩)]⟩
/-- quiver/value.Parts -/
noncomputable def value_Parts.f (bar : Bar) (k : Nat) (a0 : List UInt8) : Option (Int × List (List UInt8) × Int) := lvl (E bar) k 104 [.v (.str a0)]
/-- strconv.Atoi -/
noncomputable def strconv_Atoi.f (bar : Bar) (k : Nat) (a0 : List UInt8) : Option (Int × Bool) := lvl (E bar) k 105 [.v (.str a0)]
/-- quiver/types.Inner -/
noncomputable def types_Inner.f (bar : Bar) (k : Nat) (a0 : Int) : Option Bool := lvl (E bar) k 111 [.v (.int .i64 a0)]
/-- quiver/num.Get -/
noncomputable def num_Get.f (bar : Bar) (k : Nat) (a0 : List UInt8) (a1 : Int) (a2 : Int) : Option (Int × Int) := lvl (E bar) k 112 [.v (.str a0), .v (.int .i64 a1), .v (.int .i64 a2)]
/-- quiver/num.GetVar -/
noncomputable def num_GetVar.f (bar : Bar) (k : Nat) (a0 : List UInt8) (a1 : Int) : Option (Int × Int × Int) := lvl (E bar) k 113 [.v (.str a0), .v (.int .i64 a1)]
noncomputable def num_GetVar.l0 (bar : Bar) (k : Nat) (n : Nat) (s0 : List UInt8) (at_1 : Int) (x7 : Int) (i8 : Int) : Option (Int × Int × Int) := loopAt (E bar) k fi113 sg113 [.r, .r, .r, .l, .r] n ⟨[(0, (.str s0)), (1, (.int .i64 at_1)), (7, (.int .i64 x7)), (8, (.int .i64 i8))], []⟩
/-- (*quiver/hybrid.taker).run -/
noncomputable def hybrid_taker_run.f (bar : Bar) (k : Nat) (a0_0 : List UInt8) (a0_1 : Int) (a0_2 : List Int) (a0_3 : Bool) (a1 : Int) (a2 : Int) : Option ((List UInt8 × Int × List Int × Bool)) := lvl (E bar) k 114 [.b [.av (.str a0_0), .av (.int .i64 a0_1), .sl (.int .i64) false a0_2, .av (.bool a0_3)], .v (.int .i64 a1), .v (.int .i64 a2)]
/-- (*quiver/hybrid.taker).groups -/
noncomputable def hybrid_taker_groups.f (bar : Bar) (k : Nat) (a0_0 : List UInt8) (a0_1 : Int) (a0_2 : List Int) (a0_3 : Bool) (a1 : Int) (a2 : Int) : Option ((List UInt8 × Int × List Int × Bool)) := lvl (E bar) k 115 [.b [.av (.str a0_0), .av (.int .i64 a0_1), .sl (.int .i64) false a0_2, .av (.bool a0_3)], .v (.int .i64 a1), .v (.int .i64 a2)]
noncomputable def hybrid_taker_groups.l0 (bar : Bar) (k : Nat) (n : Nat) (s6 : List UInt8) (x30 : Int) (x31 : Int) (x1000 : List UInt8) (x1000_1 : Int) (x1000_2 : List Int) (x1000_3 : Bool) : Option ((List UInt8 × Int × List Int × Bool)) := loopAt (E bar) k fi115 sg115 [.r, .r, .r] n ⟨[(0, (.ref 1000 0)), (6, (.str s6)), (30, (.int .i64 x30)), (31, (.int .i64 x31))], [(1000, ⟨true, [.av (.str x1000), .av (.int .i64 x1000_1), .sl (.int .i64) false x1000_2, .av (.bool x1000_3)]⟩)]⟩
noncomputable def hybrid_taker_groups.l2 (bar : Bar) (k : Nat) (m1 : Nat) (n : Nat) (s6 : List UInt8) (i7 : Int) (x8 : Int) (x30 : Int) (x37 : Int) (x38 : Int) (x1000 : List UInt8) (x1000_1 : List Int) (x1000_2 : Bool) : Option ((List UInt8 × Int × List Int × Bool)) := loopAt (E bar) k fi115 sg115 [.r, .r, .r, .lp m1, .r, .r, .l, .b, .r, .r, .l, .r] n ⟨[(0, (.ref 1000 0)), (6, (.str s6)), (7, (.int .i64 i7)), (8, (.int .i64 x8)), (30, (.int .i64 x30)), (31, (.int .i64 i7)), (37, (.int .i64 x37)), (38, (.int .i64 x38))], [(1000, ⟨true, [.av (.str x1000), .av (.int .i64 x37), .sl (.int .i64) false x1000_1, .av (.bool x1000_2)]⟩)]⟩
/-- math/bits.Len64 -/
noncomputable def math_bits_Len64.f (bar : Bar) (k : Nat) (a0 : Int) : Option Int := lvl (E bar) k 117 [.v (.int .u64 a0)]
noncomputable def math_bits_Len64.j4 (bar : Bar) (k : Nat) (x0 : Int) (n_2 : Int) : Option Int := cutAt (E bar) k fi117 sg117 [.r, .r] ⟨[(0, (.int .u64 x0)), (2, (.int .i64 n_2))], []⟩
noncomputable def math_bits_Len64.j7 (bar : Bar) (k : Nat) (x0 : Int) (n_2 : Int) : Option Int := cutAt (E bar) k fi117 sg117 [.r, .r, .r] ⟨[(0, (.int .u64 x0)), (2, (.int .i64 n_2))], []⟩
/-- quiver/value.Int -/
noncomputable def value_Int.f (bar : Bar) (k : Nat) (a0 : Int) : Option (List UInt8) := lvl (E bar) k 118 [.v (.int .i64 a0)]
/-- quiver/value.Bool -/
noncomputable def value_Bool.f (bar : Bar) (k : Nat) (a0 : Bool) : Option (List UInt8) := lvl (E bar) k 119 [.v (.bool a0)]
/-- quiver/value.Bytes -/
noncomputable def value_Bytes.f (bar : Bar) (k : Nat) (a0 : List UInt8) : Option (List UInt8) := lvl (E bar) k 120 [.v (.str a0)]
/-- (*quiver/page.Taker).Text -/
noncomputable def page_Taker_Text.f (bar : Bar) (k : Nat) (a0_0 : List UInt8) (a0_1 : Bool) : Option (List UInt8 × ((List UInt8 × Bool))) := lvl (E bar) k 121 [.b [.av (.str a0_0), .av (.bool a0_1)]]
/-- quiver/quiverref1.IsLeaf -/
noncomputable def quiverref1_IsLeaf.f (bar : Bar) (k : Nat) (a0 : Int) : Option Bool := lvl (E bar) k 89 [.v (.int .i64 a0)]
/-- quiver/quiverref1.upTo -/
noncomputable def quiverref1_upTo.f (bar : Bar) (k : Nat) (a0 : Int) (a1 : Int) (a2 : Int) : Option Bool := lvl (E bar) k 128 [.v (.int .i64 a0), .v (.int .i64 a1), .v (.int .i64 a2)]
/-- quiver/quiverref1.kids -/
noncomputable def quiverref1_kids.f (bar : Bar) (k : Nat) (a0 : List Nod) (a1 : Int) : Option (List Int) := lvl (E bar) k 129 [.v (.agg [(.L .node a0)]), .v (.int .i64 a1)]
noncomputable def quiverref1_kids.l0 (bar : Bar) (k : Nat) (n : Nat) (at_1 : Int) (i6 : Int) (t2 : List Nod) (x2005 : List Int) : Option (List Int) := loopAt (E bar) k fi129 sg129 [.r, .r, .l, .r] n ⟨[(5, (.al 2005 0)), (1, (.int .i64 at_1)), (2, (.ref 2 0)), (6, (.int .i64 i6))], [(2, ⟨true, [.av (.L .node t2)]⟩), (2005, ⟨false, [.sl (.int .i64) false x2005]⟩)]⟩
/-- quiver/quiverref1.NodeMay -/
noncomputable def quiverref1_NodeMay.f (bar : Bar) (k : Nat) (a0 : List Nod) (a1 : Int) : Option Bool := lvl (E bar) k 47 [.v (.agg [(.L .node a0)]), .v (.int .i64 a1)]
/-- quiver/quiverref7.Parts -/
noncomputable def quiverref7_Parts.f (bar : Bar) (k : Nat) (a0 : List UInt8) : Option (Int × List (List UInt8) × Int) := lvl (E bar) k 87 [.v (.str a0)]
noncomputable def quiverref7_Parts.j13 (bar : Bar) (k : Nat) (v0 : List UInt8) : Option (Int × List (List UInt8) × Int) := cutAt (E bar) k fi87 sg87 [.r, .r, .r] ⟨[(0, (.str v0))], []⟩
noncomputable def quiverref7_Parts.l1 (bar : Bar) (k : Nat) (n : Nat) (v0 : List UInt8) (at_6 : Int) (x2005 : List (List UInt8)) : Option (Int × List (List UInt8) × Int) := loopAt (E bar) k fi87 sg87 [.r, .r, .r, .r, .l, .r] n ⟨[(5, (.al 2005 0)), (0, (.str v0)), (6, (.int .i64 at_6))], [(2005, ⟨false, [.sl .str false x2005]⟩)]⟩
/-- quiver/quiverref1.Kids -/
noncomputable def quiverref1_Kids.f (bar : Bar) (k : Nat) (a0 : List Nod) (a1 : Int) : Option (List Int × Int) := lvl (E bar) k 88 [.v (.agg [(.L .node a0)]), .v (.int .i64 a1)]
/-- quiver/types.Kids -/
noncomputable def types_Kids.f (bar : Bar) (k : Nat) (a0 : List Nod) (a1 : Int) : Option (List Int × Int) := lvl (E bar) k 141 [.v (.agg [(.L .node a0)]), .v (.int .i64 a1)]
/-- quiver/value.Fits$1 -/
noncomputable def value_Fits_1.f (bar : Bar) (k : Nat) (a0 : Int) (a1 : List UInt8) (a2 : List Nod) : Option Bool := lvl (E bar) k 142 [.v (.int .i64 a0), .v (.str a1), .v (.vp [(.L .node a2)])]
/-- quiver/value.all[int,string] -/
noncomputable def value_all_int_string_value_Fits_1.f (bar : Bar) (k : Nat) (a0 : List Int) (a1 : List (List UInt8)) (a2_0 : List Nod) : Option Bool := lvl (E bar) k 143 [.v (.L (.int .i64) a0), .v (.L .str a1), .v (.fn 142 [(.vp [(.L .node a2_0)])])]
noncomputable def value_all_int_string_value_Fits_1.l0 (bar : Bar) (k : Nat) (n : Nat) (as0 : List Int) (bs1 : List (List UInt8)) (is2 : List Nod) (x12 : Int) (x13 : Int) : Option Bool := loopAt (E bar) k fi143 sg143 [.r, .l, .r] n ⟨[(0, (.L (.int .i64) as0)), (1, (.L .str bs1)), (2, (.fn 142 [(.vp [(.L .node is2)])])), (12, (.int .i64 x12)), (13, (.int .i64 x13))], []⟩
/-- quiver/types.May -/
noncomputable def types_May.f (bar : Bar) (k : Nat) (a0 : List Nod) : Option Bool := lvl (E bar) k 144 [.v (.agg [(.L .node a0)])]
noncomputable def types_May.l0 (bar : Bar) (k : Nat) (n : Nat) (x19 : List Nod) (x20 : Int) (x21 : Int) : Option Bool := loopAt (E bar) k fi144 sg144 [.r, .r, .l, .r] n ⟨[(1, (.ref 1 0)), (19, (.L .node x19)), (20, (.int .i64 x20)), (21, (.int .i64 x21))], [(1, ⟨true, [.av (.L .node x19)]⟩)]⟩
noncomputable def types_May.l2 (bar : Bar) (k : Nat) (n : Nat) (x41 : List Nod) (x42 : Int) (x43 : Int) : Option Bool := loopAt (E bar) k fi144 sg144 [.r, .r, .r, .l, .r] n ⟨[(1, (.ref 1 0)), (41, (.L .node x41)), (42, (.int .i64 x42)), (43, (.int .i64 x43))], [(1, ⟨true, [.av (.L .node x41)]⟩)]⟩
/-- quiver/hybrid.may -/
noncomputable def hybrid_may.f (bar : Bar) (k : Nat) (a0 : List Int) (a1 : Int) : Option Bool := lvl (E bar) k 145 [.v (.L (.int .i64) a0), .v (.int .i64 a1)]
/-- quiver/hybrid.same -/
noncomputable def hybrid_same.f (bar : Bar) (k : Nat) (a0 : List Int) : Option Int := lvl (E bar) k 146 [.v (.L (.int .i64) a0)]
noncomputable def hybrid_same.l0 (bar : Bar) (k : Nat) (n : Nat) (xs0 : List Int) (x6 : Int) (x7 : Int) : Option Int := loopAt (E bar) k fi146 sg146 [.r, .l, .r] n ⟨[(0, (.L (.int .i64) xs0)), (5, (.L (.int .i64) xs0)), (6, (.int .i64 x6)), (7, (.int .i64 x7))], []⟩
/-- quiver/num.PutVar -/
noncomputable def num_PutVar.f (bar : Bar) (k : Nat) (a0 : Int) : Option (List UInt8 × Int) := lvl (E bar) k 147 [.v (.int .i64 a0)]
noncomputable def num_PutVar.l0 (bar : Bar) (k : Nat) (n : Nat) (x0 : Int) (x2004 : List Int) : Option (List UInt8 × Int) := loopAt (E bar) k fi147 sg147 [.r, .r, .r, .l] n ⟨[(4, (.al 2004 0)), (0, (.int .i64 x0))], [(2004, ⟨false, [.sl (.int .u8) false x2004]⟩)]⟩
/-- quiver/bits.Bytes -/
noncomputable def bits_Bytes.f (bar : Bar) (k : Nat) (a0 : Int) : Option Int := lvl (E bar) k 148 [.v (.int .i64 a0)]
/-- quiver/hybrid.groups -/
noncomputable def hybrid_groups.f (bar : Bar) (k : Nat) (a0 : List Int) : Option Int := lvl (E bar) k 149 [.v (.L (.int .i64) a0)]
noncomputable def hybrid_groups.l0 (bar : Bar) (k : Nat) (n : Nat) (xs0 : List Int) (at_3 : Int) : Option Int := loopAt (E bar) k fi149 sg149 [.r, .l, .r] n ⟨[(0, (.L (.int .i64) xs0)), (3, (.int .i64 at_3))], []⟩
/-- quiver/hybrid.wide -/
noncomputable def hybrid_wide.f (bar : Bar) (k : Nat) (a0 : List Int) (a1 : Int) : Option (List UInt8) := lvl (E bar) k 150 [.v (.L (.int .i64) a0), .v (.int .i64 a1)]
noncomputable def hybrid_wide.l0 (bar : Bar) (k : Nat) (n : Nat) (width1 : Int) (x18 : List Int) (x19 : Int) (x20 : Int) (x2005 : List Bool) : Option (List UInt8) := loopAt (E bar) k fi150 sg150 [.r, .r, .l, .r] n ⟨[(5, (.al 2005 0)), (1, (.int .i64 width1)), (18, (.L (.int .i64) x18)), (19, (.int .i64 x19)), (20, (.int .i64 x20))], [(2005, ⟨false, [.sl .bool false x2005]⟩)]⟩
noncomputable def hybrid_wide.l2 (bar : Bar) (k : Nat) (m1 : Nat) (n : Nat) (width1 : Int) (i6 : Int) (x7 : Int) (x18 : List Int) (x19 : Int) (x26 : Int) (x2005 : List Bool) : Option (List UInt8) := loopAt (E bar) k fi150 sg150 [.r, .r, .l, .r, .lp m1, .r, .r, .l, .b, .r, .r] n ⟨[(5, (.al 2005 0)), (1, (.int .i64 width1)), (6, (.int .i64 i6)), (7, (.int .i64 x7)), (18, (.L (.int .i64) x18)), (19, (.int .i64 x19)), (20, (.int .i64 i6)), (25, (.int .i64 width1)), (26, (.int .i64 x26))], [(2005, ⟨false, [.sl .bool false x2005]⟩)]⟩
/-- (*quiver/value.taker).value -/
noncomputable def value_taker_value.f (bar : Bar) (k : Nat) (a0_0 : List UInt8) (a0_1 : Bool) (a1 : Int) : Option ((Int × List (List UInt8)) × ((List UInt8 × Bool))) := lvl (E bar) k 152 [.b [.av (.str a0_0), .av (.bool a0_1)], .v (.int .i64 a1)]
/-- quiver/pad.May -/
noncomputable def pad_May.f (bar : Bar) (k : Nat) (a0 : Int) : Option Bool := lvl (E bar) k 155 [.v (.int .i64 a0)]
/-- (*quiver/hybrid.taker).bytes -/
noncomputable def hybrid_taker_bytes.f (bar : Bar) (k : Nat) (a0_0 : List UInt8) (a0_1 : Int) (a0_2 : List Int) (a0_3 : Bool) (a1 : Int) : Option (List UInt8 × ((List UInt8 × Int × List Int × Bool))) := lvl (E bar) k 156 [.b [.av (.str a0_0), .av (.int .i64 a0_1), .sl (.int .i64) false a0_2, .av (.bool a0_3)], .v (.int .i64 a1)]
/-- slices.Repeat[[]int,int] -/
noncomputable def slices_Repeat_int_int.f (bar : Bar) (k : Nat) (a0 : List Int) (a1 : Int) : Option (List Int) := lvl (E bar) k 157 [.v (.L (.int .i64) a0), .v (.int .i64 a1)]
noncomputable def slices_Repeat_int_int.j3 (bar : Bar) (k : Nat) (x0 : List Int) (count1 : Int) : Option (List Int) := cutAt (E bar) k fi157 sg157 [.r, .r] ⟨[(0, (.L (.int .i64) x0)), (1, (.int .i64 count1))], []⟩
noncomputable def slices_Repeat_int_int.j6 (bar : Bar) (k : Nat) (x0 : List Int) (lo6 : Int) : Option (List Int) := cutAt (E bar) k fi157 sg157 [.r, .r, .r, .r] ⟨[(0, (.L (.int .i64) x0)), (6, (.int .u64 lo6))], []⟩
noncomputable def slices_Repeat_int_int.l0 (bar : Bar) (k : Nat) (n : Nat) (n_8 : Int) (x2007 : List Int) : Option (List Int) := loopAt (E bar) k fi157 sg157 [.r, .r, .r, .r, .r, .r, .l] n ⟨[(7, (.al 2007 0)), (8, (.int .i64 n_8))], [(2007, ⟨false, [.sl (.int .i64) false x2007]⟩)]⟩
/-- quiver/bits.On -/
noncomputable def bits_On.f (bar : Bar) (k : Nat) (a0 : List UInt8) (a1 : Int) : Option Bool := lvl (E bar) k 158 [.v (.str a0), .v (.int .i64 a1)]
/-- strconv.Itoa -/
noncomputable def strconv_Itoa.f (bar : Bar) (k : Nat) (a0 : Int) : Option (List UInt8) := lvl (E bar) k 159 [.v (.int .i64 a0)]
/-- quiver/quiverref7.end -/
noncomputable def quiverref7_end.f (bar : Bar) (k : Nat) (a0 : List UInt8) (a1 : Int) (a2 : Int) : Option Int := lvl (E bar) k 133 [.v (.str a0), .v (.int .i64 a1), .v (.int .i64 a2)]
noncomputable def quiverref7_end.l1 (bar : Bar) (k : Nat) (n : Nat) (s0 : List UInt8) (at_1 : Int) (deep2 : Int) (stop13 : Int) : Option Int := loopAt (E bar) k fi133 sg133 [.r, .r, .l, .r, .b, .r, .e, .r, .e, .r, .e, .r, .t, .r, .r, .l] n ⟨[(0, (.str s0)), (1, (.int .i64 at_1)), (2, (.int .i64 deep2)), (13, (.int .u8 stop13))], []⟩
/-- quiver/quiverref7.upto -/
noncomputable def quiverref7_upto.f (bar : Bar) (k : Nat) (a0 : List UInt8) (a1 : Int) (a2 : Int) : Option Int := lvl (E bar) k 134 [.v (.str a0), .v (.int .i64 a1), .v (.int .u8 a2)]
noncomputable def quiverref7_upto.l0 (bar : Bar) (k : Nat) (n : Nat) (s0 : List UInt8) (at_1 : Int) (sign2 : Int) (i7 : Int) : Option Int := loopAt (E bar) k fi134 sg134 [.r, .l, .r] n ⟨[(0, (.str s0)), (1, (.int .i64 at_1)), (2, (.int .u8 sign2)), (7, (.int .i64 i7))], []⟩
/-- quiver/types.kids -/
noncomputable def types_kids.f (bar : Bar) (k : Nat) (a0 : List Nod) (a1 : Int) : Option (List Int) := lvl (E bar) k 172 [.v (.vp [(.L .node a0)]), .v (.int .i64 a1)]
noncomputable def types_kids.l0 (bar : Bar) (k : Nat) (n : Nat) (at_1 : Int) (x11 : List Nod) (x12 : Int) (x13 : Int) (x2005 : List Int) : Option (List Int) := loopAt (E bar) k fi172 sg172 [.r, .r, .l, .r] n ⟨[(5, (.al 2005 0)), (1, (.int .i64 at_1)), (11, (.L .node x11)), (12, (.int .i64 x12)), (13, (.int .i64 x13))], [(2005, ⟨false, [.sl (.int .i64) false x2005]⟩)]⟩
/-- quiver/types.stands -/
noncomputable def types_stands.f (bar : Bar) (k : Nat) (a0 : List Nod) (a1 : Int) : Option Bool := lvl (E bar) k 173 [.v (.vp [(.L .node a0)]), .v (.int .i64 a1)]
/-- slices.ContainsFunc[[]int,int] -/
noncomputable def slices_ContainsFunc_int_int_hybrid_may_1.f (bar : Bar) (k : Nat) (a0 : List Int) (a1_0 : Int) : Option Bool := lvl (E bar) k 175 [.v (.L (.int .i64) a0), .v (.fn 174 [(.vp [(.int .i64 a1_0)])])]
/-- quiver/bits.Of -/
noncomputable def bits_Of.f (bar : Bar) (k : Nat) (a0 : List Bool) : Option (List UInt8) := lvl (E bar) k 176 [.v (.L .bool a0)]
noncomputable def bits_Of.l0 (bar : Bar) (k : Nat) (n : Nat) (x10 : List Bool) (x11 : Int) (x12 : Int) (x2003 : List Int) : Option (List UInt8) := loopAt (E bar) k fi176 sg176 [.r, .r, .l, .r] n ⟨[(3, (.al 2003 0)), (10, (.L .bool x10)), (11, (.int .i64 x11)), (12, (.int .i64 x12))], [(2003, ⟨false, [.sl (.int .u8) false x2003]⟩)]⟩
/-- (*quiver/value.taker).fail -/
noncomputable def value_taker_fail.f (bar : Bar) (k : Nat) (a0_0 : List UInt8) (a0_1 : Bool) : Option ((Int × List (List UInt8)) × ((List UInt8 × Bool))) := lvl (E bar) k 177 [.b [.av (.str a0_0), .av (.bool a0_1)]]
/-- (*quiver/value.taker).byte -/
noncomputable def value_taker_byte.f (bar : Bar) (k : Nat) (a0_0 : List UInt8) (a0_1 : Bool) : Option (Int × ((List UInt8 × Bool))) := lvl (E bar) k 178 [.b [.av (.str a0_0), .av (.bool a0_1)]]
/-- (*quiver/value.taker).number -/
noncomputable def value_taker_number.f (bar : Bar) (k : Nat) (a0_0 : List UInt8) (a0_1 : Bool) (a1 : List UInt8) : Option ((Int × List UInt8) × ((List UInt8 × Bool))) := lvl (E bar) k 179 [.b [.av (.str a0_0), .av (.bool a0_1)], .v (.str a1)]
/-- (*quiver/value.taker).bytes -/
noncomputable def value_taker_bytes.f (bar : Bar) (k : Nat) (a0_0 : List UInt8) (a0_1 : Bool) (a1 : Int) : Option (List UInt8 × ((List UInt8 × Bool))) := lvl (E bar) k 180 [.b [.av (.str a0_0), .av (.bool a0_1)], .v (.int .i64 a1)]
/-- (*quiver/value.taker).row -/
noncomputable def value_taker_row.f (bar : Bar) (k : Nat) (a0_0 : List UInt8) (a0_1 : Bool) (a1 : Int) (a2 : Int) : Option (List (List UInt8) × ((List UInt8 × Bool))) := lvl (E bar) k 181 [.b [.av (.str a0_0), .av (.bool a0_1)], .v (.int .u8 a1), .v (.int .i64 a2)]
noncomputable def value_taker_row.l0 (bar : Bar) (k : Nat) (n : Nat) (end_1 : Int) (within2 : Int) (x1000 : List UInt8) (x1000_1 : Bool) (x2007 : List (List UInt8)) : Option (List (List UInt8) × ((List UInt8 × Bool))) := loopAt (E bar) k fi181 sg181 [.r, .r, .l] n ⟨[(7, (.al 2007 0)), (0, (.ref 1000 0)), (1, (.int .u8 end_1)), (2, (.int .i64 within2))], [(1000, ⟨true, [.av (.str x1000), .av (.bool x1000_1)]⟩), (2007, ⟨false, [.sl .str false x2007]⟩)]⟩
/-- math/bits.Mul -/
noncomputable def math_bits_Mul.f (bar : Bar) (k : Nat) (a0 : Int) (a1 : Int) : Option (Int × Int) := lvl (E bar) k 187 [.v (.int .u64 a0), .v (.int .u64 a1)]
/-- quiver/quiverref7.whole -/
noncomputable def quiverref7_whole.f (bar : Bar) (k : Nat) (a0 : List UInt8) : Option (Int × Bool) := lvl (E bar) k 91 [.v (.str a0)]
noncomputable def quiverref7_whole.l0 (bar : Bar) (k : Nat) (n : Nat) (s0 : List UInt8) (x4 : Int) (i5 : Int) : Option (Int × Bool) := loopAt (E bar) k fi91 sg91 [.r, .r, .l, .r] n ⟨[(0, (.str s0)), (4, (.int .i64 x4)), (5, (.int .i64 i5))], []⟩
/-- slices.IndexFunc[[]int,int] -/
noncomputable def slices_IndexFunc_int_int_hybrid_may_1.f (bar : Bar) (k : Nat) (a0 : List Int) (a1_0 : Int) : Option Int := lvl (E bar) k 192 [.v (.L (.int .i64) a0), .v (.fn 174 [(.vp [(.int .i64 a1_0)])])]
noncomputable def slices_IndexFunc_int_int_hybrid_may_1.l0 (bar : Bar) (k : Nat) (n : Nat) (s0 : List Int) (f1 : Int) (x7 : Int) (x8 : Int) : Option Int := loopAt (E bar) k fi192 sg192 [.r, .l, .r] n ⟨[(0, (.L (.int .i64) s0)), (1, (.fn 174 [(.vp [(.int .i64 f1)])])), (7, (.int .i64 x7)), (8, (.int .i64 x8))], []⟩
/-- strings.Cut -/
noncomputable def strings_Cut.f (bar : Bar) (k : Nat) (a0 : List UInt8) (a1 : List UInt8) : Option (List UInt8 × List UInt8 × Bool) := lvl (E bar) k 193 [.v (.str a0), .v (.str a1)]
/-- math/bits.Mul64 -/
noncomputable def math_bits_Mul64.f (bar : Bar) (k : Nat) (a0 : Int) (a1 : Int) : Option (Int × Int) := lvl (E bar) k 198 [.v (.int .u64 a0), .v (.int .u64 a1)]
/-- quiver/quiverref7.digits -/
noncomputable def quiverref7_digits.f (bar : Bar) (k : Nat) (a0 : Int) : Option (List UInt8) := lvl (E bar) k 46 [.v (.int .i64 a0)]
noncomputable def quiverref7_digits.l0 (bar : Bar) (k : Nat) (n : Nat) (x0 : Int) (s3 : List UInt8) : Option (List UInt8) := loopAt (E bar) k fi46 sg46 [.r, .r, .r, .l] n ⟨[(0, (.int .i64 x0)), (3, (.str s3))], []⟩
/-- quiver/hybrid.may$1 -/
noncomputable def hybrid_may_1.f (bar : Bar) (k : Nat) (a0 : Int) (a1 : Int) : Option Bool := lvl (E bar) k 174 [.v (.int .i64 a0), .v (.vp [(.int .i64 a1)])]
/-- quiver/quiverref0.Decimal -/
noncomputable def quiverref0_Decimal.f (bar : Bar) (k : Nat) (a0 : Int) : Option (List UInt8) := lvl (E bar) k 86 [.v (.int .i64 a0)]
noncomputable def quiverref0_Decimal.j4 (bar : Bar) (k : Nat) (x0 : Int) (size3 : Int) : Option (List UInt8) := cutAt (E bar) k fi86 sg86 [.r, .r, .r] ⟨[(0, (.int .i64 x0)), (3, (.int .u64 size3))], []⟩
noncomputable def quiverref0_Decimal.l0 (bar : Bar) (k : Nat) (n : Nat) (x0 : Int) (size3 : Int) (x2004 : List Int) : Option (List UInt8) := loopAt (E bar) k fi86 sg86 [.r, .r, .r, .r, .l] n ⟨[(4, (.al 2004 0)), (0, (.int .i64 x0)), (3, (.int .u64 size3))], [(2004, ⟨false, [.sl (.int .u8) false x2004]⟩)]⟩

end Go.Proofs.YtjkokaockhecnaaGreatDoorA
