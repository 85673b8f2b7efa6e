/- The functions and loops of the program, as the machine answers them, under names of their own: definitions alone. -/
import Derived.Test.YtppmpfddcohkjaaDoorEnv
namespace Go.Proofs.YtppmpfddcohkjaaDoorA
open Go
set_option linter.unusedVariables false

/-- quiver/quiverlaw9.Reads -/
noncomputable def quiverlaw9_Reads.f (bar : Bar) (k : Nat) (a0 : List Nod) (a1 : Int) (a2 : Arr) (a3 : Int) : Option Bool := lvl (E bar) k 3 [.v (.agg [(.L .node a0)]), .v (.int .i64 a1), .v (.agg [(.int .i64 a2.layout), (.int .i64 a2.offset), (.int .i64 a2.length), (.str a2.valid), (.str a2.ends), (.str a2.data), (.L .arr a2.kids)]), .v (.int .i64 a3)]
/-- quiver/quiverlaw9.ReadFits -/
noncomputable def quiverlaw9_ReadFits.f (bar : Bar) (k : Nat) (a0 : List Nod) (a1 : Int) (a2 : Arr) : Option Bool := lvl (E bar) k 4 [.v (.agg [(.L .node a0)]), .v (.int .i64 a1), .v (.agg [(.int .i64 a2.layout), (.int .i64 a2.offset), (.int .i64 a2.length), (.str a2.valid), (.str a2.ends), (.str a2.data), (.L .arr a2.kids)])]
noncomputable def quiverlaw9_ReadFits.l0 (bar : Bar) (k : Nat) (n : Nat) (at_1 : Int) (i9 : Int) (t3 : List Nod) (a5 : Int) (a5_1 : Int) (a5_2 : Int) (a5_3 : List UInt8) (a5_4 : List UInt8) (a5_5 : List UInt8) (a5_6 : List Arr) (x2007 : List (List UInt8)) : Option Bool := loopAt (E bar) k fi4 sg4 [.r, .r, .r, .r, .r, .l, .r] n ⟨[(7, (.al 2007 0)), (1, (.int .i64 at_1)), (3, (.ref 3 0)), (5, (.ref 5 0)), (9, (.int .i64 i9))], [(3, ⟨true, [.av (.L .node t3)]⟩), (5, ⟨true, [.av (.int .i64 a5), .av (.int .i64 a5_1), .av (.int .i64 a5_2), .av (.str a5_3), .av (.str a5_4), .av (.str a5_5), .av (.L .arr a5_6)]⟩), (2007, ⟨false, [.sl .str false x2007]⟩)]⟩
/-- quiver/quiverlaw9.ReadForms -/
noncomputable def quiverlaw9_ReadForms.f (bar : Bar) (k : Nat) (a0 : List Nod) (a1 : Int) (a2 : Arr) (a3 : Int) : Option Bool := lvl (E bar) k 5 [.v (.agg [(.L .node a0)]), .v (.int .i64 a1), .v (.agg [(.int .i64 a2.layout), (.int .i64 a2.offset), (.int .i64 a2.length), (.str a2.valid), (.str a2.ends), (.str a2.data), (.L .arr a2.kids)]), .v (.int .i64 a3)]
/-- quiver/quiverlaw9.ReadUnder -/
noncomputable def quiverlaw9_ReadUnder.f (bar : Bar) (k : Nat) (a0 : List Int) (a1 : Int) (a2 : Int) : Option Bool := lvl (E bar) k 6 [.v (.L (.int .i64) a0), .v (.int .i64 a1), .v (.int .i64 a2)]
noncomputable def quiverlaw9_ReadUnder.l0 (bar : Bar) (k : Nat) (n : Nat) (xs0 : List Int) (bits1 : Int) (junk2 : Int) (i11 : Int) (t7 : List Nod) (a8 : List UInt8) (b9 : List UInt8) (x2010 : List (List UInt8)) : Option Bool := loopAt (E bar) k fi6 sg6 [.r, .r, .r, .r, .r, .r, .l, .r] n ⟨[(10, (.al 2010 0)), (0, (.L (.int .i64) xs0)), (1, (.int .i64 bits1)), (2, (.int .i64 junk2)), (7, (.ref 7 0)), (8, (.ref 8 0)), (9, (.ref 9 0)), (11, (.int .i64 i11))], [(7, ⟨true, [.sl .node false t7]⟩), (8, ⟨true, [.av (.int .i64 0), .av (.int .i64 0), .av (.int .i64 i11), .av (.str []), .av (.str []), .av (.str a8), .sl .arr false ([] : List Arr)]⟩), (9, ⟨true, [.av (.int .i64 0), .av (.int .i64 0), .av (.int .i64 i11), .av (.str []), .av (.str []), .av (.str b9), .sl .arr false ([] : List Arr)]⟩), (2010, ⟨false, [.sl .str false x2010]⟩)]⟩
noncomputable def quiverlaw9_ReadUnder.j15 (bar : Bar) (k : Nat) (m1 : Nat) (xs0 : List Int) (bits1 : Int) (junk2 : Int) (i11 : Int) (x12 : Int) (y13 : Int) (v14 : List UInt8) (t7 : List Nod) (a8 : List UInt8) (b9 : List UInt8) (x2010 : List (List UInt8)) : Option Bool := cutAt (E bar) k fi6 sg6 [.r, .r, .r, .r, .r, .r, .l, .r, .lp m1, .r, .l, .b, .r, .r, .r] ⟨[(10, (.al 2010 0)), (0, (.L (.int .i64) xs0)), (1, (.int .i64 bits1)), (2, (.int .i64 junk2)), (7, (.ref 7 0)), (8, (.ref 8 0)), (9, (.ref 9 0)), (11, (.int .i64 i11)), (12, (.int .i64 x12)), (13, (.int .i64 y13)), (14, (.str v14))], [(7, ⟨true, [.sl .node false t7]⟩), (8, ⟨true, [.av (.int .i64 0), .av (.int .i64 0), .av (.int .i64 i11), .av (.str []), .av (.str []), .av (.str a8), .sl .arr false ([] : List Arr)]⟩), (9, ⟨true, [.av (.int .i64 0), .av (.int .i64 0), .av (.int .i64 i11), .av (.str []), .av (.str []), .av (.str b9), .sl .arr false ([] : List Arr)]⟩), (2010, ⟨false, [.sl .str false x2010]⟩)]⟩
noncomputable def quiverlaw9_ReadUnder.l2 (bar : Bar) (k : Nat) (m1 : Nat) (n : Nat) (xs0 : List Int) (bits1 : Int) (junk2 : Int) (i11 : Int) (x12 : Int) (y13 : Int) (v14 : List UInt8) (k_15 : Int) (t7 : List Nod) (a8 : List UInt8) (b9 : List UInt8) (x2010 : List (List UInt8)) : Option Bool := loopAt (E bar) k fi6 sg6 [.r, .r, .r, .r, .r, .r, .l, .r, .lp m1, .r, .l, .b, .r, .r, .r, .l, .r] n ⟨[(10, (.al 2010 0)), (0, (.L (.int .i64) xs0)), (1, (.int .i64 bits1)), (2, (.int .i64 junk2)), (7, (.ref 7 0)), (8, (.ref 8 0)), (9, (.ref 9 0)), (11, (.int .i64 i11)), (12, (.int .i64 x12)), (13, (.int .i64 y13)), (14, (.str v14)), (15, (.int .i64 k_15))], [(7, ⟨true, [.sl .node false t7]⟩), (8, ⟨true, [.av (.int .i64 0), .av (.int .i64 0), .av (.int .i64 i11), .av (.str []), .av (.str []), .av (.str a8), .sl .arr false ([] : List Arr)]⟩), (9, ⟨true, [.av (.int .i64 0), .av (.int .i64 0), .av (.int .i64 i11), .av (.str []), .av (.str []), .av (.str b9), .sl .arr false ([] : List Arr)]⟩), (2010, ⟨false, [.sl .str false x2010]⟩)]⟩
/-- quiver/quiverlaw0.CopyArray -/
noncomputable def quiverlaw0_CopyArray.f (bar : Bar) (k : Nat) (a0 : Arr) : Option Arr := lvl (E bar) k 7 [.v (.agg [(.int .i64 a0.layout), (.int .i64 a0.offset), (.int .i64 a0.length), (.str a0.valid), (.str a0.ends), (.str a0.data), (.L .arr a0.kids)])]
noncomputable def quiverlaw0_CopyArray.l0 (bar : Bar) (k : Nat) (n : Nat) (i4 : Int) (a1 : Int) (a1_1 : Int) (a1_2 : Int) (a1_3 : List UInt8) (a1_4 : List UInt8) (a1_5 : List UInt8) (a1_6 : List Arr) (x2003 : List Arr) : Option Arr := loopAt (E bar) k fi7 sg7 [.r, .r, .l, .r] n ⟨[(3, (.al 2003 0)), (1, (.ref 1 0)), (2, (.ref 2 0)), (4, (.int .i64 i4))], [(1, ⟨true, [.av (.int .i64 a1), .av (.int .i64 a1_1), .av (.int .i64 a1_2), .av (.str a1_3), .av (.str a1_4), .av (.str a1_5), .av (.L .arr a1_6)]⟩), (2, ⟨true, [.av (.int .i64 0), .av (.int .i64 0), .av (.int .i64 0), .av (.str []), .av (.str []), .av (.str []), .sl .arr false ([] : List Arr)]⟩), (2003, ⟨false, [.sl .arr false x2003]⟩)]⟩
/-- quiver/read.Value -/
noncomputable def read_Value.f (bar : Bar) (k : Nat) (a0 : List Nod) (a1 : Int) (a2 : Arr) (a3 : Int) : Option (List UInt8 × Int) := lvl (E bar) k 8 [.v (.agg [(.L .node a0)]), .v (.int .i64 a1), .v (.agg [(.int .i64 a2.layout), (.int .i64 a2.offset), (.int .i64 a2.length), (.str a2.valid), (.str a2.ends), (.str a2.data), (.L .arr a2.kids)]), .v (.int .i64 a3)]
/-- quiver/quiverref7.Value -/
noncomputable def quiverref7_Value.f (bar : Bar) (k : Nat) (a0 : List Nod) (a1 : Int) (a2 : Arr) (a3 : Int) : Option (List UInt8 × Int) := lvl (E bar) k 9 [.v (.agg [(.L .node a0)]), .v (.int .i64 a1), .v (.agg [(.int .i64 a2.layout), (.int .i64 a2.offset), (.int .i64 a2.length), (.str a2.valid), (.str a2.ends), (.str a2.data), (.L .arr a2.kids)]), .v (.int .i64 a3)]
/-- quiver/read.Values -/
noncomputable def read_Values.f (bar : Bar) (k : Nat) (a0 : List Nod) (a1 : Int) (a2 : Arr) : Option (List (List UInt8) × Int) := lvl (E bar) k 10 [.v (.agg [(.L .node a0)]), .v (.int .i64 a1), .v (.agg [(.int .i64 a2.layout), (.int .i64 a2.offset), (.int .i64 a2.length), (.str a2.valid), (.str a2.ends), (.str a2.data), (.L .arr a2.kids)])]
noncomputable def read_Values.l0 (bar : Bar) (k : Nat) (n : Nat) (at_1 : Int) (x16 : Int) (x17 : Int) (t3 : List Nod) (a5 : Int) (a5_1 : Int) (a5_2 : List UInt8) (a5_3 : List UInt8) (a5_4 : List UInt8) (a5_5 : List Arr) (x2008 : List (List UInt8)) : Option (List (List UInt8) × Int) := loopAt (E bar) k fi10 sg10 [.r, .r, .r, .l, .r] n ⟨[(8, (.al 2008 0)), (1, (.int .i64 at_1)), (3, (.ref 3 0)), (5, (.ref 5 0)), (16, (.int .i64 x16)), (17, (.int .i64 x17))], [(3, ⟨true, [.av (.L .node t3)]⟩), (5, ⟨true, [.av (.int .i64 a5), .av (.int .i64 a5_1), .av (.int .i64 x16), .av (.str a5_2), .av (.str a5_3), .av (.str a5_4), .av (.L .arr a5_5)]⟩), (2008, ⟨false, [.sl .str false x2008]⟩)]⟩
/-- quiver/quiverref7.Values -/
noncomputable def quiverref7_Values.f (bar : Bar) (k : Nat) (a0 : List Nod) (a1 : Int) (a2 : Arr) : Option (List (List UInt8) × Int) := lvl (E bar) k 11 [.v (.agg [(.L .node a0)]), .v (.int .i64 a1), .v (.agg [(.int .i64 a2.layout), (.int .i64 a2.offset), (.int .i64 a2.length), (.str a2.valid), (.str a2.ends), (.str a2.data), (.L .arr a2.kids)])]
noncomputable def quiverref7_Values.l0 (bar : Bar) (k : Nat) (n : Nat) (at_1 : Int) (i9 : Int) (t3 : List Nod) (a5 : Int) (a5_1 : Int) (a5_2 : Int) (a5_3 : List UInt8) (a5_4 : List UInt8) (a5_5 : List UInt8) (a5_6 : List Arr) (x2008 : List (List UInt8)) : Option (List (List UInt8) × Int) := loopAt (E bar) k fi11 sg11 [.r, .r, .r, .l, .r] n ⟨[(8, (.al 2008 0)), (1, (.int .i64 at_1)), (3, (.ref 3 0)), (5, (.ref 5 0)), (9, (.int .i64 i9))], [(3, ⟨true, [.av (.L .node t3)]⟩), (5, ⟨true, [.av (.int .i64 a5), .av (.int .i64 a5_1), .av (.int .i64 a5_2), .av (.str a5_3), .av (.str a5_4), .av (.str a5_5), .av (.L .arr a5_6)]⟩), (2008, ⟨false, [.sl .str false x2008]⟩)]⟩
/-- quiver/quiverlaw0.Num -/
noncomputable def quiverlaw0_Num.f (bar : Bar) (k : Nat) (a0 : Int) : Option Int := lvl (E bar) k 12 [.v (.int .i64 a0)]
/-- quiver/quiverlaw0.SameTexts -/
noncomputable def quiverlaw0_SameTexts.f (bar : Bar) (k : Nat) (a0 : List (List UInt8)) (a1 : List (List UInt8)) : Option Bool := lvl (E bar) k 13 [.v (.L .str a0), .v (.L .str a1)]
noncomputable def quiverlaw0_SameTexts.l0 (bar : Bar) (k : Nat) (n : Nat) (a0 : List (List UInt8)) (b1 : List (List UInt8)) (i5 : Int) : Option Bool := loopAt (E bar) k fi13 sg13 [.r, .r, .l, .r] n ⟨[(0, (.L .str a0)), (1, (.L .str b1)), (5, (.int .i64 i5))], []⟩
/-- quiver/quiverlaw0.SameArray -/
noncomputable def quiverlaw0_SameArray.f (bar : Bar) (k : Nat) (a0 : Arr) (a1 : Arr) : Option Bool := lvl (E bar) k 14 [.v (.agg [(.int .i64 a0.layout), (.int .i64 a0.offset), (.int .i64 a0.length), (.str a0.valid), (.str a0.ends), (.str a0.data), (.L .arr a0.kids)]), .v (.agg [(.int .i64 a1.layout), (.int .i64 a1.offset), (.int .i64 a1.length), (.str a1.valid), (.str a1.ends), (.str a1.data), (.L .arr a1.kids)])]
noncomputable def quiverlaw0_SameArray.l0 (bar : Bar) (k : Nat) (n : Nat) (i5 : Int) (a2 : Int) (a2_1 : Int) (a2_2 : Int) (a2_3 : List UInt8) (a2_4 : List UInt8) (a2_5 : List UInt8) (a2_6 : List Arr) (b3 : Int) (b3_1 : Int) (b3_2 : Int) (b3_3 : List UInt8) (b3_4 : List UInt8) (b3_5 : List UInt8) (b3_6 : List Arr) : Option Bool := loopAt (E bar) k fi14 sg14 [.r, .r, .l, .r] n ⟨[(2, (.ref 2 0)), (3, (.ref 3 0)), (5, (.int .i64 i5))], [(2, ⟨true, [.av (.int .i64 a2), .av (.int .i64 a2_1), .av (.int .i64 a2_2), .av (.str a2_3), .av (.str a2_4), .av (.str a2_5), .av (.L .arr a2_6)]⟩), (3, ⟨true, [.av (.int .i64 b3), .av (.int .i64 b3_1), .av (.int .i64 b3_2), .av (.str b3_3), .av (.str b3_4), .av (.str b3_5), .av (.L .arr b3_6)]⟩)]⟩
/-- quiver/quiverlaw9.awake -/
noncomputable def quiverlaw9_awake.f (bar : Bar) (k : Nat) : Option Bool := lvl (E bar) k 15 []
/-- quiver/quiverref7.Fits -/
noncomputable def quiverref7_Fits.f (bar : Bar) (k : Nat) (a0 : List Nod) (a1 : Int) (a2 : List UInt8) : Option Bool := lvl (E bar) k 16 [.v (.agg [(.L .node a0)]), .v (.int .i64 a1), .v (.str a2)]
noncomputable def quiverref7_Fits.l0 (bar : Bar) (k : Nat) (n : Nat) (kind8 : Int) (i13 : Int) (t3 : List Nod) (x2009 : List (List UInt8)) (x2011 : List Int) : Option Bool := loopAt (E bar) k fi16 sg16 [.r, .r, .r, .r, .r, .r, .r, .r, .l, .r] n ⟨[(11, (.al 2011 0)), (9, (.al 2009 0)), (3, (.ref 3 0)), (8, (.int .i64 kind8)), (13, (.int .i64 i13))], [(3, ⟨true, [.av (.L .node t3)]⟩), (2009, ⟨false, [.sl .str false x2009]⟩), (2011, ⟨false, [.sl (.int .i64) false x2011]⟩)]⟩
/-- quiver/quiverref7.Int -/
noncomputable def quiverref7_Int.f (bar : Bar) (k : Nat) (a0 : Int) : Option (List UInt8) := lvl (E bar) k 17 [.v (.int .i64 a0)]
/-- quiver/array.May -/
noncomputable def array_May.f (bar : Bar) (k : Nat) (a0 : List Nod) (a1 : Int) (a2 : Arr) : Option Bool := lvl (E bar) k 18 [.v (.agg [(.L .node a0)]), .v (.int .i64 a1), .v (.agg [(.int .i64 a2.layout), (.int .i64 a2.offset), (.int .i64 a2.length), (.str a2.valid), (.str a2.ends), (.str a2.data), (.L .arr a2.kids)])]
/-- (quiver/read.reader).row -/
noncomputable def read_reader_row.f (bar : Bar) (k : Nat) (a0 : List Nod) (a1 : Int) (a2 : Arr) (a3 : Int) : Option (List UInt8) := lvl (E bar) k 19 [.v (.agg [(.L .node a0)]), .v (.int .i64 a1), .v (.vp [(.int .i64 a2.layout), (.int .i64 a2.offset), (.int .i64 a2.length), (.str a2.valid), (.str a2.ends), (.str a2.data), (.L .arr a2.kids)]), .v (.int .i64 a3)]
/-- quiver/quiverref7.ArrayMay -/
noncomputable def quiverref7_ArrayMay.f (bar : Bar) (k : Nat) (a0 : List Nod) (a1 : Int) (a2 : Arr) : Option Bool := lvl (E bar) k 20 [.v (.agg [(.L .node a0)]), .v (.int .i64 a1), .v (.agg [(.int .i64 a2.layout), (.int .i64 a2.offset), (.int .i64 a2.length), (.str a2.valid), (.str a2.ends), (.str a2.data), (.L .arr a2.kids)])]
noncomputable def quiverref7_ArrayMay.l0 (bar : Bar) (k : Nat) (n : Nat) (rows7 : Int) (k_8 : Int) (i9 : Int) (a5 : Int) (a5_1 : Int) (a5_2 : Int) (a5_3 : List UInt8) (a5_4 : List UInt8) (a5_5 : List UInt8) (a5_6 : List Arr) : Option Bool := loopAt (E bar) k fi20 sg20 [.r, .r, .r, .r, .r, .r, .r, .l, .r, .t, .r, .l, .r] n ⟨[(5, (.ref 5 0)), (7, (.int .i64 rows7)), (8, (.int .i64 k_8)), (9, (.int .i64 i9))], [(5, ⟨true, [.av (.int .i64 a5), .av (.int .i64 a5_1), .av (.int .i64 a5_2), .av (.str a5_3), .av (.str a5_4), .av (.str a5_5), .av (.L .arr a5_6)]⟩)]⟩
noncomputable def quiverref7_ArrayMay.l2 (bar : Bar) (k : Nat) (n : Nat) (rows7 : Int) (k_8 : Int) (was12 : Int) (i13 : Int) (a5 : Int) (a5_1 : Int) (a5_2 : Int) (a5_3 : List UInt8) (a5_4 : List UInt8) (a5_5 : List UInt8) (a5_6 : List Arr) : Option Bool := loopAt (E bar) k fi20 sg20 [.r, .r, .r, .r, .r, .r, .r, .r, .r, .r, .l, .r] n ⟨[(5, (.ref 5 0)), (7, (.int .i64 rows7)), (8, (.int .i64 k_8)), (12, (.int .i64 was12)), (13, (.int .i64 i13))], [(5, ⟨true, [.av (.int .i64 a5), .av (.int .i64 a5_1), .av (.int .i64 a5_2), .av (.str a5_3), .av (.str a5_4), .av (.str a5_5), .av (.L .arr a5_6)]⟩)]⟩
/-- quiver/quiverref7.value -/
noncomputable def quiverref7_value.f (bar : Bar) (k : Nat) (a0 : List Nod) (a1 : Int) (a2 : Arr) (a3 : Int) : Option (List UInt8) := lvl (E bar) k 21 [.v (.agg [(.L .node a0)]), .v (.int .i64 a1), .v (.agg [(.int .i64 a2.layout), (.int .i64 a2.offset), (.int .i64 a2.length), (.str a2.valid), (.str a2.ends), (.str a2.data), (.L .arr a2.kids)]), .v (.int .i64 a3)]
noncomputable def quiverref7_value.l0 (bar : Bar) (k : Nat) (n : Nat) (at_1 : Int) (row3 : Int) (i9 : Int) (t4 : List Nod) (a6 : Int) (a6_1 : Int) (a6_2 : Int) (a6_3 : List UInt8) (a6_4 : List UInt8) (a6_5 : List UInt8) (a6_6 : List Arr) : Option (List UInt8) := loopAt (E bar) k fi21 sg21 [.r, .r, .r, .r, .l, .r, .t, .r, .l] n ⟨[(1, (.int .i64 at_1)), (3, (.int .i64 row3)), (4, (.ref 4 0)), (6, (.ref 6 0)), (9, (.int .i64 i9))], [(4, ⟨true, [.av (.L .node t4)]⟩), (6, ⟨true, [.av (.int .i64 a6), .av (.int .i64 a6_1), .av (.int .i64 a6_2), .av (.str a6_3), .av (.str a6_4), .av (.str a6_5), .av (.L .arr a6_6)]⟩)]⟩
noncomputable def quiverref7_value.l3 (bar : Bar) (k : Nat) (n : Nat) (to16 : Int) (i17 : Int) (t4 : List Nod) (a6 : Int) (a6_1 : Int) (a6_2 : Int) (a6_3 : List UInt8) (a6_4 : List UInt8) (a6_5 : List UInt8) (a6_6 : List Arr) (x2010 : List Int) (x2012 : List (List UInt8)) : Option (List UInt8) := loopAt (E bar) k fi21 sg21 [.r, .r, .r, .r, .r, .r, .r, .l, .r, .b, .r, .e, .r, .e, .r, .e, .r, .t, .r, .l, .r] n ⟨[(12, (.al 2012 0)), (10, (.al 2010 0)), (4, (.ref 4 0)), (6, (.ref 6 0)), (16, (.int .i64 to16)), (17, (.int .i64 i17))], [(4, ⟨true, [.av (.L .node t4)]⟩), (6, ⟨true, [.av (.int .i64 a6), .av (.int .i64 a6_1), .av (.int .i64 a6_2), .av (.str a6_3), .av (.str a6_4), .av (.str a6_5), .av (.L .arr a6_6)]⟩), (2010, ⟨false, [.sl (.int .i64) false x2010]⟩), (2012, ⟨false, [.sl .str false x2012]⟩)]⟩
noncomputable def quiverref7_value.l5 (bar : Bar) (k : Nat) (n : Nat) (row3 : Int) (i18 : Int) (t4 : List Nod) (a6 : Int) (a6_1 : Int) (a6_2 : Int) (a6_3 : List UInt8) (a6_4 : List UInt8) (a6_5 : List UInt8) (a6_6 : List Arr) (x2010 : List Int) (x2012 : List (List UInt8)) : Option (List UInt8) := loopAt (E bar) k fi21 sg21 [.r, .r, .r, .r, .r, .r, .r, .r, .l, .r] n ⟨[(12, (.al 2012 0)), (10, (.al 2010 0)), (3, (.int .i64 row3)), (4, (.ref 4 0)), (6, (.ref 6 0)), (18, (.int .i64 i18))], [(4, ⟨true, [.av (.L .node t4)]⟩), (6, ⟨true, [.av (.int .i64 a6), .av (.int .i64 a6_1), .av (.int .i64 a6_2), .av (.str a6_3), .av (.str a6_4), .av (.str a6_5), .av (.L .arr a6_6)]⟩), (2010, ⟨false, [.sl (.int .i64) false x2010]⟩), (2012, ⟨false, [.sl .str false x2012]⟩)]⟩
/-- quiver/quiverref1.NodeMay -/
noncomputable def quiverref1_NodeMay.f (bar : Bar) (k : Nat) (a0 : List Nod) (a1 : Int) : Option Bool := lvl (E bar) k 22 [.v (.agg [(.L .node a0)]), .v (.int .i64 a1)]
/-- quiver/quiverref7.Parts -/
noncomputable def quiverref7_Parts.f (bar : Bar) (k : Nat) (a0 : List UInt8) : Option (Int × List (List UInt8) × Int) := lvl (E bar) k 23 [.v (.str a0)]
noncomputable def quiverref7_Parts.j13 (bar : Bar) (k : Nat) (v0 : List UInt8) : Option (Int × List (List UInt8) × Int) := cutAt (E bar) k fi23 sg23 [.r, .r, .r] ⟨[(0, (.str v0))], []⟩
noncomputable def quiverref7_Parts.l1 (bar : Bar) (k : Nat) (n : Nat) (v0 : List UInt8) (at_6 : Int) (x2005 : List (List UInt8)) : Option (Int × List (List UInt8) × Int) := loopAt (E bar) k fi23 sg23 [.r, .r, .r, .r, .l, .r] n ⟨[(5, (.al 2005 0)), (0, (.str v0)), (6, (.int .i64 at_6))], [(2005, ⟨false, [.sl .str false x2005]⟩)]⟩
/-- quiver/quiverref1.Kids -/
noncomputable def quiverref1_Kids.f (bar : Bar) (k : Nat) (a0 : List Nod) (a1 : Int) : Option (List Int × Int) := lvl (E bar) k 24 [.v (.agg [(.L .node a0)]), .v (.int .i64 a1)]
/-- quiver/quiverref1.IsLeaf -/
noncomputable def quiverref1_IsLeaf.f (bar : Bar) (k : Nat) (a0 : Int) : Option Bool := lvl (E bar) k 25 [.v (.int .i64 a0)]
/-- quiver/quiverref7.digits -/
noncomputable def quiverref7_digits.f (bar : Bar) (k : Nat) (a0 : Int) : Option (List UInt8) := lvl (E bar) k 26 [.v (.int .i64 a0)]
noncomputable def quiverref7_digits.l0 (bar : Bar) (k : Nat) (n : Nat) (x0 : Int) (s3 : List UInt8) : Option (List UInt8) := loopAt (E bar) k fi26 sg26 [.r, .r, .r, .l] n ⟨[(0, (.int .i64 x0)), (3, (.str s3))], []⟩
/-- quiver/types.Node -/
noncomputable def types_Node.f (bar : Bar) (k : Nat) (a0 : List Nod) (a1 : Int) : Option Bool := lvl (E bar) k 27 [.v (.agg [(.L .node a0)]), .v (.int .i64 a1)]
/-- quiver/array.buffers -/
noncomputable def array_buffers.f (bar : Bar) (k : Nat) (a0 : Nod) (a1 : Arr) : Option Bool := lvl (E bar) k 28 [.v (.vp [(.int .i64 a0.kind), (.int .i64 a0.parent), (.bool a0.null)]), .v (.vp [(.int .i64 a1.layout), (.int .i64 a1.offset), (.int .i64 a1.length), (.str a1.valid), (.str a1.ends), (.str a1.data), (.L .arr a1.kids)])]
/-- quiver/array.plain -/
noncomputable def array_plain.f (bar : Bar) (k : Nat) (a0 : List Nod) (a1 : Int) (a2 : Arr) : Option Bool := lvl (E bar) k 29 [.v (.vp [(.L .node a0)]), .v (.int .i64 a1), .v (.vp [(.int .i64 a2.layout), (.int .i64 a2.offset), (.int .i64 a2.length), (.str a2.valid), (.str a2.ends), (.str a2.data), (.L .arr a2.kids)])]
noncomputable def array_plain.l0 (bar : Bar) (k : Nat) (n : Nat) (t0 : List Nod) (at_1 : Int) (a2 : Int) (a2_1 : Int) (a2_2 : Int) (a2_3 : List UInt8) (a2_4 : List UInt8) (a2_5 : List UInt8) (a2_6 : List Arr) (x39 : Int) (x40 : Int) (rows7 : Int) (x2038 : List Int) : Option Bool := loopAt (E bar) k fi29 sg29 [.r, .r, .r, .r, .l, .r] n ⟨[(38, (.al 2038 0)), (0, (.vp [(.L .node t0)])), (1, (.int .i64 at_1)), (2, (.vp [(.int .i64 a2), (.int .i64 a2_1), (.int .i64 a2_2), (.str a2_3), (.str a2_4), (.str a2_5), (.L .arr a2_6)])), (7, (.ref 7 0)), (39, (.int .i64 x39)), (40, (.int .i64 x40))], [(7, ⟨true, [.av (.int .i64 rows7)]⟩), (2038, ⟨false, [.sl (.int .i64) false x2038]⟩)]⟩
/-- quiver/array.dict -/
noncomputable def array_dict.f (bar : Bar) (k : Nat) (a0 : List Nod) (a1 : Int) (a2 : Arr) : Option Bool := lvl (E bar) k 30 [.v (.vp [(.L .node a0)]), .v (.int .i64 a1), .v (.vp [(.int .i64 a2.layout), (.int .i64 a2.offset), (.int .i64 a2.length), (.str a2.valid), (.str a2.ends), (.str a2.data), (.L .arr a2.kids)])]
noncomputable def array_dict.l0 (bar : Bar) (k : Nat) (n : Nat) (a2 : Int) (a2_1 : Int) (a2_2 : Int) (a2_3 : List UInt8) (a2_4 : List UInt8) (a2_5 : List UInt8) (a2_6 : List Arr) (kid7 : Option Arr) (row9 : Int) : Option Bool := loopAt (E bar) k fi30 sg30 [.r, .r, .r, .l, .r] n ⟨[(2, (.vp [(.int .i64 a2), (.int .i64 a2_1), (.int .i64 a2_2), (.str a2_3), (.str a2_4), (.str a2_5), (.L .arr a2_6)])), (7, (.optp .arr kid7)), (9, (.int .i64 row9))], []⟩
/-- quiver/array.run -/
noncomputable def array_run.f (bar : Bar) (k : Nat) (a0 : List Nod) (a1 : Int) (a2 : Arr) : Option Bool := lvl (E bar) k 31 [.v (.vp [(.L .node a0)]), .v (.int .i64 a1), .v (.vp [(.int .i64 a2.layout), (.int .i64 a2.offset), (.int .i64 a2.length), (.str a2.valid), (.str a2.ends), (.str a2.data), (.L .arr a2.kids)])]
noncomputable def array_run.l0 (bar : Bar) (k : Nat) (n : Nat) (a2 : Int) (a2_1 : Int) (a2_2 : Int) (a2_3 : List UInt8) (a2_4 : List UInt8) (a2_5 : List UInt8) (a2_6 : List Arr) (last9 : Int) (x45 : Int) (x46 : Int) : Option Bool := loopAt (E bar) k fi31 sg31 [.r, .r, .r, .r, .l, .r] n ⟨[(2, (.vp [(.int .i64 a2), (.int .i64 a2_1), (.int .i64 a2_2), (.str a2_3), (.str a2_4), (.str a2_5), (.L .arr a2_6)])), (9, (.int .i64 last9)), (45, (.int .i64 x45)), (46, (.int .i64 x46))], []⟩
/-- (quiver/read.reader).text -/
noncomputable def read_reader_text.f (bar : Bar) (k : Nat) (a0 : List Nod) (a1 : Int) (a2 : Arr) (a3 : Int) : Option (List UInt8) := lvl (E bar) k 32 [.v (.agg [(.L .node a0)]), .v (.int .i64 a1), .v (.vp [(.int .i64 a2.layout), (.int .i64 a2.offset), (.int .i64 a2.length), (.str a2.valid), (.str a2.ends), (.str a2.data), (.L .arr a2.kids)]), .v (.int .i64 a3)]
/-- quiver/quiverref1.BitBytes -/
noncomputable def quiverref1_BitBytes.f (bar : Bar) (k : Nat) (a0 : Int) : Option Int := lvl (E bar) k 33 [.v (.int .i64 a0)]
/-- quiver/quiverref7.plainMay -/
noncomputable def quiverref7_plainMay.f (bar : Bar) (k : Nat) (a0 : List Nod) (a1 : Int) (a2 : Arr) (a3 : Int) : Option Bool := lvl (E bar) k 34 [.v (.agg [(.L .node a0)]), .v (.int .i64 a1), .v (.agg [(.int .i64 a2.layout), (.int .i64 a2.offset), (.int .i64 a2.length), (.str a2.valid), (.str a2.ends), (.str a2.data), (.L .arr a2.kids)]), .v (.int .i64 a3)]
noncomputable def quiverref7_plainMay.l1 (bar : Bar) (k : Nat) (n : Nat) (rows3 : Int) (i11 : Int) (t4 : List Nod) (a6 : Int) (a6_1 : Int) (a6_2 : Int) (a6_3 : List UInt8) (a6_4 : List UInt8) (a6_5 : List UInt8) (a6_6 : List Arr) (x2009 : List Int) : Option Bool := loopAt (E bar) k fi34 sg34 [.r, .r, .r, .r, .l, .r] n ⟨[(9, (.al 2009 0)), (3, (.int .i64 rows3)), (4, (.ref 4 0)), (6, (.ref 6 0)), (11, (.int .i64 i11))], [(4, ⟨true, [.av (.L .node t4)]⟩), (6, ⟨true, [.av (.int .i64 a6), .av (.int .i64 a6_1), .av (.int .i64 a6_2), .av (.str a6_3), .av (.str a6_4), .av (.str a6_5), .av (.L .arr a6_6)]⟩), (2009, ⟨false, [.sl (.int .i64) false x2009]⟩)]⟩
/-- quiver/quiverref1.GetNum -/
noncomputable def quiverref1_GetNum.f (bar : Bar) (k : Nat) (a0 : List UInt8) (a1 : Int) (a2 : Int) : Option (Int × Int) := lvl (E bar) k 35 [.v (.str a0), .v (.int .i64 a1), .v (.int .i64 a2)]
/-- quiver/quiverref7.there -/
noncomputable def quiverref7_there.f (bar : Bar) (k : Nat) (a0 : Arr) (a1 : Int) : Option Bool := lvl (E bar) k 36 [.v (.agg [(.int .i64 a0.layout), (.int .i64 a0.offset), (.int .i64 a0.length), (.str a0.valid), (.str a0.ends), (.str a0.data), (.L .arr a0.kids)]), .v (.int .i64 a1)]
/-- quiver/quiverref1.Num -/
noncomputable def quiverref1_Num.f (bar : Bar) (k : Nat) (a0 : List UInt8) : Option Int := lvl (E bar) k 37 [.v (.str a0)]
noncomputable def quiverref1_Num.l0 (bar : Bar) (k : Nat) (n : Nat) (s0 : List UInt8) (x3 : Int) (i4 : Int) : Option Int := loopAt (E bar) k fi37 sg37 [.r, .r, .l, .r] n ⟨[(0, (.str s0)), (3, (.int .u64 x3)), (4, (.int .i64 i4))], []⟩
/-- quiver/quiverref7.Bool -/
noncomputable def quiverref7_Bool.f (bar : Bar) (k : Nat) (a0 : Bool) : Option (List UInt8) := lvl (E bar) k 38 [.v (.bool a0)]
/-- quiver/quiverref1.Bit -/
noncomputable def quiverref1_Bit.f (bar : Bar) (k : Nat) (a0 : List UInt8) (a1 : Int) : Option Bool := lvl (E bar) k 39 [.v (.str a0), .v (.int .i64 a1)]
/-- quiver/quiverref7.ends -/
noncomputable def quiverref7_ends.f (bar : Bar) (k : Nat) (a0 : Arr) (a1 : Int) : Option (Int × Int) := lvl (E bar) k 40 [.v (.agg [(.int .i64 a0.layout), (.int .i64 a0.offset), (.int .i64 a0.length), (.str a0.valid), (.str a0.ends), (.str a0.data), (.L .arr a0.kids)]), .v (.int .i64 a1)]
/-- quiver/quiverref7.Bytes -/
noncomputable def quiverref7_Bytes.f (bar : Bar) (k : Nat) (a0 : List UInt8) : Option (List UInt8) := lvl (E bar) k 41 [.v (.str a0)]
/-- quiver/quiverref7.List -/
noncomputable def quiverref7_List.f (bar : Bar) (k : Nat) (a0 : List (List UInt8)) : Option (List UInt8) := lvl (E bar) k 42 [.v (.L .str a0)]
/-- quiver/quiverref7.Struct -/
noncomputable def quiverref7_Struct.f (bar : Bar) (k : Nat) (a0 : List (List UInt8)) : Option (List UInt8) := lvl (E bar) k 43 [.v (.L .str a0)]
/-- quiver/quiverref1.TypeMay -/
noncomputable def quiverref1_TypeMay.f (bar : Bar) (k : Nat) (a0 : List Nod) : Option Bool := lvl (E bar) k 44 [.v (.agg [(.L .node a0)])]
noncomputable def quiverref1_TypeMay.l0 (bar : Bar) (k : Nat) (n : Nat) (i4 : Int) (t1 : List Nod) (x2003 : List Int) : Option Bool := loopAt (E bar) k fi44 sg44 [.r, .r, .r, .l, .r] n ⟨[(3, (.al 2003 0)), (1, (.ref 1 0)), (4, (.int .i64 i4))], [(1, ⟨true, [.av (.L .node t1)]⟩), (2003, ⟨false, [.sl (.int .i64) false x2003]⟩)]⟩
/-- quiver/quiverref7.end -/
noncomputable def quiverref7_end.f (bar : Bar) (k : Nat) (a0 : List UInt8) (a1 : Int) (a2 : Int) : Option Int := lvl (E bar) k 45 [.v (.str a0), .v (.int .i64 a1), .v (.int .i64 a2)]
noncomputable def quiverref7_end.l1 (bar : Bar) (k : Nat) (n : Nat) (s0 : List UInt8) (at_1 : Int) (deep2 : Int) (stop13 : Int) : Option Int := loopAt (E bar) k fi45 sg45 [.r, .r, .l, .r, .b, .r, .e, .r, .e, .r, .e, .r, .t, .r, .r, .l] n ⟨[(0, (.str s0)), (1, (.int .i64 at_1)), (2, (.int .i64 deep2)), (13, (.int .u8 stop13))], []⟩
/-- quiver/quiverref7.upto -/
noncomputable def quiverref7_upto.f (bar : Bar) (k : Nat) (a0 : List UInt8) (a1 : Int) (a2 : Int) : Option Int := lvl (E bar) k 46 [.v (.str a0), .v (.int .i64 a1), .v (.int .u8 a2)]
noncomputable def quiverref7_upto.l0 (bar : Bar) (k : Nat) (n : Nat) (s0 : List UInt8) (at_1 : Int) (sign2 : Int) (i7 : Int) : Option Int := loopAt (E bar) k fi46 sg46 [.r, .l, .r] n ⟨[(0, (.str s0)), (1, (.int .i64 at_1)), (2, (.int .u8 sign2)), (7, (.int .i64 i7))], []⟩
/-- quiver/quiverref1.kids -/
noncomputable def quiverref1_kids.f (bar : Bar) (k : Nat) (a0 : List Nod) (a1 : Int) : Option (List Int) := lvl (E bar) k 47 [.v (.agg [(.L .node a0)]), .v (.int .i64 a1)]
noncomputable def quiverref1_kids.l0 (bar : Bar) (k : Nat) (n : Nat) (at_1 : Int) (i6 : Int) (t2 : List Nod) (x2005 : List Int) : Option (List Int) := loopAt (E bar) k fi47 sg47 [.r, .r, .l, .r] n ⟨[(5, (.al 2005 0)), (1, (.int .i64 at_1)), (2, (.ref 2 0)), (6, (.int .i64 i6))], [(2, ⟨true, [.av (.L .node t2)]⟩), (2005, ⟨false, [.sl (.int .i64) false x2005]⟩)]⟩
/-- quiver/quiverref0.Decimal -/
noncomputable def quiverref0_Decimal.f (bar : Bar) (k : Nat) (a0 : Int) : Option (List UInt8) := lvl (E bar) k 48 [.v (.int .i64 a0)]
noncomputable def quiverref0_Decimal.j4 (bar : Bar) (k : Nat) (x0 : Int) (size3 : Int) : Option (List UInt8) := cutAt (E bar) k fi48 sg48 [.r, .r, .r] ⟨[(0, (.int .i64 x0)), (3, (.int .u64 size3))], []⟩
noncomputable def quiverref0_Decimal.l0 (bar : Bar) (k : Nat) (n : Nat) (x0 : Int) (size3 : Int) (x2004 : List Int) : Option (List UInt8) := loopAt (E bar) k fi48 sg48 [.r, .r, .r, .r, .l] n ⟨[(4, (.al 2004 0)), (0, (.int .i64 x0)), (3, (.int .u64 size3))], [(2004, ⟨false, [.sl (.int .u8) false x2004]⟩)]⟩
/-- quiver/types.May -/
noncomputable def types_May.f (bar : Bar) (k : Nat) (a0 : List Nod) : Option Bool := lvl (E bar) k 49 [.v (.agg [(.L .node a0)])]
noncomputable def types_May.l0 (bar : Bar) (k : Nat) (n : Nat) (x19 : List Nod) (x20 : Int) (x21 : Int) : Option Bool := loopAt (E bar) k fi49 sg49 [.r, .r, .l, .r] n ⟨[(1, (.ref 1 0)), (19, (.L .node x19)), (20, (.int .i64 x20)), (21, (.int .i64 x21))], [(1, ⟨true, [.av (.L .node x19)]⟩)]⟩
noncomputable def types_May.l2 (bar : Bar) (k : Nat) (n : Nat) (x41 : List Nod) (x42 : Int) (x43 : Int) : Option Bool := loopAt (E bar) k fi49 sg49 [.r, .r, .r, .l, .r] n ⟨[(1, (.ref 1 0)), (41, (.L .node x41)), (42, (.int .i64 x42)), (43, (.int .i64 x43))], [(1, ⟨true, [.av (.L .node x41)]⟩)]⟩
/-- quiver/bits.Bytes -/
noncomputable def bits_Bytes.f (bar : Bar) (k : Nat) (a0 : Int) : Option Int := lvl (E bar) k 50 [.v (.int .i64 a0)]
/-- quiver/types.Kids -/
noncomputable def types_Kids.f (bar : Bar) (k : Nat) (a0 : List Nod) (a1 : Int) : Option (List Int × Int) := lvl (E bar) k 51 [.v (.agg [(.L .node a0)]), .v (.int .i64 a1)]
/-- quiver/array.ends -/
noncomputable def array_ends.f (bar : Bar) (k : Nat) (a0 : List UInt8) (a1 : Int) (a2 : Int) (a3 : Int) (a4 : Int) : Option Bool := lvl (E bar) k 52 [.v (.str a0), .v (.int .i64 a1), .v (.int .i64 a2), .v (.int .i64 a3), .v (.int .i64 a4)]
noncomputable def array_ends.l0 (bar : Bar) (k : Nat) (n : Nat) (s0 : List UInt8) (most2 : Int) (from_3 : Int) (apart4 : Int) (last11 : Int) (x16 : Int) (x17 : Int) : Option Bool := loopAt (E bar) k fi52 sg52 [.r, .r, .l, .r] n ⟨[(0, (.str s0)), (2, (.int .i64 most2)), (3, (.int .i64 from_3)), (4, (.int .i64 apart4)), (11, (.int .i64 last11)), (16, (.int .i64 x16)), (17, (.int .i64 x17))], []⟩
/-- slices.ContainsFunc[[]quiver/api.Array,quiver/api.Array] -/
noncomputable def slices_ContainsFunc_api_Array_api_Array_array_plain_1.f (bar : Bar) (k : Nat) (a0 : List Arr) (a1_0 : Int) : Option Bool := lvl (E bar) k 54 [.v (.L .arr a0), .v (.fn 53 [(.vp [(.int .i64 a1_0)])])]
/-- quiver/array.one -/
noncomputable def array_one.f (bar : Bar) (k : Nat) (a0 : List Nod) (a1 : Int) (a2 : Arr) : Option (Option Arr × Bool) := lvl (E bar) k 55 [.v (.vp [(.L .node a0)]), .v (.int .i64 a1), .v (.vp [(.int .i64 a2.layout), (.int .i64 a2.offset), (.int .i64 a2.length), (.str a2.valid), (.str a2.ends), (.str a2.data), (.L .arr a2.kids)])]
/-- quiver/array.Number -/
noncomputable def array_Number.f (bar : Bar) (k : Nat) (a0 : List UInt8) (a1 : Int) : Option (Int × Bool) := lvl (E bar) k 56 [.v (.str a0), .v (.int .i64 a1)]
/-- quiver/array.There -/
noncomputable def array_There.f (bar : Bar) (k : Nat) (a0 : Arr) (a1 : Int) : Option Bool := lvl (E bar) k 57 [.v (.vp [(.int .i64 a0.layout), (.int .i64 a0.offset), (.int .i64 a0.length), (.str a0.valid), (.str a0.ends), (.str a0.data), (.L .arr a0.kids)]), .v (.int .i64 a1)]
/-- quiver/value.Null -/
noncomputable def value_Null.f (bar : Bar) (k : Nat) : Option (List UInt8) := lvl (E bar) k 58 []
/-- quiver/read.run -/
noncomputable def read_run.f (bar : Bar) (k : Nat) (a0 : Arr) (a1 : Int) : Option Int := lvl (E bar) k 59 [.v (.vp [(.int .i64 a0.layout), (.int .i64 a0.offset), (.int .i64 a0.length), (.str a0.valid), (.str a0.ends), (.str a0.data), (.L .arr a0.kids)]), .v (.int .i64 a1)]
noncomputable def read_run.l0 (bar : Bar) (k : Nat) (n : Nat) (a0 : Int) (a0_1 : Int) (a0_2 : Int) (a0_3 : List UInt8) (a0_4 : List UInt8) (a0_5 : List UInt8) (a0_6 : List Arr) (row1 : Int) (i5 : Int) : Option Int := loopAt (E bar) k fi59 sg59 [.r, .r] n ⟨[(0, (.vp [(.int .i64 a0), (.int .i64 a0_1), (.int .i64 a0_2), (.str a0_3), (.str a0_4), (.str a0_5), (.L .arr a0_6)])), (1, (.int .i64 row1)), (5, (.int .i64 i5))], []⟩
/-- (quiver/read.reader).plain -/
noncomputable def read_reader_plain.f (bar : Bar) (k : Nat) (a0 : List Nod) (a1 : Int) (a2 : Arr) (a3 : Int) : Option (List UInt8) := lvl (E bar) k 60 [.v (.agg [(.L .node a0)]), .v (.int .i64 a1), .v (.vp [(.int .i64 a2.layout), (.int .i64 a2.offset), (.int .i64 a2.length), (.str a2.valid), (.str a2.ends), (.str a2.data), (.L .arr a2.kids)]), .v (.int .i64 a3)]
noncomputable def read_reader_plain.l2 (bar : Bar) (k : Nat) (n : Nat) (a2 : Int) (a2_1 : Int) (a2_2 : Int) (a2_3 : List UInt8) (a2_4 : List UInt8) (a2_5 : List UInt8) (a2_6 : List Arr) (to13 : Int) (i16 : Int) (r4 : List Nod) (x2009 : List Int) (x2015 : List (List UInt8)) : Option (List UInt8) := loopAt (E bar) k fi60 sg60 [.r, .r, .r, .r, .r, .r, .l, .r, .b, .r, .e, .r, .t, .l, .r] n ⟨[(15, (.al 2015 0)), (9, (.al 2009 0)), (2, (.vp [(.int .i64 a2), (.int .i64 a2_1), (.int .i64 a2_2), (.str a2_3), (.str a2_4), (.str a2_5), (.L .arr a2_6)])), (4, (.ref 4 0)), (13, (.int .i64 to13)), (16, (.int .i64 i16))], [(4, ⟨true, [.av (.L .node r4)]⟩), (2009, ⟨false, [.sl (.int .i64) false x2009]⟩), (2015, ⟨false, [.sl .str false x2015]⟩)]⟩
noncomputable def read_reader_plain.l4 (bar : Bar) (k : Nat) (n : Nat) (a2 : Int) (a2_1 : Int) (a2_2 : Int) (a2_3 : List UInt8) (a2_4 : List UInt8) (a2_5 : List UInt8) (a2_6 : List Arr) (row3 : Int) (x117 : Int) (x118 : Int) (r4 : List Nod) (x2015 : List (List UInt8)) (x2116 : List Int) : Option (List UInt8) := loopAt (E bar) k fi60 sg60 [.r, .r, .r, .r, .r, .r, .r, .l, .r] n ⟨[(116, (.al 2116 0)), (15, (.al 2015 0)), (2, (.vp [(.int .i64 a2), (.int .i64 a2_1), (.int .i64 a2_2), (.str a2_3), (.str a2_4), (.str a2_5), (.L .arr a2_6)])), (3, (.int .i64 row3)), (4, (.ref 4 0)), (117, (.int .i64 x117)), (118, (.int .i64 x118))], [(4, ⟨true, [.av (.L .node r4)]⟩), (2015, ⟨false, [.sl .str false x2015]⟩), (2116, ⟨false, [.sl (.int .i64) false x2116]⟩)]⟩
/-- quiver/quiverref7.bare -/
noncomputable def quiverref7_bare.f (bar : Bar) (k : Nat) (a0 : Arr) : Option Bool := lvl (E bar) k 61 [.v (.agg [(.int .i64 a0.layout), (.int .i64 a0.offset), (.int .i64 a0.length), (.str a0.valid), (.str a0.ends), (.str a0.data), (.L .arr a0.kids)])]
/-- quiver/quiverref7.mayEnds -/
noncomputable def quiverref7_mayEnds.f (bar : Bar) (k : Nat) (a0 : List UInt8) (a1 : Int) (a2 : Int) (a3 : Int) (a4 : Int) : Option Bool := lvl (E bar) k 62 [.v (.str a0), .v (.int .i64 a1), .v (.int .i64 a2), .v (.int .i64 a3), .v (.int .i64 a4)]
noncomputable def quiverref7_mayEnds.l0 (bar : Bar) (k : Nat) (n : Nat) (s0 : List UInt8) (rows1 : Int) (first2 : Int) (last3 : Int) (apart4 : Int) (was11 : Int) (i12 : Int) : Option Bool := loopAt (E bar) k fi62 sg62 [.r, .r, .l, .r] n ⟨[(0, (.str s0)), (1, (.int .i64 rows1)), (2, (.int .i64 first2)), (3, (.int .i64 last3)), (4, (.int .i64 apart4)), (11, (.int .i64 was11)), (12, (.int .i64 i12))], []⟩
/-- quiver/quiverref1.in -/
noncomputable def quiverref1_in.f (bar : Bar) (k : Nat) (a0 : Int) : Option Bool := lvl (E bar) k 63 [.v (.int .i64 a0)]
/-- quiver/quiverref7.all -/
noncomputable def quiverref7_all.f (bar : Bar) (k : Nat) (a0 : List (List UInt8)) : Option (List UInt8) := lvl (E bar) k 64 [.v (.L .str a0)]
noncomputable def quiverref7_all.l0 (bar : Bar) (k : Nat) (n : Nat) (vs0 : List (List UInt8)) (s3 : List UInt8) (i4 : Int) : Option (List UInt8) := loopAt (E bar) k fi64 sg64 [.r, .r, .l, .r] n ⟨[(0, (.L .str vs0)), (3, (.str s3)), (4, (.int .i64 i4))], []⟩
/-- quiver/quiverref1.upTo -/
noncomputable def quiverref1_upTo.f (bar : Bar) (k : Nat) (a0 : Int) (a1 : Int) (a2 : Int) : Option Bool := lvl (E bar) k 65 [.v (.int .i64 a0), .v (.int .i64 a1), .v (.int .i64 a2)]
/-- quiver/quiverref7.whole -/
noncomputable def quiverref7_whole.f (bar : Bar) (k : Nat) (a0 : List UInt8) : Option (Int × Bool) := lvl (E bar) k 66 [.v (.str a0)]
noncomputable def quiverref7_whole.l0 (bar : Bar) (k : Nat) (n : Nat) (s0 : List UInt8) (x4 : Int) (i5 : Int) : Option (Int × Bool) := loopAt (E bar) k fi66 sg66 [.r, .r, .l, .r] n ⟨[(0, (.str s0)), (4, (.int .i64 x4)), (5, (.int .i64 i5))], []⟩
/-- quiver/types.stands -/
noncomputable def types_stands.f (bar : Bar) (k : Nat) (a0 : List Nod) (a1 : Int) : Option Bool := lvl (E bar) k 67 [.v (.vp [(.L .node a0)]), .v (.int .i64 a1)]
/-- quiver/types.kids -/
noncomputable def types_kids.f (bar : Bar) (k : Nat) (a0 : List Nod) (a1 : Int) : Option (List Int) := lvl (E bar) k 68 [.v (.vp [(.L .node a0)]), .v (.int .i64 a1)]
noncomputable def types_kids.l0 (bar : Bar) (k : Nat) (n : Nat) (at_1 : Int) (x11 : List Nod) (x12 : Int) (x13 : Int) (x2005 : List Int) : Option (List Int) := loopAt (E bar) k fi68 sg68 [.r, .r, .l, .r] n ⟨[(5, (.al 2005 0)), (1, (.int .i64 at_1)), (11, (.L .node x11)), (12, (.int .i64 x12)), (13, (.int .i64 x13))], [(2005, ⟨false, [.sl (.int .i64) false x2005]⟩)]⟩
/-- quiver/types.way -/
noncomputable def types_way.f (bar : Bar) (k : Nat) (a0 : List Nod) (a1 : Int) : Option (List Int) := lvl (E bar) k 69 [.v (.vp [(.L .node a0)]), .v (.int .i64 a1)]
noncomputable def types_way.l0 (bar : Bar) (k : Nat) (n : Nat) (t0 : List Nod) (at_1 : Int) (x2005 : List Int) : Option (List Int) := loopAt (E bar) k fi69 sg69 [.r, .r, .l] n ⟨[(5, (.al 2005 0)), (0, (.vp [(.L .node t0)])), (1, (.int .i64 at_1))], [(2005, ⟨false, [.sl (.int .i64) false x2005]⟩)]⟩
/-- slices.IndexFunc[[]quiver/api.Array,quiver/api.Array] -/
noncomputable def slices_IndexFunc_api_Array_api_Array_array_plain_1.f (bar : Bar) (k : Nat) (a0 : List Arr) (a1_0 : Int) : Option Int := lvl (E bar) k 70 [.v (.L .arr a0), .v (.fn 53 [(.vp [(.int .i64 a1_0)])])]
noncomputable def slices_IndexFunc_api_Array_api_Array_array_plain_1.l0 (bar : Bar) (k : Nat) (n : Nat) (s0 : List Arr) (f1 : Int) (x7 : Int) (x8 : Int) : Option Int := loopAt (E bar) k fi70 sg70 [.r, .l, .r] n ⟨[(0, (.L .arr s0)), (1, (.fn 53 [(.vp [(.int .i64 f1)])])), (7, (.int .i64 x7)), (8, (.int .i64 x8))], []⟩
/-- quiver/types.Inner -/
noncomputable def types_Inner.f (bar : Bar) (k : Nat) (a0 : Int) : Option Bool := lvl (E bar) k 71 [.v (.int .i64 a0)]
/-- quiver/num.Get -/
noncomputable def num_Get.f (bar : Bar) (k : Nat) (a0 : List UInt8) (a1 : Int) (a2 : Int) : Option (Int × Int) := lvl (E bar) k 72 [.v (.str a0), .v (.int .i64 a1), .v (.int .i64 a2)]
/-- quiver/bits.On -/
noncomputable def bits_On.f (bar : Bar) (k : Nat) (a0 : List UInt8) (a1 : Int) : Option Bool := lvl (E bar) k 73 [.v (.str a0), .v (.int .i64 a1)]
/-- quiver/value.Int -/
noncomputable def value_Int.f (bar : Bar) (k : Nat) (a0 : Int) : Option (List UInt8) := lvl (E bar) k 74 [.v (.int .i64 a0)]
/-- quiver/num.Of -/
noncomputable def num_Of.f (bar : Bar) (k : Nat) (a0 : List UInt8) : Option Int := lvl (E bar) k 75 [.v (.str a0)]
noncomputable def num_Of.l0 (bar : Bar) (k : Nat) (n : Nat) (s0 : List UInt8) (out3 : Int) (x6 : Int) (x7 : Int) : Option Int := loopAt (E bar) k fi75 sg75 [.r, .r, .l, .r] n ⟨[(0, (.str s0)), (3, (.int .u64 out3)), (6, (.int .i64 x6)), (7, (.int .i64 x7))], []⟩
/-- quiver/value.Bool -/
noncomputable def value_Bool.f (bar : Bar) (k : Nat) (a0 : Bool) : Option (List UInt8) := lvl (E bar) k 76 [.v (.bool a0)]
/-- quiver/value.Bytes -/
noncomputable def value_Bytes.f (bar : Bar) (k : Nat) (a0 : List UInt8) : Option (List UInt8) := lvl (E bar) k 77 [.v (.str a0)]
/-- quiver/value.List -/
noncomputable def value_List.f (bar : Bar) (k : Nat) (a0 : List (List UInt8)) : Option (List UInt8) := lvl (E bar) k 78 [.v (.L .str a0)]
/-- quiver/value.Struct -/
noncomputable def value_Struct.f (bar : Bar) (k : Nat) (a0 : List (List UInt8)) : Option (List UInt8) := lvl (E bar) k 79 [.v (.L .str a0)]
/-- quiver/array.plain$1 -/
noncomputable def array_plain_1.f (bar : Bar) (k : Nat) (a0 : Arr) (a1 : Int) : Option Bool := lvl (E bar) k 53 [.v (.agg [(.int .i64 a0.layout), (.int .i64 a0.offset), (.int .i64 a0.length), (.str a0.valid), (.str a0.ends), (.str a0.data), (.L .arr a0.kids)]), .v (.vp [(.int .i64 a1)])]
/-- quiver/pad.May -/
noncomputable def pad_May.f (bar : Bar) (k : Nat) (a0 : Int) : Option Bool := lvl (E bar) k 80 [.v (.int .i64 a0)]
/-- strconv.Itoa -/
noncomputable def strconv_Itoa.f (bar : Bar) (k : Nat) (a0 : Int) : Option (List UInt8) := lvl (E bar) k 81 [.v (.int .i64 a0)]
/-- strings.Join -/
noncomputable def strings_Join.f (bar : Bar) (k : Nat) (a0 : List (List UInt8)) (a1 : List UInt8) : Option (List UInt8) := lvl (E bar) k 82 [.v (.L .str a0), .v (.str a1)]

end Go.Proofs.YtppmpfddcohkjaaDoorA
