/- The functions and loops of the program, as the machine answers them, under names of their own: definitions alone. -/
import Derived.Test.YtppmpfddcohkjaaEnv
namespace Go.Proofs.YtppmpfddcohkjaaA
open Go
set_option linter.unusedVariables false

/-- quiver/quiverlaw8.Arrays -/
noncomputable def quiverlaw8_Arrays.f (bar : Bar) (k : Nat) (a0 : List Nod) (a1 : Int) (a2 : Arr) : Option Bool := lvl (E bar) k 3 [.v (.agg [(.L .node a0)]), .v (.int .i64 a1), .v (.agg [(.int .i64 a2.layout), (.int .i64 a2.offset), (.int .i64 a2.length), (.str a2.valid), (.str a2.ends), (.str a2.data), (.L .arr a2.kids)])]
/-- quiver/quiverlaw8.ArrayMore -/
noncomputable def quiverlaw8_ArrayMore.f (bar : Bar) (k : Nat) (a0 : List Nod) (a1 : Int) (a2 : Arr) (a3 : List UInt8) : Option Bool := lvl (E bar) k 6 [.v (.agg [(.L .node a0)]), .v (.int .i64 a1), .v (.agg [(.int .i64 a2.layout), (.int .i64 a2.offset), (.int .i64 a2.length), (.str a2.valid), (.str a2.ends), (.str a2.data), (.L .arr a2.kids)]), .v (.str a3)]
noncomputable def quiverlaw8_ArrayMore.j8 (bar : Bar) (k : Nat) (at_1 : Int) (more3 : List UInt8) (t4 : List Nod) (a6 : Int) (a6_1 : Int) (a6_2 : Int) (a6_3 : List UInt8) (a6_4 : List UInt8) (a6_5 : List UInt8) (a6_6 : List Arr) (b9 : Int) (b9_1 : Int) (b9_2 : Int) (b9_3 : List UInt8) (b9_4 : List UInt8) (b9_5 : List UInt8) (b9_6 : List Arr) : Option Bool := cutAt (E bar) k fi6 sg6 [.r, .r, .r, .r, .r] ⟨[(1, (.int .i64 at_1)), (3, (.str more3)), (4, (.ref 4 0)), (6, (.ref 6 0)), (9, (.ref 9 0))], [(4, ⟨true, [.av (.L .node t4)]⟩), (6, ⟨true, [.av (.int .i64 a6), .av (.int .i64 a6_1), .av (.int .i64 a6_2), .av (.str a6_3), .av (.str a6_4), .av (.str a6_5), .av (.L .arr a6_6)]⟩), (9, ⟨true, [.av (.int .i64 b9), .av (.int .i64 b9_1), .av (.int .i64 b9_2), .av (.str b9_3), .av (.str b9_4), .av (.str b9_5), .av (.L .arr b9_6)]⟩)]⟩
noncomputable def quiverlaw8_ArrayMore.j10 (bar : Bar) (k : Nat) (at_1 : Int) (t4 : List Nod) (a6 : Int) (a6_1 : Int) (a6_2 : Int) (a6_3 : List UInt8) (a6_4 : List UInt8) (a6_5 : List UInt8) (a6_6 : List Arr) (b9 : Int) (b9_1 : Int) (b9_2 : Int) (b9_3 : List UInt8) (b9_4 : List UInt8) (b9_5 : List UInt8) (b9_6 : List Arr) : Option Bool := cutAt (E bar) k fi6 sg6 [.r, .r, .r, .r, .r, .r] ⟨[(1, (.int .i64 at_1)), (4, (.ref 4 0)), (6, (.ref 6 0)), (9, (.ref 9 0))], [(4, ⟨true, [.av (.L .node t4)]⟩), (6, ⟨true, [.av (.int .i64 a6), .av (.int .i64 a6_1), .av (.int .i64 a6_2), .av (.str a6_3), .av (.str a6_4), .av (.str a6_5), .av (.L .arr a6_6)]⟩), (9, ⟨true, [.av (.int .i64 b9), .av (.int .i64 b9_1), .av (.int .i64 b9_2), .av (.str b9_3), .av (.str b9_4), .av (.str b9_5), .av (.L .arr b9_6)]⟩)]⟩
/-- quiver/quiverlaw8.ArrayParts -/
noncomputable def quiverlaw8_ArrayParts.f (bar : Bar) (k : Nat) (a0 : List Nod) (a1 : Int) (a2 : Arr) (a3 : Int) (a4 : Int) : Option Bool := lvl (E bar) k 7 [.v (.agg [(.L .node a0)]), .v (.int .i64 a1), .v (.agg [(.int .i64 a2.layout), (.int .i64 a2.offset), (.int .i64 a2.length), (.str a2.valid), (.str a2.ends), (.str a2.data), (.L .arr a2.kids)]), .v (.int .i64 a3), .v (.int .i64 a4)]
/-- quiver/quiverlaw11.SliceRows -/
noncomputable def quiverlaw11_SliceRows.f (bar : Bar) (k : Nat) (a0 : List Nod) (a1 : Int) (a2 : Arr) (a3 : Int) (a4 : Int) (a5 : Int) : Option Bool := lvl (E bar) k 9 [.v (.agg [(.L .node a0)]), .v (.int .i64 a1), .v (.agg [(.int .i64 a2.layout), (.int .i64 a2.offset), (.int .i64 a2.length), (.str a2.valid), (.str a2.ends), (.str a2.data), (.L .arr a2.kids)]), .v (.int .i64 a3), .v (.int .i64 a4), .v (.int .i64 a5)]
/-- quiver/quiverlaw11.SliceForms -/
noncomputable def quiverlaw11_SliceForms.f (bar : Bar) (k : Nat) (a0 : List Nod) (a1 : Int) (a2 : Arr) (a3 : Int) : Option Bool := lvl (E bar) k 10 [.v (.agg [(.L .node a0)]), .v (.int .i64 a1), .v (.agg [(.int .i64 a2.layout), (.int .i64 a2.offset), (.int .i64 a2.length), (.str a2.valid), (.str a2.ends), (.str a2.data), (.L .arr a2.kids)]), .v (.int .i64 a3)]
noncomputable def quiverlaw11_SliceForms.j7 (bar : Bar) (k : Nat) (at_1 : Int) (d9 : Int) (want10 : Int) (t4 : List Nod) (a6 : Int) (a6_1 : Int) (a6_2 : Int) (a6_3 : List UInt8) (a6_4 : List UInt8) (a6_5 : List UInt8) (a6_6 : List Arr) : Option Bool := cutAt (E bar) k fi10 sg10 [.r, .r, .r, .r, .r] ⟨[(1, (.int .i64 at_1)), (4, (.ref 4 0)), (6, (.ref 6 0)), (9, (.int .i64 d9)), (10, (.int .i64 want10))], [(4, ⟨true, [.av (.L .node t4)]⟩), (6, ⟨true, [.av (.int .i64 a6), .av (.int .i64 a6_1), .av (.int .i64 a6_2), .av (.str a6_3), .av (.str a6_4), .av (.str a6_5), .av (.L .arr a6_6)]⟩)]⟩
/-- quiver/quiverlaw11.SliceShares -/
noncomputable def quiverlaw11_SliceShares.f (bar : Bar) (k : Nat) (a0 : List Nod) (a1 : Int) (a2 : Arr) (a3 : Int) : Option Bool := lvl (E bar) k 11 [.v (.agg [(.L .node a0)]), .v (.int .i64 a1), .v (.agg [(.int .i64 a2.layout), (.int .i64 a2.offset), (.int .i64 a2.length), (.str a2.valid), (.str a2.ends), (.str a2.data), (.L .arr a2.kids)]), .v (.int .i64 a3)]
/-- quiver/quiverlaw0.CopyType -/
noncomputable def quiverlaw0_CopyType.f (bar : Bar) (k : Nat) (a0 : List Nod) : Option (List Nod) := lvl (E bar) k 18 [.v (.agg [(.L .node a0)])]
/-- quiver/quiverlaw0.CopyArray -/
noncomputable def quiverlaw0_CopyArray.f (bar : Bar) (k : Nat) (a0 : Arr) : Option Arr := lvl (E bar) k 19 [.v (.agg [(.int .i64 a0.layout), (.int .i64 a0.offset), (.int .i64 a0.length), (.str a0.valid), (.str a0.ends), (.str a0.data), (.L .arr a0.kids)])]
noncomputable def quiverlaw0_CopyArray.l0 (bar : Bar) (k : Nat) (n : Nat) (i4 : Int) (a1 : Int) (a1_1 : Int) (a1_2 : Int) (a1_3 : List UInt8) (a1_4 : List UInt8) (a1_5 : List UInt8) (a1_6 : List Arr) (x2003 : List Arr) : Option Arr := loopAt (E bar) k fi19 sg19 [.r, .r, .l, .r] n ⟨[(3, (.al 2003 0)), (1, (.ref 1 0)), (2, (.ref 2 0)), (4, (.int .i64 i4))], [(1, ⟨true, [.av (.int .i64 a1), .av (.int .i64 a1_1), .av (.int .i64 a1_2), .av (.str a1_3), .av (.str a1_4), .av (.str a1_5), .av (.L .arr a1_6)]⟩), (2, ⟨true, [.av (.int .i64 0), .av (.int .i64 0), .av (.int .i64 0), .av (.str []), .av (.str []), .av (.str []), .sl .arr false ([] : List Arr)]⟩), (2003, ⟨false, [.sl .arr false x2003]⟩)]⟩
/-- quiver/array.May -/
noncomputable def array_May.f (bar : Bar) (k : Nat) (a0 : List Nod) (a1 : Int) (a2 : Arr) : Option Bool := lvl (E bar) k 20 [.v (.agg [(.L .node a0)]), .v (.int .i64 a1), .v (.agg [(.int .i64 a2.layout), (.int .i64 a2.offset), (.int .i64 a2.length), (.str a2.valid), (.str a2.ends), (.str a2.data), (.L .arr a2.kids)])]
/-- quiver/quiverref7.ArrayMay -/
noncomputable def quiverref7_ArrayMay.f (bar : Bar) (k : Nat) (a0 : List Nod) (a1 : Int) (a2 : Arr) : Option Bool := lvl (E bar) k 21 [.v (.agg [(.L .node a0)]), .v (.int .i64 a1), .v (.agg [(.int .i64 a2.layout), (.int .i64 a2.offset), (.int .i64 a2.length), (.str a2.valid), (.str a2.ends), (.str a2.data), (.L .arr a2.kids)])]
noncomputable def quiverref7_ArrayMay.l0 (bar : Bar) (k : Nat) (n : Nat) (rows7 : Int) (k_8 : Int) (i9 : Int) (a5 : Int) (a5_1 : Int) (a5_2 : Int) (a5_3 : List UInt8) (a5_4 : List UInt8) (a5_5 : List UInt8) (a5_6 : List Arr) : Option Bool := loopAt (E bar) k fi21 sg21 [.r, .r, .r, .r, .r, .r, .r, .l, .r, .t, .r, .l, .r] n ⟨[(5, (.ref 5 0)), (7, (.int .i64 rows7)), (8, (.int .i64 k_8)), (9, (.int .i64 i9))], [(5, ⟨true, [.av (.int .i64 a5), .av (.int .i64 a5_1), .av (.int .i64 a5_2), .av (.str a5_3), .av (.str a5_4), .av (.str a5_5), .av (.L .arr a5_6)]⟩)]⟩
noncomputable def quiverref7_ArrayMay.l2 (bar : Bar) (k : Nat) (n : Nat) (rows7 : Int) (k_8 : Int) (was12 : Int) (i13 : Int) (a5 : Int) (a5_1 : Int) (a5_2 : Int) (a5_3 : List UInt8) (a5_4 : List UInt8) (a5_5 : List UInt8) (a5_6 : List Arr) : Option Bool := loopAt (E bar) k fi21 sg21 [.r, .r, .r, .r, .r, .r, .r, .r, .r, .r, .l, .r] n ⟨[(5, (.ref 5 0)), (7, (.int .i64 rows7)), (8, (.int .i64 k_8)), (12, (.int .i64 was12)), (13, (.int .i64 i13))], [(5, ⟨true, [.av (.int .i64 a5), .av (.int .i64 a5_1), .av (.int .i64 a5_2), .av (.str a5_3), .av (.str a5_4), .av (.str a5_5), .av (.L .arr a5_6)]⟩)]⟩
/-- quiver/quiverlaw0.SameType -/
noncomputable def quiverlaw0_SameType.f (bar : Bar) (k : Nat) (a0 : List Nod) (a1 : List Nod) : Option Bool := lvl (E bar) k 22 [.v (.agg [(.L .node a0)]), .v (.agg [(.L .node a1)])]
/-- quiver/quiverlaw0.SameArray -/
noncomputable def quiverlaw0_SameArray.f (bar : Bar) (k : Nat) (a0 : Arr) (a1 : Arr) : Option Bool := lvl (E bar) k 23 [.v (.agg [(.int .i64 a0.layout), (.int .i64 a0.offset), (.int .i64 a0.length), (.str a0.valid), (.str a0.ends), (.str a0.data), (.L .arr a0.kids)]), .v (.agg [(.int .i64 a1.layout), (.int .i64 a1.offset), (.int .i64 a1.length), (.str a1.valid), (.str a1.ends), (.str a1.data), (.L .arr a1.kids)])]
noncomputable def quiverlaw0_SameArray.l0 (bar : Bar) (k : Nat) (n : Nat) (i5 : Int) (a2 : Int) (a2_1 : Int) (a2_2 : Int) (a2_3 : List UInt8) (a2_4 : List UInt8) (a2_5 : List UInt8) (a2_6 : List Arr) (b3 : Int) (b3_1 : Int) (b3_2 : Int) (b3_3 : List UInt8) (b3_4 : List UInt8) (b3_5 : List UInt8) (b3_6 : List Arr) : Option Bool := loopAt (E bar) k fi23 sg23 [.r, .r, .l, .r] n ⟨[(2, (.ref 2 0)), (3, (.ref 3 0)), (5, (.int .i64 i5))], [(2, ⟨true, [.av (.int .i64 a2), .av (.int .i64 a2_1), .av (.int .i64 a2_2), .av (.str a2_3), .av (.str a2_4), .av (.str a2_5), .av (.L .arr a2_6)]⟩), (3, ⟨true, [.av (.int .i64 b3), .av (.int .i64 b3_1), .av (.int .i64 b3_2), .av (.str b3_3), .av (.str b3_4), .av (.str b3_5), .av (.L .arr b3_6)]⟩)]⟩
/-- quiver/quiverlaw8.awake -/
noncomputable def quiverlaw8_awake.f (bar : Bar) (k : Nat) : Option Bool := lvl (E bar) k 24 []
/-- quiver/quiverref7.Values -/
noncomputable def quiverref7_Values.f (bar : Bar) (k : Nat) (a0 : List Nod) (a1 : Int) (a2 : Arr) : Option (List (List UInt8) × Int) := lvl (E bar) k 29 [.v (.agg [(.L .node a0)]), .v (.int .i64 a1), .v (.agg [(.int .i64 a2.layout), (.int .i64 a2.offset), (.int .i64 a2.length), (.str a2.valid), (.str a2.ends), (.str a2.data), (.L .arr a2.kids)])]
noncomputable def quiverref7_Values.l0 (bar : Bar) (k : Nat) (n : Nat) (at_1 : Int) (i9 : Int) (t3 : List Nod) (a5 : Int) (a5_1 : Int) (a5_2 : Int) (a5_3 : List UInt8) (a5_4 : List UInt8) (a5_5 : List UInt8) (a5_6 : List Arr) (x2008 : List (List UInt8)) : Option (List (List UInt8) × Int) := loopAt (E bar) k fi29 sg29 [.r, .r, .r, .l, .r] n ⟨[(8, (.al 2008 0)), (1, (.int .i64 at_1)), (3, (.ref 3 0)), (5, (.ref 5 0)), (9, (.int .i64 i9))], [(3, ⟨true, [.av (.L .node t3)]⟩), (5, ⟨true, [.av (.int .i64 a5), .av (.int .i64 a5_1), .av (.int .i64 a5_2), .av (.str a5_3), .av (.str a5_4), .av (.str a5_5), .av (.L .arr a5_6)]⟩), (2008, ⟨false, [.sl .str false x2008]⟩)]⟩
/-- quiver/quiverlaw0.SameTexts -/
noncomputable def quiverlaw0_SameTexts.f (bar : Bar) (k : Nat) (a0 : List (List UInt8)) (a1 : List (List UInt8)) : Option Bool := lvl (E bar) k 30 [.v (.L .str a0), .v (.L .str a1)]
noncomputable def quiverlaw0_SameTexts.l0 (bar : Bar) (k : Nat) (n : Nat) (a0 : List (List UInt8)) (b1 : List (List UInt8)) (i5 : Int) : Option Bool := loopAt (E bar) k fi30 sg30 [.r, .r, .l, .r] n ⟨[(0, (.L .str a0)), (1, (.L .str b1)), (5, (.int .i64 i5))], []⟩
/-- quiver/quiverlaw0.Num -/
noncomputable def quiverlaw0_Num.f (bar : Bar) (k : Nat) (a0 : Int) : Option Int := lvl (E bar) k 28 [.v (.int .i64 a0)]
/-- quiver/slice.Slice -/
noncomputable def slice_Slice.f (bar : Bar) (k : Nat) (a0 : List Nod) (a1 : Int) (a2 : Arr) (a3 : Int) (a4 : Int) : Option (Arr × Int) := lvl (E bar) k 31 [.v (.agg [(.L .node a0)]), .v (.int .i64 a1), .v (.agg [(.int .i64 a2.layout), (.int .i64 a2.offset), (.int .i64 a2.length), (.str a2.valid), (.str a2.ends), (.str a2.data), (.L .arr a2.kids)]), .v (.int .i64 a3), .v (.int .i64 a4)]
/-- quiver/quiverlaw11.awake -/
noncomputable def quiverlaw11_awake.f (bar : Bar) (k : Nat) : Option Bool := lvl (E bar) k 34 []
/-- quiver/types.Node -/
noncomputable def types_Node.f (bar : Bar) (k : Nat) (a0 : List Nod) (a1 : Int) : Option Bool := lvl (E bar) k 44 [.v (.agg [(.L .node a0)]), .v (.int .i64 a1)]
/-- quiver/array.buffers -/
noncomputable def array_buffers.f (bar : Bar) (k : Nat) (a0 : Nod) (a1 : Arr) : Option Bool := lvl (E bar) k 45 [.v (.vp [(.int .i64 a0.kind), (.int .i64 a0.parent), (.bool a0.null)]), .v (.vp [(.int .i64 a1.layout), (.int .i64 a1.offset), (.int .i64 a1.length), (.str a1.valid), (.str a1.ends), (.str a1.data), (.L .arr a1.kids)])]
/-- quiver/array.plain -/
noncomputable def array_plain.f (bar : Bar) (k : Nat) (a0 : List Nod) (a1 : Int) (a2 : Arr) : Option Bool := lvl (E bar) k 46 [.v (.vp [(.L .node a0)]), .v (.int .i64 a1), .v (.vp [(.int .i64 a2.layout), (.int .i64 a2.offset), (.int .i64 a2.length), (.str a2.valid), (.str a2.ends), (.str a2.data), (.L .arr a2.kids)])]
noncomputable def array_plain.l0 (bar : Bar) (k : Nat) (n : Nat) (t0 : List Nod) (at_1 : Int) (a2 : Int) (a2_1 : Int) (a2_2 : Int) (a2_3 : List UInt8) (a2_4 : List UInt8) (a2_5 : List UInt8) (a2_6 : List Arr) (x39 : Int) (x40 : Int) (rows7 : Int) (x2038 : List Int) : Option Bool := loopAt (E bar) k fi46 sg46 [.r, .r, .r, .r, .l, .r] n ⟨[(38, (.al 2038 0)), (0, (.vp [(.L .node t0)])), (1, (.int .i64 at_1)), (2, (.vp [(.int .i64 a2), (.int .i64 a2_1), (.int .i64 a2_2), (.str a2_3), (.str a2_4), (.str a2_5), (.L .arr a2_6)])), (7, (.ref 7 0)), (39, (.int .i64 x39)), (40, (.int .i64 x40))], [(7, ⟨true, [.av (.int .i64 rows7)]⟩), (2038, ⟨false, [.sl (.int .i64) false x2038]⟩)]⟩
/-- quiver/array.dict -/
noncomputable def array_dict.f (bar : Bar) (k : Nat) (a0 : List Nod) (a1 : Int) (a2 : Arr) : Option Bool := lvl (E bar) k 47 [.v (.vp [(.L .node a0)]), .v (.int .i64 a1), .v (.vp [(.int .i64 a2.layout), (.int .i64 a2.offset), (.int .i64 a2.length), (.str a2.valid), (.str a2.ends), (.str a2.data), (.L .arr a2.kids)])]
noncomputable def array_dict.l0 (bar : Bar) (k : Nat) (n : Nat) (a2 : Int) (a2_1 : Int) (a2_2 : Int) (a2_3 : List UInt8) (a2_4 : List UInt8) (a2_5 : List UInt8) (a2_6 : List Arr) (kid7 : Option Arr) (row9 : Int) : Option Bool := loopAt (E bar) k fi47 sg47 [.r, .r, .r, .l, .r] n ⟨[(2, (.vp [(.int .i64 a2), (.int .i64 a2_1), (.int .i64 a2_2), (.str a2_3), (.str a2_4), (.str a2_5), (.L .arr a2_6)])), (7, (.optp .arr kid7)), (9, (.int .i64 row9))], []⟩
/-- quiver/array.run -/
noncomputable def array_run.f (bar : Bar) (k : Nat) (a0 : List Nod) (a1 : Int) (a2 : Arr) : Option Bool := lvl (E bar) k 48 [.v (.vp [(.L .node a0)]), .v (.int .i64 a1), .v (.vp [(.int .i64 a2.layout), (.int .i64 a2.offset), (.int .i64 a2.length), (.str a2.valid), (.str a2.ends), (.str a2.data), (.L .arr a2.kids)])]
noncomputable def array_run.l0 (bar : Bar) (k : Nat) (n : Nat) (a2 : Int) (a2_1 : Int) (a2_2 : Int) (a2_3 : List UInt8) (a2_4 : List UInt8) (a2_5 : List UInt8) (a2_6 : List Arr) (last9 : Int) (x45 : Int) (x46 : Int) : Option Bool := loopAt (E bar) k fi48 sg48 [.r, .r, .r, .r, .l, .r] n ⟨[(2, (.vp [(.int .i64 a2), (.int .i64 a2_1), (.int .i64 a2_2), (.str a2_3), (.str a2_4), (.str a2_5), (.L .arr a2_6)])), (9, (.int .i64 last9)), (45, (.int .i64 x45)), (46, (.int .i64 x46))], []⟩
/-- quiver/quiverref1.NodeMay -/
noncomputable def quiverref1_NodeMay.f (bar : Bar) (k : Nat) (a0 : List Nod) (a1 : Int) : Option Bool := lvl (E bar) k 49 [.v (.agg [(.L .node a0)]), .v (.int .i64 a1)]
/-- quiver/quiverref1.BitBytes -/
noncomputable def quiverref1_BitBytes.f (bar : Bar) (k : Nat) (a0 : Int) : Option Int := lvl (E bar) k 50 [.v (.int .i64 a0)]
/-- quiver/quiverref7.plainMay -/
noncomputable def quiverref7_plainMay.f (bar : Bar) (k : Nat) (a0 : List Nod) (a1 : Int) (a2 : Arr) (a3 : Int) : Option Bool := lvl (E bar) k 51 [.v (.agg [(.L .node a0)]), .v (.int .i64 a1), .v (.agg [(.int .i64 a2.layout), (.int .i64 a2.offset), (.int .i64 a2.length), (.str a2.valid), (.str a2.ends), (.str a2.data), (.L .arr a2.kids)]), .v (.int .i64 a3)]
noncomputable def quiverref7_plainMay.l1 (bar : Bar) (k : Nat) (n : Nat) (rows3 : Int) (i11 : Int) (t4 : List Nod) (a6 : Int) (a6_1 : Int) (a6_2 : Int) (a6_3 : List UInt8) (a6_4 : List UInt8) (a6_5 : List UInt8) (a6_6 : List Arr) (x2009 : List Int) : Option Bool := loopAt (E bar) k fi51 sg51 [.r, .r, .r, .r, .l, .r] n ⟨[(9, (.al 2009 0)), (3, (.int .i64 rows3)), (4, (.ref 4 0)), (6, (.ref 6 0)), (11, (.int .i64 i11))], [(4, ⟨true, [.av (.L .node t4)]⟩), (6, ⟨true, [.av (.int .i64 a6), .av (.int .i64 a6_1), .av (.int .i64 a6_2), .av (.str a6_3), .av (.str a6_4), .av (.str a6_5), .av (.L .arr a6_6)]⟩), (2009, ⟨false, [.sl (.int .i64) false x2009]⟩)]⟩
/-- quiver/quiverref1.IsLeaf -/
noncomputable def quiverref1_IsLeaf.f (bar : Bar) (k : Nat) (a0 : Int) : Option Bool := lvl (E bar) k 52 [.v (.int .i64 a0)]
/-- quiver/quiverref1.GetNum -/
noncomputable def quiverref1_GetNum.f (bar : Bar) (k : Nat) (a0 : List UInt8) (a1 : Int) (a2 : Int) : Option (Int × Int) := lvl (E bar) k 53 [.v (.str a0), .v (.int .i64 a1), .v (.int .i64 a2)]
/-- quiver/quiverref7.there -/
noncomputable def quiverref7_there.f (bar : Bar) (k : Nat) (a0 : Arr) (a1 : Int) : Option Bool := lvl (E bar) k 54 [.v (.agg [(.int .i64 a0.layout), (.int .i64 a0.offset), (.int .i64 a0.length), (.str a0.valid), (.str a0.ends), (.str a0.data), (.L .arr a0.kids)]), .v (.int .i64 a1)]
/-- quiver/quiverlaw0.SameNodes -/
noncomputable def quiverlaw0_SameNodes.f (bar : Bar) (k : Nat) (a0 : List Nod) (a1 : List Nod) : Option Bool := lvl (E bar) k 55 [.v (.L .node a0), .v (.L .node a1)]
noncomputable def quiverlaw0_SameNodes.l0 (bar : Bar) (k : Nat) (n : Nat) (a0 : List Nod) (b1 : List Nod) (i5 : Int) : Option Bool := loopAt (E bar) k fi55 sg55 [.r, .r, .l, .r] n ⟨[(0, (.L .node a0)), (1, (.L .node b1)), (5, (.int .i64 i5))], []⟩
/-- quiver/quiverref7.value -/
noncomputable def quiverref7_value.f (bar : Bar) (k : Nat) (a0 : List Nod) (a1 : Int) (a2 : Arr) (a3 : Int) : Option (List UInt8) := lvl (E bar) k 60 [.v (.agg [(.L .node a0)]), .v (.int .i64 a1), .v (.agg [(.int .i64 a2.layout), (.int .i64 a2.offset), (.int .i64 a2.length), (.str a2.valid), (.str a2.ends), (.str a2.data), (.L .arr a2.kids)]), .v (.int .i64 a3)]
noncomputable def quiverref7_value.l0 (bar : Bar) (k : Nat) (n : Nat) (at_1 : Int) (row3 : Int) (i9 : Int) (t4 : List Nod) (a6 : Int) (a6_1 : Int) (a6_2 : Int) (a6_3 : List UInt8) (a6_4 : List UInt8) (a6_5 : List UInt8) (a6_6 : List Arr) : Option (List UInt8) := loopAt (E bar) k fi60 sg60 [.r, .r, .r, .r, .l, .r, .t, .r, .l] n ⟨[(1, (.int .i64 at_1)), (3, (.int .i64 row3)), (4, (.ref 4 0)), (6, (.ref 6 0)), (9, (.int .i64 i9))], [(4, ⟨true, [.av (.L .node t4)]⟩), (6, ⟨true, [.av (.int .i64 a6), .av (.int .i64 a6_1), .av (.int .i64 a6_2), .av (.str a6_3), .av (.str a6_4), .av (.str a6_5), .av (.L .arr a6_6)]⟩)]⟩
noncomputable def quiverref7_value.l3 (bar : Bar) (k : Nat) (n : Nat) (to16 : Int) (i17 : Int) (t4 : List Nod) (a6 : Int) (a6_1 : Int) (a6_2 : Int) (a6_3 : List UInt8) (a6_4 : List UInt8) (a6_5 : List UInt8) (a6_6 : List Arr) (x2010 : List Int) (x2012 : List (List UInt8)) : Option (List UInt8) := loopAt (E bar) k fi60 sg60 [.r, .r, .r, .r, .r, .r, .r, .l, .r, .b, .r, .e, .r, .e, .r, .e, .r, .t, .r, .l, .r] n ⟨[(12, (.al 2012 0)), (10, (.al 2010 0)), (4, (.ref 4 0)), (6, (.ref 6 0)), (16, (.int .i64 to16)), (17, (.int .i64 i17))], [(4, ⟨true, [.av (.L .node t4)]⟩), (6, ⟨true, [.av (.int .i64 a6), .av (.int .i64 a6_1), .av (.int .i64 a6_2), .av (.str a6_3), .av (.str a6_4), .av (.str a6_5), .av (.L .arr a6_6)]⟩), (2010, ⟨false, [.sl (.int .i64) false x2010]⟩), (2012, ⟨false, [.sl .str false x2012]⟩)]⟩
noncomputable def quiverref7_value.l5 (bar : Bar) (k : Nat) (n : Nat) (row3 : Int) (i18 : Int) (t4 : List Nod) (a6 : Int) (a6_1 : Int) (a6_2 : Int) (a6_3 : List UInt8) (a6_4 : List UInt8) (a6_5 : List UInt8) (a6_6 : List Arr) (x2010 : List Int) (x2012 : List (List UInt8)) : Option (List UInt8) := loopAt (E bar) k fi60 sg60 [.r, .r, .r, .r, .r, .r, .r, .r, .l, .r] n ⟨[(12, (.al 2012 0)), (10, (.al 2010 0)), (3, (.int .i64 row3)), (4, (.ref 4 0)), (6, (.ref 6 0)), (18, (.int .i64 i18))], [(4, ⟨true, [.av (.L .node t4)]⟩), (6, ⟨true, [.av (.int .i64 a6), .av (.int .i64 a6_1), .av (.int .i64 a6_2), .av (.str a6_3), .av (.str a6_4), .av (.str a6_5), .av (.L .arr a6_6)]⟩), (2010, ⟨false, [.sl (.int .i64) false x2010]⟩), (2012, ⟨false, [.sl .str false x2012]⟩)]⟩
/-- quiver/array.Copy -/
noncomputable def array_Copy.f (bar : Bar) (k : Nat) (a0 : Arr) : Option Arr := lvl (E bar) k 61 [.v (.agg [(.int .i64 a0.layout), (.int .i64 a0.offset), (.int .i64 a0.length), (.str a0.valid), (.str a0.ends), (.str a0.data), (.L .arr a0.kids)])]
noncomputable def array_Copy.l0 (bar : Bar) (k : Nat) (n : Nat) (x10 : Int) (x11 : Int) (a1 : Int) (a1_1 : Int) (a1_2 : Int) (a1_3 : List UInt8) (a1_4 : List UInt8) (a1_5 : List UInt8) (a1_6 : List Arr) : Option Arr := loopAt (E bar) k fi61 sg61 [.r, .r, .l, .r] n ⟨[(1, (.ref 1 0)), (2, (.ref 2 0)), (10, (.int .i64 x10)), (11, (.int .i64 x11))], [(1, ⟨true, [.av (.int .i64 a1), .av (.int .i64 a1_1), .av (.int .i64 a1_2), .av (.str a1_3), .av (.str a1_4), .av (.str a1_5), .sl .arr false a1_6]⟩), (2, ⟨true, [.av (.int .i64 0), .av (.int .i64 0), .av (.int .i64 0), .av (.str []), .av (.str []), .av (.str []), .sl .arr false ([] : List Arr)]⟩)]⟩
/-- quiver/quiverlaw11.ints -/
noncomputable def quiverlaw11_ints.f (bar : Bar) (k : Nat) : Option (List Nod) := lvl (E bar) k 63 []
/-- quiver/quiverlaw11.given -/
noncomputable def quiverlaw11_given.f (bar : Bar) (k : Nat) : Option Arr := lvl (E bar) k 64 []
/-- quiver/quiverlaw11.vals -/
noncomputable def quiverlaw11_vals.f (bar : Bar) (k : Nat) (a0 : Arr) : Option (List (List UInt8)) := lvl (E bar) k 65 [.v (.agg [(.int .i64 a0.layout), (.int .i64 a0.offset), (.int .i64 a0.length), (.str a0.valid), (.str a0.ends), (.str a0.data), (.L .arr a0.kids)])]
/-- quiver/types.May -/
noncomputable def types_May.f (bar : Bar) (k : Nat) (a0 : List Nod) : Option Bool := lvl (E bar) k 85 [.v (.agg [(.L .node a0)])]
noncomputable def types_May.l0 (bar : Bar) (k : Nat) (n : Nat) (x19 : List Nod) (x20 : Int) (x21 : Int) : Option Bool := loopAt (E bar) k fi85 sg85 [.r, .r, .l, .r] n ⟨[(1, (.ref 1 0)), (19, (.L .node x19)), (20, (.int .i64 x20)), (21, (.int .i64 x21))], [(1, ⟨true, [.av (.L .node x19)]⟩)]⟩
noncomputable def types_May.l2 (bar : Bar) (k : Nat) (n : Nat) (x41 : List Nod) (x42 : Int) (x43 : Int) : Option Bool := loopAt (E bar) k fi85 sg85 [.r, .r, .r, .l, .r] n ⟨[(1, (.ref 1 0)), (41, (.L .node x41)), (42, (.int .i64 x42)), (43, (.int .i64 x43))], [(1, ⟨true, [.av (.L .node x41)]⟩)]⟩
/-- quiver/bits.Bytes -/
noncomputable def bits_Bytes.f (bar : Bar) (k : Nat) (a0 : Int) : Option Int := lvl (E bar) k 72 [.v (.int .i64 a0)]
/-- quiver/types.Kids -/
noncomputable def types_Kids.f (bar : Bar) (k : Nat) (a0 : List Nod) (a1 : Int) : Option (List Int × Int) := lvl (E bar) k 86 [.v (.agg [(.L .node a0)]), .v (.int .i64 a1)]
/-- quiver/array.ends -/
noncomputable def array_ends.f (bar : Bar) (k : Nat) (a0 : List UInt8) (a1 : Int) (a2 : Int) (a3 : Int) (a4 : Int) : Option Bool := lvl (E bar) k 87 [.v (.str a0), .v (.int .i64 a1), .v (.int .i64 a2), .v (.int .i64 a3), .v (.int .i64 a4)]
noncomputable def array_ends.l0 (bar : Bar) (k : Nat) (n : Nat) (s0 : List UInt8) (most2 : Int) (from_3 : Int) (apart4 : Int) (last11 : Int) (x16 : Int) (x17 : Int) : Option Bool := loopAt (E bar) k fi87 sg87 [.r, .r, .l, .r] n ⟨[(0, (.str s0)), (2, (.int .i64 most2)), (3, (.int .i64 from_3)), (4, (.int .i64 apart4)), (11, (.int .i64 last11)), (16, (.int .i64 x16)), (17, (.int .i64 x17))], []⟩
/-- slices.ContainsFunc[[]quiver/api.Array,quiver/api.Array] -/
noncomputable def slices_ContainsFunc_api_Array_api_Array_array_plain_1.f (bar : Bar) (k : Nat) (a0 : List Arr) (a1_0 : Int) : Option Bool := lvl (E bar) k 89 [.v (.L .arr a0), .v (.fn 88 [(.vp [(.int .i64 a1_0)])])]
/-- quiver/array.one -/
noncomputable def array_one.f (bar : Bar) (k : Nat) (a0 : List Nod) (a1 : Int) (a2 : Arr) : Option (Option Arr × Bool) := lvl (E bar) k 90 [.v (.vp [(.L .node a0)]), .v (.int .i64 a1), .v (.vp [(.int .i64 a2.layout), (.int .i64 a2.offset), (.int .i64 a2.length), (.str a2.valid), (.str a2.ends), (.str a2.data), (.L .arr a2.kids)])]
/-- quiver/array.Number -/
noncomputable def array_Number.f (bar : Bar) (k : Nat) (a0 : List UInt8) (a1 : Int) : Option (Int × Bool) := lvl (E bar) k 91 [.v (.str a0), .v (.int .i64 a1)]
/-- quiver/array.There -/
noncomputable def array_There.f (bar : Bar) (k : Nat) (a0 : Arr) (a1 : Int) : Option Bool := lvl (E bar) k 92 [.v (.vp [(.int .i64 a0.layout), (.int .i64 a0.offset), (.int .i64 a0.length), (.str a0.valid), (.str a0.ends), (.str a0.data), (.L .arr a0.kids)]), .v (.int .i64 a1)]
/-- quiver/quiverref1.TypeMay -/
noncomputable def quiverref1_TypeMay.f (bar : Bar) (k : Nat) (a0 : List Nod) : Option Bool := lvl (E bar) k 93 [.v (.agg [(.L .node a0)])]
noncomputable def quiverref1_TypeMay.l0 (bar : Bar) (k : Nat) (n : Nat) (i4 : Int) (t1 : List Nod) (x2003 : List Int) : Option Bool := loopAt (E bar) k fi93 sg93 [.r, .r, .r, .l, .r] n ⟨[(3, (.al 2003 0)), (1, (.ref 1 0)), (4, (.int .i64 i4))], [(1, ⟨true, [.av (.L .node t1)]⟩), (2003, ⟨false, [.sl (.int .i64) false x2003]⟩)]⟩
/-- quiver/quiverref1.Kids -/
noncomputable def quiverref1_Kids.f (bar : Bar) (k : Nat) (a0 : List Nod) (a1 : Int) : Option (List Int × Int) := lvl (E bar) k 94 [.v (.agg [(.L .node a0)]), .v (.int .i64 a1)]
/-- quiver/quiverref7.bare -/
noncomputable def quiverref7_bare.f (bar : Bar) (k : Nat) (a0 : Arr) : Option Bool := lvl (E bar) k 95 [.v (.agg [(.int .i64 a0.layout), (.int .i64 a0.offset), (.int .i64 a0.length), (.str a0.valid), (.str a0.ends), (.str a0.data), (.L .arr a0.kids)])]
/-- quiver/quiverref7.mayEnds -/
noncomputable def quiverref7_mayEnds.f (bar : Bar) (k : Nat) (a0 : List UInt8) (a1 : Int) (a2 : Int) (a3 : Int) (a4 : Int) : Option Bool := lvl (E bar) k 96 [.v (.str a0), .v (.int .i64 a1), .v (.int .i64 a2), .v (.int .i64 a3), .v (.int .i64 a4)]
noncomputable def quiverref7_mayEnds.l0 (bar : Bar) (k : Nat) (n : Nat) (s0 : List UInt8) (rows1 : Int) (first2 : Int) (last3 : Int) (apart4 : Int) (was11 : Int) (i12 : Int) : Option Bool := loopAt (E bar) k fi96 sg96 [.r, .r, .l, .r] n ⟨[(0, (.str s0)), (1, (.int .i64 rows1)), (2, (.int .i64 first2)), (3, (.int .i64 last3)), (4, (.int .i64 apart4)), (11, (.int .i64 was11)), (12, (.int .i64 i12))], []⟩
/-- quiver/quiverref1.Num -/
noncomputable def quiverref1_Num.f (bar : Bar) (k : Nat) (a0 : List UInt8) : Option Int := lvl (E bar) k 83 [.v (.str a0)]
noncomputable def quiverref1_Num.l0 (bar : Bar) (k : Nat) (n : Nat) (s0 : List UInt8) (x3 : Int) (i4 : Int) : Option Int := loopAt (E bar) k fi83 sg83 [.r, .r, .l, .r] n ⟨[(0, (.str s0)), (3, (.int .u64 x3)), (4, (.int .i64 i4))], []⟩
/-- quiver/quiverref1.in -/
noncomputable def quiverref1_in.f (bar : Bar) (k : Nat) (a0 : Int) : Option Bool := lvl (E bar) k 97 [.v (.int .i64 a0)]
/-- quiver/quiverref1.Bit -/
noncomputable def quiverref1_Bit.f (bar : Bar) (k : Nat) (a0 : List UInt8) (a1 : Int) : Option Bool := lvl (E bar) k 84 [.v (.str a0), .v (.int .i64 a1)]
/-- quiver/quiverref7.Int -/
noncomputable def quiverref7_Int.f (bar : Bar) (k : Nat) (a0 : Int) : Option (List UInt8) := lvl (E bar) k 104 [.v (.int .i64 a0)]
/-- quiver/quiverref7.Bool -/
noncomputable def quiverref7_Bool.f (bar : Bar) (k : Nat) (a0 : Bool) : Option (List UInt8) := lvl (E bar) k 105 [.v (.bool a0)]
/-- quiver/quiverref7.ends -/
noncomputable def quiverref7_ends.f (bar : Bar) (k : Nat) (a0 : Arr) (a1 : Int) : Option (Int × Int) := lvl (E bar) k 106 [.v (.agg [(.int .i64 a0.layout), (.int .i64 a0.offset), (.int .i64 a0.length), (.str a0.valid), (.str a0.ends), (.str a0.data), (.L .arr a0.kids)]), .v (.int .i64 a1)]
/-- quiver/quiverref7.Bytes -/
noncomputable def quiverref7_Bytes.f (bar : Bar) (k : Nat) (a0 : List UInt8) : Option (List UInt8) := lvl (E bar) k 107 [.v (.str a0)]
/-- quiver/quiverref7.List -/
noncomputable def quiverref7_List.f (bar : Bar) (k : Nat) (a0 : List (List UInt8)) : Option (List UInt8) := lvl (E bar) k 108 [.v (.L .str a0)]
/-- quiver/quiverref7.Struct -/
noncomputable def quiverref7_Struct.f (bar : Bar) (k : Nat) (a0 : List (List UInt8)) : Option (List UInt8) := lvl (E bar) k 109 [.v (.L .str a0)]
/-- slices.Clone[[]quiver/api.Array,quiver/api.Array] -/
noncomputable def slices_Clone_api_Array_api_Array.f (bar : Bar) (k : Nat) (a0 : List Arr) : Option (List Arr) := lvl (E bar) k 110 [.v (.L .arr a0)]
/-- quiver/quiverref7.Build -/
noncomputable def quiverref7_Build.f (bar : Bar) (k : Nat) (a0 : List Nod) (a1 : Int) (a2 : List (List UInt8)) : Option (Arr × Int) := lvl (E bar) k 25 [.v (.agg [(.L .node a0)]), .v (.int .i64 a1), .v (.L .str a2)]
noncomputable def quiverref7_Build.l0 (bar : Bar) (k : Nat) (n : Nat) (at_1 : Int) (vs2 : List (List UInt8)) (i8 : Int) (t3 : List Nod) : Option (Arr × Int) := loopAt (E bar) k fi25 sg25 [.r, .r, .l, .r] n ⟨[(1, (.int .i64 at_1)), (2, (.L .str vs2)), (3, (.ref 3 0)), (6, (.ref 6 0)), (8, (.int .i64 i8))], [(3, ⟨true, [.av (.L .node t3)]⟩), (6, ⟨true, [.av (.int .i64 0), .av (.int .i64 0), .av (.int .i64 0), .av (.str []), .av (.str []), .av (.str []), .sl .arr false ([] : List Arr)]⟩)]⟩
/-- quiver/types.stands -/
noncomputable def types_stands.f (bar : Bar) (k : Nat) (a0 : List Nod) (a1 : Int) : Option Bool := lvl (E bar) k 120 [.v (.vp [(.L .node a0)]), .v (.int .i64 a1)]
/-- quiver/types.kids -/
noncomputable def types_kids.f (bar : Bar) (k : Nat) (a0 : List Nod) (a1 : Int) : Option (List Int) := lvl (E bar) k 121 [.v (.vp [(.L .node a0)]), .v (.int .i64 a1)]
noncomputable def types_kids.l0 (bar : Bar) (k : Nat) (n : Nat) (at_1 : Int) (x11 : List Nod) (x12 : Int) (x13 : Int) (x2005 : List Int) : Option (List Int) := loopAt (E bar) k fi121 sg121 [.r, .r, .l, .r] n ⟨[(5, (.al 2005 0)), (1, (.int .i64 at_1)), (11, (.L .node x11)), (12, (.int .i64 x12)), (13, (.int .i64 x13))], [(2005, ⟨false, [.sl (.int .i64) false x2005]⟩)]⟩
/-- quiver/types.way -/
noncomputable def types_way.f (bar : Bar) (k : Nat) (a0 : List Nod) (a1 : Int) : Option (List Int) := lvl (E bar) k 122 [.v (.vp [(.L .node a0)]), .v (.int .i64 a1)]
noncomputable def types_way.l0 (bar : Bar) (k : Nat) (n : Nat) (t0 : List Nod) (at_1 : Int) (x2005 : List Int) : Option (List Int) := loopAt (E bar) k fi122 sg122 [.r, .r, .l] n ⟨[(5, (.al 2005 0)), (0, (.vp [(.L .node t0)])), (1, (.int .i64 at_1))], [(2005, ⟨false, [.sl (.int .i64) false x2005]⟩)]⟩
/-- slices.IndexFunc[[]quiver/api.Array,quiver/api.Array] -/
noncomputable def slices_IndexFunc_api_Array_api_Array_array_plain_1.f (bar : Bar) (k : Nat) (a0 : List Arr) (a1_0 : Int) : Option Int := lvl (E bar) k 123 [.v (.L .arr a0), .v (.fn 88 [(.vp [(.int .i64 a1_0)])])]
noncomputable def slices_IndexFunc_api_Array_api_Array_array_plain_1.l0 (bar : Bar) (k : Nat) (n : Nat) (s0 : List Arr) (f1 : Int) (x7 : Int) (x8 : Int) : Option Int := loopAt (E bar) k fi123 sg123 [.r, .l, .r] n ⟨[(0, (.L .arr s0)), (1, (.fn 88 [(.vp [(.int .i64 f1)])])), (7, (.int .i64 x7)), (8, (.int .i64 x8))], []⟩
/-- quiver/types.Inner -/
noncomputable def types_Inner.f (bar : Bar) (k : Nat) (a0 : Int) : Option Bool := lvl (E bar) k 124 [.v (.int .i64 a0)]
/-- quiver/num.Get -/
noncomputable def num_Get.f (bar : Bar) (k : Nat) (a0 : List UInt8) (a1 : Int) (a2 : Int) : Option (Int × Int) := lvl (E bar) k 125 [.v (.str a0), .v (.int .i64 a1), .v (.int .i64 a2)]
/-- quiver/bits.On -/
noncomputable def bits_On.f (bar : Bar) (k : Nat) (a0 : List UInt8) (a1 : Int) : Option Bool := lvl (E bar) k 119 [.v (.str a0), .v (.int .i64 a1)]
/-- quiver/quiverref1.upTo -/
noncomputable def quiverref1_upTo.f (bar : Bar) (k : Nat) (a0 : Int) (a1 : Int) (a2 : Int) : Option Bool := lvl (E bar) k 126 [.v (.int .i64 a0), .v (.int .i64 a1), .v (.int .i64 a2)]
/-- quiver/quiverref1.kids -/
noncomputable def quiverref1_kids.f (bar : Bar) (k : Nat) (a0 : List Nod) (a1 : Int) : Option (List Int) := lvl (E bar) k 127 [.v (.agg [(.L .node a0)]), .v (.int .i64 a1)]
noncomputable def quiverref1_kids.l0 (bar : Bar) (k : Nat) (n : Nat) (at_1 : Int) (i6 : Int) (t2 : List Nod) (x2005 : List Int) : Option (List Int) := loopAt (E bar) k fi127 sg127 [.r, .r, .l, .r] n ⟨[(5, (.al 2005 0)), (1, (.int .i64 at_1)), (2, (.ref 2 0)), (6, (.int .i64 i6))], [(2, ⟨true, [.av (.L .node t2)]⟩), (2005, ⟨false, [.sl (.int .i64) false x2005]⟩)]⟩
/-- quiver/quiverref7.digits -/
noncomputable def quiverref7_digits.f (bar : Bar) (k : Nat) (a0 : Int) : Option (List UInt8) := lvl (E bar) k 130 [.v (.int .i64 a0)]
noncomputable def quiverref7_digits.l0 (bar : Bar) (k : Nat) (n : Nat) (x0 : Int) (s3 : List UInt8) : Option (List UInt8) := loopAt (E bar) k fi130 sg130 [.r, .r, .r, .l] n ⟨[(0, (.int .i64 x0)), (3, (.str s3))], []⟩
/-- quiver/quiverref0.Decimal -/
noncomputable def quiverref0_Decimal.f (bar : Bar) (k : Nat) (a0 : Int) : Option (List UInt8) := lvl (E bar) k 131 [.v (.int .i64 a0)]
noncomputable def quiverref0_Decimal.j4 (bar : Bar) (k : Nat) (x0 : Int) (size3 : Int) : Option (List UInt8) := cutAt (E bar) k fi131 sg131 [.r, .r, .r] ⟨[(0, (.int .i64 x0)), (3, (.int .u64 size3))], []⟩
noncomputable def quiverref0_Decimal.l0 (bar : Bar) (k : Nat) (n : Nat) (x0 : Int) (size3 : Int) (x2004 : List Int) : Option (List UInt8) := loopAt (E bar) k fi131 sg131 [.r, .r, .r, .r, .l] n ⟨[(4, (.al 2004 0)), (0, (.int .i64 x0)), (3, (.int .u64 size3))], [(2004, ⟨false, [.sl (.int .u8) false x2004]⟩)]⟩
/-- quiver/quiverref7.all -/
noncomputable def quiverref7_all.f (bar : Bar) (k : Nat) (a0 : List (List UInt8)) : Option (List UInt8) := lvl (E bar) k 101 [.v (.L .str a0)]
noncomputable def quiverref7_all.l0 (bar : Bar) (k : Nat) (n : Nat) (vs0 : List (List UInt8)) (s3 : List UInt8) (i4 : Int) : Option (List UInt8) := loopAt (E bar) k fi101 sg101 [.r, .r, .l, .r] n ⟨[(0, (.L .str vs0)), (3, (.str s3)), (4, (.int .i64 i4))], []⟩
/-- quiver/quiverref7.Fits -/
noncomputable def quiverref7_Fits.f (bar : Bar) (k : Nat) (a0 : List Nod) (a1 : Int) (a2 : List UInt8) : Option Bool := lvl (E bar) k 56 [.v (.agg [(.L .node a0)]), .v (.int .i64 a1), .v (.str a2)]
noncomputable def quiverref7_Fits.l0 (bar : Bar) (k : Nat) (n : Nat) (kind8 : Int) (i13 : Int) (t3 : List Nod) (x2009 : List (List UInt8)) (x2011 : List Int) : Option Bool := loopAt (E bar) k fi56 sg56 [.r, .r, .r, .r, .r, .r, .r, .r, .l, .r] n ⟨[(11, (.al 2011 0)), (9, (.al 2009 0)), (3, (.ref 3 0)), (8, (.int .i64 kind8)), (13, (.int .i64 i13))], [(3, ⟨true, [.av (.L .node t3)]⟩), (2009, ⟨false, [.sl .str false x2009]⟩), (2011, ⟨false, [.sl (.int .i64) false x2011]⟩)]⟩
/-- quiver/quiverref7.build -/
noncomputable def quiverref7_build.f (bar : Bar) (k : Nat) (a0 : List Nod) (a1 : Int) (a2 : List (List UInt8)) : Option (Arr × Bool) := lvl (E bar) k 57 [.v (.agg [(.L .node a0)]), .v (.int .i64 a1), .v (.L .str a2)]
noncomputable def quiverref7_build.l0 (bar : Bar) (k : Nat) (n : Nat) (at_1 : Int) (vs2 : List (List UInt8)) (rows11 : Nat) (i13 : Int) (t3 : List Nod) (a8 : Int) (a8_1 : List UInt8) (a8_2 : List UInt8) (a8_3 : List UInt8) (x40 : List Cell) (x2009 : List Int) (x2012 : List Bool) : Option (Arr × Bool) := loopAt (E bar) k fi57 sg57 [.r, .r, .r, .r, .r, .r, .l, .r] n ⟨[(12, (.al 2012 0)), (9, (.al 2009 0)), (1, (.int .i64 at_1)), (2, (.L .str vs2)), (3, (.ref 3 0)), (6, (.ref 6 0)), (8, (.ref 8 0)), (11, (.bs 40 rows11)), (13, (.int .i64 i13))], [(3, ⟨true, [.av (.L .node t3)]⟩), (6, ⟨true, [.av (.int .i64 0), .av (.int .i64 0), .av (.int .i64 0), .av (.str []), .av (.str []), .av (.str []), .sl .arr false ([] : List Arr)]⟩), (8, ⟨true, [.av (.int .i64 0), .av (.int .i64 0), .av (.int .i64 a8), .av (.str a8_1), .av (.str a8_2), .av (.str a8_3), .sl .arr false ([] : List Arr)]⟩), (40, ⟨true, x40⟩), (2009, ⟨false, [.sl (.int .i64) false x2009]⟩), (2012, ⟨false, [.sl .bool false x2012]⟩)]⟩
noncomputable def quiverref7_build.l3 (bar : Bar) (k : Nat) (m1 : Nat) (n : Nat) (at_1 : Int) (vs2 : List (List UInt8)) (rows11 : Nat) (i13 : Int) (kind14 : Int) (j18 : Int) (t3 : List Nod) (a8 : Int) (a8_1 : List UInt8) (a8_2 : List UInt8) (a8_3 : List UInt8) (x40 : List Cell) (x2009 : List Int) (x2012 : List Bool) (x2015 : List (List UInt8)) : Option (Arr × Bool) := loopAt (E bar) k fi57 sg57 [.r, .r, .r, .r, .r, .r, .l, .r, .lp m1, .r, .l, .b, .r, .r, .b, .r, .e, .r, .e, .r, .e, .r, .e, .r] n ⟨[(15, (.al 2015 0)), (12, (.al 2012 0)), (9, (.al 2009 0)), (1, (.int .i64 at_1)), (2, (.L .str vs2)), (3, (.ref 3 0)), (6, (.ref 6 0)), (8, (.ref 8 0)), (11, (.bs 40 rows11)), (13, (.int .i64 i13)), (14, (.int .i64 kind14)), (18, (.int .i64 j18))], [(3, ⟨true, [.av (.L .node t3)]⟩), (6, ⟨true, [.av (.int .i64 0), .av (.int .i64 0), .av (.int .i64 0), .av (.str []), .av (.str []), .av (.str []), .sl .arr false ([] : List Arr)]⟩), (8, ⟨true, [.av (.int .i64 0), .av (.int .i64 0), .av (.int .i64 a8), .av (.str a8_1), .av (.str a8_2), .av (.str a8_3), .sl .arr false ([] : List Arr)]⟩), (40, ⟨true, x40⟩), (2009, ⟨false, [.sl (.int .i64) false x2009]⟩), (2012, ⟨false, [.sl .bool false x2012]⟩), (2015, ⟨false, [.sl .str false x2015]⟩)]⟩
noncomputable def quiverref7_build.j39 (bar : Bar) (k : Nat) (rows11 : Nat) (t3 : List Nod) (a8 : Int) (a8_1 : List UInt8) (a8_2 : List UInt8) (a8_3 : List UInt8) (x40 : List Cell) (x2009 : List Int) : Option (Arr × Bool) := cutAt (E bar) k fi57 sg57 [.r, .r, .r, .r, .r, .r, .r, .r] ⟨[(9, (.al 2009 0)), (3, (.ref 3 0)), (6, (.ref 6 0)), (8, (.ref 8 0)), (11, (.bs 40 rows11))], [(3, ⟨true, [.av (.L .node t3)]⟩), (6, ⟨true, [.av (.int .i64 0), .av (.int .i64 0), .av (.int .i64 0), .av (.str []), .av (.str []), .av (.str []), .sl .arr false ([] : List Arr)]⟩), (8, ⟨true, [.av (.int .i64 0), .av (.int .i64 0), .av (.int .i64 a8), .av (.str a8_1), .av (.str a8_2), .av (.str a8_3), .sl .arr false ([] : List Arr)]⟩), (40, ⟨true, x40⟩), (2009, ⟨false, [.sl (.int .i64) false x2009]⟩)]⟩
noncomputable def quiverref7_build.l6 (bar : Bar) (k : Nat) (n : Nat) (rows11 : Nat) (j20 : Int) (t3 : List Nod) (a8 : Int) (a8_1 : List UInt8) (a8_2 : List UInt8) (a8_3 : List UInt8) (a8_4 : List Arr) (x40 : List Cell) (x2009 : List Int) : Option (Arr × Bool) := loopAt (E bar) k fi57 sg57 [.r, .r, .r, .r, .r, .r, .r, .r, .l, .r] n ⟨[(9, (.al 2009 0)), (3, (.ref 3 0)), (6, (.ref 6 0)), (8, (.ref 8 0)), (11, (.bs 40 rows11)), (20, (.int .i64 j20))], [(3, ⟨true, [.av (.L .node t3)]⟩), (6, ⟨true, [.av (.int .i64 0), .av (.int .i64 0), .av (.int .i64 0), .av (.str []), .av (.str []), .av (.str []), .sl .arr false ([] : List Arr)]⟩), (8, ⟨true, [.av (.int .i64 0), .av (.int .i64 0), .av (.int .i64 a8), .av (.str a8_1), .av (.str a8_2), .av (.str a8_3), .sl .arr false a8_4]⟩), (40, ⟨true, x40⟩), (2009, ⟨false, [.sl (.int .i64) false x2009]⟩)]⟩
/-- quiver/array.plain$1 -/
noncomputable def array_plain_1.f (bar : Bar) (k : Nat) (a0 : Arr) (a1 : Int) : Option Bool := lvl (E bar) k 88 [.v (.agg [(.int .i64 a0.layout), (.int .i64 a0.offset), (.int .i64 a0.length), (.str a0.valid), (.str a0.ends), (.str a0.data), (.L .arr a0.kids)]), .v (.vp [(.int .i64 a1)])]
/-- quiver/pad.May -/
noncomputable def pad_May.f (bar : Bar) (k : Nat) (a0 : Int) : Option Bool := lvl (E bar) k 113 [.v (.int .i64 a0)]
/-- quiver/num.Of -/
noncomputable def num_Of.f (bar : Bar) (k : Nat) (a0 : List UInt8) : Option Int := lvl (E bar) k 116 [.v (.str a0)]
noncomputable def num_Of.l0 (bar : Bar) (k : Nat) (n : Nat) (s0 : List UInt8) (out3 : Int) (x6 : Int) (x7 : Int) : Option Int := loopAt (E bar) k fi116 sg116 [.r, .r, .l, .r] n ⟨[(0, (.str s0)), (3, (.int .u64 out3)), (6, (.int .i64 x6)), (7, (.int .i64 x7))], []⟩
/-- quiver/quiverref7.Parts -/
noncomputable def quiverref7_Parts.f (bar : Bar) (k : Nat) (a0 : List UInt8) : Option (Int × List (List UInt8) × Int) := lvl (E bar) k 98 [.v (.str a0)]
noncomputable def quiverref7_Parts.j13 (bar : Bar) (k : Nat) (v0 : List UInt8) : Option (Int × List (List UInt8) × Int) := cutAt (E bar) k fi98 sg98 [.r, .r, .r] ⟨[(0, (.str v0))], []⟩
noncomputable def quiverref7_Parts.l1 (bar : Bar) (k : Nat) (n : Nat) (v0 : List UInt8) (at_6 : Int) (x2005 : List (List UInt8)) : Option (Int × List (List UInt8) × Int) := loopAt (E bar) k fi98 sg98 [.r, .r, .r, .r, .l, .r] n ⟨[(5, (.al 2005 0)), (0, (.str v0)), (6, (.int .i64 at_6))], [(2005, ⟨false, [.sl .str false x2005]⟩)]⟩
/-- quiver/quiverref1.Low -/
noncomputable def quiverref1_Low.f (bar : Bar) (k : Nat) (a0 : Int) (a1 : Int) : Option (List UInt8) := lvl (E bar) k 59 [.v (.int .i64 a0), .v (.int .i64 a1)]
noncomputable def quiverref1_Low.l0 (bar : Bar) (k : Nat) (n : Nat) (x0 : Int) (size1 : Int) (i6 : Int) (x2005 : List Int) : Option (List UInt8) := loopAt (E bar) k fi59 sg59 [.r, .r, .l, .r] n ⟨[(5, (.al 2005 0)), (0, (.int .i64 x0)), (1, (.int .i64 size1)), (6, (.int .i64 i6))], [(2005, ⟨false, [.sl (.int .u8) false x2005]⟩)]⟩
/-- quiver/quiverref7.valid -/
noncomputable def quiverref7_valid.f (bar : Bar) (k : Nat) (a0 : List (List UInt8)) : Option (List UInt8) := lvl (E bar) k 99 [.v (.L .str a0)]
noncomputable def quiverref7_valid.l0 (bar : Bar) (k : Nat) (n : Nat) (vs0 : List (List UInt8)) (all4 : Bool) (i5 : Int) (x2003 : List Bool) : Option (List UInt8) := loopAt (E bar) k fi99 sg99 [.r, .r, .r, .l, .r] n ⟨[(3, (.al 2003 0)), (0, (.L .str vs0)), (4, (.bool all4)), (5, (.int .i64 i5))], [(2003, ⟨false, [.sl .bool false x2003]⟩)]⟩
/-- quiver/quiverref7.whole -/
noncomputable def quiverref7_whole.f (bar : Bar) (k : Nat) (a0 : List UInt8) : Option (Int × Bool) := lvl (E bar) k 100 [.v (.str a0)]
noncomputable def quiverref7_whole.l0 (bar : Bar) (k : Nat) (n : Nat) (s0 : List UInt8) (x4 : Int) (i5 : Int) : Option (Int × Bool) := loopAt (E bar) k fi100 sg100 [.r, .r, .l, .r] n ⟨[(0, (.str s0)), (4, (.int .i64 x4)), (5, (.int .i64 i5))], []⟩
/-- quiver/quiverref7.zero -/
noncomputable def quiverref7_zero.f (bar : Bar) (k : Nat) (a0 : List Nod) (a1 : Int) : Option (List UInt8) := lvl (E bar) k 102 [.v (.agg [(.L .node a0)]), .v (.int .i64 a1)]
noncomputable def quiverref7_zero.l1 (bar : Bar) (k : Nat) (n : Nat) (i8 : Int) (t2 : List Nod) (x2005 : List Int) (x2007 : List (List UInt8)) : Option (List UInt8) := loopAt (E bar) k fi102 sg102 [.r, .r, .r, .r, .r, .l, .r] n ⟨[(7, (.al 2007 0)), (5, (.al 2005 0)), (2, (.ref 2 0)), (8, (.int .i64 i8))], [(2, ⟨true, [.av (.L .node t2)]⟩), (2005, ⟨false, [.sl (.int .i64) false x2005]⟩), (2007, ⟨false, [.sl .str false x2007]⟩)]⟩
/-- quiver/quiverref1.BitsOf -/
noncomputable def quiverref1_BitsOf.f (bar : Bar) (k : Nat) (a0 : List Bool) : Option (List UInt8) := lvl (E bar) k 103 [.v (.L .bool a0)]
noncomputable def quiverref1_BitsOf.l0 (bar : Bar) (k : Nat) (n : Nat) (xs0 : List Bool) (i4 : Int) (x2003 : List Int) : Option (List UInt8) := loopAt (E bar) k fi103 sg103 [.r, .r, .l, .r] n ⟨[(3, (.al 2003 0)), (0, (.L .bool xs0)), (4, (.int .i64 i4))], [(2003, ⟨false, [.sl (.int .u8) false x2003]⟩)]⟩
/-- quiver/quiverref7.end -/
noncomputable def quiverref7_end.f (bar : Bar) (k : Nat) (a0 : List UInt8) (a1 : Int) (a2 : Int) : Option Int := lvl (E bar) k 128 [.v (.str a0), .v (.int .i64 a1), .v (.int .i64 a2)]
noncomputable def quiverref7_end.l1 (bar : Bar) (k : Nat) (n : Nat) (s0 : List UInt8) (at_1 : Int) (deep2 : Int) (stop13 : Int) : Option Int := loopAt (E bar) k fi128 sg128 [.r, .r, .l, .r, .b, .r, .e, .r, .e, .r, .e, .r, .t, .r, .r, .l] n ⟨[(0, (.str s0)), (1, (.int .i64 at_1)), (2, (.int .i64 deep2)), (13, (.int .u8 stop13))], []⟩
/-- quiver/quiverref7.upto -/
noncomputable def quiverref7_upto.f (bar : Bar) (k : Nat) (a0 : List UInt8) (a1 : Int) (a2 : Int) : Option Int := lvl (E bar) k 129 [.v (.str a0), .v (.int .i64 a1), .v (.int .u8 a2)]
noncomputable def quiverref7_upto.l0 (bar : Bar) (k : Nat) (n : Nat) (s0 : List UInt8) (at_1 : Int) (sign2 : Int) (i7 : Int) : Option Int := loopAt (E bar) k fi129 sg129 [.r, .l, .r] n ⟨[(0, (.str s0)), (1, (.int .i64 at_1)), (2, (.int .u8 sign2)), (7, (.int .i64 i7))], []⟩

end Go.Proofs.YtppmpfddcohkjaaA
