/- The functions and loops of the program, as the machine answers them, under names of their own: definitions alone. -/
import Derived.Test.YtppmpfddcohkjaaEnv
namespace Go.Proofs.YtppmpfddcohkjaaA
open Go
set_option linter.unusedVariables false

/-- quiver/quiverlaw21.Hybrids -/
noncomputable def quiverlaw21_Hybrids.f (bar : Bar) (k : Nat) (a0 : List Int) (a1 : Int) (a2 : List UInt8) (a3 : Int) : Option Bool := lvl (E bar) k 12 [.v (.L (.int .i64) a0), .v (.int .i64 a1), .v (.str a2), .v (.int .i64 a3)]
/-- quiver/quiverlaw21.HybridBack -/
noncomputable def quiverlaw21_HybridBack.f (bar : Bar) (k : Nat) (a0 : List Int) (a1 : Int) (a2 : Int) : Option Bool := lvl (E bar) k 13 [.v (.L (.int .i64) a0), .v (.int .i64 a1), .v (.int .i64 a2)]
noncomputable def quiverlaw21_HybridBack.l0 (bar : Bar) (k : Nat) (n : Nat) (xs0 : List Int) (more2 : Int) (w7 : Int) (i9 : Int) (x2008 : List Int) : Option Bool := loopAt (E bar) k fi13 sg13 [.r, .r, .r, .r, .l, .r] n ⟨[(8, (.al 2008 0)), (0, (.L (.int .i64) xs0)), (2, (.int .i64 more2)), (7, (.int .i64 w7)), (9, (.int .i64 i9))], [(2008, ⟨false, [.sl (.int .i64) false x2008]⟩)]⟩
/-- quiver/quiverlaw21.HybridForms -/
noncomputable def quiverlaw21_HybridForms.f (bar : Bar) (k : Nat) (a0 : Int) (a1 : Int) : Option Bool := lvl (E bar) k 14 [.v (.int .i64 a0), .v (.int .i64 a1)]
/-- quiver/quiverlaw21.HybridRuns -/
noncomputable def quiverlaw21_HybridRuns.f (bar : Bar) (k : Nat) (a0 : Int) (a1 : Int) : Option Bool := lvl (E bar) k 15 [.v (.int .i64 a0), .v (.int .i64 a1)]
noncomputable def quiverlaw21_HybridRuns.l0 (bar : Bar) (k : Nat) (n : Nat) (k_5 : Int) (v6 : Int) (i8 : Int) (x2007 : List Int) : Option Bool := loopAt (E bar) k fi15 sg15 [.r, .r, .r, .r, .l, .r] n ⟨[(7, (.al 2007 0)), (5, (.int .i64 k_5)), (6, (.int .i64 v6)), (8, (.int .i64 i8))], [(2007, ⟨false, [.sl (.int .i64) false x2007]⟩)]⟩
noncomputable def quiverlaw21_HybridRuns.l2 (bar : Bar) (k : Nat) (n : Nat) (k_5 : Int) (v6 : Int) (s9 : List UInt8) (i13 : Int) (x2012 : List Int) : Option Bool := loopAt (E bar) k fi15 sg15 [.r, .r, .r, .r, .r, .r, .r, .r, .l, .r, .e, .r, .t, .r, .l, .r] n ⟨[(12, (.al 2012 0)), (5, (.int .i64 k_5)), (6, (.int .i64 v6)), (9, (.str s9)), (13, (.int .i64 i13))], [(2012, ⟨false, [.sl (.int .u8) false x2012]⟩)]⟩
/-- quiver/quiverlaw21.HybridUnlike -/
noncomputable def quiverlaw21_HybridUnlike.f (bar : Bar) (k : Nat) (a0 : List Int) (a1 : Int) (a2 : Int) : Option Bool := lvl (E bar) k 16 [.v (.L (.int .i64) a0), .v (.int .i64 a1), .v (.int .i64 a2)]
noncomputable def quiverlaw21_HybridUnlike.l0 (bar : Bar) (k : Nat) (n : Nat) (xs0 : List Int) (at_1 : Int) (w7 : Int) (i9 : Int) (x2008 : List Int) : Option Bool := loopAt (E bar) k fi16 sg16 [.r, .r, .r, .r, .l, .r] n ⟨[(8, (.al 2008 0)), (0, (.L (.int .i64) xs0)), (1, (.int .i64 at_1)), (7, (.int .i64 w7)), (9, (.int .i64 i9))], [(2008, ⟨false, [.sl (.int .i64) false x2008]⟩)]⟩
/-- quiver/quiverlaw21.HybridMixed -/
noncomputable def quiverlaw21_HybridMixed.f (bar : Bar) (k : Nat) (a0 : List Int) (a1 : Int) : Option Bool := lvl (E bar) k 17 [.v (.L (.int .i64) a0), .v (.int .i64 a1)]
noncomputable def quiverlaw21_HybridMixed.l0 (bar : Bar) (k : Nat) (n : Nat) (sizes0 : List Int) (w5 : Int) (i7 : Int) (x2006 : List Int) : Option Bool := loopAt (E bar) k fi17 sg17 [.r, .r, .r, .r, .l, .r] n ⟨[(6, (.al 2006 0)), (0, (.L (.int .i64) sizes0)), (5, (.int .i64 w5)), (7, (.int .i64 i7))], [(2006, ⟨false, [.sl (.int .i64) false x2006]⟩)]⟩
noncomputable def quiverlaw21_HybridMixed.l2 (bar : Bar) (k : Nat) (m1 : Nat) (n : Nat) (sizes0 : List Int) (w5 : Int) (i7 : Int) (v8 : Int) (j9 : Int) (x2006 : List Int) : Option Bool := loopAt (E bar) k fi17 sg17 [.r, .r, .r, .r, .l, .r, .lp m1, .r, .l, .b, .r, .r] n ⟨[(6, (.al 2006 0)), (0, (.L (.int .i64) sizes0)), (5, (.int .i64 w5)), (7, (.int .i64 i7)), (8, (.int .i64 v8)), (9, (.int .i64 j9))], [(2006, ⟨false, [.sl (.int .i64) false x2006]⟩)]⟩
/-- quiver/quiverlaw0.Num -/
noncomputable def quiverlaw0_Num.f (bar : Bar) (k : Nat) (a0 : Int) : Option Int := lvl (E bar) k 28 [.v (.int .i64 a0)]
/-- quiver/quiverlaw0.LendInts -/
noncomputable def quiverlaw0_LendInts.f (bar : Bar) (k : Nat) (a0 : List Int) : Option ((List Int × List Int)) := lvl (E bar) k 35 [.v (.L (.int .i64) a0)]
/-- quiver/hybrid.Put -/
noncomputable def hybrid_Put.f (bar : Bar) (k : Nat) (a0 : List Int) (a1 : Int) : Option (List UInt8 × Int) := lvl (E bar) k 36 [.v (.L (.int .i64) a0), .v (.int .i64 a1)]
noncomputable def hybrid_Put.l0 (bar : Bar) (k : Nat) (n : Nat) (xs0 : List Int) (width1 : Int) (out6 : List Int) : Option (List UInt8 × Int) := loopAt (E bar) k fi36 sg36 [.r, .r, .r, .l] n ⟨[(0, (.L (.int .i64) xs0)), (1, (.int .i64 width1)), (6, (.refT 6 95))], [(6, ⟨true, [.av (.bad 6), .sl (.int .u8) false out6]⟩)]⟩
/-- quiver/quiverref21.PutHybrid -/
noncomputable def quiverref21_PutHybrid.f (bar : Bar) (k : Nat) (a0 : List Int) (a1 : Int) : Option (List UInt8 × Int) := lvl (E bar) k 37 [.v (.L (.int .i64) a0), .v (.int .i64 a1)]
noncomputable def quiverref21_PutHybrid.l0 (bar : Bar) (k : Nat) (n : Nat) (xs0 : List Int) (width1 : Int) (i6 : Int) : Option (List UInt8 × Int) := loopAt (E bar) k fi37 sg37 [.r, .r, .l, .r] n ⟨[(0, (.L (.int .i64) xs0)), (1, (.int .i64 width1)), (6, (.int .i64 i6))], []⟩
noncomputable def quiverref21_PutHybrid.l2 (bar : Bar) (k : Nat) (n : Nat) (xs0 : List Int) (width1 : Int) (s7 : List UInt8) (at_8 : Int) : Option (List UInt8 × Int) := loopAt (E bar) k fi37 sg37 [.r, .r, .r, .r, .l, .r] n ⟨[(0, (.L (.int .i64) xs0)), (1, (.int .i64 width1)), (7, (.str s7)), (8, (.int .i64 at_8))], []⟩
noncomputable def quiverref21_PutHybrid.l4 (bar : Bar) (k : Nat) (m1 : Nat) (n : Nat) (xs0 : List Int) (width1 : Int) (s7 : List UInt8) (at_8 : Int) (to12 : Int) : Option (List UInt8 × Int) := loopAt (E bar) k fi37 sg37 [.r, .r, .r, .r, .l, .r, .lp m1, .r, .b, .r, .r, .r, .l] n ⟨[(0, (.L (.int .i64) xs0)), (1, (.int .i64 width1)), (7, (.str s7)), (8, (.int .i64 at_8)), (12, (.int .i64 to12))], []⟩
/-- quiver/hybrid.Get -/
noncomputable def hybrid_Get.f (bar : Bar) (k : Nat) (a0 : List UInt8) (a1 : Int) (a2 : Int) : Option (List Int × Int) := lvl (E bar) k 38 [.v (.str a0), .v (.int .i64 a1), .v (.int .i64 a2)]
noncomputable def hybrid_Get.l0 (bar : Bar) (k : Nat) (n : Nat) (s0 : List UInt8) (width1 : Int) (count2 : Int) (x32 : List UInt8) (x32_1 : Int) (x32_2 : List Int) (x32_3 : Bool) : Option (List Int × Int) := loopAt (E bar) k fi38 sg38 [.r, .r, .r, .l] n ⟨[(0, (.str s0)), (1, (.int .i64 width1)), (2, (.int .i64 count2)), (8, (.ref 32 0))], [(32, ⟨true, [.av (.str x32), .av (.int .i64 x32_1), .sl (.int .i64) false x32_2, .av (.bool x32_3)]⟩)]⟩
noncomputable def hybrid_Get.j12 (bar : Bar) (k : Nat) (m1 : Nat) (s0 : List UInt8) (width1 : Int) (count2 : Int) (head9 : Int) (x32 : List UInt8) (x32_1 : Int) (x32_2 : List Int) (x32_3 : Bool) : Option (List Int × Int) := cutAt (E bar) k fi38 sg38 [.r, .r, .r, .l, .lp m1, .r, .b, .r, .r, .r, .r] ⟨[(0, (.str s0)), (1, (.int .i64 width1)), (2, (.int .i64 count2)), (8, (.ref 32 0)), (9, (.int .i64 head9))], [(32, ⟨true, [.av (.str x32), .av (.int .i64 x32_1), .sl (.int .i64) false x32_2, .av (.bool x32_3)]⟩)]⟩
/-- quiver/quiverref21.GetHybrid -/
noncomputable def quiverref21_GetHybrid.f (bar : Bar) (k : Nat) (a0 : List UInt8) (a1 : Int) (a2 : Int) : Option (List Int × Int) := lvl (E bar) k 39 [.v (.str a0), .v (.int .i64 a1), .v (.int .i64 a2)]
noncomputable def quiverref21_GetHybrid.l0 (bar : Bar) (k : Nat) (n : Nat) (s0 : List UInt8) (width1 : Int) (count2 : Int) (at_9 : Int) (x2008 : List Int) : Option (List Int × Int) := loopAt (E bar) k fi39 sg39 [.r, .r, .r, .l, .r] n ⟨[(8, (.al 2008 0)), (0, (.str s0)), (1, (.int .i64 width1)), (2, (.int .i64 count2)), (9, (.int .i64 at_9))], [(2008, ⟨false, [.sl (.int .i64) false x2008]⟩)]⟩
noncomputable def quiverref21_GetHybrid.j13 (bar : Bar) (k : Nat) (m1 : Nat) (s0 : List UInt8) (width1 : Int) (count2 : Int) (head10 : Int) (to11 : Int) (k_13 : Int) (size14 : Int) (x2008 : List Int) : Option (List Int × Int) := cutAt (E bar) k fi39 sg39 [.r, .r, .r, .l, .r, .lp m1, .r, .b, .r, .r, .r, .r] ⟨[(8, (.al 2008 0)), (0, (.str s0)), (1, (.int .i64 width1)), (2, (.int .i64 count2)), (10, (.int .i64 head10)), (11, (.int .i64 to11)), (13, (.int .i64 k_13)), (14, (.int .i64 size14))], [(2008, ⟨false, [.sl (.int .i64) false x2008]⟩)]⟩
noncomputable def quiverref21_GetHybrid.l2 (bar : Bar) (k : Nat) (m1 : Nat) (n : Nat) (s0 : List UInt8) (width1 : Int) (count2 : Int) (head10 : Int) (to11 : Int) (k_13 : Int) (size14 : Int) (i15 : Int) (x2008 : List Int) : Option (List Int × Int) := loopAt (E bar) k fi39 sg39 [.r, .r, .r, .l, .r, .lp m1, .r, .b, .r, .r, .r, .r, .r, .l, .r] n ⟨[(8, (.al 2008 0)), (0, (.str s0)), (1, (.int .i64 width1)), (2, (.int .i64 count2)), (10, (.int .i64 head10)), (11, (.int .i64 to11)), (13, (.int .i64 k_13)), (14, (.int .i64 size14)), (15, (.int .i64 i15))], [(2008, ⟨false, [.sl (.int .i64) false x2008]⟩)]⟩
noncomputable def quiverref21_GetHybrid.j21 (bar : Bar) (k : Nat) (m1 : Nat) (m2 : Nat) (s0 : List UInt8) (width1 : Int) (count2 : Int) (head10 : Int) (to11 : Int) (k_13 : Int) (size14 : Int) (i15 : Int) (x16 : Int) (x2008 : List Int) : Option (List Int × Int) := cutAt (E bar) k fi39 sg39 [.r, .r, .r, .l, .r, .lp m1, .r, .b, .r, .r, .r, .r, .r, .l, .r, .lp m2, .r, .l, .b, .r, .r] ⟨[(8, (.al 2008 0)), (0, (.str s0)), (1, (.int .i64 width1)), (2, (.int .i64 count2)), (10, (.int .i64 head10)), (11, (.int .i64 to11)), (13, (.int .i64 k_13)), (14, (.int .i64 size14)), (15, (.int .i64 i15)), (16, (.int .i64 x16))], [(2008, ⟨false, [.sl (.int .i64) false x2008]⟩)]⟩
noncomputable def quiverref21_GetHybrid.l4 (bar : Bar) (k : Nat) (m1 : Nat) (m2 : Nat) (n : Nat) (s0 : List UInt8) (width1 : Int) (count2 : Int) (head10 : Int) (to11 : Int) (k_13 : Int) (size14 : Int) (i15 : Int) (x16 : Int) (j17 : Int) (x2008 : List Int) : Option (List Int × Int) := loopAt (E bar) k fi39 sg39 [.r, .r, .r, .l, .r, .lp m1, .r, .b, .r, .r, .r, .r, .r, .l, .r, .lp m2, .r, .l, .b, .r, .r, .l, .r] n ⟨[(8, (.al 2008 0)), (0, (.str s0)), (1, (.int .i64 width1)), (2, (.int .i64 count2)), (10, (.int .i64 head10)), (11, (.int .i64 to11)), (13, (.int .i64 k_13)), (14, (.int .i64 size14)), (15, (.int .i64 i15)), (16, (.int .i64 x16)), (17, (.int .i64 j17))], [(2008, ⟨false, [.sl (.int .i64) false x2008]⟩)]⟩
/-- quiver/quiverlaw0.SameInts -/
noncomputable def quiverlaw0_SameInts.f (bar : Bar) (k : Nat) (a0 : List Int) (a1 : List Int) : Option Bool := lvl (E bar) k 40 [.v (.L (.int .i64) a0), .v (.L (.int .i64) a1)]
noncomputable def quiverlaw0_SameInts.l0 (bar : Bar) (k : Nat) (n : Nat) (a0 : List Int) (b1 : List Int) (i5 : Int) : Option Bool := loopAt (E bar) k fi40 sg40 [.r, .r, .l, .r] n ⟨[(0, (.L (.int .i64) a0)), (1, (.L (.int .i64) b1)), (5, (.int .i64 i5))], []⟩
/-- quiver/quiverlaw0.SpoilInts -/
noncomputable def quiverlaw0_SpoilInts.f (bar : Bar) (k : Nat) (a0 : List Int) : Option Unit := lvl (E bar) k 41 [.o (.sl (.int .i64) false a0)]
noncomputable def quiverlaw0_SpoilInts.l0 (bar : Bar) (k : Nat) (n : Nat) (i2 : Int) (x2000 : List Int) : Option Unit := loopAt (E bar) k fi41 sg41 [.r] n ⟨[(0, (.al 2000 0)), (2, (.int .i64 i2))], [(2000, ⟨false, [.sl (.int .i64) false x2000]⟩)]⟩
/-- quiver/quiverlaw0.KeptInts -/
noncomputable def quiverlaw0_KeptInts.f (bar : Bar) (k : Nat) (a0 : List Int × List Int) (a1 : List Int) : Option Bool := lvl (E bar) k 42 [.v (.rm (.int .i64) a0.1 a0.2), .v (.L (.int .i64) a1)]
/-- quiver/quiverlaw21.awake -/
noncomputable def quiverlaw21_awake.f (bar : Bar) (k : Nat) : Option Bool := lvl (E bar) k 43 []
/-- quiver/quiverlaw0.CopyInts -/
noncomputable def quiverlaw0_CopyInts.f (bar : Bar) (k : Nat) (a0 : List Int) : Option (List Int) := lvl (E bar) k 66 [.v (.L (.int .i64) a0)]
/-- quiver/hybrid.may -/
noncomputable def hybrid_may.f (bar : Bar) (k : Nat) (a0 : List Int) (a1 : Int) : Option Bool := lvl (E bar) k 67 [.v (.L (.int .i64) a0), .v (.int .i64 a1)]
/-- quiver/hybrid.same -/
noncomputable def hybrid_same.f (bar : Bar) (k : Nat) (a0 : List Int) : Option Int := lvl (E bar) k 68 [.v (.L (.int .i64) a0)]
noncomputable def hybrid_same.l0 (bar : Bar) (k : Nat) (n : Nat) (xs0 : List Int) (x6 : Int) (x7 : Int) : Option Int := loopAt (E bar) k fi68 sg68 [.r, .l, .r] n ⟨[(0, (.L (.int .i64) xs0)), (5, (.L (.int .i64) xs0)), (6, (.int .i64 x6)), (7, (.int .i64 x7))], []⟩
/-- quiver/num.PutVar -/
noncomputable def num_PutVar.f (bar : Bar) (k : Nat) (a0 : Int) : Option (List UInt8 × Int) := lvl (E bar) k 69 [.v (.int .i64 a0)]
noncomputable def num_PutVar.l0 (bar : Bar) (k : Nat) (n : Nat) (x0 : Int) (x2004 : List Int) : Option (List UInt8 × Int) := loopAt (E bar) k fi69 sg69 [.r, .r, .r, .l] n ⟨[(4, (.al 2004 0)), (0, (.int .i64 x0))], [(2004, ⟨false, [.sl (.int .u8) false x2004]⟩)]⟩
/-- quiver/num.Word -/
noncomputable def num_Word.f (bar : Bar) (k : Nat) (a0 : Int) (a1 : Int) : Option (List UInt8) := lvl (E bar) k 71 [.v (.int .i64 a0), .v (.int .i64 a1)]
noncomputable def num_Word.l0 (bar : Bar) (k : Nat) (n : Nat) (x0 : Int) (x10 : Int) (x11 : Int) (x2005 : List Int) : Option (List UInt8) := loopAt (E bar) k fi71 sg71 [.r, .r, .l, .r] n ⟨[(5, (.al 2005 0)), (0, (.int .i64 x0)), (10, (.int .i64 x10)), (11, (.int .i64 x11))], [(2005, ⟨false, [.sl (.int .u8) false x2005]⟩)]⟩
/-- quiver/bits.Bytes -/
noncomputable def bits_Bytes.f (bar : Bar) (k : Nat) (a0 : Int) : Option Int := lvl (E bar) k 72 [.v (.int .i64 a0)]
/-- quiver/hybrid.groups -/
noncomputable def hybrid_groups.f (bar : Bar) (k : Nat) (a0 : List Int) : Option Int := lvl (E bar) k 73 [.v (.L (.int .i64) a0)]
noncomputable def hybrid_groups.l0 (bar : Bar) (k : Nat) (n : Nat) (xs0 : List Int) (at_3 : Int) : Option Int := loopAt (E bar) k fi73 sg73 [.r, .l, .r] n ⟨[(0, (.L (.int .i64) xs0)), (3, (.int .i64 at_3))], []⟩
/-- quiver/hybrid.wide -/
noncomputable def hybrid_wide.f (bar : Bar) (k : Nat) (a0 : List Int) (a1 : Int) : Option (List UInt8) := lvl (E bar) k 74 [.v (.L (.int .i64) a0), .v (.int .i64 a1)]
noncomputable def hybrid_wide.l0 (bar : Bar) (k : Nat) (n : Nat) (width1 : Int) (x18 : List Int) (x19 : Int) (x20 : Int) (x2005 : List Bool) : Option (List UInt8) := loopAt (E bar) k fi74 sg74 [.r, .r, .l, .r] n ⟨[(5, (.al 2005 0)), (1, (.int .i64 width1)), (18, (.L (.int .i64) x18)), (19, (.int .i64 x19)), (20, (.int .i64 x20))], [(2005, ⟨false, [.sl .bool false x2005]⟩)]⟩
noncomputable def hybrid_wide.l2 (bar : Bar) (k : Nat) (m1 : Nat) (n : Nat) (width1 : Int) (i6 : Int) (x7 : Int) (x18 : List Int) (x19 : Int) (x26 : Int) (x2005 : List Bool) : Option (List UInt8) := loopAt (E bar) k fi74 sg74 [.r, .r, .l, .r, .lp m1, .r, .r, .l, .b, .r, .r] n ⟨[(5, (.al 2005 0)), (1, (.int .i64 width1)), (6, (.int .i64 i6)), (7, (.int .i64 x7)), (18, (.L (.int .i64) x18)), (19, (.int .i64 x19)), (20, (.int .i64 i6)), (25, (.int .i64 width1)), (26, (.int .i64 x26))], [(2005, ⟨false, [.sl .bool false x2005]⟩)]⟩
/-- quiver/quiverref1.BitBytes -/
noncomputable def quiverref1_BitBytes.f (bar : Bar) (k : Nat) (a0 : Int) : Option Int := lvl (E bar) k 50 [.v (.int .i64 a0)]
/-- quiver/quiverref1.Low -/
noncomputable def quiverref1_Low.f (bar : Bar) (k : Nat) (a0 : Int) (a1 : Int) : Option (List UInt8) := lvl (E bar) k 59 [.v (.int .i64 a0), .v (.int .i64 a1)]
noncomputable def quiverref1_Low.l0 (bar : Bar) (k : Nat) (n : Nat) (x0 : Int) (size1 : Int) (i6 : Int) (x2005 : List Int) : Option (List UInt8) := loopAt (E bar) k fi59 sg59 [.r, .r, .l, .r] n ⟨[(5, (.al 2005 0)), (0, (.int .i64 x0)), (1, (.int .i64 size1)), (6, (.int .i64 i6))], [(2005, ⟨false, [.sl (.int .u8) false x2005]⟩)]⟩
/-- quiver/quiverref21.run -/
noncomputable def quiverref21_run.f (bar : Bar) (k : Nat) (a0 : List Int) (a1 : Int) : Option Int := lvl (E bar) k 76 [.v (.L (.int .i64) a0), .v (.int .i64 a1)]
noncomputable def quiverref21_run.l0 (bar : Bar) (k : Nat) (n : Nat) (xs0 : List Int) (at_1 : Int) (k_5 : Int) : Option Int := loopAt (E bar) k fi76 sg76 [.r, .r, .l] n ⟨[(0, (.L (.int .i64) xs0)), (1, (.int .i64 at_1)), (5, (.int .i64 k_5))], []⟩
/-- quiver/quiverref1.PutVar -/
noncomputable def quiverref1_PutVar.f (bar : Bar) (k : Nat) (a0 : Int) : Option (List UInt8 × Int) := lvl (E bar) k 77 [.v (.int .i64 a0)]
noncomputable def quiverref1_PutVar.l0 (bar : Bar) (k : Nat) (n : Nat) (x0 : Int) (x2004 : List Int) : Option (List UInt8 × Int) := loopAt (E bar) k fi77 sg77 [.r, .r, .r, .l] n ⟨[(4, (.al 2004 0)), (0, (.int .i64 x0))], [(2004, ⟨false, [.sl (.int .u8) false x2004]⟩)]⟩
/-- quiver/quiverref21.pack -/
noncomputable def quiverref21_pack.f (bar : Bar) (k : Nat) (a0 : List Int) (a1 : Int) : Option (List UInt8) := lvl (E bar) k 78 [.v (.L (.int .i64) a0), .v (.int .i64 a1)]
noncomputable def quiverref21_pack.l0 (bar : Bar) (k : Nat) (n : Nat) (xs0 : List Int) (width1 : Int) (i6 : Int) (x2005 : List Bool) : Option (List UInt8) := loopAt (E bar) k fi78 sg78 [.r, .r, .l, .r] n ⟨[(5, (.al 2005 0)), (0, (.L (.int .i64) xs0)), (1, (.int .i64 width1)), (6, (.int .i64 i6))], [(2005, ⟨false, [.sl .bool false x2005]⟩)]⟩
noncomputable def quiverref21_pack.l2 (bar : Bar) (k : Nat) (m1 : Nat) (n : Nat) (xs0 : List Int) (width1 : Int) (i6 : Int) (j7 : Int) (x2005 : List Bool) : Option (List UInt8) := loopAt (E bar) k fi78 sg78 [.r, .r, .l, .r, .lp m1, .r, .l, .b, .r] n ⟨[(5, (.al 2005 0)), (0, (.L (.int .i64) xs0)), (1, (.int .i64 width1)), (6, (.int .i64 i6)), (7, (.int .i64 j7))], [(2005, ⟨false, [.sl .bool false x2005]⟩)]⟩
/-- quiver/num.GetVar -/
noncomputable def num_GetVar.f (bar : Bar) (k : Nat) (a0 : List UInt8) (a1 : Int) : Option (Int × Int × Int) := lvl (E bar) k 79 [.v (.str a0), .v (.int .i64 a1)]
noncomputable def num_GetVar.l0 (bar : Bar) (k : Nat) (n : Nat) (s0 : List UInt8) (at_1 : Int) (x7 : Int) (i8 : Int) : Option (Int × Int × Int) := loopAt (E bar) k fi79 sg79 [.r, .r, .r, .l, .r] n ⟨[(0, (.str s0)), (1, (.int .i64 at_1)), (7, (.int .i64 x7)), (8, (.int .i64 i8))], []⟩
/-- (*quiver/hybrid.taker).run -/
noncomputable def hybrid_taker_run.f (bar : Bar) (k : Nat) (a0_0 : List UInt8) (a0_1 : Int) (a0_2 : List Int) (a0_3 : Bool) (a1 : Int) (a2 : Int) : Option ((List UInt8 × Int × List Int × Bool)) := lvl (E bar) k 80 [.b [.av (.str a0_0), .av (.int .i64 a0_1), .sl (.int .i64) false a0_2, .av (.bool a0_3)], .v (.int .i64 a1), .v (.int .i64 a2)]
/-- (*quiver/hybrid.taker).groups -/
noncomputable def hybrid_taker_groups.f (bar : Bar) (k : Nat) (a0_0 : List UInt8) (a0_1 : Int) (a0_2 : List Int) (a0_3 : Bool) (a1 : Int) (a2 : Int) : Option ((List UInt8 × Int × List Int × Bool)) := lvl (E bar) k 81 [.b [.av (.str a0_0), .av (.int .i64 a0_1), .sl (.int .i64) false a0_2, .av (.bool a0_3)], .v (.int .i64 a1), .v (.int .i64 a2)]
noncomputable def hybrid_taker_groups.l0 (bar : Bar) (k : Nat) (n : Nat) (s6 : List UInt8) (x30 : Int) (x31 : Int) (x1000 : List UInt8) (x1000_1 : Int) (x1000_2 : List Int) (x1000_3 : Bool) : Option ((List UInt8 × Int × List Int × Bool)) := loopAt (E bar) k fi81 sg81 [.r, .r, .r] n ⟨[(0, (.ref 1000 0)), (6, (.str s6)), (30, (.int .i64 x30)), (31, (.int .i64 x31))], [(1000, ⟨true, [.av (.str x1000), .av (.int .i64 x1000_1), .sl (.int .i64) false x1000_2, .av (.bool x1000_3)]⟩)]⟩
noncomputable def hybrid_taker_groups.l2 (bar : Bar) (k : Nat) (m1 : Nat) (n : Nat) (s6 : List UInt8) (i7 : Int) (x8 : Int) (x30 : Int) (x37 : Int) (x38 : Int) (x1000 : List UInt8) (x1000_1 : List Int) (x1000_2 : Bool) : Option ((List UInt8 × Int × List Int × Bool)) := loopAt (E bar) k fi81 sg81 [.r, .r, .r, .lp m1, .r, .r, .l, .b, .r, .r, .l, .r] n ⟨[(0, (.ref 1000 0)), (6, (.str s6)), (7, (.int .i64 i7)), (8, (.int .i64 x8)), (30, (.int .i64 x30)), (31, (.int .i64 i7)), (37, (.int .i64 x37)), (38, (.int .i64 x38))], [(1000, ⟨true, [.av (.str x1000), .av (.int .i64 x37), .sl (.int .i64) false x1000_1, .av (.bool x1000_2)]⟩)]⟩
/-- quiver/quiverref1.GetVar -/
noncomputable def quiverref1_GetVar.f (bar : Bar) (k : Nat) (a0 : List UInt8) (a1 : Int) : Option (Int × Int × Int) := lvl (E bar) k 82 [.v (.str a0), .v (.int .i64 a1)]
noncomputable def quiverref1_GetVar.l0 (bar : Bar) (k : Nat) (n : Nat) (s0 : List UInt8) (at_1 : Int) (x7 : Int) (i8 : Int) : Option (Int × Int × Int) := loopAt (E bar) k fi82 sg82 [.r, .r, .l, .r] n ⟨[(0, (.str s0)), (1, (.int .i64 at_1)), (7, (.int .i64 x7)), (8, (.int .i64 i8))], []⟩
/-- quiver/quiverref1.Num -/
noncomputable def quiverref1_Num.f (bar : Bar) (k : Nat) (a0 : List UInt8) : Option Int := lvl (E bar) k 83 [.v (.str a0)]
noncomputable def quiverref1_Num.l0 (bar : Bar) (k : Nat) (n : Nat) (s0 : List UInt8) (x3 : Int) (i4 : Int) : Option Int := loopAt (E bar) k fi83 sg83 [.r, .r, .l, .r] n ⟨[(0, (.str s0)), (3, (.int .u64 x3)), (4, (.int .i64 i4))], []⟩
/-- quiver/quiverref1.Bit -/
noncomputable def quiverref1_Bit.f (bar : Bar) (k : Nat) (a0 : List UInt8) (a1 : Int) : Option Bool := lvl (E bar) k 84 [.v (.str a0), .v (.int .i64 a1)]
/-- slices.ContainsFunc[[]int,int] -/
noncomputable def slices_ContainsFunc_int_int_hybrid_may_1.f (bar : Bar) (k : Nat) (a0 : List Int) (a1_0 : Int) : Option Bool := lvl (E bar) k 112 [.v (.L (.int .i64) a0), .v (.fn 111 [(.vp [(.int .i64 a1_0)])])]
/-- quiver/pad.May -/
noncomputable def pad_May.f (bar : Bar) (k : Nat) (a0 : Int) : Option Bool := lvl (E bar) k 113 [.v (.int .i64 a0)]
/-- quiver/bits.Of -/
noncomputable def bits_Of.f (bar : Bar) (k : Nat) (a0 : List Bool) : Option (List UInt8) := lvl (E bar) k 115 [.v (.L .bool a0)]
noncomputable def bits_Of.l0 (bar : Bar) (k : Nat) (n : Nat) (x10 : List Bool) (x11 : Int) (x12 : Int) (x2003 : List Int) : Option (List UInt8) := loopAt (E bar) k fi115 sg115 [.r, .r, .l, .r] n ⟨[(3, (.al 2003 0)), (10, (.L .bool x10)), (11, (.int .i64 x11)), (12, (.int .i64 x12))], [(2003, ⟨false, [.sl (.int .u8) false x2003]⟩)]⟩
/-- quiver/quiverref1.in -/
noncomputable def quiverref1_in.f (bar : Bar) (k : Nat) (a0 : Int) : Option Bool := lvl (E bar) k 97 [.v (.int .i64 a0)]
/-- quiver/quiverref1.BitsOf -/
noncomputable def quiverref1_BitsOf.f (bar : Bar) (k : Nat) (a0 : List Bool) : Option (List UInt8) := lvl (E bar) k 103 [.v (.L .bool a0)]
noncomputable def quiverref1_BitsOf.l0 (bar : Bar) (k : Nat) (n : Nat) (xs0 : List Bool) (i4 : Int) (x2003 : List Int) : Option (List UInt8) := loopAt (E bar) k fi103 sg103 [.r, .r, .l, .r] n ⟨[(3, (.al 2003 0)), (0, (.L .bool xs0)), (4, (.int .i64 i4))], [(2003, ⟨false, [.sl (.int .u8) false x2003]⟩)]⟩
/-- quiver/num.Of -/
noncomputable def num_Of.f (bar : Bar) (k : Nat) (a0 : List UInt8) : Option Int := lvl (E bar) k 116 [.v (.str a0)]
noncomputable def num_Of.l0 (bar : Bar) (k : Nat) (n : Nat) (s0 : List UInt8) (out3 : Int) (x6 : Int) (x7 : Int) : Option Int := loopAt (E bar) k fi116 sg116 [.r, .r, .l, .r] n ⟨[(0, (.str s0)), (3, (.int .u64 out3)), (6, (.int .i64 x6)), (7, (.int .i64 x7))], []⟩
/-- (*quiver/hybrid.taker).bytes -/
noncomputable def hybrid_taker_bytes.f (bar : Bar) (k : Nat) (a0_0 : List UInt8) (a0_1 : Int) (a0_2 : List Int) (a0_3 : Bool) (a1 : Int) : Option (List UInt8 × ((List UInt8 × Int × List Int × Bool))) := lvl (E bar) k 117 [.b [.av (.str a0_0), .av (.int .i64 a0_1), .sl (.int .i64) false a0_2, .av (.bool a0_3)], .v (.int .i64 a1)]
/-- slices.Repeat[[]int,int] -/
noncomputable def slices_Repeat_int_int.f (bar : Bar) (k : Nat) (a0 : List Int) (a1 : Int) : Option (List Int) := lvl (E bar) k 118 [.v (.L (.int .i64) a0), .v (.int .i64 a1)]
noncomputable def slices_Repeat_int_int.j3 (bar : Bar) (k : Nat) (x0 : List Int) (count1 : Int) : Option (List Int) := cutAt (E bar) k fi118 sg118 [.r, .r] ⟨[(0, (.L (.int .i64) x0)), (1, (.int .i64 count1))], []⟩
noncomputable def slices_Repeat_int_int.j6 (bar : Bar) (k : Nat) (x0 : List Int) (lo6 : Int) : Option (List Int) := cutAt (E bar) k fi118 sg118 [.r, .r, .r, .r] ⟨[(0, (.L (.int .i64) x0)), (6, (.int .u64 lo6))], []⟩
noncomputable def slices_Repeat_int_int.l0 (bar : Bar) (k : Nat) (n : Nat) (n_8 : Int) (x2007 : List Int) : Option (List Int) := loopAt (E bar) k fi118 sg118 [.r, .r, .r, .r, .r, .r, .l] n ⟨[(7, (.al 2007 0)), (8, (.int .i64 n_8))], [(2007, ⟨false, [.sl (.int .i64) false x2007]⟩)]⟩
/-- quiver/bits.On -/
noncomputable def bits_On.f (bar : Bar) (k : Nat) (a0 : List UInt8) (a1 : Int) : Option Bool := lvl (E bar) k 119 [.v (.str a0), .v (.int .i64 a1)]
/-- slices.IndexFunc[[]int,int] -/
noncomputable def slices_IndexFunc_int_int_hybrid_may_1.f (bar : Bar) (k : Nat) (a0 : List Int) (a1_0 : Int) : Option Int := lvl (E bar) k 132 [.v (.L (.int .i64) a0), .v (.fn 111 [(.vp [(.int .i64 a1_0)])])]
noncomputable def slices_IndexFunc_int_int_hybrid_may_1.l0 (bar : Bar) (k : Nat) (n : Nat) (s0 : List Int) (f1 : Int) (x7 : Int) (x8 : Int) : Option Int := loopAt (E bar) k fi132 sg132 [.r, .l, .r] n ⟨[(0, (.L (.int .i64) s0)), (1, (.fn 111 [(.vp [(.int .i64 f1)])])), (7, (.int .i64 x7)), (8, (.int .i64 x8))], []⟩
/-- quiver/quiverref1.upTo -/
noncomputable def quiverref1_upTo.f (bar : Bar) (k : Nat) (a0 : Int) (a1 : Int) (a2 : Int) : Option Bool := lvl (E bar) k 126 [.v (.int .i64 a0), .v (.int .i64 a1), .v (.int .i64 a2)]
/-- math/bits.Mul -/
noncomputable def math_bits_Mul.f (bar : Bar) (k : Nat) (a0 : Int) (a1 : Int) : Option (Int × Int) := lvl (E bar) k 134 [.v (.int .u64 a0), .v (.int .u64 a1)]
/-- quiver/hybrid.may$1 -/
noncomputable def hybrid_may_1.f (bar : Bar) (k : Nat) (a0 : Int) (a1 : Int) : Option Bool := lvl (E bar) k 111 [.v (.int .i64 a0), .v (.vp [(.int .i64 a1)])]
/-- math/bits.Mul64 -/
noncomputable def math_bits_Mul64.f (bar : Bar) (k : Nat) (a0 : Int) (a1 : Int) : Option (Int × Int) := lvl (E bar) k 136 [.v (.int .u64 a0), .v (.int .u64 a1)]

end Go.Proofs.YtppmpfddcohkjaaA
