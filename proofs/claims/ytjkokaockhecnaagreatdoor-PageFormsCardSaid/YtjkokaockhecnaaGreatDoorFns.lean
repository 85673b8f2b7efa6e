/- The functions and loops of the program, as the machine answers them, under names of their own: definitions alone. -/
import Derived.Test.YtjkokaockhecnaaGreatDoorEnv
namespace Go.Proofs.YtjkokaockhecnaaGreatDoorA
open Go
noncomputable section
set_option linter.unusedVariables false
def ag.f (bar:aX)(k:Nat)(a0:Int)(a1:Int):Option Bool:=ej (E bar) k 6 [.v (.int .i64 a0),.v (.int .i64 a1)]
def ag.j38 (bar:aX)(k:Nat)(leaf9:Int)(t6:List aM)(c7:List Int)(c7_1:List Int)(c7_2:List (List UInt8))(g8:List Int)(g8_1:List Int)(g8_2:List (List UInt8)):Option Bool:=Bf (E bar) k Cb CY [.r,.r,.r,.r,.r,.r,.r,.r] ⟨[(6,(.ref 6 0)),(7,(.ref 7 0)),(8,(.ref 8 0)),(9,(.int .i64 leaf9))],[(6,⟨true,[.sl .node false t6]⟩),(7,⟨true,[.av (.L (.int .i64) c7),.av (.L (.int .i64) c7_1),.sl .str false c7_2]⟩),(8,⟨true,[.sl (.int .i64) false g8,.sl (.int .i64) false g8_1,.sl .str false g8_2]⟩)]⟩
def cB.f (bar:aX)(k:Nat)(a0:Int):Option Int:=ej (E bar) k 20 [.v (.int .i64 a0)]
def bb.f (bar:aX)(k:Nat)(a0:Col):Option ((List Int×List Int×List (List UInt8))):=ej (E bar) k 21 [.v (.agg [(.L (.int .i64) a0.reps),(.L (.int .i64) a0.defs),(.L .str a0.values)])]
def aJ.f (bar:aX)(k:Nat)(a0:List aM)(a1:Int)(a2:Col):Option (List UInt8×Int):=ej (E bar) k 22 [.v (.agg [(.L .node a0)]),.v (.int .i64 a1),.v (.agg [(.L (.int .i64) a2.reps),(.L (.int .i64) a2.defs),(.L .str a2.values)])]
def aJ.l0 (bar:aX)(k:Nat)(n:Nat)(reps11:List UInt8)(defs12:List UInt8)(x46:Int)(x47:Int)(c5:List Int)(c5_1:List Int)(c5_2:List (List UInt8))(body13:List Int)(x2045:List Int):Option (List UInt8×Int):=b9 (E bar) k xN zK [.r,.r,.r,.r,.r,.l,.r] n ⟨[(45,(.al 2045 0)),(5,(.ref 5 0)),(11,(.str reps11)),(12,(.str defs12)),(13,(.refT 13 91)),(46,(.int .i64 x46)),(47,(.int .i64 x47))],[(5,⟨true,[.av (.L (.int .i64) c5),.av (.L (.int .i64) c5_1),.av (.L .str c5_2)]⟩),(13,⟨true,[.av (.bad 13),.sl (.int .u8) false body13]⟩),(2045,⟨false,[.sl (.int .i64) false x2045]⟩)]⟩
def aJ.l2 (bar:aX)(k:Nat)(n:Nat)(x60:List (List UInt8))(x61:Int)(x62:Int)(body13:List Int):Option (List UInt8×Int):=b9 (E bar) k xN zK [.r,.r,.r,.r,.r,.r,.r,.l,.r] n ⟨[(13,(.refT 13 91)),(60,(.L .str x60)),(61,(.int .i64 x61)),(62,(.int .i64 x62))],[(13,⟨true,[.av (.bad 13),.sl (.int .u8) false body13]⟩)]⟩
def d3.f (bar:aX)(k:Nat):Option Bool:=ej (E bar) k 28 []
def ca.f (bar:aX)(k:Nat)(a0:List aM)(a1:Int)(a2:Col):Option Bool:=ej (E bar) k 52 [.v (.agg [(.L .node a0)]),.v (.int .i64 a1),.v (.agg [(.L (.int .i64) a2.reps),(.L (.int .i64) a2.defs),(.L .str a2.values)])]
def ca.l0 (bar:aX)(k:Nat)(n:Nat)(leaf1:Int)(def_8:Int)(x53:List (List UInt8))(x54:Int)(x55:Int)(t3:List aM)(c5:List Int)(c5_1:List Int):Option Bool:=b9 (E bar) k zU AX [.r,.r,.r,.l,.r] n ⟨[(1,(.int .i64 leaf1)),(3,(.ref 3 0)),(5,(.ref 5 0)),(8,(.int .i64 def_8)),(53,(.L .str x53)),(54,(.int .i64 x54)),(55,(.int .i64 x55))],[(3,⟨true,[.av (.L .node t3)]⟩),(5,⟨true,[.av (.L (.int .i64) c5),.av (.L (.int .i64) c5_1),.av (.L .str x53)]⟩)]⟩
def aE.f (bar:aX)(k:Nat)(a0:List aM)(a1:Int):Option (Int×Int×Int):=ej (E bar) k 53 [.v (.agg [(.L .node a0)]),.v (.int .i64 a1)]
def aE.l0 (bar:aX)(k:Nat)(n:Nat)(rep7:Int)(def_8:Int)(x17:Int)(x18:Int)(t2:List aM)(x2016:List Int):Option (Int×Int×Int):=b9 (E bar) k zN AD [.r,.r,.r,.l,.r] n ⟨[(16,(.al 2016 0)),(2,(.ref 2 0)),(7,(.int .i64 rep7)),(8,(.int .i64 def_8)),(17,(.int .i64 x17)),(18,(.int .i64 x18))],[(2,⟨true,[.av (.L .node t2)]⟩),(2016,⟨false,[.sl (.int .i64) false x2016]⟩)]⟩
def dM.f (bar:aX)(k:Nat)(a0:List Int)(a1:Int):Option (List UInt8):=ej (E bar) k 54 [.v (.L (.int .i64) a0),.v (.int .i64 a1)]
def bW.f (bar:aX)(k:Nat)(a0:Int)(a1:Int):Option (List UInt8):=ej (E bar) k 56 [.v (.int .i64 a0),.v (.int .i64 a1)]
def ew.f (bar:aX)(k:Nat)(a0:List UInt8):Option (List UInt8):=ej (E bar) k 57 [.v (.str a0)]
def bG.f (bar:aX)(k:Nat)(a0:List UInt8):Option Int:=ej (E bar) k 58 [.v (.str a0)]
def bG.l0 (bar:aX)(k:Nat)(n:Nat)(s0:List UInt8)(sum3:Int)(x7:Int)(x8:Int):Option Int:=b9 (E bar) k yM zP [.r,.r,.l,.r] n ⟨[(0,(.str s0)),(3,(.int .u32 sum3)),(7,(.int .i64 x7)),(8,(.int .i64 x8))],[]⟩
def bG.l2 (bar:aX)(k:Nat)(m1:Nat)(n:Nat)(s0:List UInt8)(sum3:Int)(x7:Int)(x8:Int)(x17:Int):Option Int:=b9 (E bar) k yM zP [.r,.r,.l,.r,.lp m1,.r,.r,.l,.b,.r,.r,.r] n ⟨[(0,(.str s0)),(3,(.int .u32 sum3)),(7,(.int .i64 x7)),(8,(.int .i64 x8)),(17,(.int .i64 x17))],[]⟩
def fy.f (bar:aX)(k:Nat)(a0:List aM)(a1:Int):Option Bool:=ej (E bar) k 64 [.v (.agg [(.L .node a0)]),.v (.int .i64 a1)]
def bg.f (bar:aX)(k:Nat)(a0:List Int)(a1:Int):Option Int:=ej (E bar) k 70 [.v (.L (.int .i64) a0),.v (.int .i64 a1)]
def bg.l0 (bar:aX)(k:Nat)(n:Nat)(one1:Int)(out5:Int)(x8:List Int)(x9:Int)(x10:Int):Option Int:=b9 (E bar) k zE Bq [.r,.r,.l,.r] n ⟨[(1,(.int .i64 one1)),(5,(.int .i64 out5)),(8,(.L (.int .i64) x8)),(9,(.int .i64 x9)),(10,(.int .i64 x10))],[]⟩
def a8.f (bar:aX)(k:Nat)(a0:List Int)(a1:Int):Option Bool:=ej (E bar) k 97 [.v (.L (.int .i64) a0),.v (.int .i64 a1)]
def a8.l0 (bar:aX)(k:Nat)(n:Nat)(most1:Int)(x7:List Int)(x8:Int)(x9:Int):Option Bool:=b9 (E bar) k zY AG [.r,.l,.r] n ⟨[(1,(.int .i64 most1)),(7,(.L (.int .i64) x7)),(8,(.int .i64 x8)),(9,(.int .i64 x9))],[]⟩
def iv.f (bar:aX)(k:Nat):Option (List UInt8):=ej (E bar) k 98 []
def bC.f (bar:aX)(k:Nat)(a0:List aM)(a1:Int)(a2:List UInt8):Option Bool:=ej (E bar) k 99 [.v (.agg [(.L .node a0)]),.v (.int .i64 a1),.v (.str a2)]
def bC.l1 (bar:aX)(k:Nat)(n:Nat)(x70:List (List UInt8))(kind7:Int)(x71:Int)(x72:Int)(t3:List aM)(x2011:List Int):Option Bool:=b9 (E bar) k Ag Bo [.r,.r,.r,.r,.r,.r,.r,.r,.l,.r] n ⟨[(70,(.L .str x70)),(11,(.al 2011 0)),(8,(.L .str x70)),(7,(.int .i64 kind7)),(13,(.fn 142 [(.ref 3 0)])),(71,(.int .i64 x71)),(72,(.int .i64 x72))],[(3,⟨true,[.av (.L .node t3)]⟩),(2011,⟨false,[.sl (.int .i64) false x2011]⟩)]⟩
def c8.f (bar:aX)(k:Nat)(a0:List aM)(a1:Int):Option Bool:=ej (E bar) k 100 [.v (.agg [(.L .node a0)]),.v (.int .i64 a1)]
def bj.f (bar:aX)(k:Nat)(a0:List aM)(a1:Int):Option (List Int):=ej (E bar) k 101 [.v (.vp [(.L .node a0)]),.v (.int .i64 a1)]
def bj.l0 (bar:aX)(k:Nat)(n:Nat)(t0:List aM)(at_1:Int)(x2005:List Int):Option (List Int):=b9 (E bar) k wY zp [.r,.r,.l] n ⟨[(5,(.al 2005 0)),(0,(.vp [(.L .node t0)])),(1,(.int .i64 at_1))],[(2005,⟨false,[.sl (.int .i64) false x2005]⟩)]⟩
def gd.f (bar:aX)(k:Nat)(a0:Int):Option Int:=ej (E bar) k 69 [.v (.int .u64 a0)]
def aW.f (bar:aX)(k:Nat)(a0:List Int)(a1:Int):Option (List UInt8×Int):=ej (E bar) k 102 [.v (.L (.int .i64) a0),.v (.int .i64 a1)]
def aW.l0 (bar:aX)(k:Nat)(n:Nat)(xs0:List Int)(width1:Int)(out6:List Int):Option (List UInt8×Int):=b9 (E bar) k vw zv [.r,.r,.r,.l] n ⟨[(0,(.L (.int .i64) xs0)),(1,(.int .i64 width1)),(6,(.refT 6 91))],[(6,⟨true,[.av (.bad 6),.sl (.int .u8) false out6]⟩)]⟩
def bR.f (bar:aX)(k:Nat)(a0:List UInt8):Option (Int×List (List UInt8)×Int):=ej (E bar) k 104 [.v (.str a0)]
def cd.f (bar:aX)(k:Nat)(a0:List UInt8):Option (Int×Bool):=ej (E bar) k 105 [.v (.str a0)]
def dG.f (bar:aX)(k:Nat)(a0:Int):Option Bool:=ej (E bar) k 111 [.v (.int .i64 a0)]
def fw.f (bar:aX)(k:Nat)(a0:List aM)(a1:Int):Option (List Int×Int):=ej (E bar) k 141 [.v (.agg [(.L .node a0)]),.v (.int .i64 a1)]
def pY.f (bar:aX)(k:Nat)(a0:Int)(a1:List UInt8)(a2:List aM):Option Bool:=ej (E bar) k 142 [.v (.int .i64 a0),.v (.str a1),.v (.vp [(.L .node a2)])]
def dP.f (bar:aX)(k:Nat)(a0:List Int)(a1:List (List UInt8))(a2_0:List aM):Option Bool:=ej (E bar) k 143 [.v (.L (.int .i64) a0),.v (.L .str a1),.v (.fn 142 [(.vp [(.L .node a2_0)])])]
def aI.f (bar:aX)(k:Nat)(a0:List aM):Option Bool:=ej (E bar) k 144 [.v (.agg [(.L .node a0)])]
def aI.l0 (bar:aX)(k:Nat)(n:Nat)(x19:List aM)(x20:Int)(x21:Int):Option Bool:=b9 (E bar) k tO wW [.r,.r,.l,.r] n ⟨[(1,(.ref 1 0)),(19,(.L .node x19)),(20,(.int .i64 x20)),(21,(.int .i64 x21))],[(1,⟨true,[.av (.L .node x19)]⟩)]⟩
def aI.l2 (bar:aX)(k:Nat)(n:Nat)(x41:List aM)(x42:Int)(x43:Int):Option Bool:=b9 (E bar) k tO wW [.r,.r,.r,.l,.r] n ⟨[(1,(.ref 1 0)),(41,(.L .node x41)),(42,(.int .i64 x42)),(43,(.int .i64 x43))],[(1,⟨true,[.av (.L .node x41)]⟩)]⟩
def dx.f (bar:aX)(k:Nat)(a0:List Int)(a1:Int):Option Bool:=ej (E bar) k 145 [.v (.L (.int .i64) a0),.v (.int .i64 a1)]
def aS.f (bar:aX)(k:Nat)(a0:List Int):Option Int:=ej (E bar) k 146 [.v (.L (.int .i64) a0)]
def aS.l0 (bar:aX)(k:Nat)(n:Nat)(xs0:List Int)(x6:Int)(x7:Int):Option Int:=b9 (E bar) k xw zD [.r,.l,.r] n ⟨[(0,(.L (.int .i64) xs0)),(5,(.L (.int .i64) xs0)),(6,(.int .i64 x6)),(7,(.int .i64 x7))],[]⟩
def bq.f (bar:aX)(k:Nat)(a0:Int):Option (List UInt8×Int):=ej (E bar) k 147 [.v (.int .i64 a0)]
def bq.l0 (bar:aX)(k:Nat)(n:Nat)(x0:Int)(x2004:List Int):Option (List UInt8×Int):=b9 (E bar) k xt zo [.r,.r,.r,.l] n ⟨[(4,(.al 2004 0)),(0,(.int .i64 x0))],[(2004,⟨false,[.sl (.int .u8) false x2004]⟩)]⟩
def dy.f (bar:aX)(k:Nat)(a0:Int):Option Int:=ej (E bar) k 148 [.v (.int .i64 a0)]
def aR.f (bar:aX)(k:Nat)(a0:List Int):Option Int:=ej (E bar) k 149 [.v (.L (.int .i64) a0)]
def aR.l0 (bar:aX)(k:Nat)(n:Nat)(xs0:List Int)(at_3:Int):Option Int:=b9 (E bar) k vt y1 [.r,.l,.r] n ⟨[(0,(.L (.int .i64) xs0)),(3,(.int .i64 at_3))],[]⟩
def aB.f (bar:aX)(k:Nat)(a0:List Int)(a1:Int):Option (List UInt8):=ej (E bar) k 150 [.v (.L (.int .i64) a0),.v (.int .i64 a1)]
def aB.l0 (bar:aX)(k:Nat)(n:Nat)(width1:Int)(x18:List Int)(x19:Int)(x20:Int)(x2005:List Bool):Option (List UInt8):=b9 (E bar) k tQ wM [.r,.r,.l,.r] n ⟨[(5,(.al 2005 0)),(1,(.int .i64 width1)),(18,(.L (.int .i64) x18)),(19,(.int .i64 x19)),(20,(.int .i64 x20))],[(2005,⟨false,[.sl .bool false x2005]⟩)]⟩
def aB.l2 (bar:aX)(k:Nat)(m1:Nat)(n:Nat)(width1:Int)(i6:Int)(x7:Int)(x18:List Int)(x19:Int)(x26:Int)(x2005:List Bool):Option (List UInt8):=b9 (E bar) k tQ wM [.r,.r,.l,.r,.lp m1,.r,.r,.l,.b,.r,.r] n ⟨[(5,(.al 2005 0)),(1,(.int .i64 width1)),(6,(.int .i64 i6)),(7,(.int .i64 x7)),(18,(.L (.int .i64) x18)),(19,(.int .i64 x19)),(20,(.int .i64 i6)),(25,(.int .i64 width1)),(26,(.int .i64 x26))],[(2005,⟨false,[.sl .bool false x2005]⟩)]⟩
def aC.f (bar:aX)(k:Nat)(a0_0:List UInt8)(a0_1:Bool)(a1:Int):Option ((Int×List (List UInt8))×((List UInt8×Bool))):=ej (E bar) k 152 [.b [.av (.str a0_0),.av (.bool a0_1)],.v (.int .i64 a1)]
def a7.f (bar:aX)(k:Nat)(a0:List aM)(a1:Int):Option (List Int):=ej (E bar) k 172 [.v (.vp [(.L .node a0)]),.v (.int .i64 a1)]
def a7.l0 (bar:aX)(k:Nat)(n:Nat)(at_1:Int)(x11:List aM)(x12:Int)(x13:Int)(x2005:List Int):Option (List Int):=b9 (E bar) k wt zB [.r,.r,.l,.r] n ⟨[(5,(.al 2005 0)),(1,(.int .i64 at_1)),(11,(.L .node x11)),(12,(.int .i64 x12)),(13,(.int .i64 x13))],[(2005,⟨false,[.sl (.int .i64) false x2005]⟩)]⟩
def ef.f (bar:aX)(k:Nat)(a0:List aM)(a1:Int):Option Bool:=ej (E bar) k 173 [.v (.vp [(.L .node a0)]),.v (.int .i64 a1)]
def aF.f (bar:aX)(k:Nat)(a0:List Int)(a1_0:Int):Option Bool:=ej (E bar) k 175 [.v (.L (.int .i64) a0),.v (.fn 174 [(.vp [(.int .i64 a1_0)])])]
def lk.f (bar:aX)(k:Nat)(a0:Int):Option Bool:=ej (E bar) k 155 [.v (.int .i64 a0)]
def cY.f (bar:aX)(k:Nat)(a0:List Bool):Option (List UInt8):=ej (E bar) k 176 [.v (.L .bool a0)]
def cY.l0 (bar:aX)(k:Nat)(n:Nat)(x10:List Bool)(x11:Int)(x12:Int)(x2003:List Int):Option (List UInt8):=b9 (E bar) k xl yZ [.r,.r,.l,.r] n ⟨[(3,(.al 2003 0)),(10,(.L .bool x10)),(11,(.int .i64 x11)),(12,(.int .i64 x12))],[(2003,⟨false,[.sl (.int .u8) false x2003]⟩)]⟩
def aL.f (bar:aX)(k:Nat)(a0_0:List UInt8)(a0_1:Bool):Option ((Int×List (List UInt8))×((List UInt8×Bool))):=ej (E bar) k 177 [.b [.av (.str a0_0),.av (.bool a0_1)]]
def aZ.f (bar:aX)(k:Nat)(a0_0:List UInt8)(a0_1:Bool):Option (Int×((List UInt8×Bool))):=ej (E bar) k 178 [.b [.av (.str a0_0),.av (.bool a0_1)]]
def aD.f (bar:aX)(k:Nat)(a0_0:List UInt8)(a0_1:Bool)(a1:List UInt8):Option ((Int×List UInt8)×((List UInt8×Bool))):=ej (E bar) k 179 [.b [.av (.str a0_0),.av (.bool a0_1)],.v (.str a1)]
def bp.f (bar:aX)(k:Nat)(a0_0:List UInt8)(a0_1:Bool)(a1:Int):Option (List UInt8×((List UInt8×Bool))):=ej (E bar) k 180 [.b [.av (.str a0_0),.av (.bool a0_1)],.v (.int .i64 a1)]
def am.f (bar:aX)(k:Nat)(a0_0:List UInt8)(a0_1:Bool)(a1:Int)(a2:Int):Option (List (List UInt8)×((List UInt8×Bool))):=ej (E bar) k 181 [.b [.av (.str a0_0),.av (.bool a0_1)],.v (.int .u8 a1),.v (.int .i64 a2)]
def am.l0 (bar:aX)(k:Nat)(n:Nat)(end_1:Int)(within2:Int)(x1000:List UInt8)(x1000_1:Bool)(x2007:List (List UInt8)):Option (List (List UInt8)×((List UInt8×Bool))):=b9 (E bar) k vW zw [.r,.r,.l] n ⟨[(7,(.al 2007 0)),(0,(.ref 1000 0)),(1,(.int .u8 end_1)),(2,(.int .i64 within2))],[(1000,⟨true,[.av (.str x1000),.av (.bool x1000_1)]⟩),(2007,⟨false,[.sl .str false x2007]⟩)]⟩
def strconv_Itoa.f (bar:aX)(k:Nat)(a0:Int):Option (List UInt8):=ej (E bar) k 159 [.v (.int .i64 a0)]
def ae.f (bar:aX)(k:Nat)(a0:List Int)(a1_0:Int):Option Int:=ej (E bar) k 192 [.v (.L (.int .i64) a0),.v (.fn 174 [(.vp [(.int .i64 a1_0)])])]
def ae.l0 (bar:aX)(k:Nat)(n:Nat)(s0:List Int)(f1:Int)(x7:Int)(x8:Int):Option Int:=b9 (E bar) k xn zi [.r,.l,.r] n ⟨[(0,(.L (.int .i64) s0)),(1,(.fn 174 [(.vp [(.int .i64 f1)])])),(7,(.int .i64 x7)),(8,(.int .i64 x8))],[]⟩
def strings_Cut.f (bar:aX)(k:Nat)(a0:List UInt8)(a1:List UInt8):Option (List UInt8×List UInt8×Bool):=ej (E bar) k 193 [.v (.str a0),.v (.str a1)]
def dQ.f (bar:aX)(k:Nat)(a0:Int)(a1:Int):Option Bool:=ej (E bar) k 174 [.v (.int .i64 a0),.v (.vp [(.int .i64 a1)])]
end
end Go.Proofs.YtjkokaockhecnaaGreatDoorA
