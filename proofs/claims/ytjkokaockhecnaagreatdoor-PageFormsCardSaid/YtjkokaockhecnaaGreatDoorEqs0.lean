/- Each function and each loop of the program answers as its equation says; no condition. -/
import Derived.Test.YtjkokaockhecnaaGreatDoorFns
namespace Go.Proofs.YtjkokaockhecnaaGreatDoorA
open Go
set_option linter.unusedVariables false
theorem ag.f_eq (bar:aX)(k:Nat)(a0:Int)(a1:Int):ag.f bar (k+1) a0 a1=
 (d3.f bar k).bind fun r_1=>
 bif (!r_1) then
 some false
 else
 (bb.f bar k (Col.mk ([0,1,0]:List Int) ([2,1,0]:List Int) ([([105,53,59]:List UInt8)]:List (List UInt8)))).bind fun r_2=>
 bif ((Int.tmod (IntKind.u64.wrap a0) 14)==0) then
 bar _ (ag.j38 bar k 1 ([]:List aM) ([0,1,0]:List Int) ([2,1,0]:List Int) ([([105,53,59]:List UInt8)]:List (List UInt8)) r_2.1 r_2.2.1 r_2.2.2)
 else
 bif ((Int.tmod (IntKind.u64.wrap a0) 14)==1) then
 bar _ (ag.j38 bar k 0 ([(aM.mk 3 (-1) false),(aM.mk 0 0 true)]:List aM) ([0,1,0]:List Int) ([2,1,0]:List Int) ([([105,53,59]:List UInt8)]:List (List UInt8)) r_2.1 r_2.2.1 r_2.2.2)
 else
 bif ((Int.tmod (IntKind.u64.wrap a0) 14)==2) then
 bar _ (ag.j38 bar k (IntKind.i64.wrap (0 - (IntKind.i64.wrap (1+(aN .and .i64 a1 1023))))) ([(aM.mk 3 (-1) false),(aM.mk 0 0 true)]:List aM) ([0,1,0]:List Int) ([2,1,0]:List Int) ([([105,53,59]:List UInt8)]:List (List UInt8)) r_2.1 r_2.2.1 r_2.2.2)
 else
 bif ((Int.tmod (IntKind.u64.wrap a0) 14)==3) then
 bar _ (ag.j38 bar k (IntKind.i64.wrap (1+(IntKind.i64.wrap (1+(aN .and .i64 a1 1023))))) ([(aM.mk 3 (-1) false),(aM.mk 0 0 true)]:List aM) ([0,1,0]:List Int) ([2,1,0]:List Int) ([([105,53,59]:List UInt8)]:List (List UInt8)) r_2.1 r_2.2.1 r_2.2.2)
 else
 bif ((Int.tmod (IntKind.u64.wrap a0) 14)==4) then
 bif decide (0≤0)&&decide (0<((([0,1,0]:List Int)).length:Int)) then
 (([0,1,0]:List Int)[0]?).bind fun e_3=>
 bar _ (ag.j38 bar k 1 ([(aM.mk 3 (-1) false),(aM.mk 0 0 true)]:List aM) ((([0,1,0]:List Int)).set 0 2) ([2,1,0]:List Int) ([([105,53,59]:List UInt8)]:List (List UInt8)) r_2.1 r_2.2.1 r_2.2.2)
 else
 none
 else
 bif ((Int.tmod (IntKind.u64.wrap a0) 14)==5) then
 bif decide (0≤0)&&decide (0<((([0,1,0]:List Int)).length:Int)) then
 (([0,1,0]:List Int)[0]?).bind fun e_4=>
 bar _ (ag.j38 bar k 1 ([(aM.mk 3 (-1) false),(aM.mk 0 0 true)]:List aM) ((([0,1,0]:List Int)).set 0 (IntKind.i64.wrap (0 - (IntKind.i64.wrap (1+(aN .and .i64 a1 1023)))))) ([2,1,0]:List Int) ([([105,53,59]:List UInt8)]:List (List UInt8)) r_2.1 r_2.2.1 r_2.2.2)
 else
 none
 else
 bif ((Int.tmod (IntKind.u64.wrap a0) 14)==6) then
 bif decide (0≤1)&&decide (1<((([2,1,0]:List Int)).length:Int)) then
 (([2,1,0]:List Int)[1]?).bind fun e_5=>
 bar _ (ag.j38 bar k 1 ([(aM.mk 3 (-1) false),(aM.mk 0 0 true)]:List aM) ([0,1,0]:List Int) ((([2,1,0]:List Int)).set 1 3) ([([105,53,59]:List UInt8)]:List (List UInt8)) r_2.1 r_2.2.1 r_2.2.2)
 else
 none
 else
 bif ((Int.tmod (IntKind.u64.wrap a0) 14)==7) then
 bif decide (0≤1)&&decide (1<((([2,1,0]:List Int)).length:Int)) then
 (([2,1,0]:List Int)[1]?).bind fun e_6=>
 bar _ (ag.j38 bar k 1 ([(aM.mk 3 (-1) false),(aM.mk 0 0 true)]:List aM) ([0,1,0]:List Int) ((([2,1,0]:List Int)).set 1 (IntKind.i64.wrap (0 - (IntKind.i64.wrap (1+(aN .and .i64 a1 1023)))))) ([([105,53,59]:List UInt8)]:List (List UInt8)) r_2.1 r_2.2.1 r_2.2.2)
 else
 none
 else
 bif ((Int.tmod (IntKind.u64.wrap a0) 14)==8) then
 bif decide (0≤2)&&decide (2≤(((([0,1,0]:List Int)).length:Nat):Int)) then
 bar _ (ag.j38 bar k 1 ([(aM.mk 3 (-1) false),(aM.mk 0 0 true)]:List aM) (List.take 2 ([0,1,0]:List Int)) ([2,1,0]:List Int) ([([105,53,59]:List UInt8)]:List (List UInt8)) r_2.1 r_2.2.1 r_2.2.2)
 else
 none
 else
 bif ((Int.tmod (IntKind.u64.wrap a0) 14)==9) then
 bar _ (ag.j38 bar k 1 ([(aM.mk 3 (-1) false),(aM.mk 0 0 true)]:List aM) ([0,1,0]:List Int) ([2,1,0]:List Int) ([]:List (List UInt8)) r_2.1 r_2.2.1 r_2.2.2)
 else
 bif ((Int.tmod (IntKind.u64.wrap a0) 14)==10) then
 bif decide (((([([105,53,59]:List UInt8)]:List (List UInt8))).length+(([([105,54,59]:List UInt8)]:List (List UInt8))).length)*16≤140737488355328) then
 bar _ (ag.j38 bar k 1 ([(aM.mk 3 (-1) false),(aM.mk 0 0 true)]:List aM) ([0,1,0]:List Int) ([2,1,0]:List Int) (([([105,53,59]:List UInt8)]:List (List UInt8))++([([105,54,59]:List UInt8)]:List (List UInt8))) r_2.1 r_2.2.1 r_2.2.2)
 else
 none
 else
 bif ((Int.tmod (IntKind.u64.wrap a0) 14)==11) then
 bif decide (0≤0)&&decide (0<((([([105,53,59]:List UInt8)]:List (List UInt8))).length:Int)) then
 (([([105,53,59]:List UInt8)]:List (List UInt8))[0]?).bind fun e_7=>
 bar _ (ag.j38 bar k 1 ([(aM.mk 3 (-1) false),(aM.mk 0 0 true)]:List aM) ([0,1,0]:List Int) ([2,1,0]:List Int) ((([([105,53,59]:List UInt8)]:List (List UInt8))).set 0 ([110]:List UInt8)) r_2.1 r_2.2.1 r_2.2.2)
 else
 none
 else
 bif ((Int.tmod (IntKind.u64.wrap a0) 14)==12) then
 bif decide (0≤0)&&decide (0<((([([105,53,59]:List UInt8)]:List (List UInt8))).length:Int)) then
 (([([105,53,59]:List UInt8)]:List (List UInt8))[0]?).bind fun e_8=>
 bar _ (ag.j38 bar k 1 ([(aM.mk 3 (-1) false),(aM.mk 0 0 true)]:List aM) ([0,1,0]:List Int) ([2,1,0]:List Int) ((([([105,53,59]:List UInt8)]:List (List UInt8))).set 0 ([116]:List UInt8)) r_2.1 r_2.2.1 r_2.2.2)
 else
 none
 else
 bif (IntKind.i64.wrap (4096+(IntKind.i64.wrap (1+(aN .and .i64 a1 1023))))==IntKind.i64.wrap (4096+(IntKind.i64.wrap (1+(aN .and .i64 a1 1023)))))&&(decide (0≤IntKind.i64.wrap (4096+(IntKind.i64.wrap (1+(aN .and .i64 a1 1023)))))&&decide ((IntKind.i64.wrap (4096+(IntKind.i64.wrap (1+(aN .and .i64 a1 1023)))))*8≤140737488355328)) then
 bar _ (ag.j38 bar k 1 ([(aM.mk 3 (-1) false),(aM.mk 0 0 true)]:List aM) (List.replicate (IntKind.i64.wrap (4096+(IntKind.i64.wrap (1+(aN .and .i64 a1 1023))))).toNat (0:Int):List Int) (List.replicate (IntKind.i64.wrap (4096+(IntKind.i64.wrap (1+(aN .and .i64 a1 1023))))).toNat (0:Int):List Int) ([]:List (List UInt8)) r_2.1 r_2.2.1 r_2.2.2)
 else
 none:=by kernel_rfl
theorem ag.j38_eq (bar:aX)(k:Nat)(leaf9:Int)(t6:List aM)(c7:List Int)(c7_1:List Int)(c7_2:List (List UInt8))(g8:List Int)(g8_1:List Int)(g8_2:List (List UInt8)):ag.j38 bar k leaf9 t6 c7 c7_1 c7_2 g8 g8_1 g8_2=
 (aJ.f bar k t6 leaf9 (Col.mk c7 c7_1 c7_2)).bind fun r_1=>
 (aJ.f bar k ([(aM.mk 3 (-1) false),(aM.mk 0 0 true)]:List aM) 1 (Col.mk g8 g8_1 g8_2)).bind fun r_2=>
 bif (r_1.1==([]:List UInt8)) then
 (cB.f bar k r_1.2).bind fun r_3=>
 bif (r_3==2200) then
 (cB.f bar k r_2.2).bind fun r_4=>
 bif (r_4==0) then
 some (decide (((r_2.1).length:Int)>16))
 else
 some false
 else
 some false
 else
 some false:=by kernel_rfl
theorem cB.f_eq (bar:aX)(k:Nat)(a0:Int):cB.f bar (k+1) a0=
 some a0:=by kernel_rfl
theorem bb.f_eq (bar:aX)(k:Nat)(a0:Col):bb.f bar (k+1) a0=
 bif decide ((a0.reps).length*8≤140737488355328) then
 bif decide ((a0.defs).length*8≤140737488355328) then
 bif decide ((a0.values).length*16≤140737488355328) then
 some (a0.reps,a0.defs,a0.values)
 else
 none
 else
 none
 else
 none:=by kernel_rfl
theorem aJ.f_eq (bar:aX)(k:Nat)(a0:List aM)(a1:Int)(a2:Col):aJ.f bar (k+1) a0 a1 a2=
 (ca.f bar k a0 a1 a2).bind fun r_1=>
 bif (!r_1) then
 some (([]:List UInt8),2200)
 else
 (aE.f bar k a0 a1).bind fun r_2=>
 (dM.f bar k a2.reps r_2.1).bind fun r_3=>
 (dM.f bar k a2.defs r_2.2.1).bind fun r_4=>
 aJ.l0 bar k k r_3 r_4 ((([((a2.reps).length:Int),((r_3).length:Int),((r_4).length:Int)]:List Int)).length:Int) 0 a2.reps a2.defs a2.values ([]:List Int) ([((a2.reps).length:Int),((r_3).length:Int),((r_4).length:Int)]:List Int):=by kernel_rfl
theorem aJ.l0_eq (bar:aX)(k:Nat)(n:Nat)(reps11:List UInt8)(defs12:List UInt8)(x46:Int)(x47:Int)(c5:List Int)(c5_1:List Int)(c5_2:List (List UInt8))(body13:List Int)(x2045:List Int):aJ.l0 bar k (n+1) reps11 defs12 x46 x47 c5 c5_1 c5_2 body13 x2045=
 bif decide (x47<x46) then
 bif decide (0≤x47)&&decide (x47<((x2045).length:Int)) then
 (x2045[(x47).toNat]?).bind fun e_1=>
 (bW.f bar k e_1 4).bind fun r_2=>
 bif decide ((body13).length+(r_2).length≤140737488355328) then
 aJ.l0 bar k n reps11 defs12 x46 (IntKind.i64.wrap (x47+1)) c5 c5_1 c5_2 (body13++aA r_2) x2045
 else
 none
 else
 none
 else
 bif decide ((reps11).length+(defs12).length≤9223372036854775807) then
 bif decide ((body13).length+(reps11++defs12).length≤140737488355328) then
 aJ.l2 bar k k c5_2 ((c5_2).length:Int) 0 (body13++aA (reps11++defs12))
 else
 none
 else
 none:=by kernel_rfl
theorem aJ.l2_eq (bar:aX)(k:Nat)(n:Nat)(x60:List (List UInt8))(x61:Int)(x62:Int)(body13:List Int):aJ.l2 bar k (n+1) x60 x61 x62 body13=
 bif decide (x62<x61) then
 (rd x60 x62).bind fun e_1=>
 (ew.f bar k e_1).bind fun r_2=>
 bif decide ((body13).length+(r_2).length≤140737488355328) then
 aJ.l2 bar k n x60 x61 (IntKind.i64.wrap (x62+1)) (body13++aA r_2)
 else
 none
 else
 (bG.f bar k (ah body13)).bind fun r_3=>
 (bW.f bar k r_3 4).bind fun r_4=>
 bif decide ((r_4).length+(ah body13).length≤9223372036854775807) then
 some (r_4++(ah body13),0)
 else
 none:=by kernel_rfl
theorem ca.f_eq (bar:aX)(k:Nat)(a0:List aM)(a1:Int)(a2:Col):ca.f bar (k+1) a0 a1 a2=
 (aE.f bar k a0 a1).bind fun r_1=>
 (fy.f bar k a0 a1).bind fun r_2=>
 bif (!(!r_2)) then
 bif (!(((a2.reps).length:Int) != ((a2.defs).length:Int))) then
 bif (!(decide (((a2.reps).length:Int)>4096))) then
 (a8.f bar k a2.reps r_1.1).bind fun r_3=>
 bif (!(!r_3)) then
 (a8.f bar k a2.defs r_1.2.1).bind fun r_4=>
 bif (!r_4) then
 some false
 else
 ca.l0 bar k k a1 r_1.2.1 a2.values ((a2.values).length:Int) 0 a0 a2.reps a2.defs
 else
 some false
 else
 some false
 else
 some false
 else
 some false:=by kernel_rfl
theorem ca.l0_eq (bar:aX)(k:Nat)(n:Nat)(leaf1:Int)(def_8:Int)(x53:List (List UInt8))(x54:Int)(x55:Int)(t3:List aM)(c5:List Int)(c5_1:List Int):ca.l0 bar k (n+1) leaf1 def_8 x53 x54 x55 t3 c5 c5_1=
 bif decide (x55<x54) then
 (rd x53 x55).bind fun e_1=>
 (iv.f bar k).bind fun r_2=>
 bif (!(e_1==r_2)) then
 (bC.f bar k t3 leaf1 e_1).bind fun r_3=>
 bif (!r_3) then
 some false
 else
 ca.l0 bar k n leaf1 def_8 x53 x54 (IntKind.i64.wrap (x55+1)) t3 c5 c5_1
 else
 some false
 else
 (bg.f bar k c5_1 def_8).bind fun r_4=>
 some (((x53).length:Int)==r_4):=by kernel_rfl
theorem aE.f_eq (bar:aX)(k:Nat)(a0:List aM)(a1:Int):aE.f bar (k+1) a0 a1=
 (c8.f bar k a0 a1).bind fun r_1=>
 bif (!r_1) then
 some (0,0,500)
 else
 (bj.f bar k a0 a1).bind fun r_2=>
 aE.l0 bar k k 0 0 ((r_2).length:Int) 0 a0 r_2:=by kernel_rfl
theorem aE.l0_eq (bar:aX)(k:Nat)(n:Nat)(rep7:Int)(def_8:Int)(x17:Int)(x18:Int)(t2:List aM)(x2016:List Int):aE.l0 bar k (n+1) rep7 def_8 x17 x18 t2 x2016=
 bif decide (x18<x17) then
 bif decide (0≤x18)&&decide (x18<((x2016).length:Int)) then
 (x2016[(x18).toNat]?).bind fun e_1=>
 (rd t2 e_1).bind fun e_2=>
 bif (e_2.kind==3) then
 (rd t2 e_1).bind fun e_3=>
 bif e_3.null then
 aE.l0 bar k n (IntKind.i64.wrap (rep7+1)) (IntKind.i64.wrap ((IntKind.i64.wrap (def_8+1))+1)) x17 (IntKind.i64.wrap (x18+1)) t2 x2016
 else
 aE.l0 bar k n (IntKind.i64.wrap (rep7+1)) (IntKind.i64.wrap (def_8+1)) x17 (IntKind.i64.wrap (x18+1)) t2 x2016
 else
 (rd t2 e_1).bind fun e_4=>
 bif e_4.null then
 aE.l0 bar k n rep7 (IntKind.i64.wrap (def_8+1)) x17 (IntKind.i64.wrap (x18+1)) t2 x2016
 else
 aE.l0 bar k n rep7 def_8 x17 (IntKind.i64.wrap (x18+1)) t2 x2016
 else
 none
 else
 some (rep7,def_8,0):=by kernel_rfl
theorem dM.f_eq (bar:aX)(k:Nat)(a0:List Int)(a1:Int):dM.f bar (k+1) a0 a1=
 (gd.f bar k (IntKind.u64.wrap a1)).bind fun r_1=>
 (aW.f bar k a0 r_1).bind fun r_2=>
 some r_2.1:=by kernel_rfl
theorem ew.f_eq (bar:aX)(k:Nat)(a0:List UInt8):ew.f bar (k+1) a0=
 (bR.f bar k a0).bind fun r_1=>
 bif (r_1.1==0) then
 bif decide (0≤0)&&decide (0<((r_1.2.1).length:Int)) then
 (r_1.2.1[0]?).bind fun e_2=>
 (cd.f bar k e_2).bind fun r_3=>
 (bW.f bar k r_3.1 8).bind fun r_4=>
 some r_4
 else
 none
 else
 bif (r_1.1==1) then
 bif decide (0≤0)&&decide (0<((r_1.2.1).length:Int)) then
 (r_1.2.1[0]?).bind fun e_5=>
 (rd e_5 0).bind fun b_6=>
 (bg.f bar k ([IntKind.i64.wrap (b_6.toNat:Int)]:List Int) 116).bind fun r_7=>
 (bW.f bar k r_7 1).bind fun r_8=>
 some r_8
 else
 none
 else
 bif decide (0≤0)&&decide (0<((r_1.2.1).length:Int)) then
 (r_1.2.1[0]?).bind fun e_9=>
 (bW.f bar k ((e_9).length:Int) 4).bind fun r_10=>
 bif decide (0≤0)&&decide (0<((r_1.2.1).length:Int)) then
 (r_1.2.1[0]?).bind fun e_11=>
 bif decide ((r_10).length+(e_11).length≤9223372036854775807) then
 some (r_10++e_11)
 else
 none
 else
 none
 else
 none:=by kernel_rfl
theorem bG.f_eq (bar:aX)(k:Nat)(a0:List UInt8):bG.f bar (k+1) a0=
 bG.l0 bar k k a0 4294967295 ((a0).length:Int) 0:=by kernel_rfl
theorem bG.l0_eq (bar:aX)(k:Nat)(n:Nat)(s0:List UInt8)(sum3:Int)(x7:Int)(x8:Int):bG.l0 bar k (n+1) s0 sum3 x7 x8=
 bif decide (x8<x7) then
 (rd s0 x8).bind fun b_1=>
 bG.l2 bar k n k s0 (aN .xor .u32 sum3 (IntKind.u32.wrap (b_1.toNat:Int))) x7 x8 0
 else
 some (IntKind.i64.wrap (aN .xor .u32 sum3 4294967295)):=by kernel_rfl
theorem bG.l2_eq (bar:aX)(k:Nat)(m1:Nat)(n:Nat)(s0:List UInt8)(sum3:Int)(x7:Int)(x8:Int)(x17:Int):bG.l2 bar k m1 (n+1) s0 sum3 x7 x8 x17=
 bif decide (x17<8) then
 bG.l2 bar k m1 n s0 (aN .xor .u32 (Int.fdiv sum3 (2 ^ (min 1 IntKind.u32.bits))) (IntKind.u32.wrap (3988292384*(aN .and .u32 sum3 1)))) x7 x8 (IntKind.i64.wrap (x17+1))
 else
 bG.l0 bar k m1 s0 sum3 x7 (IntKind.i64.wrap (x8+1)):=by kernel_rfl
theorem fy.f_eq (bar:aX)(k:Nat)(a0:List aM)(a1:Int):fy.f bar (k+1) a0 a1=
 (c8.f bar k a0 a1).bind fun r_1=>
 bif r_1 then
 (rd a0 a1).bind fun e_2=>
 (dG.f bar k e_2.kind).bind fun r_3=>
 some (!r_3)
 else
 some false:=by kernel_rfl
theorem bg.f_eq (bar:aX)(k:Nat)(a0:List Int)(a1:Int):bg.f bar (k+1) a0 a1=
 bg.l0 bar k k a1 0 a0 ((a0).length:Int) 0:=by kernel_rfl
theorem bg.l0_eq (bar:aX)(k:Nat)(n:Nat)(one1:Int)(out5:Int)(x8:List Int)(x9:Int)(x10:Int):bg.l0 bar k (n+1) one1 out5 x8 x9 x10=
 bif decide (x10<x9) then
 (rd x8 x10).bind fun e_1=>
 bif (e_1==one1) then
 bg.l0 bar k n one1 (IntKind.i64.wrap (out5+1)) x8 x9 (IntKind.i64.wrap (x10+1))
 else
 bg.l0 bar k n one1 out5 x8 x9 (IntKind.i64.wrap (x10+1))
 else
 some out5:=by kernel_rfl
theorem a8.f_eq (bar:aX)(k:Nat)(a0:List Int)(a1:Int):a8.f bar (k+1) a0 a1=
 a8.l0 bar k k a1 a0 ((a0).length:Int) 0:=by kernel_rfl
theorem a8.l0_eq (bar:aX)(k:Nat)(n:Nat)(most1:Int)(x7:List Int)(x8:Int)(x9:Int):a8.l0 bar k (n+1) most1 x7 x8 x9=
 bif decide (x9<x8) then
 (rd x7 x9).bind fun e_1=>
 bif (!(decide (e_1<0))) then
 bif decide (e_1>most1) then
 some false
 else
 a8.l0 bar k n most1 x7 x8 (IntKind.i64.wrap (x9+1))
 else
 some false
 else
 some true:=by kernel_rfl
theorem iv.f_eq (bar:aX)(k:Nat):iv.f bar (k+1)=
 some ([110]:List UInt8):=by kernel_rfl
theorem bC.f_eq (bar:aX)(k:Nat)(a0:List aM)(a1:Int)(a2:List UInt8):bC.f bar (k+1) a0 a1 a2=
 (c8.f bar k a0 a1).bind fun r_1=>
 bif (!r_1) then
 some false
 else
 (bR.f bar k a2).bind fun r_2=>
 (rd a0 a1).bind fun e_3=>
 bif (!(r_2.2.2 != 0)) then
 bif (r_2.1==(-1)) then
 bif (r_2.2.2==0) then
 some e_3.null
 else
 some false
 else
 (fw.f bar k a0 a1).bind fun r_4=>
 bif (r_2.1 != e_3.kind) then
 some false
 else
 bif (r_2.1==2) then
 bif decide (0≤0)&&decide (0<((r_2.2.1).length:Int)) then
 (r_2.2.1[0]?).bind fun e_5=>
 some (decide (((e_5).length:Int)≤16))
 else
 none
 else
 bif (r_2.1==4) then
 (dP.f bar k r_4.1 r_2.2.1 a0).bind fun r_6=>
 some r_6
 else
 bC.l1 bar k k r_2.2.1 r_2.1 ((r_2.2.1).length:Int) 0 a0 r_4.1
 else
 bif (r_2.2.2==0) then
 some e_3.null
 else
 some false:=by kernel_rfl
theorem bC.l1_eq (bar:aX)(k:Nat)(n:Nat)(x70:List (List UInt8))(kind7:Int)(x71:Int)(x72:Int)(t3:List aM)(x2011:List Int):bC.l1 bar k (n+1) x70 kind7 x71 x72 t3 x2011=
 bif decide (x72<x71) then
 (rd x70 x72).bind fun e_1=>
 bif (kind7==3) then
 bif decide (0≤0)&&decide (0<((x2011).length:Int)) then
 (x2011[0]?).bind fun e_2=>
 (pY.f bar k e_2 e_1 t3).bind fun r_3=>
 bif (!r_3) then
 some false
 else
 bC.l1 bar k n x70 kind7 x71 (IntKind.i64.wrap (x72+1)) t3 x2011
 else
 none
 else
 bC.l1 bar k n x70 kind7 x71 (IntKind.i64.wrap (x72+1)) t3 x2011
 else
 some (decide (((x70).length:Int)≤64)):=by kernel_rfl
theorem c8.f_eq (bar:aX)(k:Nat)(a0:List aM)(a1:Int):c8.f bar (k+1) a0 a1=
 (aI.f bar k a0).bind fun r_1=>
 bif r_1 then
 bif decide (a1≥0) then
 some (decide (a1<((a0).length:Int)))
 else
 some false
 else
 some false:=by kernel_rfl
theorem bj.f_eq (bar:aX)(k:Nat)(a0:List aM)(a1:Int):bj.f bar (k+1) a0 a1=
 bj.l0 bar k k a0 a1 ([]:List Int):=by kernel_rfl
theorem bj.l0_eq (bar:aX)(k:Nat)(n:Nat)(t0:List aM)(at_1:Int)(x2005:List Int):bj.l0 bar k (n+1) t0 at_1 x2005=
 bif decide (at_1≥0) then
 bif decide (((x2005).length+(([at_1]:List Int)).length)*8≤140737488355328) then
 (rd t0 at_1).bind fun e_1=>
 bj.l0 bar k n t0 e_1.parent (x2005++([at_1]:List Int))
 else
 none
 else
 some x2005:=by kernel_rfl
theorem aW.f_eq (bar:aX)(k:Nat)(a0:List Int)(a1:Int):aW.f bar (k+1) a0 a1=
 (dx.f bar k a0 a1).bind fun r_1=>
 bif (!r_1) then
 some (([]:List UInt8),2100)
 else
 aW.l0 bar k k a0 a1 ([]:List Int):=by kernel_rfl
theorem aW.l0_eq (bar:aX)(k:Nat)(n:Nat)(xs0:List Int)(width1:Int)(out6:List Int):aW.l0 bar k (n+1) xs0 width1 out6=
 bif decide (((xs0).length:Int)>0) then
 (aS.f bar k xs0).bind fun r_1=>
 bif decide (r_1≥8) then
 (bq.f bar k (IntKind.i64.wrap (2*r_1))).bind fun r_2=>
 (rd xs0 0).bind fun e_3=>
 (dy.f bar k width1).bind fun r_4=>
 (bW.f bar k e_3 r_4).bind fun r_5=>
 bif decide ((r_2.1).length+(r_5).length≤9223372036854775807) then
 bif decide ((out6).length+(r_2.1++r_5).length≤140737488355328) then
 bif decide (0≤r_1)&&decide (r_1≤(((xs0).length:Nat):Int)) then
 aW.l0 bar k n (List.drop ((r_1).toNat) (List.take ((xs0).length) xs0)) width1 (out6++aA (r_2.1++r_5))
 else
 none
 else
 none
 else
 none
 else
 (aR.f bar k xs0).bind fun r_6=>
 (bq.f bar k (IntKind.i64.wrap ((IntKind.i64.wrap (2*(IntKind.i64.wrap (Int.tdiv (IntKind.i64.wrap ((IntKind.i64.wrap (r_6+8)) - 1)) 8))))+1))).bind fun r_7=>
 bif decide (0≤r_6)&&decide (r_6≤(((xs0).length:Nat):Int)) then
 (aB.f bar k (List.drop 0 (List.take ((r_6).toNat) xs0)) width1).bind fun r_8=>
 bif decide ((r_7.1).length+(r_8).length≤9223372036854775807) then
 bif decide ((out6).length+(r_7.1++r_8).length≤140737488355328) then
 bif decide (0≤r_6)&&decide (r_6≤(((xs0).length:Nat):Int)) then
 aW.l0 bar k n (List.drop ((r_6).toNat) (List.take ((xs0).length) xs0)) width1 (out6++aA (r_7.1++r_8))
 else
 none
 else
 none
 else
 none
 else
 none
 else
 some (ah out6,0):=by kernel_rfl
theorem bR.f_eq (bar:aX)(k:Nat)(a0:List UInt8):bR.f bar (k+1) a0=
 bif decide (((a0).length:Int)>65536) then
 some (0,([]:List (List UInt8)),700)
 else
 (aC.f bar k a0 false 0).bind fun r_1=>
 bif (!r_1.2.2) then
 bif (r_1.2.1 != ([]:List UInt8)) then
 some (0,([]:List (List UInt8)),700)
 else
 some (r_1.1.1,r_1.1.2,0)
 else
 some (0,([]:List (List UInt8)),700):=by kernel_rfl
theorem cd.f_eq (bar:aX)(k:Nat)(a0:List UInt8):cd.f bar (k+1) a0=
 jD a0:=by kernel_rfl
theorem dG.f_eq (bar:aX)(k:Nat)(a0:Int):dG.f bar (k+1) a0=
 bif (!(a0==3)) then
 some (a0==4)
 else
 some true:=by kernel_rfl
theorem fw.f_eq (bar:aX)(k:Nat)(a0:List aM)(a1:Int):fw.f bar (k+1) a0 a1=
 (c8.f bar k a0 a1).bind fun r_1=>
 bif (!r_1) then
 some (([]:List Int),500)
 else
 (a7.f bar k a0 a1).bind fun r_2=>
 some (r_2,0):=by kernel_rfl
theorem aI.f_eq (bar:aX)(k:Nat)(a0:List aM):aI.f bar (k+1) a0=
 bif (!(((a0).length:Int)==0)) then
 bif decide (((a0).length:Int)>8) then
 some false
 else
 aI.l0 bar k k a0 ((a0).length:Int) 0
 else
 some false:=by kernel_rfl
theorem aI.l0_eq (bar:aX)(k:Nat)(n:Nat)(x19:List aM)(x20:Int)(x21:Int):aI.l0 bar k (n+1) x19 x20 x21=
 bif decide (x21<x20) then
 (rd x19 x21).bind fun e_1=>
 bif (!(decide (e_1.kind<0))) then
 bif (!(decide (e_1.kind>4))) then
 (ef.f bar k x19 x21).bind fun r_2=>
 bif (!r_2) then
 some false
 else
 aI.l0 bar k n x19 x20 (IntKind.i64.wrap (x21+1))
 else
 some false
 else
 some false
 else
 aI.l2 bar k k x19 ((x19).length:Int) 0:=by kernel_rfl
theorem aI.l2_eq (bar:aX)(k:Nat)(n:Nat)(x41:List aM)(x42:Int)(x43:Int):aI.l2 bar k (n+1) x41 x42 x43=
 bif decide (x43<x42) then
 (rd x41 x43).bind fun e_1=>
 (a7.f bar k x41 x43).bind fun r_2=>
 bif (e_1.kind==3) then
 bif (!(((r_2).length:Int) != 1)) then
 bif (e_1.kind==4) then
 bif (!(((r_2).length:Int)==0)) then
 (bj.f bar k x41 x43).bind fun r_3=>
 bif decide (((r_3).length:Int)>5) then
 some false
 else
 aI.l2 bar k n x41 x42 (IntKind.i64.wrap (x43+1))
 else
 some false
 else
 (bj.f bar k x41 x43).bind fun r_4=>
 bif decide (((r_4).length:Int)>5) then
 some false
 else
 aI.l2 bar k n x41 x42 (IntKind.i64.wrap (x43+1))
 else
 some false
 else
 bif (e_1.kind==4) then
 bif (!(((r_2).length:Int)==0)) then
 (bj.f bar k x41 x43).bind fun r_5=>
 bif decide (((r_5).length:Int)>5) then
 some false
 else
 aI.l2 bar k n x41 x42 (IntKind.i64.wrap (x43+1))
 else
 some false
 else
 (bj.f bar k x41 x43).bind fun r_6=>
 bif decide (((r_6).length:Int)>5) then
 some false
 else
 aI.l2 bar k n x41 x42 (IntKind.i64.wrap (x43+1))
 else
 some true:=by kernel_rfl
theorem dx.f_eq (bar:aX)(k:Nat)(a0:List Int)(a1:Int):dx.f bar (k+1) a0 a1=
 bif decide (a1≥0) then
 bif decide (a1≤16) then
 bif decide (((a0).length:Int)≤4096) then
 (aF.f bar k a0 a1).bind fun r_1=>
 some (!r_1)
 else
 some false
 else
 some false
 else
 some false:=by kernel_rfl
theorem aS.f_eq (bar:aX)(k:Nat)(a0:List Int):aS.f bar (k+1) a0=
 aS.l0 bar k k a0 ((a0).length:Int) 0:=by kernel_rfl
theorem aS.l0_eq (bar:aX)(k:Nat)(n:Nat)(xs0:List Int)(x6:Int)(x7:Int):aS.l0 bar k (n+1) xs0 x6 x7=
 bif decide (x7<x6) then
 (rd xs0 x7).bind fun e_1=>
 (rd xs0 0).bind fun e_2=>
 bif (e_1 != e_2) then
 some x7
 else
 aS.l0 bar k n xs0 x6 (IntKind.i64.wrap (x7+1))
 else
 some ((xs0).length:Int):=by kernel_rfl
theorem bq.f_eq (bar:aX)(k:Nat)(a0:Int):bq.f bar (k+1) a0=
 (lk.f bar k a0).bind fun r_1=>
 bif (!r_1) then
 some (([]:List UInt8),300)
 else
 bq.l0 bar k k a0 ([]:List Int):=by kernel_rfl
theorem bq.l0_eq (bar:aX)(k:Nat)(n:Nat)(x0:Int)(x2004:List Int):bq.l0 bar k (n+1) x0 x2004=
 bif decide (x0≥128) then
 bif decide (((x2004).length+(([aN .or .u8 (IntKind.u8.wrap x0) 128]:List Int)).length)*1≤140737488355328) then
 bq.l0 bar k n (Int.fdiv x0 (2 ^ (min 7 IntKind.i64.bits))) (x2004++([aN .or .u8 (IntKind.u8.wrap x0) 128]:List Int))
 else
 none
 else
 bif decide (((x2004).length+(([IntKind.u8.wrap x0]:List Int)).length)*1≤140737488355328) then
 some (ah (x2004++([IntKind.u8.wrap x0]:List Int)),0)
 else
 none:=by kernel_rfl
theorem dy.f_eq (bar:aX)(k:Nat)(a0:Int):dy.f bar (k+1) a0=
 some (IntKind.i64.wrap (Int.tdiv (IntKind.i64.wrap (a0+7)) 8)):=by kernel_rfl
theorem aR.f_eq (bar:aX)(k:Nat)(a0:List Int):aR.f bar (k+1) a0=
 aR.l0 bar k k a0 0:=by kernel_rfl
theorem aR.l0_eq (bar:aX)(k:Nat)(n:Nat)(xs0:List Int)(at_3:Int):aR.l0 bar k (n+1) xs0 at_3=
 bif decide (at_3<((xs0).length:Int)) then
 bif decide (0≤at_3)&&decide (at_3≤(((xs0).length:Nat):Int)) then
 (aS.f bar k (List.drop ((at_3).toNat) (List.take ((xs0).length) xs0))).bind fun r_1=>
 bif decide (r_1≥8) then
 some at_3
 else
 aR.l0 bar k n xs0 (IntKind.i64.wrap (at_3+8))
 else
 none
 else
 some ((xs0).length:Int):=by kernel_rfl
theorem aB.f_eq (bar:aX)(k:Nat)(a0:List Int)(a1:Int):aB.f bar (k+1) a0 a1=
 bif (IntKind.i64.wrap ((IntKind.i64.wrap ((IntKind.i64.wrap (Int.tdiv (IntKind.i64.wrap ((IntKind.i64.wrap (((a0).length:Int)+8)) - 1)) 8))*8))*a1)==IntKind.i64.wrap ((IntKind.i64.wrap ((IntKind.i64.wrap (Int.tdiv (IntKind.i64.wrap ((IntKind.i64.wrap (((a0).length:Int)+8)) - 1)) 8))*8))*a1))&&(decide (0≤IntKind.i64.wrap ((IntKind.i64.wrap ((IntKind.i64.wrap (Int.tdiv (IntKind.i64.wrap ((IntKind.i64.wrap (((a0).length:Int)+8)) - 1)) 8))*8))*a1))&&decide ((IntKind.i64.wrap ((IntKind.i64.wrap ((IntKind.i64.wrap (Int.tdiv (IntKind.i64.wrap ((IntKind.i64.wrap (((a0).length:Int)+8)) - 1)) 8))*8))*a1))*1≤140737488355328)) then
 aB.l0 bar k k a1 a0 ((a0).length:Int) 0 (List.replicate (IntKind.i64.wrap ((IntKind.i64.wrap ((IntKind.i64.wrap (Int.tdiv (IntKind.i64.wrap ((IntKind.i64.wrap (((a0).length:Int)+8)) - 1)) 8))*8))*a1)).toNat (false:Bool):List Bool)
 else
 none:=by kernel_rfl
theorem aB.l0_eq (bar:aX)(k:Nat)(n:Nat)(width1:Int)(x18:List Int)(x19:Int)(x20:Int)(x2005:List Bool):aB.l0 bar k (n+1) width1 x18 x19 x20 x2005=
 bif decide (x20<x19) then
 (rd x18 x20).bind fun e_1=>
 aB.l2 bar k n k width1 x20 e_1 x18 x19 0 x2005
 else
 (cY.f bar k x2005).bind fun r_2=>
 some r_2:=by kernel_rfl
theorem aB.l2_eq (bar:aX)(k:Nat)(m1:Nat)(n:Nat)(width1:Int)(i6:Int)(x7:Int)(x18:List Int)(x19:Int)(x26:Int)(x2005:List Bool):aB.l2 bar k m1 (n+1) width1 i6 x7 x18 x19 x26 x2005=
 bif decide (x26<width1) then
 bif decide (x26<0) then
 none
 else
 bif decide (0≤IntKind.i64.wrap ((IntKind.i64.wrap (i6*width1))+x26))&&decide (IntKind.i64.wrap ((IntKind.i64.wrap (i6*width1))+x26)<((x2005).length:Int)) then
 (x2005[(IntKind.i64.wrap ((IntKind.i64.wrap (i6*width1))+x26)).toNat]?).bind fun e_1=>
 aB.l2 bar k m1 n width1 i6 x7 x18 x19 (IntKind.i64.wrap (x26+1)) ((x2005).set ((IntKind.i64.wrap ((IntKind.i64.wrap (i6*width1))+x26)).toNat) ((aN .and .i64 (Int.fdiv x7 (2 ^ (min (x26).toNat IntKind.i64.bits))) 1)==1))
 else
 none
 else
 aB.l0 bar k m1 width1 x18 x19 (IntKind.i64.wrap (i6+1)) x2005:=by kernel_rfl
end Go.Proofs.YtjkokaockhecnaaGreatDoorA
