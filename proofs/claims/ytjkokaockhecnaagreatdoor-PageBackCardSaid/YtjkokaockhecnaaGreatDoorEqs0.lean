/- Each function and each loop of the program answers as its equation says; no condition. -/
import Derived.Test.YtjkokaockhecnaaGreatDoorFns
namespace Go.Proofs.YtjkokaockhecnaaGreatDoorA
open Go
set_option linter.unusedVariables false
theorem ak.f_eq (bar:aF)(k:Nat)(a0:List bu)(a1:Int)(a2:Col)(a3:Int)(a4:Int):ak.f bar (k+1) a0 a1 a2 a3 a4=
 (eO.f bar k).bind fun r_1=>
 bif (!r_1) then
 some false
 else
 (aS.f bar k a0 a1 a2).bind fun r_2=>
 (cp.f bar k r_2.2).bind fun r_3=>
 bif (!(r_3 != 0)) then
 bif decide (((r_2.1).length:Int)<16) then
 some (r_2.1==([]:List UInt8))
 else
 (bB.f bar k a0 a1 r_2.1).bind fun r_4=>
 bif decide ((r_2.1).length≤140737488355328) then
 bif (IntKind.u64.wrap (IntKind.i64.wrap (((ac r_2.1).length:Int) - 7))==0) then
 none
 else
 ak.l0 bar k k a1 r_4.2 (IntKind.i64.wrap (4+(IntKind.i64.wrap (Int.tmod (IntKind.u64.wrap a3) (IntKind.u64.wrap (IntKind.i64.wrap (((ac r_2.1).length:Int) - 7))))))) (IntKind.i64.wrap (1+(IntKind.i64.wrap (Int.tmod (IntKind.u64.wrap a4) 4294967295)))) 0 a0 a2.reps a2.defs a2.values r_4.1.1 r_4.1.2.1 r_4.1.2.2 (ac r_2.1)
 else
 none
 else
 some (r_2.1==([]:List UInt8)):=by kernel_rfl
theorem ak.l0_eq (bar:aF)(k:Nat)(n:Nat)(leaf1:Int)(f14:Int)(i16:Int)(x17:Int)(k_18:Int)(t5:List bu)(c7:List Int)(c7_1:List Int)(c7_2:List (List UInt8))(d13:List Int)(d13_1:List Int)(d13_2:List (List UInt8))(x2015:List Int):ak.l0 bar k (n+1) leaf1 f14 i16 x17 k_18 t5 c7 c7_1 c7_2 d13 d13_1 d13_2 x2015=
 bif decide (k_18<4) then
 bif decide (0≤IntKind.i64.wrap (i16+k_18))&&decide (IntKind.i64.wrap (i16+k_18)<((x2015).length:Int)) then
 (x2015[(IntKind.i64.wrap (i16+k_18)).toNat]?).bind fun e_1=>
 bif decide (IntKind.i64.wrap (8*k_18)<0) then
 none
 else
 bif decide (0≤IntKind.i64.wrap (i16+k_18))&&decide (IntKind.i64.wrap (i16+k_18)<((x2015).length:Int)) then
 (x2015[(IntKind.i64.wrap (i16+k_18)).toNat]?).bind fun e_2=>
 ak.l0 bar k n leaf1 f14 i16 x17 (IntKind.i64.wrap (k_18+1)) t5 c7 c7_1 c7_2 d13 d13_1 d13_2 ((x2015).set ((IntKind.i64.wrap (i16+k_18)).toNat) (ax .xor .u8 e_1 (IntKind.u8.wrap (Int.fdiv x17 (2 ^ (min (IntKind.i64.wrap (8*k_18)).toNat IntKind.i64.bits))))))
 else
 none
 else
 none
 else
 (bB.f bar k t5 leaf1 (ab x2015)).bind fun r_3=>
 (cp.f bar k f14).bind fun r_4=>
 bif (r_4==0) then
 (bn.f bar k (Col.mk c7 c7_1 c7_2) (Col.mk d13 d13_1 d13_2)).bind fun r_5=>
 bif r_5 then
 (cp.f bar k r_3.2).bind fun r_6=>
 some (r_6==2201)
 else
 some false
 else
 some false:=by kernel_rfl
theorem cp.f_eq (bar:aF)(k:Nat)(a0:Int):cp.f bar (k+1) a0=
 some a0:=by kernel_rfl
theorem aS.f_eq (bar:aF)(k:Nat)(a0:List bu)(a1:Int)(a2:Col):aS.f bar (k+1) a0 a1 a2=
 (cZ.f bar k a0 a1 a2).bind fun r_1=>
 bif (!r_1) then
 some (([]:List UInt8),2200)
 else
 (aH.f bar k a0 a1).bind fun r_2=>
 (eo.f bar k a2.reps r_2.1).bind fun r_3=>
 (eo.f bar k a2.defs r_2.2.1).bind fun r_4=>
 aS.l0 bar k k r_3 r_4 ((([((a2.reps).length:Int),((r_3).length:Int),((r_4).length:Int)]:List Int)).length:Int) 0 a2.reps a2.defs a2.values ([]:List Int) ([((a2.reps).length:Int),((r_3).length:Int),((r_4).length:Int)]:List Int):=by kernel_rfl
theorem aS.l0_eq (bar:aF)(k:Nat)(n:Nat)(reps11:List UInt8)(defs12:List UInt8)(x46:Int)(x47:Int)(c5:List Int)(c5_1:List Int)(c5_2:List (List UInt8))(body13:List Int)(x2045:List Int):aS.l0 bar k (n+1) reps11 defs12 x46 x47 c5 c5_1 c5_2 body13 x2045=
 bif decide (x47<x46) then
 bif decide (0≤x47)&&decide (x47<((x2045).length:Int)) then
 (x2045[(x47).toNat]?).bind fun e_1=>
 (cq.f bar k e_1 4).bind fun r_2=>
 bif decide ((body13).length+(r_2).length≤140737488355328) then
 aS.l0 bar k n reps11 defs12 x46 (IntKind.i64.wrap (x47+1)) c5 c5_1 c5_2 (body13++ac r_2) x2045
 else
 none
 else
 none
 else
 bif decide ((reps11).length+(defs12).length≤9223372036854775807) then
 bif decide ((body13).length+(reps11++defs12).length≤140737488355328) then
 aS.l2 bar k k c5_2 ((c5_2).length:Int) 0 (body13++ac (reps11++defs12))
 else
 none
 else
 none:=by kernel_rfl
theorem aS.l2_eq (bar:aF)(k:Nat)(n:Nat)(x60:List (List UInt8))(x61:Int)(x62:Int)(body13:List Int):aS.l2 bar k (n+1) x60 x61 x62 body13=
 bif decide (x62<x61) then
 (rd x60 x62).bind fun e_1=>
 (fb.f bar k e_1).bind fun r_2=>
 bif decide ((body13).length+(r_2).length≤140737488355328) then
 aS.l2 bar k n x60 x61 (IntKind.i64.wrap (x62+1)) (body13++ac r_2)
 else
 none
 else
 (bP.f bar k (ab body13)).bind fun r_3=>
 (cq.f bar k r_3 4).bind fun r_4=>
 bif decide ((r_4).length+(ab body13).length≤9223372036854775807) then
 some (r_4++(ab body13),0)
 else
 none:=by kernel_rfl
theorem bB.f_eq (bar:aF)(k:Nat)(a0:List bu)(a1:Int)(a2:List UInt8):bB.f bar (k+1) a0 a1 a2=
 (fk.f bar k a0 a1).bind fun r_1=>
 bif (!(!r_1)) then
 bif decide (((a2).length:Int)<4) then
 some ((([]:List Int),([]:List Int),([]:List (List UInt8))),2200)
 else
 bif decide (0≤4)&&decide (4≤(((a2).length:Nat):Int)) then
 (dj.f bar k (List.drop 0 (List.take 4 a2))).bind fun r_2=>
 bif decide (0≤4)&&decide (4≤(((a2).length:Nat):Int)) then
 (bP.f bar k (List.drop 4 (List.take ((a2).length) a2))).bind fun r_3=>
 bif (r_2 != r_3) then
 some ((([]:List Int),([]:List Int),([]:List (List UInt8))),2201)
 else
 (aH.f bar k a0 a1).bind fun r_4=>
 bif decide (0≤4)&&decide (4≤(((a2).length:Nat):Int)) then
 (a7.f bar k (List.drop 4 (List.take ((a2).length) a2)) false).bind fun r_5=>
 (a7.f bar k r_5.2.1 r_5.2.2).bind fun r_6=>
 (a7.f bar k r_6.2.1 r_6.2.2).bind fun r_7=>
 (aO.f bar k r_7.2.1 r_7.2.2 r_6.1).bind fun r_8=>
 (dP.f bar k (IntKind.u64.wrap r_4.1)).bind fun r_9=>
 (aE.f bar k r_8.1 r_9 r_5.1).bind fun r_10=>
 (aO.f bar k r_8.2.1 r_8.2.2 r_7.1).bind fun r_11=>
 (dP.f bar k (IntKind.u64.wrap r_4.2.1)).bind fun r_12=>
 (aE.f bar k r_11.1 r_12 r_5.1).bind fun r_13=>
 (bh.f bar k r_13.1 r_4.2.1).bind fun r_14=>
 bB.l0 bar k k a1 a2 r_10.2 r_13.2 r_14 0 a0 r_10.1 r_13.1 ([]:List (List UInt8)) r_11.2.1 r_11.2.2
 else
 none
 else
 none
 else
 none
 else
 some ((([]:List Int),([]:List Int),([]:List (List UInt8))),2200):=by kernel_rfl
theorem bB.l0_eq (bar:aF)(k:Nat)(n:Nat)(leaf1:Int)(s2:List UInt8)(e16:Int)(f17:Int)(x82:Int)(x83:Int)(t3:List bu)(out15:List Int)(out15_1:List Int)(out15_2:List (List UInt8))(x48:List UInt8)(x48_1:Bool):bB.l0 bar k (n+1) leaf1 s2 e16 f17 x82 x83 t3 out15 out15_1 out15_2 x48 x48_1=
 bif decide (x83<x82) then
 bif (!x48_1) then
 (rd t3 leaf1).bind fun e_1=>
 (c6.f bar k x48 x48_1 e_1.kind).bind fun r_2=>
 bif decide (((out15_2).length+(([r_2.1]:List (List UInt8))).length)*16≤140737488355328) then
 bB.l0 bar k n leaf1 s2 e16 f17 x82 (IntKind.i64.wrap (x83+1)) t3 out15 out15_1 (out15_2++([r_2.1]:List (List UInt8))) r_2.2.1 r_2.2.2
 else
 none
 else
 bB.l0 bar k n leaf1 s2 e16 f17 x82 (IntKind.i64.wrap (x83+1)) t3 out15 out15_1 out15_2 x48 x48_1
 else
 (aS.f bar k t3 leaf1 (Col.mk out15 out15_1 out15_2)).bind fun r_3=>
 bif (!x48_1) then
 bif (!(e16 != 0)) then
 bif (!(f17 != 0)) then
 bif (!(r_3.2 != 0)) then
 bif (r_3.1 != s2) then
 some ((([]:List Int),([]:List Int),([]:List (List UInt8))),2200)
 else
 some ((out15,out15_1,out15_2),0)
 else
 some ((([]:List Int),([]:List Int),([]:List (List UInt8))),2200)
 else
 some ((([]:List Int),([]:List Int),([]:List (List UInt8))),2200)
 else
 some ((([]:List Int),([]:List Int),([]:List (List UInt8))),2200)
 else
 some ((([]:List Int),([]:List Int),([]:List (List UInt8))),2200):=by kernel_rfl
theorem bn.f_eq (bar:aF)(k:Nat)(a0:Col)(a1:Col):bn.f bar (k+1) a0 a1=
 (ay.f bar k a0.reps a1.reps).bind fun r_1=>
 bif r_1 then
 (ay.f bar k a0.defs a1.defs).bind fun r_2=>
 bif r_2 then
 (az.f bar k a0.values a1.values).bind fun r_3=>
 some r_3
 else
 some false
 else
 some false:=by kernel_rfl
theorem cZ.f_eq (bar:aF)(k:Nat)(a0:List bu)(a1:Int)(a2:Col):cZ.f bar (k+1) a0 a1 a2=
 (aH.f bar k a0 a1).bind fun r_1=>
 (fk.f bar k a0 a1).bind fun r_2=>
 bif (!(!r_2)) then
 bif (!(((a2.reps).length:Int) != ((a2.defs).length:Int))) then
 bif (!(decide (((a2.reps).length:Int)>4096))) then
 (bm.f bar k a2.reps r_1.1).bind fun r_3=>
 bif (!(!r_3)) then
 (bm.f bar k a2.defs r_1.2.1).bind fun r_4=>
 bif (!r_4) then
 some false
 else
 cZ.l0 bar k k a1 r_1.2.1 a2.values ((a2.values).length:Int) 0 a0 a2.reps a2.defs
 else
 some false
 else
 some false
 else
 some false
 else
 some false:=by kernel_rfl
theorem cZ.l0_eq (bar:aF)(k:Nat)(n:Nat)(leaf1:Int)(def_8:Int)(x53:List (List UInt8))(x54:Int)(x55:Int)(t3:List bu)(c5:List Int)(c5_1:List Int):cZ.l0 bar k (n+1) leaf1 def_8 x53 x54 x55 t3 c5 c5_1=
 bif decide (x55<x54) then
 (rd x53 x55).bind fun e_1=>
 (jb.f bar k).bind fun r_2=>
 bif (!(e_1==r_2)) then
 (bM.f bar k t3 leaf1 e_1).bind fun r_3=>
 bif (!r_3) then
 some false
 else
 cZ.l0 bar k n leaf1 def_8 x53 x54 (IntKind.i64.wrap (x55+1)) t3 c5 c5_1
 else
 some false
 else
 (bh.f bar k c5_1 def_8).bind fun r_4=>
 some (((x53).length:Int)==r_4):=by kernel_rfl
theorem aH.f_eq (bar:aF)(k:Nat)(a0:List bu)(a1:Int):aH.f bar (k+1) a0 a1=
 (dz.f bar k a0 a1).bind fun r_1=>
 bif (!r_1) then
 some (0,0,500)
 else
 (bC.f bar k a0 a1).bind fun r_2=>
 aH.l0 bar k k 0 0 ((r_2).length:Int) 0 a0 r_2:=by kernel_rfl
theorem aH.l0_eq (bar:aF)(k:Nat)(n:Nat)(rep7:Int)(def_8:Int)(x17:Int)(x18:Int)(t2:List bu)(x2016:List Int):aH.l0 bar k (n+1) rep7 def_8 x17 x18 t2 x2016=
 bif decide (x18<x17) then
 bif decide (0≤x18)&&decide (x18<((x2016).length:Int)) then
 (x2016[(x18).toNat]?).bind fun e_1=>
 (rd t2 e_1).bind fun e_2=>
 bif (e_2.kind==3) then
 (rd t2 e_1).bind fun e_3=>
 bif e_3.null then
 aH.l0 bar k n (IntKind.i64.wrap (rep7+1)) (IntKind.i64.wrap ((IntKind.i64.wrap (def_8+1))+1)) x17 (IntKind.i64.wrap (x18+1)) t2 x2016
 else
 aH.l0 bar k n (IntKind.i64.wrap (rep7+1)) (IntKind.i64.wrap (def_8+1)) x17 (IntKind.i64.wrap (x18+1)) t2 x2016
 else
 (rd t2 e_1).bind fun e_4=>
 bif e_4.null then
 aH.l0 bar k n rep7 (IntKind.i64.wrap (def_8+1)) x17 (IntKind.i64.wrap (x18+1)) t2 x2016
 else
 aH.l0 bar k n rep7 def_8 x17 (IntKind.i64.wrap (x18+1)) t2 x2016
 else
 none
 else
 some (rep7,def_8,0):=by kernel_rfl
theorem eo.f_eq (bar:aF)(k:Nat)(a0:List Int)(a1:Int):eo.f bar (k+1) a0 a1=
 (dP.f bar k (IntKind.u64.wrap a1)).bind fun r_1=>
 (aU.f bar k a0 r_1).bind fun r_2=>
 some r_2.1:=by kernel_rfl
theorem fb.f_eq (bar:aF)(k:Nat)(a0:List UInt8):fb.f bar (k+1) a0=
 (cd.f bar k a0).bind fun r_1=>
 bif (r_1.1==0) then
 bif decide (0≤0)&&decide (0<((r_1.2.1).length:Int)) then
 (r_1.2.1[0]?).bind fun e_2=>
 (cC.f bar k e_2).bind fun r_3=>
 (cq.f bar k r_3.1 8).bind fun r_4=>
 some r_4
 else
 none
 else
 bif (r_1.1==1) then
 bif decide (0≤0)&&decide (0<((r_1.2.1).length:Int)) then
 (r_1.2.1[0]?).bind fun e_5=>
 (rd e_5 0).bind fun b_6=>
 (bh.f bar k ([IntKind.i64.wrap (b_6.toNat:Int)]:List Int) 116).bind fun r_7=>
 (cq.f bar k r_7 1).bind fun r_8=>
 some r_8
 else
 none
 else
 bif decide (0≤0)&&decide (0<((r_1.2.1).length:Int)) then
 (r_1.2.1[0]?).bind fun e_9=>
 (cq.f bar k ((e_9).length:Int) 4).bind fun r_10=>
 bif decide (0≤0)&&decide (0<((r_1.2.1).length:Int)) then
 (r_1.2.1[0]?).bind fun e_11=>
 bif decide ((r_10).length+(e_11).length≤9223372036854775807) then
 some (r_10++e_11)
 else
 none
 else
 none
 else
 none:=by kernel_rfl
theorem bP.f_eq (bar:aF)(k:Nat)(a0:List UInt8):bP.f bar (k+1) a0=
 bP.l0 bar k k a0 4294967295 ((a0).length:Int) 0:=by kernel_rfl
theorem bP.l0_eq (bar:aF)(k:Nat)(n:Nat)(s0:List UInt8)(sum3:Int)(x7:Int)(x8:Int):bP.l0 bar k (n+1) s0 sum3 x7 x8=
 bif decide (x8<x7) then
 (rd s0 x8).bind fun b_1=>
 bP.l2 bar k n k s0 (ax .xor .u32 sum3 (IntKind.u32.wrap (b_1.toNat:Int))) x7 x8 0
 else
 some (IntKind.i64.wrap (ax .xor .u32 sum3 4294967295)):=by kernel_rfl
theorem bP.l2_eq (bar:aF)(k:Nat)(m1:Nat)(n:Nat)(s0:List UInt8)(sum3:Int)(x7:Int)(x8:Int)(x17:Int):bP.l2 bar k m1 (n+1) s0 sum3 x7 x8 x17=
 bif decide (x17<8) then
 bP.l2 bar k m1 n s0 (ax .xor .u32 (Int.fdiv sum3 (2 ^ (min 1 IntKind.u32.bits))) (IntKind.u32.wrap (3988292384*(ax .and .u32 sum3 1)))) x7 x8 (IntKind.i64.wrap (x17+1))
 else
 bP.l0 bar k m1 s0 sum3 x7 (IntKind.i64.wrap (x8+1)):=by kernel_rfl
theorem fk.f_eq (bar:aF)(k:Nat)(a0:List bu)(a1:Int):fk.f bar (k+1) a0 a1=
 (dz.f bar k a0 a1).bind fun r_1=>
 bif r_1 then
 (rd a0 a1).bind fun e_2=>
 (ey.f bar k e_2.kind).bind fun r_3=>
 some (!r_3)
 else
 some false:=by kernel_rfl
theorem dj.f_eq (bar:aF)(k:Nat)(a0:List UInt8):dj.f bar (k+1) a0=
 dj.l0 bar k k a0 0 ((a0).length:Int) 0:=by kernel_rfl
theorem dj.l0_eq (bar:aF)(k:Nat)(n:Nat)(s0:List UInt8)(out3:Int)(x6:Int)(x7:Int):dj.l0 bar k (n+1) s0 out3 x6 x7=
 bif decide (x7<x6) then
 (rd s0 x7).bind fun b_1=>
 bif decide (IntKind.i64.wrap (8*x7)<0) then
 none
 else
 dj.l0 bar k n s0 (ax .or .u64 out3 (IntKind.u64.wrap ((IntKind.u64.wrap (b_1.toNat:Int))*2 ^ (min (IntKind.i64.wrap (8*x7)).toNat IntKind.u64.bits)))) x6 (IntKind.i64.wrap (x7+1))
 else
 some (IntKind.i64.wrap out3):=by kernel_rfl
theorem a7.f_eq (bar:aF)(k:Nat)(a0_0:List UInt8)(a0_1:Bool):a7.f bar (k+1) a0_0 a0_1=
 (mi.f bar k a0_0 0 4).bind fun r_1=>
 bif (!a0_1) then
 (aO.f bar k a0_0 (r_1.2 != 0) 4).bind fun r_2=>
 some (r_1.1,(r_2.2.1,r_2.2.2))
 else
 (aO.f bar k a0_0 true 4).bind fun r_3=>
 some (r_1.1,(r_3.2.1,r_3.2.2)):=by kernel_rfl
theorem aE.f_eq (bar:aF)(k:Nat)(a0:List UInt8)(a1:Int)(a2:Int):aE.f bar (k+1) a0 a1 a2=
 bif (!(decide (a1<0))) then
 bif (!(decide (a1>16))) then
 bif (!(decide (a2<0))) then
 bif decide (a2>4096) then
 some (([]:List Int),2100)
 else
 aE.l0 bar k k a0 a1 a2 a0 a1 ([]:List Int) false
 else
 some (([]:List Int),2100)
 else
 some (([]:List Int),2100)
 else
 some (([]:List Int),2100):=by kernel_rfl
theorem aE.l0_eq (bar:aF)(k:Nat)(n:Nat)(s0:List UInt8)(width1:Int)(count2:Int)(x32:List UInt8)(x32_1:Int)(x32_2:List Int)(x32_3:Bool):aE.l0 bar k (n+1) s0 width1 count2 x32 x32_1 x32_2 x32_3=
 bif (!x32_3) then
 bif decide (((x32_2).length:Int)<count2) then
 (bX.f bar k x32 0).bind fun r_1=>
 bif decide (0≤r_1.2.1)&&decide (r_1.2.1≤(((x32).length:Nat):Int)) then
 bif ((Int.tmod r_1.1 2)==0) then
 (cY.f bar k (List.drop ((r_1.2.1).toNat) (List.take ((x32).length) x32)) x32_1 x32_2 (r_1.2.2 != 0) (IntKind.i64.wrap (Int.tdiv r_1.1 2)) (IntKind.i64.wrap (count2 - ((x32_2).length:Int)))).bind fun r_2=>
 bar _ (aE.j12 bar k n s0 width1 count2 r_1.1 r_2.1 r_2.2.1 r_2.2.2.1 r_2.2.2.2)
 else
 (af.f bar k (List.drop ((r_1.2.1).toNat) (List.take ((x32).length) x32)) x32_1 x32_2 (r_1.2.2 != 0) (IntKind.i64.wrap (Int.tdiv r_1.1 2)) (IntKind.i64.wrap (count2 - ((x32_2).length:Int)))).bind fun r_3=>
 bar _ (aE.j12 bar k n s0 width1 count2 r_1.1 r_3.1 r_3.2.1 r_3.2.2.1 r_3.2.2.2)
 else
 none
 else
 (aU.f bar k x32_2 width1).bind fun r_4=>
 bif (!x32_3) then
 bif (!(r_4.2 != 0)) then
 bif (!(r_4.1 != s0)) then
 bif (((x32_2).length:Int) != count2) then
 some (([]:List Int),2100)
 else
 some (x32_2,0)
 else
 some (([]:List Int),2100)
 else
 some (([]:List Int),2100)
 else
 some (([]:List Int),2100)
 else
 (aU.f bar k x32_2 width1).bind fun r_5=>
 bif (!x32_3) then
 bif (!(r_5.2 != 0)) then
 bif (!(r_5.1 != s0)) then
 bif (((x32_2).length:Int) != count2) then
 some (([]:List Int),2100)
 else
 some (x32_2,0)
 else
 some (([]:List Int),2100)
 else
 some (([]:List Int),2100)
 else
 some (([]:List Int),2100):=by kernel_rfl
theorem aE.j12_eq (bar:aF)(k:Nat)(m1:Nat)(s0:List UInt8)(width1:Int)(count2:Int)(head9:Int)(x32:List UInt8)(x32_1:Int)(x32_2:List Int)(x32_3:Bool):aE.j12 bar k m1 s0 width1 count2 head9 x32 x32_1 x32_2 x32_3=
 bif (!x32_3) then
 aE.l0 bar k m1 s0 width1 count2 x32 x32_1 x32_2 (decide (head9<2))
 else
 aE.l0 bar k m1 s0 width1 count2 x32 x32_1 x32_2 true:=by kernel_rfl
theorem aO.f_eq (bar:aF)(k:Nat)(a0_0:List UInt8)(a0_1:Bool)(a1:Int):aO.f bar (k+1) a0_0 a0_1 a1=
 bif (!a0_1) then
 bif (!(decide (a1<0))) then
 bif decide (a1>((a0_0).length:Int)) then
 some (([]:List UInt8),(a0_0,true))
 else
 bif decide (0≤a1)&&decide (a1≤(((a0_0).length:Nat):Int)) then
 bif decide (0≤a1)&&decide (a1≤(((a0_0).length:Nat):Int)) then
 some (List.drop 0 (List.take ((a1).toNat) a0_0),(List.drop ((a1).toNat) (List.take ((a0_0).length) a0_0),a0_1))
 else
 none
 else
 none
 else
 some (([]:List UInt8),(a0_0,true))
 else
 some (([]:List UInt8),(a0_0,true)):=by kernel_rfl
theorem bh.f_eq (bar:aF)(k:Nat)(a0:List Int)(a1:Int):bh.f bar (k+1) a0 a1=
 bh.l0 bar k k a1 0 a0 ((a0).length:Int) 0:=by kernel_rfl
theorem bh.l0_eq (bar:aF)(k:Nat)(n:Nat)(one1:Int)(out5:Int)(x8:List Int)(x9:Int)(x10:Int):bh.l0 bar k (n+1) one1 out5 x8 x9 x10=
 bif decide (x10<x9) then
 (rd x8 x10).bind fun e_1=>
 bif (e_1==one1) then
 bh.l0 bar k n one1 (IntKind.i64.wrap (out5+1)) x8 x9 (IntKind.i64.wrap (x10+1))
 else
 bh.l0 bar k n one1 out5 x8 x9 (IntKind.i64.wrap (x10+1))
 else
 some out5:=by kernel_rfl
theorem c6.f_eq (bar:aF)(k:Nat)(a0_0:List UInt8)(a0_1:Bool)(a1:Int):c6.f bar (k+1) a0_0 a0_1 a1=
 bif (a1==0) then
 (aO.f bar k a0_0 a0_1 8).bind fun r_1=>
 (dj.f bar k r_1.1).bind fun r_2=>
 (iF.f bar k r_2).bind fun r_3=>
 some (r_3,(r_1.2.1,r_1.2.2))
 else
 bif (a1==1) then
 (aO.f bar k a0_0 a0_1 1).bind fun r_4=>
 (dj.f bar k r_4.1).bind fun r_5=>
 (gw.f bar k (r_5==1)).bind fun r_6=>
 some (r_6,(r_4.2.1,r_4.2.2))
 else
 (dY.f bar k a0_0 a0_1).bind fun r_7=>
 (fu.f bar k r_7.1).bind fun r_8=>
 some (r_8,(r_7.2.1,r_7.2.2)):=by kernel_rfl
theorem az.f_eq (bar:aF)(k:Nat)(a0:List (List UInt8))(a1:List (List UInt8)):az.f bar (k+1) a0 a1=
 bif (((a0).length:Int) != ((a1).length:Int)) then
 some false
 else
 az.l0 bar k k a0 a1 0:=by kernel_rfl
theorem az.l0_eq (bar:aF)(k:Nat)(n:Nat)(a0:List (List UInt8))(b1:List (List UInt8))(i5:Int):az.l0 bar k (n+1) a0 b1 i5=
 bif decide (i5<((a0).length:Int)) then
 (rd a0 i5).bind fun e_1=>
 (rd b1 i5).bind fun e_2=>
 bif (e_1 != e_2) then
 some false
 else
 az.l0 bar k n a0 b1 (IntKind.i64.wrap (i5+1))
 else
 some true:=by kernel_rfl
theorem ay.f_eq (bar:aF)(k:Nat)(a0:List Int)(a1:List Int):ay.f bar (k+1) a0 a1=
 bif (((a0).length:Int) != ((a1).length:Int)) then
 some false
 else
 ay.l0 bar k k a0 a1 0:=by kernel_rfl
theorem ay.l0_eq (bar:aF)(k:Nat)(n:Nat)(a0:List Int)(b1:List Int)(i5:Int):ay.l0 bar k (n+1) a0 b1 i5=
 bif decide (i5<((a0).length:Int)) then
 (rd a0 i5).bind fun e_1=>
 (rd b1 i5).bind fun e_2=>
 bif (e_1 != e_2) then
 some false
 else
 ay.l0 bar k n a0 b1 (IntKind.i64.wrap (i5+1))
 else
 some true:=by kernel_rfl
theorem bm.f_eq (bar:aF)(k:Nat)(a0:List Int)(a1:Int):bm.f bar (k+1) a0 a1=
 bm.l0 bar k k a1 a0 ((a0).length:Int) 0:=by kernel_rfl
theorem bm.l0_eq (bar:aF)(k:Nat)(n:Nat)(most1:Int)(x7:List Int)(x8:Int)(x9:Int):bm.l0 bar k (n+1) most1 x7 x8 x9=
 bif decide (x9<x8) then
 (rd x7 x9).bind fun e_1=>
 bif (!(decide (e_1<0))) then
 bif decide (e_1>most1) then
 some false
 else
 bm.l0 bar k n most1 x7 x8 (IntKind.i64.wrap (x9+1))
 else
 some false
 else
 some true:=by kernel_rfl
theorem jb.f_eq (bar:aF)(k:Nat):jb.f bar (k+1)=
 some ([110]:List UInt8):=by kernel_rfl
theorem bM.f_eq (bar:aF)(k:Nat)(a0:List bu)(a1:Int)(a2:List UInt8):bM.f bar (k+1) a0 a1 a2=
 (dz.f bar k a0 a1).bind fun r_1=>
 bif (!r_1) then
 some false
 else
 (cd.f bar k a2).bind fun r_2=>
 (rd a0 a1).bind fun e_3=>
 bif (!(r_2.2.2 != 0)) then
 bif (r_2.1==(-1)) then
 bif (r_2.2.2==0) then
 some e_3.null
 else
 some false
 else
 (gg.f bar k a0 a1).bind fun r_4=>
 bif (r_2.1 != e_3.kind) then
 some false
 else
 bif (r_2.1==2) then
 bif decide (0≤0)&&decide (0<((r_2.2.1).length:Int)) then
 (r_2.2.1[0]?).bind fun e_5=>
 some (decide (((e_5).length:Int)≤16))
 else
 none
 else
 bif (r_2.1==4) then
 (eC.f bar k r_4.1 r_2.2.1 a0).bind fun r_6=>
 some r_6
 else
 bM.l1 bar k k r_2.2.1 r_2.1 ((r_2.2.1).length:Int) 0 a0 r_4.1
 else
 bif (r_2.2.2==0) then
 some e_3.null
 else
 some false:=by kernel_rfl
theorem bM.l1_eq (bar:aF)(k:Nat)(n:Nat)(x70:List (List UInt8))(kind7:Int)(x71:Int)(x72:Int)(t3:List bu)(x2011:List Int):bM.l1 bar k (n+1) x70 kind7 x71 x72 t3 x2011=
 bif decide (x72<x71) then
 (rd x70 x72).bind fun e_1=>
 bif (kind7==3) then
 bif decide (0≤0)&&decide (0<((x2011).length:Int)) then
 (x2011[0]?).bind fun e_2=>
 (sJ.f bar k e_2 e_1 t3).bind fun r_3=>
 bif (!r_3) then
 some false
 else
 bM.l1 bar k n x70 kind7 x71 (IntKind.i64.wrap (x72+1)) t3 x2011
 else
 none
 else
 bM.l1 bar k n x70 kind7 x71 (IntKind.i64.wrap (x72+1)) t3 x2011
 else
 some (decide (((x70).length:Int)≤64)):=by kernel_rfl
theorem dz.f_eq (bar:aF)(k:Nat)(a0:List bu)(a1:Int):dz.f bar (k+1) a0 a1=
 (aQ.f bar k a0).bind fun r_1=>
 bif r_1 then
 bif decide (a1≥0) then
 some (decide (a1<((a0).length:Int)))
 else
 some false
 else
 some false:=by kernel_rfl
theorem bC.f_eq (bar:aF)(k:Nat)(a0:List bu)(a1:Int):bC.f bar (k+1) a0 a1=
 bC.l0 bar k k a0 a1 ([]:List Int):=by kernel_rfl
theorem bC.l0_eq (bar:aF)(k:Nat)(n:Nat)(t0:List bu)(at_1:Int)(x2005:List Int):bC.l0 bar k (n+1) t0 at_1 x2005=
 bif decide (at_1≥0) then
 bif decide (((x2005).length+(([at_1]:List Int)).length)*8≤140737488355328) then
 (rd t0 at_1).bind fun e_1=>
 bC.l0 bar k n t0 e_1.parent (x2005++([at_1]:List Int))
 else
 none
 else
 some x2005:=by kernel_rfl
theorem aU.f_eq (bar:aF)(k:Nat)(a0:List Int)(a1:Int):aU.f bar (k+1) a0 a1=
 (ee.f bar k a0 a1).bind fun r_1=>
 bif (!r_1) then
 some (([]:List UInt8),2100)
 else
 aU.l0 bar k k a0 a1 ([]:List Int):=by kernel_rfl
theorem aU.l0_eq (bar:aF)(k:Nat)(n:Nat)(xs0:List Int)(width1:Int)(out6:List Int):aU.l0 bar k (n+1) xs0 width1 out6=
 bif decide (((xs0).length:Int)>0) then
 (aY.f bar k xs0).bind fun r_1=>
 bif decide (r_1≥8) then
 (bA.f bar k (IntKind.i64.wrap (2*r_1))).bind fun r_2=>
 (rd xs0 0).bind fun e_3=>
 (dA.f bar k width1).bind fun r_4=>
 (cq.f bar k e_3 r_4).bind fun r_5=>
 bif decide ((r_2.1).length+(r_5).length≤9223372036854775807) then
 bif decide ((out6).length+(r_2.1++r_5).length≤140737488355328) then
 bif decide (0≤r_1)&&decide (r_1≤(((xs0).length:Nat):Int)) then
 aU.l0 bar k n (List.drop ((r_1).toNat) (List.take ((xs0).length) xs0)) width1 (out6++ac (r_2.1++r_5))
 else
 none
 else
 none
 else
 none
 else
 (aX.f bar k xs0).bind fun r_6=>
 (bA.f bar k (IntKind.i64.wrap ((IntKind.i64.wrap (2*(IntKind.i64.wrap (Int.tdiv (IntKind.i64.wrap ((IntKind.i64.wrap (r_6+8)) - 1)) 8))))+1))).bind fun r_7=>
 bif decide (0≤r_6)&&decide (r_6≤(((xs0).length:Nat):Int)) then
 (aI.f bar k (List.drop 0 (List.take ((r_6).toNat) xs0)) width1).bind fun r_8=>
 bif decide ((r_7.1).length+(r_8).length≤9223372036854775807) then
 bif decide ((out6).length+(r_7.1++r_8).length≤140737488355328) then
 bif decide (0≤r_6)&&decide (r_6≤(((xs0).length:Nat):Int)) then
 aU.l0 bar k n (List.drop ((r_6).toNat) (List.take ((xs0).length) xs0)) width1 (out6++ac (r_7.1++r_8))
 else
 none
 else
 none
 else
 none
 else
 none
 else
 some (ab out6,0):=by kernel_rfl
theorem cd.f_eq (bar:aF)(k:Nat)(a0:List UInt8):cd.f bar (k+1) a0=
 bif decide (((a0).length:Int)>65536) then
 some (0,([]:List (List UInt8)),700)
 else
 (aJ.f bar k a0 false 0).bind fun r_1=>
 bif (!r_1.2.2) then
 bif (r_1.2.1 != ([]:List UInt8)) then
 some (0,([]:List (List UInt8)),700)
 else
 some (r_1.1.1,r_1.1.2,0)
 else
 some (0,([]:List (List UInt8)),700):=by kernel_rfl
theorem cC.f_eq (bar:aF)(k:Nat)(a0:List UInt8):cC.f bar (k+1) a0=
 kr a0:=by kernel_rfl
theorem ey.f_eq (bar:aF)(k:Nat)(a0:Int):ey.f bar (k+1) a0=
 bif (!(a0==3)) then
 some (a0==4)
 else
 some true:=by kernel_rfl
theorem mi.f_eq (bar:aF)(k:Nat)(a0:List UInt8)(a1:Int)(a2:Int):mi.f bar (k+1) a0 a1 a2=
 bif (a2 != 4) then
 bif (!(a2 != 8)) then
 bif (!(decide (a1<0))) then
 bif (!(decide (a1>((a0).length:Int)))) then
 bif decide ((IntKind.i64.wrap (((a0).length:Int) - a1))<a2) then
 some (0,300)
 else
 bif decide (0≤IntKind.i64.wrap (a1+a2))&&decide (IntKind.i64.wrap (a1+a2)≤(((a0).length:Nat):Int)) then
 bif decide (0≤a1)&&decide (a1≤(((IntKind.i64.wrap (a1+a2)).toNat:Nat):Int)) then
 (dj.f bar k (List.drop ((a1).toNat) (List.take ((IntKind.i64.wrap (a1+a2)).toNat) a0))).bind fun r_1=>
 bif (a2==4) then
 (gJ.f bar k r_1).bind fun r_2=>
 bif (!r_2) then
 some (0,300)
 else
 some (r_1,0)
 else
 some (r_1,0)
 else
 none
 else
 none
 else
 some (0,300)
 else
 some (0,300)
 else
 some (0,300)
 else
 bif (!(decide (a1<0))) then
 bif (!(decide (a1>((a0).length:Int)))) then
 bif decide ((IntKind.i64.wrap (((a0).length:Int) - a1))<a2) then
 some (0,300)
 else
 bif decide (0≤IntKind.i64.wrap (a1+a2))&&decide (IntKind.i64.wrap (a1+a2)≤(((a0).length:Nat):Int)) then
 bif decide (0≤a1)&&decide (a1≤(((IntKind.i64.wrap (a1+a2)).toNat:Nat):Int)) then
 (dj.f bar k (List.drop ((a1).toNat) (List.take ((IntKind.i64.wrap (a1+a2)).toNat) a0))).bind fun r_3=>
 bif (a2==4) then
 (gJ.f bar k r_3).bind fun r_4=>
 bif (!r_4) then
 some (0,300)
 else
 some (r_3,0)
 else
 some (r_3,0)
 else
 none
 else
 none
 else
 some (0,300)
 else
 some (0,300):=by kernel_rfl
theorem bX.f_eq (bar:aF)(k:Nat)(a0:List UInt8)(a1:Int):bX.f bar (k+1) a0 a1=
 bif (!(decide (a1<0))) then
 bif decide (a1>((a0).length:Int)) then
 some (0,0,300)
 else
 bX.l0 bar k k a0 a1 0 0
 else
 some (0,0,300):=by kernel_rfl
theorem bX.l0_eq (bar:aF)(k:Nat)(n:Nat)(s0:List UInt8)(at_1:Int)(x7:Int)(i8:Int):bX.l0 bar k (n+1) s0 at_1 x7 i8=
 bif decide (i8<5) then
 bif decide ((IntKind.i64.wrap (at_1+i8))<((s0).length:Int)) then
 (rd s0 (IntKind.i64.wrap (at_1+i8))).bind fun b_1=>
 bif decide (IntKind.i64.wrap (7*i8)<0) then
 none
 else
 bif decide ((b_1.toNat:Int)≥128) then
 bX.l0 bar k n s0 at_1 (ax .or .i64 x7 (IntKind.i64.wrap ((IntKind.i64.wrap (Int.tmod (b_1.toNat:Int) 128))*2 ^ (min (IntKind.i64.wrap (7*i8)).toNat IntKind.i64.bits)))) (IntKind.i64.wrap (i8+1))
 else
 (bA.f bar k (ax .or .i64 x7 (IntKind.i64.wrap ((IntKind.i64.wrap (Int.tmod (b_1.toNat:Int) 128))*2 ^ (min (IntKind.i64.wrap (7*i8)).toNat IntKind.i64.bits))))).bind fun r_2=>
 bif (!(r_2.2 != 0)) then
 bif decide (0≤IntKind.i64.wrap ((IntKind.i64.wrap (at_1+i8))+1))&&decide (IntKind.i64.wrap ((IntKind.i64.wrap (at_1+i8))+1)≤(((s0).length:Nat):Int)) then
 bif decide (0≤at_1)&&decide (at_1≤(((IntKind.i64.wrap ((IntKind.i64.wrap (at_1+i8))+1)).toNat:Nat):Int)) then
 bif (r_2.1 != (List.drop ((at_1).toNat) (List.take ((IntKind.i64.wrap ((IntKind.i64.wrap (at_1+i8))+1)).toNat) s0))) then
 some (0,0,300)
 else
 some (ax .or .i64 x7 (IntKind.i64.wrap ((IntKind.i64.wrap (Int.tmod (b_1.toNat:Int) 128))*2 ^ (min (IntKind.i64.wrap (7*i8)).toNat IntKind.i64.bits))),IntKind.i64.wrap ((IntKind.i64.wrap (at_1+i8))+1),0)
 else
 none
 else
 none
 else
 some (0,0,300)
 else
 some (0,0,300)
 else
 some (0,0,300):=by kernel_rfl
theorem cY.f_eq (bar:aF)(k:Nat)(a0_0:List UInt8)(a0_1:Int)(a0_2:List Int)(a0_3:Bool)(a1:Int)(a2:Int):cY.f bar (k+1) a0_0 a0_1 a0_2 a0_3 a1 a2=
 (dA.f bar k a0_1).bind fun r_1=>
 (ba.f bar k a0_0 a0_1 a0_2 a0_3 r_1).bind fun r_2=>
 (dj.f bar k r_2.1).bind fun r_3=>
 bif (!r_2.2.2.2.2) then
 bif (!(decide (a1>a2))) then
 (ai.f bar k ([r_3]:List Int) a1).bind fun r_4=>
 bif decide (((r_2.2.2.2.1).length+(r_4).length)*8≤140737488355328) then
 some (r_2.2.1,r_2.2.2.1,r_2.2.2.2.1++r_4,decide (a1>a2))
 else
 none
 else
 some (r_2.2.1,r_2.2.2.1,r_2.2.2.2.1,decide (a1>a2))
 else
 some (r_2.2.1,r_2.2.2.1,r_2.2.2.2.1,true):=by kernel_rfl
theorem af.f_eq (bar:aF)(k:Nat)(a0_0:List UInt8)(a0_1:Int)(a0_2:List Int)(a0_3:Bool)(a1:Int)(a2:Int):af.f bar (k+1) a0_0 a0_1 a0_2 a0_3 a1 a2=
 bif decide (a1>(IntKind.i64.wrap (Int.tdiv (IntKind.i64.wrap ((IntKind.i64.wrap (a2+8)) - 1)) 8))) then
 some (a0_0,a0_1,a0_2,true)
 else
 (ba.f bar k a0_0 a0_1 a0_2 a0_3 (IntKind.i64.wrap (a1*a0_1))).bind fun r_1=>
 af.l0 bar k k r_1.1 (bif decide (a2<(IntKind.i64.wrap (a1*8))) then a2 else IntKind.i64.wrap (a1*8)) 0 r_1.2.1 r_1.2.2.1 r_1.2.2.2.1 r_1.2.2.2.2:=by kernel_rfl
theorem af.l0_eq (bar:aF)(k:Nat)(n:Nat)(s6:List UInt8)(x30:Int)(x31:Int)(x1000:List UInt8)(x1000_1:Int)(x1000_2:List Int)(x1000_3:Bool):af.l0 bar k (n+1) s6 x30 x31 x1000 x1000_1 x1000_2 x1000_3=
 bif decide (x31<x30) then
 af.l2 bar k n k s6 x31 0 x30 x1000_1 0 x1000 x1000_2 x1000_3
 else
 some (x1000,x1000_1,x1000_2,x1000_3):=by kernel_rfl
theorem af.l2_eq (bar:aF)(k:Nat)(m1:Nat)(n:Nat)(s6:List UInt8)(i7:Int)(x8:Int)(x30:Int)(x37:Int)(x38:Int)(x1000:List UInt8)(x1000_1:List Int)(x1000_2:Bool):af.l2 bar k m1 (n+1) s6 i7 x8 x30 x37 x38 x1000 x1000_1 x1000_2=
 bif decide (x38<x37) then
 bif (!x1000_2) then
 (mE.f bar k s6 (IntKind.i64.wrap ((IntKind.i64.wrap (i7*x37))+x38))).bind fun r_1=>
 bif r_1 then
 bif decide (x38<0) then
 none
 else
 af.l2 bar k m1 n s6 i7 (ax .or .i64 x8 (IntKind.i64.wrap (1*2 ^ (min (x38).toNat IntKind.i64.bits)))) x30 x37 (IntKind.i64.wrap (x38+1)) x1000 x1000_1 x1000_2
 else
 af.l2 bar k m1 n s6 i7 x8 x30 x37 (IntKind.i64.wrap (x38+1)) x1000 x1000_1 x1000_2
 else
 af.l2 bar k m1 n s6 i7 x8 x30 x37 (IntKind.i64.wrap (x38+1)) x1000 x1000_1 x1000_2
 else
 bif decide (((x1000_1).length+(([x8]:List Int)).length)*8≤140737488355328) then
 af.l0 bar k m1 s6 x30 (IntKind.i64.wrap (i7+1)) x1000 x37 (x1000_1++([x8]:List Int)) x1000_2
 else
 none:=by kernel_rfl
theorem iF.f_eq (bar:aF)(k:Nat)(a0:Int):iF.f bar (k+1) a0=
 (strconv_Itoa.f bar k a0).bind fun r_1=>
 bif decide ((([105]:List UInt8)).length+(r_1).length≤9223372036854775807) then
 bif decide ((([105]:List UInt8)++r_1).length+(([59]:List UInt8)).length≤9223372036854775807) then
 some ((([105]:List UInt8)++r_1)++([59]:List UInt8))
 else
 none
 else
 none:=by kernel_rfl
theorem gw.f_eq (bar:aF)(k:Nat)(a0:Bool):gw.f bar (k+1) a0=
 bif a0 then
 some ([116]:List UInt8)
 else
 some ([102]:List UInt8):=by kernel_rfl
theorem fu.f_eq (bar:aF)(k:Nat)(a0:List UInt8):fu.f bar (k+1) a0=
 (strconv_Itoa.f bar k ((a0).length:Int)).bind fun r_1=>
 bif decide ((([115]:List UInt8)).length+(r_1).length≤9223372036854775807) then
 bif decide ((([115]:List UInt8)++r_1).length+(([58]:List UInt8)).length≤9223372036854775807) then
 bif decide (((([115]:List UInt8)++r_1)++([58]:List UInt8)).length+(a0).length≤9223372036854775807) then
 some (((([115]:List UInt8)++r_1)++([58]:List UInt8))++a0)
 else
 none
 else
 none
 else
 none:=by kernel_rfl
theorem dY.f_eq (bar:aF)(k:Nat)(a0_0:List UInt8)(a0_1:Bool):dY.f bar (k+1) a0_0 a0_1=
 (a7.f bar k a0_0 a0_1).bind fun r_1=>
 (aO.f bar k r_1.2.1 r_1.2.2 r_1.1).bind fun r_2=>
 some (r_2.1,(r_2.2.1,r_2.2.2)):=by kernel_rfl
theorem gg.f_eq (bar:aF)(k:Nat)(a0:List bu)(a1:Int):gg.f bar (k+1) a0 a1=
 (dz.f bar k a0 a1).bind fun r_1=>
 bif (!r_1) then
 some (([]:List Int),500)
 else
 (bj.f bar k a0 a1).bind fun r_2=>
 some (r_2,0):=by kernel_rfl
theorem aQ.f_eq (bar:aF)(k:Nat)(a0:List bu):aQ.f bar (k+1) a0=
 bif (!(((a0).length:Int)==0)) then
 bif decide (((a0).length:Int)>8) then
 some false
 else
 aQ.l0 bar k k a0 ((a0).length:Int) 0
 else
 some false:=by kernel_rfl
theorem aQ.l0_eq (bar:aF)(k:Nat)(n:Nat)(x19:List bu)(x20:Int)(x21:Int):aQ.l0 bar k (n+1) x19 x20 x21=
 bif decide (x21<x20) then
 (rd x19 x21).bind fun e_1=>
 bif (!(decide (e_1.kind<0))) then
 bif (!(decide (e_1.kind>4))) then
 (eG.f bar k x19 x21).bind fun r_2=>
 bif (!r_2) then
 some false
 else
 aQ.l0 bar k n x19 x20 (IntKind.i64.wrap (x21+1))
 else
 some false
 else
 some false
 else
 aQ.l2 bar k k x19 ((x19).length:Int) 0:=by kernel_rfl
theorem aQ.l2_eq (bar:aF)(k:Nat)(n:Nat)(x41:List bu)(x42:Int)(x43:Int):aQ.l2 bar k (n+1) x41 x42 x43=
 bif decide (x43<x42) then
 (rd x41 x43).bind fun e_1=>
 (bj.f bar k x41 x43).bind fun r_2=>
 bif (e_1.kind==3) then
 bif (!(((r_2).length:Int) != 1)) then
 bif (e_1.kind==4) then
 bif (!(((r_2).length:Int)==0)) then
 (bC.f bar k x41 x43).bind fun r_3=>
 bif decide (((r_3).length:Int)>5) then
 some false
 else
 aQ.l2 bar k n x41 x42 (IntKind.i64.wrap (x43+1))
 else
 some false
 else
 (bC.f bar k x41 x43).bind fun r_4=>
 bif decide (((r_4).length:Int)>5) then
 some false
 else
 aQ.l2 bar k n x41 x42 (IntKind.i64.wrap (x43+1))
 else
 some false
 else
 bif (e_1.kind==4) then
 bif (!(((r_2).length:Int)==0)) then
 (bC.f bar k x41 x43).bind fun r_5=>
 bif decide (((r_5).length:Int)>5) then
 some false
 else
 aQ.l2 bar k n x41 x42 (IntKind.i64.wrap (x43+1))
 else
 some false
 else
 (bC.f bar k x41 x43).bind fun r_6=>
 bif decide (((r_6).length:Int)>5) then
 some false
 else
 aQ.l2 bar k n x41 x42 (IntKind.i64.wrap (x43+1))
 else
 some true:=by kernel_rfl
theorem ee.f_eq (bar:aF)(k:Nat)(a0:List Int)(a1:Int):ee.f bar (k+1) a0 a1=
 bif decide (a1≥0) then
 bif decide (a1≤16) then
 bif decide (((a0).length:Int)≤4096) then
 (aL.f bar k a0 a1).bind fun r_1=>
 some (!r_1)
 else
 some false
 else
 some false
 else
 some false:=by kernel_rfl
theorem aY.f_eq (bar:aF)(k:Nat)(a0:List Int):aY.f bar (k+1) a0=
 aY.l0 bar k k a0 ((a0).length:Int) 0:=by kernel_rfl
theorem aY.l0_eq (bar:aF)(k:Nat)(n:Nat)(xs0:List Int)(x6:Int)(x7:Int):aY.l0 bar k (n+1) xs0 x6 x7=
 bif decide (x7<x6) then
 (rd xs0 x7).bind fun e_1=>
 (rd xs0 0).bind fun e_2=>
 bif (e_1 != e_2) then
 some x7
 else
 aY.l0 bar k n xs0 x6 (IntKind.i64.wrap (x7+1))
 else
 some ((xs0).length:Int):=by kernel_rfl
theorem bA.f_eq (bar:aF)(k:Nat)(a0:Int):bA.f bar (k+1) a0=
 (gJ.f bar k a0).bind fun r_1=>
 bif (!r_1) then
 some (([]:List UInt8),300)
 else
 bA.l0 bar k k a0 ([]:List Int):=by kernel_rfl
theorem bA.l0_eq (bar:aF)(k:Nat)(n:Nat)(x0:Int)(x2004:List Int):bA.l0 bar k (n+1) x0 x2004=
 bif decide (x0≥128) then
 bif decide (((x2004).length+(([ax .or .u8 (IntKind.u8.wrap x0) 128]:List Int)).length)*1≤140737488355328) then
 bA.l0 bar k n (Int.fdiv x0 (2 ^ (min 7 IntKind.i64.bits))) (x2004++([ax .or .u8 (IntKind.u8.wrap x0) 128]:List Int))
 else
 none
 else
 bif decide (((x2004).length+(([IntKind.u8.wrap x0]:List Int)).length)*1≤140737488355328) then
 some (ab (x2004++([IntKind.u8.wrap x0]:List Int)),0)
 else
 none:=by kernel_rfl
theorem dA.f_eq (bar:aF)(k:Nat)(a0:Int):dA.f bar (k+1) a0=
 some (IntKind.i64.wrap (Int.tdiv (IntKind.i64.wrap (a0+7)) 8)):=by kernel_rfl
theorem aX.f_eq (bar:aF)(k:Nat)(a0:List Int):aX.f bar (k+1) a0=
 aX.l0 bar k k a0 0:=by kernel_rfl
end Go.Proofs.YtjkokaockhecnaaGreatDoorA
