/- Each function and each loop of the program answers as its equation says; no condition. -/
import Derived.Test.YtjkokaockhecnaaGreatDoorFns
namespace Go.Proofs.YtjkokaockhecnaaGreatDoorA
open Go
set_option linter.unusedVariables false
theorem ff.f_eq (bar:aD)(k:Nat)(a0:List bc)(a1:Int)(a2:Col)(a3:List UInt8):ff.f bar (k+1) a0 a1 a2 a3=
 (de.f bar k a2).bind fun r_1=>
 (bY.f bar k a0 a1 r_1).bind fun r_2=>
 (aO.f bar k a0 a1 a2).bind fun r_3=>
 (bX.f bar k a0 a1 a3).bind fun r_4=>
 (aA.f bar k a0 a1 a3).bind fun r_5=>
 bif (!(r_2.1 != r_3.1)) then
 (eD.f bar k r_2.2).bind fun r_6=>
 bif (!(r_6 != r_3.2)) then
 (cd.f bar k (Col.mk r_4.1.1 r_4.1.2.1 r_4.1.2.2) r_5.1).bind fun r_7=>
 bif (!(!r_7)) then
 (eD.f bar k r_4.2).bind fun r_8=>
 bif (r_8 != r_5.2) then
 some false
 else
 (cn.f bar k r_4.1.1 r_4.1.2.1 r_4.1.2.2).bind fun r_9=>
 (cd.f bar k r_1 a2).bind fun r_10=>
 bif r_10 then
 (gV.f bar k).bind fun r_11=>
 some r_11
 else
 some false
 else
 some false
 else
 some false
 else
 some false:=by kernel_rfl
theorem eD.f_eq (bar:aD)(k:Nat)(a0:Int):eD.f bar (k+1) a0=
 some a0:=by kernel_rfl
theorem de.f_eq (bar:aD)(k:Nat)(a0:Col):de.f bar (k+1) a0=
 bif decide ((a0.reps).length*8≤140737488355328) then
 bif decide ((a0.defs).length*8≤140737488355328) then
 bif decide ((a0.values).length*16≤140737488355328) then
 some a0
 else
 none
 else
 none
 else
 none:=by kernel_rfl
theorem bY.f_eq (bar:aD)(k:Nat)(a0:List bc)(a1:Int)(a2:Col):bY.f bar (k+1) a0 a1 a2=
 (ey.f bar k a0 a1 a2).bind fun r_1=>
 bif (!r_1) then
 some (([]:List UInt8),2200)
 else
 (bF.f bar k a0 a1).bind fun r_2=>
 (gk.f bar k a2.reps r_2.1).bind fun r_3=>
 (gk.f bar k a2.defs r_2.2.1).bind fun r_4=>
 bY.l0 bar k k r_3 r_4 ((([((a2.reps).length:Int),((r_3).length:Int),((r_4).length:Int)]:List Int)).length:Int) 0 a2.reps a2.defs a2.values ([]:List Int) ([((a2.reps).length:Int),((r_3).length:Int),((r_4).length:Int)]:List Int):=by kernel_rfl
theorem bY.l0_eq (bar:aD)(k:Nat)(n:Nat)(reps11:List UInt8)(defs12:List UInt8)(x46:Int)(x47:Int)(c5:List Int)(c5_1:List Int)(c5_2:List (List UInt8))(body13:List Int)(x2045:List Int):bY.l0 bar k (n+1) reps11 defs12 x46 x47 c5 c5_1 c5_2 body13 x2045=
 bif decide (x47<x46) then
 bif decide (0≤x47)&&decide (x47<((x2045).length:Int)) then
 (x2045[(x47).toNat]?).bind fun e_1=>
 (dM.f bar k e_1 4).bind fun r_2=>
 bif decide ((body13).length+(r_2).length≤140737488355328) then
 bY.l0 bar k n reps11 defs12 x46 (IntKind.i64.wrap (x47+1)) c5 c5_1 c5_2 (body13++bE r_2) x2045
 else
 none
 else
 none
 else
 bif decide ((reps11).length+(defs12).length≤9223372036854775807) then
 bif decide ((body13).length+(reps11++defs12).length≤140737488355328) then
 bY.l2 bar k k c5_2 ((c5_2).length:Int) 0 (body13++bE (reps11++defs12))
 else
 none
 else
 none:=by kernel_rfl
theorem bY.l2_eq (bar:aD)(k:Nat)(n:Nat)(x60:List (List UInt8))(x61:Int)(x62:Int)(body13:List Int):bY.l2 bar k (n+1) x60 x61 x62 body13=
 bif decide (x62<x61) then
 (rd x60 x62).bind fun e_1=>
 (iq.f bar k e_1).bind fun r_2=>
 bif decide ((body13).length+(r_2).length≤140737488355328) then
 bY.l2 bar k n x60 x61 (IntKind.i64.wrap (x62+1)) (body13++bE r_2)
 else
 none
 else
 (cQ.f bar k (ag body13)).bind fun r_3=>
 (dM.f bar k r_3 4).bind fun r_4=>
 bif decide ((r_4).length+(ag body13).length≤9223372036854775807) then
 some (r_4++(ag body13),0)
 else
 none:=by kernel_rfl
theorem aO.f_eq (bar:aD)(k:Nat)(a0:List bc)(a1:Int)(a2:Col):aO.f bar (k+1) a0 a1 a2=
 (ay.f bar k a0 a1 a2).bind fun r_1=>
 bif (!r_1) then
 some (([]:List UInt8),2200)
 else
 (aE.f bar k a0 a1).bind fun r_2=>
 (dt.f bar k r_2.1).bind fun r_3=>
 (ae.f bar k a2.reps r_3).bind fun r_4=>
 (dt.f bar k r_2.2.1).bind fun r_5=>
 (ae.f bar k a2.defs r_5).bind fun r_6=>
 (aT.f bar k ((a2.reps).length:Int) 4).bind fun r_7=>
 (aT.f bar k ((r_4.1).length:Int) 4).bind fun r_8=>
 bif decide ((r_7).length+(r_8).length≤9223372036854775807) then
 (aT.f bar k ((r_6.1).length:Int) 4).bind fun r_9=>
 bif decide ((r_7++r_8).length+(r_9).length≤9223372036854775807) then
 bif decide (((r_7++r_8)++r_9).length+(r_4.1).length≤9223372036854775807) then
 bif decide ((((r_7++r_8)++r_9)++r_4.1).length+(r_6.1).length≤9223372036854775807) then
 aO.l0 bar k k ((((r_7++r_8)++r_9)++r_4.1)++r_6.1) 0 a2.reps a2.defs a2.values
 else
 none
 else
 none
 else
 none
 else
 none:=by kernel_rfl
theorem aO.l0_eq (bar:aD)(k:Nat)(n:Nat)(s15:List UInt8)(i16:Int)(c5:List Int)(c5_1:List Int)(c5_2:List (List UInt8)):aO.l0 bar k (n+1) s15 i16 c5 c5_1 c5_2=
 bif decide (i16<((c5_2).length:Int)) then
 (rd c5_2 i16).bind fun e_1=>
 (cZ.f bar k e_1).bind fun r_2=>
 bif decide ((s15).length+(r_2).length≤9223372036854775807) then
 aO.l0 bar k n (s15++r_2) (IntKind.i64.wrap (i16+1)) c5 c5_1 c5_2
 else
 none
 else
 (aJ.f bar k s15).bind fun r_3=>
 (aT.f bar k r_3 4).bind fun r_4=>
 bif decide ((r_4).length+(s15).length≤9223372036854775807) then
 some (r_4++s15,0)
 else
 none:=by kernel_rfl
theorem bX.f_eq (bar:aD)(k:Nat)(a0:List bc)(a1:Int)(a2:List UInt8):bX.f bar (k+1) a0 a1 a2=
 (ik.f bar k a0 a1).bind fun r_1=>
 bif (!(!r_1)) then
 bif decide (((a2).length:Int)<4) then
 some ((([]:List Int),([]:List Int),([]:List (List UInt8))),2200)
 else
 bif decide (0≤4)&&decide (4≤(((a2).length:Nat):Int)) then
 (eQ.f bar k (List.drop 0 (List.take 4 a2))).bind fun r_2=>
 bif decide (0≤4)&&decide (4≤(((a2).length:Nat):Int)) then
 (cQ.f bar k (List.drop 4 (List.take ((a2).length) a2))).bind fun r_3=>
 bif (r_2 != r_3) then
 some ((([]:List Int),([]:List Int),([]:List (List UInt8))),2201)
 else
 (bF.f bar k a0 a1).bind fun r_4=>
 bif decide (0≤4)&&decide (4≤(((a2).length:Nat):Int)) then
 (bW.f bar k (List.drop 4 (List.take ((a2).length) a2)) false).bind fun r_5=>
 (bW.f bar k r_5.2.1 r_5.2.2).bind fun r_6=>
 (bW.f bar k r_6.2.1 r_6.2.2).bind fun r_7=>
 (bp.f bar k r_7.2.1 r_7.2.2 r_6.1).bind fun r_8=>
 (fN.f bar k (IntKind.u64.wrap r_4.1)).bind fun r_9=>
 (aZ.f bar k r_8.1 r_9 r_5.1).bind fun r_10=>
 (bp.f bar k r_8.2.1 r_8.2.2 r_7.1).bind fun r_11=>
 (fN.f bar k (IntKind.u64.wrap r_4.2.1)).bind fun r_12=>
 (aZ.f bar k r_11.1 r_12 r_5.1).bind fun r_13=>
 (cr.f bar k r_13.1 r_4.2.1).bind fun r_14=>
 bX.l0 bar k k a1 a2 r_10.2 r_13.2 r_14 0 a0 r_10.1 r_13.1 ([]:List (List UInt8)) r_11.2.1 r_11.2.2
 else
 none
 else
 none
 else
 none
 else
 some ((([]:List Int),([]:List Int),([]:List (List UInt8))),2200):=by kernel_rfl
theorem bX.l0_eq (bar:aD)(k:Nat)(n:Nat)(leaf1:Int)(s2:List UInt8)(e16:Int)(f17:Int)(x82:Int)(x83:Int)(t3:List bc)(out15:List Int)(out15_1:List Int)(out15_2:List (List UInt8))(x48:List UInt8)(x48_1:Bool):bX.l0 bar k (n+1) leaf1 s2 e16 f17 x82 x83 t3 out15 out15_1 out15_2 x48 x48_1=
 bif decide (x83<x82) then
 bif (!x48_1) then
 (rd t3 leaf1).bind fun e_1=>
 (dj.f bar k x48 x48_1 e_1.kind).bind fun r_2=>
 bif decide (((out15_2).length+(([r_2.1]:List (List UInt8))).length)*16≤140737488355328) then
 bX.l0 bar k n leaf1 s2 e16 f17 x82 (IntKind.i64.wrap (x83+1)) t3 out15 out15_1 (out15_2++([r_2.1]:List (List UInt8))) r_2.2.1 r_2.2.2
 else
 none
 else
 bX.l0 bar k n leaf1 s2 e16 f17 x82 (IntKind.i64.wrap (x83+1)) t3 out15 out15_1 out15_2 x48 x48_1
 else
 (bY.f bar k t3 leaf1 (Col.mk out15 out15_1 out15_2)).bind fun r_3=>
 bif (!x48_1) then
 bif (!(e16 != 0)) then
 bif (!(f17 != 0)) then
 bif (!(r_3.2 != 0)) then
 bif (r_3.1 != s2) then
 some ((([]:List Int),([]:List Int),([]:List (List UInt8))),2200)
 else
 some ((out15,out15_1,out15_2),0)
 else
 some ((([]:List Int),([]:List Int),([]:List (List UInt8))),2200)
 else
 some ((([]:List Int),([]:List Int),([]:List (List UInt8))),2200)
 else
 some ((([]:List Int),([]:List Int),([]:List (List UInt8))),2200)
 else
 some ((([]:List Int),([]:List Int),([]:List (List UInt8))),2200):=by kernel_rfl
theorem aA.f_eq (bar:aD)(k:Nat)(a0:List bc)(a1:Int)(a2:List UInt8):aA.f bar (k+1) a0 a1 a2=
 (c7.f bar k a0 a1).bind fun r_1=>
 bif (!(!r_1)) then
 bif decide (((a2).length:Int)<4) then
 some ((Col.mk ([]:List Int) ([]:List Int) ([]:List (List UInt8))),2200)
 else
 bif decide (0≤4)&&decide (4≤(((a2).length:Nat):Int)) then
 (aJ.f bar k (List.drop 4 (List.take ((a2).length) a2))).bind fun r_2=>
 (aT.f bar k r_2 4).bind fun r_3=>
 bif decide (0≤4)&&decide (4≤(((a2).length:Nat):Int)) then
 bif (r_3 != (List.drop 0 (List.take 4 a2))) then
 some ((Col.mk ([]:List Int) ([]:List Int) ([]:List (List UInt8))),2201)
 else
 (cz.f bar k (List.drop 4 (List.take ((a2).length) a2)) 0 4).bind fun r_4=>
 (cz.f bar k (List.drop 4 (List.take ((a2).length) a2)) 4 4).bind fun r_5=>
 (cz.f bar k (List.drop 4 (List.take ((a2).length) a2)) 8 4).bind fun r_6=>
 bif (!(r_4.2 != 0)) then
 bif (!(r_5.2 != 0)) then
 bif (!(r_6.2 != 0)) then
 bif (!(decide (r_5.1>(IntKind.i64.wrap (((List.drop 4 (List.take ((a2).length) a2)).length:Int) - 12))))) then
 bif decide (r_6.1>(IntKind.i64.wrap ((IntKind.i64.wrap (((List.drop 4 (List.take ((a2).length) a2)).length:Int) - 12)) - r_5.1))) then
 some ((Col.mk ([]:List Int) ([]:List Int) ([]:List (List UInt8))),2200)
 else
 (aE.f bar k a0 a1).bind fun r_7=>
 bif decide (0≤IntKind.i64.wrap (12+r_5.1))&&decide (IntKind.i64.wrap (12+r_5.1)≤(((List.drop 4 (List.take ((a2).length) a2)).length:Nat):Int)) then
 bif decide (0≤12)&&decide (12≤(((IntKind.i64.wrap (12+r_5.1)).toNat:Nat):Int)) then
 (dt.f bar k r_7.1).bind fun r_8=>
 (aa.f bar k (List.drop 12 (List.take ((IntKind.i64.wrap (12+r_5.1)).toNat) (List.drop 4 (List.take ((a2).length) a2)))) r_8 r_4.1).bind fun r_9=>
 bif decide (0≤IntKind.i64.wrap ((IntKind.i64.wrap (12+r_5.1))+r_6.1))&&decide (IntKind.i64.wrap ((IntKind.i64.wrap (12+r_5.1))+r_6.1)≤(((List.drop 4 (List.take ((a2).length) a2)).length:Nat):Int)) then
 bif decide (0≤IntKind.i64.wrap (12+r_5.1))&&decide (IntKind.i64.wrap (12+r_5.1)≤(((IntKind.i64.wrap ((IntKind.i64.wrap (12+r_5.1))+r_6.1)).toNat:Nat):Int)) then
 (dt.f bar k r_7.2.1).bind fun r_10=>
 (aa.f bar k (List.drop ((IntKind.i64.wrap (12+r_5.1)).toNat) (List.take ((IntKind.i64.wrap ((IntKind.i64.wrap (12+r_5.1))+r_6.1)).toNat) (List.drop 4 (List.take ((a2).length) a2)))) r_10 r_4.1).bind fun r_11=>
 bif (!(r_9.2 != 0)) then
 bif (r_11.2 != 0) then
 some ((Col.mk ([]:List Int) ([]:List Int) ([]:List (List UInt8))),2200)
 else
 aA.l0 bar k k a1 a2 (List.drop 4 (List.take ((a2).length) a2)) r_5.1 r_6.1 r_7.2.1 0 0 a0 r_9.1 r_11.1
 else
 some ((Col.mk ([]:List Int) ([]:List Int) ([]:List (List UInt8))),2200)
 else
 none
 else
 none
 else
 none
 else
 none
 else
 some ((Col.mk ([]:List Int) ([]:List Int) ([]:List (List UInt8))),2200)
 else
 some ((Col.mk ([]:List Int) ([]:List Int) ([]:List (List UInt8))),2200)
 else
 some ((Col.mk ([]:List Int) ([]:List Int) ([]:List (List UInt8))),2200)
 else
 some ((Col.mk ([]:List Int) ([]:List Int) ([]:List (List UInt8))),2200)
 else
 none
 else
 none
 else
 some ((Col.mk ([]:List Int) ([]:List Int) ([]:List (List UInt8))),2200):=by kernel_rfl
theorem aA.l0_eq (bar:aD)(k:Nat)(n:Nat)(leaf1:Int)(s2:List UInt8)(body8:List UInt8)(r11:Int)(d13:Int)(def_16:Int)(k_20:Int)(i21:Int)(t3:List bc)(x2018:List Int)(x2019:List Int):aA.l0 bar k (n+1) leaf1 s2 body8 r11 d13 def_16 k_20 i21 t3 x2018 x2019=
 bif decide (i21<((x2019).length:Int)) then
 bif decide (0≤i21)&&decide (i21<((x2019).length:Int)) then
 (x2019[(i21).toNat]?).bind fun e_1=>
 bif (e_1==def_16) then
 aA.l0 bar k n leaf1 s2 body8 r11 d13 def_16 (IntKind.i64.wrap (k_20+1)) (IntKind.i64.wrap (i21+1)) t3 x2018 x2019
 else
 aA.l0 bar k n leaf1 s2 body8 r11 d13 def_16 k_20 (IntKind.i64.wrap (i21+1)) t3 x2018 x2019
 else
 none
 else
 (rd t3 leaf1).bind fun e_2=>
 bif decide (0≤IntKind.i64.wrap ((IntKind.i64.wrap (12+r11))+d13))&&decide (IntKind.i64.wrap ((IntKind.i64.wrap (12+r11))+d13)≤(((body8).length:Nat):Int)) then
 (ac.f bar k e_2.kind (List.drop ((IntKind.i64.wrap ((IntKind.i64.wrap (12+r11))+d13)).toNat) (List.take ((body8).length) body8)) k_20).bind fun r_3=>
 (aO.f bar k t3 leaf1 (Col.mk x2018 x2019 r_3.1)).bind fun r_4=>
 bif (!(!r_3.2)) then
 bif (!(r_4.2 != 0)) then
 bif (r_4.1 != s2) then
 some ((Col.mk ([]:List Int) ([]:List Int) ([]:List (List UInt8))),2200)
 else
 some ((Col.mk x2018 x2019 r_3.1),0)
 else
 some ((Col.mk ([]:List Int) ([]:List Int) ([]:List (List UInt8))),2200)
 else
 some ((Col.mk ([]:List Int) ([]:List Int) ([]:List (List UInt8))),2200)
 else
 none:=by kernel_rfl
theorem cd.f_eq (bar:aD)(k:Nat)(a0:Col)(a1:Col):cd.f bar (k+1) a0 a1=
 (aV.f bar k a0.reps a1.reps).bind fun r_1=>
 bif r_1 then
 (aV.f bar k a0.defs a1.defs).bind fun r_2=>
 bif r_2 then
 (aY.f bar k a0.values a1.values).bind fun r_3=>
 some r_3
 else
 some false
 else
 some false:=by kernel_rfl
theorem cn.f_eq (bar:aD)(k:Nat)(a0_0:List Int)(a0_1:List Int)(a0_2:List (List UInt8)):cn.f bar (k+1) a0_0 a0_1 a0_2=
 (aS.f bar k a0_0).bind fun r_1=>
 (aS.f bar k a0_1).bind fun r_2=>
 (a6.f bar k a0_2).bind fun r_3=>
 some ():=by kernel_rfl
theorem ey.f_eq (bar:aD)(k:Nat)(a0:List bc)(a1:Int)(a2:Col):ey.f bar (k+1) a0 a1 a2=
 (bF.f bar k a0 a1).bind fun r_1=>
 (ik.f bar k a0 a1).bind fun r_2=>
 bif (!(!r_2)) then
 bif (!(((a2.reps).length:Int) != ((a2.defs).length:Int))) then
 bif (!(decide (((a2.reps).length:Int)>4096))) then
 (cv.f bar k a2.reps r_1.1).bind fun r_3=>
 bif (!(!r_3)) then
 (cv.f bar k a2.defs r_1.2.1).bind fun r_4=>
 bif (!r_4) then
 some false
 else
 ey.l0 bar k k a1 r_1.2.1 a2.values ((a2.values).length:Int) 0 a0 a2.reps a2.defs
 else
 some false
 else
 some false
 else
 some false
 else
 some false:=by kernel_rfl
theorem ey.l0_eq (bar:aD)(k:Nat)(n:Nat)(leaf1:Int)(def_8:Int)(x53:List (List UInt8))(x54:Int)(x55:Int)(t3:List bc)(c5:List Int)(c5_1:List Int):ey.l0 bar k (n+1) leaf1 def_8 x53 x54 x55 t3 c5 c5_1=
 bif decide (x55<x54) then
 (rd x53 x55).bind fun e_1=>
 (kY.f bar k).bind fun r_2=>
 bif (!(e_1==r_2)) then
 (cY.f bar k t3 leaf1 e_1).bind fun r_3=>
 bif (!r_3) then
 some false
 else
 ey.l0 bar k n leaf1 def_8 x53 x54 (IntKind.i64.wrap (x55+1)) t3 c5 c5_1
 else
 some false
 else
 (cr.f bar k c5_1 def_8).bind fun r_4=>
 some (((x53).length:Int)==r_4):=by kernel_rfl
theorem bF.f_eq (bar:aD)(k:Nat)(a0:List bc)(a1:Int):bF.f bar (k+1) a0 a1=
 (fx.f bar k a0 a1).bind fun r_1=>
 bif (!r_1) then
 some (0,0,500)
 else
 (cJ.f bar k a0 a1).bind fun r_2=>
 bF.l0 bar k k 0 0 ((r_2).length:Int) 0 a0 r_2:=by kernel_rfl
theorem bF.l0_eq (bar:aD)(k:Nat)(n:Nat)(rep7:Int)(def_8:Int)(x17:Int)(x18:Int)(t2:List bc)(x2016:List Int):bF.l0 bar k (n+1) rep7 def_8 x17 x18 t2 x2016=
 bif decide (x18<x17) then
 bif decide (0≤x18)&&decide (x18<((x2016).length:Int)) then
 (x2016[(x18).toNat]?).bind fun e_1=>
 (rd t2 e_1).bind fun e_2=>
 bif (e_2.kind==3) then
 (rd t2 e_1).bind fun e_3=>
 bif e_3.null then
 bF.l0 bar k n (IntKind.i64.wrap (rep7+1)) (IntKind.i64.wrap ((IntKind.i64.wrap (def_8+1))+1)) x17 (IntKind.i64.wrap (x18+1)) t2 x2016
 else
 bF.l0 bar k n (IntKind.i64.wrap (rep7+1)) (IntKind.i64.wrap (def_8+1)) x17 (IntKind.i64.wrap (x18+1)) t2 x2016
 else
 (rd t2 e_1).bind fun e_4=>
 bif e_4.null then
 bF.l0 bar k n rep7 (IntKind.i64.wrap (def_8+1)) x17 (IntKind.i64.wrap (x18+1)) t2 x2016
 else
 bF.l0 bar k n rep7 def_8 x17 (IntKind.i64.wrap (x18+1)) t2 x2016
 else
 none
 else
 some (rep7,def_8,0):=by kernel_rfl
theorem gk.f_eq (bar:aD)(k:Nat)(a0:List Int)(a1:Int):gk.f bar (k+1) a0 a1=
 (fN.f bar k (IntKind.u64.wrap a1)).bind fun r_1=>
 (bZ.f bar k a0 r_1).bind fun r_2=>
 some r_2.1:=by kernel_rfl
theorem iq.f_eq (bar:aD)(k:Nat)(a0:List UInt8):iq.f bar (k+1) a0=
 (dD.f bar k a0).bind fun r_1=>
 bif (r_1.1==0) then
 bif decide (0≤0)&&decide (0<((r_1.2.1).length:Int)) then
 (r_1.2.1[0]?).bind fun e_2=>
 (dZ.f bar k e_2).bind fun r_3=>
 (dM.f bar k r_3.1 8).bind fun r_4=>
 some r_4
 else
 none
 else
 bif (r_1.1==1) then
 bif decide (0≤0)&&decide (0<((r_1.2.1).length:Int)) then
 (r_1.2.1[0]?).bind fun e_5=>
 (rd e_5 0).bind fun b_6=>
 (cr.f bar k ([IntKind.i64.wrap (b_6.toNat:Int)]:List Int) 116).bind fun r_7=>
 (dM.f bar k r_7 1).bind fun r_8=>
 some r_8
 else
 none
 else
 bif decide (0≤0)&&decide (0<((r_1.2.1).length:Int)) then
 (r_1.2.1[0]?).bind fun e_9=>
 (dM.f bar k ((e_9).length:Int) 4).bind fun r_10=>
 bif decide (0≤0)&&decide (0<((r_1.2.1).length:Int)) then
 (r_1.2.1[0]?).bind fun e_11=>
 bif decide ((r_10).length+(e_11).length≤9223372036854775807) then
 some (r_10++e_11)
 else
 none
 else
 none
 else
 none:=by kernel_rfl
theorem cQ.f_eq (bar:aD)(k:Nat)(a0:List UInt8):cQ.f bar (k+1) a0=
 cQ.l0 bar k k a0 4294967295 ((a0).length:Int) 0:=by kernel_rfl
theorem cQ.l0_eq (bar:aD)(k:Nat)(n:Nat)(s0:List UInt8)(sum3:Int)(x7:Int)(x8:Int):cQ.l0 bar k (n+1) s0 sum3 x7 x8=
 bif decide (x8<x7) then
 (rd s0 x8).bind fun b_1=>
 cQ.l2 bar k n k s0 (aB .xor .u32 sum3 (IntKind.u32.wrap (b_1.toNat:Int))) x7 x8 0
 else
 some (IntKind.i64.wrap (aB .xor .u32 sum3 4294967295)):=by kernel_rfl
theorem cQ.l2_eq (bar:aD)(k:Nat)(m1:Nat)(n:Nat)(s0:List UInt8)(sum3:Int)(x7:Int)(x8:Int)(x17:Int):cQ.l2 bar k m1 (n+1) s0 sum3 x7 x8 x17=
 bif decide (x17<8) then
 cQ.l2 bar k m1 n s0 (aB .xor .u32 (Int.fdiv sum3 (2 ^ (min 1 IntKind.u32.bits))) (IntKind.u32.wrap (3988292384*(aB .and .u32 sum3 1)))) x7 x8 (IntKind.i64.wrap (x17+1))
 else
 cQ.l0 bar k m1 s0 sum3 x7 (IntKind.i64.wrap (x8+1)):=by kernel_rfl
theorem aJ.f_eq (bar:aD)(k:Nat)(a0:List UInt8):aJ.f bar (k+1) a0=
 aJ.l0 bar k k a0 4294967295 0:=by kernel_rfl
theorem aJ.l0_eq (bar:aD)(k:Nat)(n:Nat)(s0:List UInt8)(x3:Int)(i4:Int):aJ.l0 bar k (n+1) s0 x3 i4=
 bif decide (i4<((s0).length:Int)) then
 (rd s0 i4).bind fun b_1=>
 aJ.l2 bar k n k s0 (aB .xor .u32 x3 (IntKind.u32.wrap (b_1.toNat:Int))) i4 0
 else
 some (IntKind.i64.wrap (aB .xor .u32 (IntKind.u32.max) x3)):=by kernel_rfl
theorem aJ.l2_eq (bar:aD)(k:Nat)(m1:Nat)(n:Nat)(s0:List UInt8)(x3:Int)(i4:Int)(j5:Int):aJ.l2 bar k m1 (n+1) s0 x3 i4 j5=
 bif decide (j5<8) then
 bif ((aB .and .u32 x3 1)==1) then
 aJ.l2 bar k m1 n s0 (aB .xor .u32 (Int.fdiv x3 (2 ^ (min 1 IntKind.u32.bits))) 3988292384) i4 (IntKind.i64.wrap (j5+1))
 else
 aJ.l2 bar k m1 n s0 (Int.fdiv x3 (2 ^ (min 1 IntKind.u32.bits))) i4 (IntKind.i64.wrap (j5+1))
 else
 aJ.l0 bar k m1 s0 x3 (IntKind.i64.wrap (i4+1)):=by kernel_rfl
theorem ay.f_eq (bar:aD)(k:Nat)(a0:List bc)(a1:Int)(a2:Col):ay.f bar (k+1) a0 a1 a2=
 (c7.f bar k a0 a1).bind fun r_1=>
 bif (!(!r_1)) then
 bif (!(((a2.reps).length:Int) != ((a2.defs).length:Int))) then
 bif decide (((a2.reps).length:Int)>4096) then
 some false
 else
 (aE.f bar k a0 a1).bind fun r_2=>
 ay.l0 bar k k a1 r_2.1 r_2.2.1 0 0 a0 a2.reps a2.defs a2.values
 else
 some false
 else
 some false:=by kernel_rfl
theorem ay.l0_eq (bar:aD)(k:Nat)(n:Nat)(leaf1:Int)(rep7:Int)(def_8:Int)(k_10:Int)(i11:Int)(t3:List bc)(c5:List Int)(c5_1:List Int)(c5_2:List (List UInt8)):ay.l0 bar k (n+1) leaf1 rep7 def_8 k_10 i11 t3 c5 c5_1 c5_2=
 bif decide (i11<((c5).length:Int)) then
 (rd c5 i11).bind fun e_1=>
 bif (!(decide (e_1<0))) then
 (rd c5 i11).bind fun e_2=>
 bif (!(decide (e_2>rep7))) then
 (rd c5_1 i11).bind fun e_3=>
 bif (!(decide (e_3<0))) then
 (rd c5_1 i11).bind fun e_4=>
 bif decide (e_4>def_8) then
 some false
 else
 (rd c5_1 i11).bind fun e_5=>
 bif (e_5==def_8) then
 ay.l0 bar k n leaf1 rep7 def_8 (IntKind.i64.wrap (k_10+1)) (IntKind.i64.wrap (i11+1)) t3 c5 c5_1 c5_2
 else
 ay.l0 bar k n leaf1 rep7 def_8 k_10 (IntKind.i64.wrap (i11+1)) t3 c5 c5_1 c5_2
 else
 some false
 else
 some false
 else
 some false
 else
 ay.l2 bar k k leaf1 k_10 0 t3 c5 c5_1 c5_2:=by kernel_rfl
theorem ay.l2_eq (bar:aD)(k:Nat)(n:Nat)(leaf1:Int)(k_10:Int)(i12:Int)(t3:List bc)(c5:List Int)(c5_1:List Int)(c5_2:List (List UInt8)):ay.l2 bar k (n+1) leaf1 k_10 i12 t3 c5 c5_1 c5_2=
 bif decide (i12<((c5_2).length:Int)) then
 (rd c5_2 i12).bind fun e_1=>
 bif (!(e_1==([110]:List UInt8))) then
 (rd c5_2 i12).bind fun e_2=>
 (af.f bar k t3 leaf1 e_2).bind fun r_3=>
 bif (!r_3) then
 some false
 else
 ay.l2 bar k n leaf1 k_10 (IntKind.i64.wrap (i12+1)) t3 c5 c5_1 c5_2
 else
 some false
 else
 some (k_10==((c5_2).length:Int)):=by kernel_rfl
theorem aE.f_eq (bar:aD)(k:Nat)(a0:List bc)(a1:Int):aE.f bar (k+1) a0 a1=
 (b6.f bar k a0 a1).bind fun r_1=>
 bif (!r_1) then
 some (0,0,500)
 else
 aE.l0 bar k k a1 0 0 a0:=by kernel_rfl
theorem aE.l0_eq (bar:aD)(k:Nat)(n:Nat)(at_1:Int)(rep7:Int)(def_8:Int)(t2:List bc):aE.l0 bar k (n+1) at_1 rep7 def_8 t2=
 bif decide (at_1≥0) then
 (rd t2 at_1).bind fun e_1=>
 bif (e_1.kind==3) then
 bar _ (aE.j8 bar k n at_1 (IntKind.i64.wrap (rep7+1)) (IntKind.i64.wrap (def_8+1)) t2)
 else
 bar _ (aE.j8 bar k n at_1 rep7 def_8 t2)
 else
 some (rep7,def_8,0):=by kernel_rfl
theorem aE.j8_eq (bar:aD)(k:Nat)(m1:Nat)(at_1:Int)(rep7:Int)(def_8:Int)(t2:List bc):aE.j8 bar k m1 at_1 rep7 def_8 t2=
 (rd t2 at_1).bind fun e_1=>
 bif e_1.null then
 (rd t2 at_1).bind fun e_2=>
 aE.l0 bar k m1 e_2.parent rep7 (IntKind.i64.wrap (def_8+1)) t2
 else
 (rd t2 at_1).bind fun e_3=>
 aE.l0 bar k m1 e_3.parent rep7 def_8 t2:=by kernel_rfl
theorem ae.f_eq (bar:aD)(k:Nat)(a0:List Int)(a1:Int):ae.f bar (k+1) a0 a1=
 bif (!(decide (a1<0))) then
 bif (!(decide (a1>16))) then
 bif decide (((a0).length:Int)>4096) then
 some (([]:List UInt8),2100)
 else
 ae.l0 bar k k a0 a1 0
 else
 some (([]:List UInt8),2100)
 else
 some (([]:List UInt8),2100):=by kernel_rfl
theorem ae.l0_eq (bar:aD)(k:Nat)(n:Nat)(xs0:List Int)(width1:Int)(i6:Int):ae.l0 bar k (n+1) xs0 width1 i6=
 bif decide (i6<((xs0).length:Int)) then
 (rd xs0 i6).bind fun e_1=>
 bif (!(decide (e_1<0))) then
 (rd xs0 i6).bind fun e_2=>
 bif decide (width1<0) then
 none
 else
 bif decide (e_2≥(IntKind.i64.wrap (1*2 ^ (min (width1).toNat IntKind.i64.bits)))) then
 some (([]:List UInt8),2100)
 else
 ae.l0 bar k n xs0 width1 (IntKind.i64.wrap (i6+1))
 else
 some (([]:List UInt8),2100)
 else
 ae.l2 bar k k xs0 width1 ([]:List UInt8) 0:=by kernel_rfl
theorem ae.l2_eq (bar:aD)(k:Nat)(n:Nat)(xs0:List Int)(width1:Int)(s7:List UInt8)(at_8:Int):ae.l2 bar k (n+1) xs0 width1 s7 at_8=
 bif decide (at_8<((xs0).length:Int)) then
 (bC.f bar k xs0 at_8).bind fun r_1=>
 bif decide (r_1≥8) then
 (aQ.f bar k (IntKind.i64.wrap (2*r_1))).bind fun r_2=>
 bif decide ((s7).length+(r_2.1).length≤9223372036854775807) then
 (rd xs0 at_8).bind fun e_3=>
 (bT.f bar k width1).bind fun r_4=>
 (aT.f bar k e_3 r_4).bind fun r_5=>
 bif decide ((s7++r_2.1).length+(r_5).length≤9223372036854775807) then
 ae.l2 bar k n xs0 width1 ((s7++r_2.1)++r_5) (IntKind.i64.wrap (at_8+r_1))
 else
 none
 else
 none
 else
 ae.l4 bar k n k xs0 width1 s7 at_8 (bif decide (((xs0).length:Int)<(IntKind.i64.wrap (at_8+8))) then ((xs0).length:Int) else IntKind.i64.wrap (at_8+8))
 else
 some (s7,0):=by kernel_rfl
theorem ae.l4_eq (bar:aD)(k:Nat)(m1:Nat)(n:Nat)(xs0:List Int)(width1:Int)(s7:List UInt8)(at_8:Int)(to12:Int):ae.l4 bar k m1 (n+1) xs0 width1 s7 at_8 to12=
 bif decide (to12<((xs0).length:Int)) then
 (bC.f bar k xs0 to12).bind fun r_1=>
 bif decide (r_1<8) then
 ae.l4 bar k m1 n xs0 width1 s7 at_8 (bif decide (((xs0).length:Int)<(IntKind.i64.wrap (to12+8))) then ((xs0).length:Int) else IntKind.i64.wrap (to12+8))
 else
 (aQ.f bar k (IntKind.i64.wrap ((IntKind.i64.wrap (2*(IntKind.i64.wrap (Int.tdiv (IntKind.i64.wrap ((IntKind.i64.wrap (to12 - at_8))+7)) 8))))+1))).bind fun r_2=>
 bif decide ((s7).length+(r_2.1).length≤9223372036854775807) then
 bif decide (0≤to12)&&decide (to12≤(((xs0).length:Nat):Int)) then
 bif decide (0≤at_8)&&decide (at_8≤(((to12).toNat:Nat):Int)) then
 (aH.f bar k (List.drop ((at_8).toNat) (List.take ((to12).toNat) xs0)) width1).bind fun r_3=>
 bif decide ((s7++r_2.1).length+(r_3).length≤9223372036854775807) then
 ae.l2 bar k m1 xs0 width1 ((s7++r_2.1)++r_3) to12
 else
 none
 else
 none
 else
 none
 else
 none
 else
 (aQ.f bar k (IntKind.i64.wrap ((IntKind.i64.wrap (2*(IntKind.i64.wrap (Int.tdiv (IntKind.i64.wrap ((IntKind.i64.wrap (to12 - at_8))+7)) 8))))+1))).bind fun r_4=>
 bif decide ((s7).length+(r_4.1).length≤9223372036854775807) then
 bif decide (0≤to12)&&decide (to12≤(((xs0).length:Nat):Int)) then
 bif decide (0≤at_8)&&decide (at_8≤(((to12).toNat:Nat):Int)) then
 (aH.f bar k (List.drop ((at_8).toNat) (List.take ((to12).toNat) xs0)) width1).bind fun r_5=>
 bif decide ((s7++r_4.1).length+(r_5).length≤9223372036854775807) then
 ae.l2 bar k m1 xs0 width1 ((s7++r_4.1)++r_5) to12
 else
 none
 else
 none
 else
 none
 else
 none:=by kernel_rfl
theorem cZ.f_eq (bar:aD)(k:Nat)(a0:List UInt8):cZ.f bar (k+1) a0=
 (ah.f bar k a0).bind fun r_1=>
 bif (r_1.1==0) then
 (dn.f bar k a0).bind fun r_2=>
 some r_2
 else
 bif (a0==([116]:List UInt8)) then
 some ([1]:List UInt8)
 else
 bif (a0==([102]:List UInt8)) then
 some ([0]:List UInt8)
 else
 bif decide (0≤0)&&decide (0<((r_1.2.1).length:Int)) then
 (r_1.2.1[0]?).bind fun e_3=>
 (aT.f bar k ((e_3).length:Int) 4).bind fun r_4=>
 bif decide (0≤0)&&decide (0<((r_1.2.1).length:Int)) then
 (r_1.2.1[0]?).bind fun e_5=>
 bif decide ((r_4).length+(e_5).length≤9223372036854775807) then
 some (r_4++e_5)
 else
 none
 else
 none
 else
 none:=by kernel_rfl
theorem ik.f_eq (bar:aD)(k:Nat)(a0:List bc)(a1:Int):ik.f bar (k+1) a0 a1=
 (fx.f bar k a0 a1).bind fun r_1=>
 bif r_1 then
 (rd a0 a1).bind fun e_2=>
 (gy.f bar k e_2.kind).bind fun r_3=>
 some (!r_3)
 else
 some false:=by kernel_rfl
theorem eQ.f_eq (bar:aD)(k:Nat)(a0:List UInt8):eQ.f bar (k+1) a0=
 eQ.l0 bar k k a0 0 ((a0).length:Int) 0:=by kernel_rfl
theorem eQ.l0_eq (bar:aD)(k:Nat)(n:Nat)(s0:List UInt8)(out3:Int)(x6:Int)(x7:Int):eQ.l0 bar k (n+1) s0 out3 x6 x7=
 bif decide (x7<x6) then
 (rd s0 x7).bind fun b_1=>
 bif decide (IntKind.i64.wrap (8*x7)<0) then
 none
 else
 eQ.l0 bar k n s0 (aB .or .u64 out3 (IntKind.u64.wrap ((IntKind.u64.wrap (b_1.toNat:Int))*2 ^ (min (IntKind.i64.wrap (8*x7)).toNat IntKind.u64.bits)))) x6 (IntKind.i64.wrap (x7+1))
 else
 some (IntKind.i64.wrap out3):=by kernel_rfl
theorem bW.f_eq (bar:aD)(k:Nat)(a0_0:List UInt8)(a0_1:Bool):bW.f bar (k+1) a0_0 a0_1=
 (qh.f bar k a0_0 0 4).bind fun r_1=>
 bif (!a0_1) then
 (bp.f bar k a0_0 (r_1.2 != 0) 4).bind fun r_2=>
 some (r_1.1,(r_2.2.1,r_2.2.2))
 else
 (bp.f bar k a0_0 true 4).bind fun r_3=>
 some (r_1.1,(r_3.2.1,r_3.2.2)):=by kernel_rfl
theorem aZ.f_eq (bar:aD)(k:Nat)(a0:List UInt8)(a1:Int)(a2:Int):aZ.f bar (k+1) a0 a1 a2=
 bif (!(decide (a1<0))) then
 bif (!(decide (a1>16))) then
 bif (!(decide (a2<0))) then
 bif decide (a2>4096) then
 some (([]:List Int),2100)
 else
 aZ.l0 bar k k a0 a1 a2 a0 a1 ([]:List Int) false
 else
 some (([]:List Int),2100)
 else
 some (([]:List Int),2100)
 else
 some (([]:List Int),2100):=by kernel_rfl
theorem aZ.l0_eq (bar:aD)(k:Nat)(n:Nat)(s0:List UInt8)(width1:Int)(count2:Int)(x32:List UInt8)(x32_1:Int)(x32_2:List Int)(x32_3:Bool):aZ.l0 bar k (n+1) s0 width1 count2 x32 x32_1 x32_2 x32_3=
 bif (!x32_3) then
 bif decide (((x32_2).length:Int)<count2) then
 (di.f bar k x32 0).bind fun r_1=>
 bif decide (0≤r_1.2.1)&&decide (r_1.2.1≤(((x32).length:Nat):Int)) then
 bif ((Int.tmod r_1.1 2)==0) then
 (eA.f bar k (List.drop ((r_1.2.1).toNat) (List.take ((x32).length) x32)) x32_1 x32_2 (r_1.2.2 != 0) (IntKind.i64.wrap (Int.tdiv r_1.1 2)) (IntKind.i64.wrap (count2 - ((x32_2).length:Int)))).bind fun r_2=>
 bar _ (aZ.j12 bar k n s0 width1 count2 r_1.1 r_2.1 r_2.2.1 r_2.2.2.1 r_2.2.2.2)
 else
 (ap.f bar k (List.drop ((r_1.2.1).toNat) (List.take ((x32).length) x32)) x32_1 x32_2 (r_1.2.2 != 0) (IntKind.i64.wrap (Int.tdiv r_1.1 2)) (IntKind.i64.wrap (count2 - ((x32_2).length:Int)))).bind fun r_3=>
 bar _ (aZ.j12 bar k n s0 width1 count2 r_1.1 r_3.1 r_3.2.1 r_3.2.2.1 r_3.2.2.2)
 else
 none
 else
 (bZ.f bar k x32_2 width1).bind fun r_4=>
 bif (!x32_3) then
 bif (!(r_4.2 != 0)) then
 bif (!(r_4.1 != s0)) then
 bif (((x32_2).length:Int) != count2) then
 some (([]:List Int),2100)
 else
 some (x32_2,0)
 else
 some (([]:List Int),2100)
 else
 some (([]:List Int),2100)
 else
 some (([]:List Int),2100)
 else
 (bZ.f bar k x32_2 width1).bind fun r_5=>
 bif (!x32_3) then
 bif (!(r_5.2 != 0)) then
 bif (!(r_5.1 != s0)) then
 bif (((x32_2).length:Int) != count2) then
 some (([]:List Int),2100)
 else
 some (x32_2,0)
 else
 some (([]:List Int),2100)
 else
 some (([]:List Int),2100)
 else
 some (([]:List Int),2100):=by kernel_rfl
theorem aZ.j12_eq (bar:aD)(k:Nat)(m1:Nat)(s0:List UInt8)(width1:Int)(count2:Int)(head9:Int)(x32:List UInt8)(x32_1:Int)(x32_2:List Int)(x32_3:Bool):aZ.j12 bar k m1 s0 width1 count2 head9 x32 x32_1 x32_2 x32_3=
 bif (!x32_3) then
 aZ.l0 bar k m1 s0 width1 count2 x32 x32_1 x32_2 (decide (head9<2))
 else
 aZ.l0 bar k m1 s0 width1 count2 x32 x32_1 x32_2 true:=by kernel_rfl
theorem bp.f_eq (bar:aD)(k:Nat)(a0_0:List UInt8)(a0_1:Bool)(a1:Int):bp.f bar (k+1) a0_0 a0_1 a1=
 bif (!a0_1) then
 bif (!(decide (a1<0))) then
 bif decide (a1>((a0_0).length:Int)) then
 some (([]:List UInt8),(a0_0,true))
 else
 bif decide (0≤a1)&&decide (a1≤(((a0_0).length:Nat):Int)) then
 bif decide (0≤a1)&&decide (a1≤(((a0_0).length:Nat):Int)) then
 some (List.drop 0 (List.take ((a1).toNat) a0_0),(List.drop ((a1).toNat) (List.take ((a0_0).length) a0_0),a0_1))
 else
 none
 else
 none
 else
 some (([]:List UInt8),(a0_0,true))
 else
 some (([]:List UInt8),(a0_0,true)):=by kernel_rfl
theorem cr.f_eq (bar:aD)(k:Nat)(a0:List Int)(a1:Int):cr.f bar (k+1) a0 a1=
 cr.l0 bar k k a1 0 a0 ((a0).length:Int) 0:=by kernel_rfl
theorem cr.l0_eq (bar:aD)(k:Nat)(n:Nat)(one1:Int)(out5:Int)(x8:List Int)(x9:Int)(x10:Int):cr.l0 bar k (n+1) one1 out5 x8 x9 x10=
 bif decide (x10<x9) then
 (rd x8 x10).bind fun e_1=>
 bif (e_1==one1) then
 cr.l0 bar k n one1 (IntKind.i64.wrap (out5+1)) x8 x9 (IntKind.i64.wrap (x10+1))
 else
 cr.l0 bar k n one1 out5 x8 x9 (IntKind.i64.wrap (x10+1))
 else
 some out5:=by kernel_rfl
theorem dj.f_eq (bar:aD)(k:Nat)(a0_0:List UInt8)(a0_1:Bool)(a1:Int):dj.f bar (k+1) a0_0 a0_1 a1=
 bif (a1==0) then
 (bp.f bar k a0_0 a0_1 8).bind fun r_1=>
 (eQ.f bar k r_1.1).bind fun r_2=>
 (kD.f bar k r_2).bind fun r_3=>
 some (r_3,(r_1.2.1,r_1.2.2))
 else
 bif (a1==1) then
 (bp.f bar k a0_0 a0_1 1).bind fun r_4=>
 (eQ.f bar k r_4.1).bind fun r_5=>
 (jq.f bar k (r_5==1)).bind fun r_6=>
 some (r_6,(r_4.2.1,r_4.2.2))
 else
 (eY.f bar k a0_0 a0_1).bind fun r_7=>
 (gi.f bar k r_7.1).bind fun r_8=>
 some (r_8,(r_7.2.1,r_7.2.2)):=by kernel_rfl
theorem c7.f_eq (bar:aD)(k:Nat)(a0:List bc)(a1:Int):c7.f bar (k+1) a0 a1=
 (b6.f bar k a0 a1).bind fun r_1=>
 bif r_1 then
 (rd a0 a1).bind fun e_2=>
 (cX.f bar k e_2.kind).bind fun r_3=>
 some r_3
 else
 some false:=by kernel_rfl
theorem cz.f_eq (bar:aD)(k:Nat)(a0:List UInt8)(a1:Int)(a2:Int):cz.f bar (k+1) a0 a1 a2=
 bif (a2 != 4) then
 bif (!(a2 != 8)) then
 bif (!(decide (a1<0))) then
 bif decide (a1>(IntKind.i64.wrap (((a0).length:Int) - a2))) then
 some (0,300)
 else
 bif decide (0≤IntKind.i64.wrap (a1+a2))&&decide (IntKind.i64.wrap (a1+a2)≤(((a0).length:Nat):Int)) then
 bif decide (0≤a1)&&decide (a1≤(((IntKind.i64.wrap (a1+a2)).toNat:Nat):Int)) then
 (bh.f bar k (List.drop ((a1).toNat) (List.take ((IntKind.i64.wrap (a1+a2)).toNat) a0))).bind fun r_1=>
 bif (a2==4) then
 (dE.f bar k r_1).bind fun r_2=>
 bif (!r_2) then
 some (0,300)
 else
 some (r_1,0)
 else
 some (r_1,0)
 else
 none
 else
 none
 else
 some (0,300)
 else
 some (0,300)
 else
 bif (!(decide (a1<0))) then
 bif decide (a1>(IntKind.i64.wrap (((a0).length:Int) - a2))) then
 some (0,300)
 else
 bif decide (0≤IntKind.i64.wrap (a1+a2))&&decide (IntKind.i64.wrap (a1+a2)≤(((a0).length:Nat):Int)) then
 bif decide (0≤a1)&&decide (a1≤(((IntKind.i64.wrap (a1+a2)).toNat:Nat):Int)) then
 (bh.f bar k (List.drop ((a1).toNat) (List.take ((IntKind.i64.wrap (a1+a2)).toNat) a0))).bind fun r_3=>
 bif (a2==4) then
 (dE.f bar k r_3).bind fun r_4=>
 bif (!r_4) then
 some (0,300)
 else
 some (r_3,0)
 else
 some (r_3,0)
 else
 none
 else
 none
 else
 some (0,300):=by kernel_rfl
theorem aa.f_eq (bar:aD)(k:Nat)(a0:List UInt8)(a1:Int)(a2:Int):aa.f bar (k+1) a0 a1 a2=
 bif (!(decide (a1<0))) then
 bif (!(decide (a1>16))) then
 bif (!(decide (a2<0))) then
 bif decide (a2>4096) then
 some (([]:List Int),2100)
 else
 aa.l0 bar k k a0 a1 a2 0 ([]:List Int)
 else
 some (([]:List Int),2100)
 else
 some (([]:List Int),2100)
 else
 some (([]:List Int),2100):=by kernel_rfl
theorem aa.l0_eq (bar:aD)(k:Nat)(n:Nat)(s0:List UInt8)(width1:Int)(count2:Int)(at_9:Int)(x2008:List Int):aa.l0 bar k (n+1) s0 width1 count2 at_9 x2008=
 bif decide (at_9<((s0).length:Int)) then
 bif decide (((x2008).length:Int)<count2) then
 (bb.f bar k s0 at_9).bind fun r_1=>
 bif (r_1.2.2 != 0) then
 some (([]:List Int),2100)
 else
 (bT.f bar k width1).bind fun r_2=>
 bif ((aB .and .i64 r_1.1 1)==1) then
 bar _ (aa.j13 bar k n s0 width1 count2 r_1.1 r_1.2.1 (IntKind.i64.wrap (8*(IntKind.i64.wrap (Int.tdiv r_1.1 2)))) (IntKind.i64.wrap ((IntKind.i64.wrap (Int.tdiv r_1.1 2))*width1)) x2008)
 else
 bar _ (aa.j13 bar k n s0 width1 count2 r_1.1 r_1.2.1 (IntKind.i64.wrap (Int.tdiv r_1.1 2)) r_2 x2008)
 else
 (ae.f bar k x2008 width1).bind fun r_3=>
 bif (!(r_3.2 != 0)) then
 bif (!(r_3.1 != s0)) then
 bif (((x2008).length:Int) != count2) then
 some (([]:List Int),2100)
 else
 some (x2008,0)
 else
 some (([]:List Int),2100)
 else
 some (([]:List Int),2100)
 else
 (ae.f bar k x2008 width1).bind fun r_4=>
 bif (!(r_4.2 != 0)) then
 bif (!(r_4.1 != s0)) then
 bif (((x2008).length:Int) != count2) then
 some (([]:List Int),2100)
 else
 some (x2008,0)
 else
 some (([]:List Int),2100)
 else
 some (([]:List Int),2100):=by kernel_rfl
theorem aa.j13_eq (bar:aD)(k:Nat)(m1:Nat)(s0:List UInt8)(width1:Int)(count2:Int)(head10:Int)(to11:Int)(k_13:Int)(size14:Int)(x2008:List Int):aa.j13 bar k m1 s0 width1 count2 head10 to11 k_13 size14 x2008=
 bif (!(decide (k_13>4104))) then
 bif decide (size14>(IntKind.i64.wrap (((s0).length:Int) - to11))) then
 some (([]:List Int),2100)
 else
 aa.l2 bar k m1 k s0 width1 count2 head10 to11 k_13 size14 0 x2008
 else
 some (([]:List Int),2100):=by kernel_rfl
theorem aa.l2_eq (bar:aD)(k:Nat)(m1:Nat)(n:Nat)(s0:List UInt8)(width1:Int)(count2:Int)(head10:Int)(to11:Int)(k_13:Int)(size14:Int)(i15:Int)(x2008:List Int):aa.l2 bar k m1 (n+1) s0 width1 count2 head10 to11 k_13 size14 i15 x2008=
 bif decide (i15<k_13) then
 bif decide (((x2008).length:Int)<count2) then
 bif ((aB .and .i64 head10 1)==0) then
 bif decide (0≤IntKind.i64.wrap (to11+size14))&&decide (IntKind.i64.wrap (to11+size14)≤(((s0).length:Nat):Int)) then
 bif decide (0≤to11)&&decide (to11≤(((IntKind.i64.wrap (to11+size14)).toNat:Nat):Int)) then
 (bh.f bar k (List.drop ((to11).toNat) (List.take ((IntKind.i64.wrap (to11+size14)).toNat) s0))).bind fun r_1=>
 bar _ (aa.j21 bar k m1 n s0 width1 count2 head10 to11 k_13 size14 i15 r_1 x2008)
 else
 none
 else
 none
 else
 bar _ (aa.j21 bar k m1 n s0 width1 count2 head10 to11 k_13 size14 i15 0 x2008)
 else
 aa.l0 bar k m1 s0 width1 count2 (IntKind.i64.wrap (to11+size14)) x2008
 else
 aa.l0 bar k m1 s0 width1 count2 (IntKind.i64.wrap (to11+size14)) x2008:=by kernel_rfl
theorem aa.j21_eq (bar:aD)(k:Nat)(m1:Nat)(m2:Nat)(s0:List UInt8)(width1:Int)(count2:Int)(head10:Int)(to11:Int)(k_13:Int)(size14:Int)(i15:Int)(x16:Int)(x2008:List Int):aa.j21 bar k m1 m2 s0 width1 count2 head10 to11 k_13 size14 i15 x16 x2008=
 aa.l4 bar k m1 m2 k s0 width1 count2 head10 to11 k_13 size14 i15 x16 0 x2008:=by kernel_rfl
theorem aa.l4_eq (bar:aD)(k:Nat)(m1:Nat)(m2:Nat)(n:Nat)(s0:List UInt8)(width1:Int)(count2:Int)(head10:Int)(to11:Int)(k_13:Int)(size14:Int)(i15:Int)(x16:Int)(j17:Int)(x2008:List Int):aa.l4 bar k m1 m2 (n+1) s0 width1 count2 head10 to11 k_13 size14 i15 x16 j17 x2008=
 bif decide (j17<width1) then
 bif ((aB .and .i64 head10 1)==1) then
 bif decide (0≤IntKind.i64.wrap (to11+size14))&&decide (IntKind.i64.wrap (to11+size14)≤(((s0).length:Nat):Int)) then
 bif decide (0≤to11)&&decide (to11≤(((IntKind.i64.wrap (to11+size14)).toNat:Nat):Int)) then
 (eB.f bar k (List.drop ((to11).toNat) (List.take ((IntKind.i64.wrap (to11+size14)).toNat) s0)) (IntKind.i64.wrap ((IntKind.i64.wrap (i15*width1))+j17))).bind fun r_1=>
 bif r_1 then
 bif decide (j17<0) then
 none
 else
 aa.l4 bar k m1 m2 n s0 width1 count2 head10 to11 k_13 size14 i15 (aB .or .i64 x16 (IntKind.i64.wrap (1*2 ^ (min (j17).toNat IntKind.i64.bits)))) (IntKind.i64.wrap (j17+1)) x2008
 else
 aa.l4 bar k m1 m2 n s0 width1 count2 head10 to11 k_13 size14 i15 x16 (IntKind.i64.wrap (j17+1)) x2008
 else
 none
 else
 none
 else
 bif decide (((x2008).length+(([x16]:List Int)).length)*8≤140737488355328) then
 aa.l2 bar k m1 m2 s0 width1 count2 head10 to11 k_13 size14 (IntKind.i64.wrap (i15+1)) (x2008++([x16]:List Int))
 else
 none
 else
 bif decide (((x2008).length+(([x16]:List Int)).length)*8≤140737488355328) then
 aa.l2 bar k m1 m2 s0 width1 count2 head10 to11 k_13 size14 (IntKind.i64.wrap (i15+1)) (x2008++([x16]:List Int))
 else
 none:=by kernel_rfl
theorem ac.f_eq (bar:aD)(k:Nat)(a0:Int)(a1:List UInt8)(a2:Int):ac.f bar (k+1) a0 a1 a2=
 ac.l0 bar k k a0 a1 a2 0 0 ([]:List (List UInt8)):=by kernel_rfl
theorem ac.l0_eq (bar:aD)(k:Nat)(n:Nat)(kind0:Int)(s1:List UInt8)(count2:Int)(at_9:Int)(i10:Int)(x2008:List (List UInt8)):ac.l0 bar k (n+1) kind0 s1 count2 at_9 i10 x2008=
 bif decide (i10<count2) then
 bif (kind0==0) then
 bar _ (ac.j9 bar k n kind0 s1 count2 at_9 i10 8 x2008)
 else
 bar _ (ac.j9 bar k n kind0 s1 count2 at_9 i10 1 x2008)
 else
 some (x2008,(at_9==((s1).length:Int))):=by kernel_rfl
theorem ac.j9_eq (bar:aD)(k:Nat)(m1:Nat)(kind0:Int)(s1:List UInt8)(count2:Int)(at_9:Int)(i10:Int)(size11:Int)(x2008:List (List UInt8)):ac.j9 bar k m1 kind0 s1 count2 at_9 i10 size11 x2008=
 bif (kind0==2) then
 (cz.f bar k s1 at_9 4).bind fun r_1=>
 bif (r_1.2 != 0) then
 some (([]:List (List UInt8)),false)
 else
 bar _ (ac.j15 bar k m1 kind0 s1 count2 (IntKind.i64.wrap (at_9+4)) i10 r_1.1 x2008)
 else
 bar _ (ac.j15 bar k m1 kind0 s1 count2 at_9 i10 size11 x2008):=by kernel_rfl
theorem ac.j15_eq (bar:aD)(k:Nat)(m1:Nat)(kind0:Int)(s1:List UInt8)(count2:Int)(at_9:Int)(i10:Int)(size11:Int)(x2008:List (List UInt8)):ac.j15 bar k m1 kind0 s1 count2 at_9 i10 size11 x2008=
 bif decide (size11>(IntKind.i64.wrap (((s1).length:Int) - at_9))) then
 some (([]:List (List UInt8)),false)
 else
 bif decide (0≤IntKind.i64.wrap (at_9+size11))&&decide (IntKind.i64.wrap (at_9+size11)≤(((s1).length:Nat):Int)) then
 bif decide (0≤at_9)&&decide (at_9≤(((IntKind.i64.wrap (at_9+size11)).toNat:Nat):Int)) then
 bif (kind0==0) then
 (bh.f bar k (List.drop ((at_9).toNat) (List.take ((IntKind.i64.wrap (at_9+size11)).toNat) s1))).bind fun r_1=>
 (fu.f bar k r_1).bind fun r_2=>
 bif decide (((x2008).length+(([r_2]:List (List UInt8))).length)*16≤140737488355328) then
 ac.l0 bar k m1 kind0 s1 count2 (IntKind.i64.wrap (at_9+size11)) (IntKind.i64.wrap (i10+1)) (x2008++([r_2]:List (List UInt8)))
 else
 none
 else
 bif (kind0==1) then
 (eZ.f bar k ((List.drop ((at_9).toNat) (List.take ((IntKind.i64.wrap (at_9+size11)).toNat) s1)) != ([0]:List UInt8))).bind fun r_3=>
 bif decide (((x2008).length+(([r_3]:List (List UInt8))).length)*16≤140737488355328) then
 ac.l0 bar k m1 kind0 s1 count2 (IntKind.i64.wrap (at_9+size11)) (IntKind.i64.wrap (i10+1)) (x2008++([r_3]:List (List UInt8)))
 else
 none
 else
 (eC.f bar k (List.drop ((at_9).toNat) (List.take ((IntKind.i64.wrap (at_9+size11)).toNat) s1))).bind fun r_4=>
 bif decide (((x2008).length+(([r_4]:List (List UInt8))).length)*16≤140737488355328) then
 ac.l0 bar k m1 kind0 s1 count2 (IntKind.i64.wrap (at_9+size11)) (IntKind.i64.wrap (i10+1)) (x2008++([r_4]:List (List UInt8)))
 else
 none
 else
 none
 else
 none:=by kernel_rfl
theorem aY.f_eq (bar:aD)(k:Nat)(a0:List (List UInt8))(a1:List (List UInt8)):aY.f bar (k+1) a0 a1=
 bif (((a0).length:Int) != ((a1).length:Int)) then
 some false
 else
 aY.l0 bar k k a0 a1 0:=by kernel_rfl
theorem aY.l0_eq (bar:aD)(k:Nat)(n:Nat)(a0:List (List UInt8))(b1:List (List UInt8))(i5:Int):aY.l0 bar k (n+1) a0 b1 i5=
 bif decide (i5<((a0).length:Int)) then
 (rd a0 i5).bind fun e_1=>
 (rd b1 i5).bind fun e_2=>
 bif (e_1 != e_2) then
 some false
 else
 aY.l0 bar k n a0 b1 (IntKind.i64.wrap (i5+1))
 else
 some true:=by kernel_rfl
theorem aV.f_eq (bar:aD)(k:Nat)(a0:List Int)(a1:List Int):aV.f bar (k+1) a0 a1=
 bif (((a0).length:Int) != ((a1).length:Int)) then
 some false
 else
 aV.l0 bar k k a0 a1 0:=by kernel_rfl
theorem aV.l0_eq (bar:aD)(k:Nat)(n:Nat)(a0:List Int)(b1:List Int)(i5:Int):aV.l0 bar k (n+1) a0 b1 i5=
 bif decide (i5<((a0).length:Int)) then
 (rd a0 i5).bind fun e_1=>
 (rd b1 i5).bind fun e_2=>
 bif (e_1 != e_2) then
 some false
 else
 aV.l0 bar k n a0 b1 (IntKind.i64.wrap (i5+1))
 else
 some true:=by kernel_rfl
theorem a6.f_eq (bar:aD)(k:Nat)(a0:List (List UInt8)):a6.f bar (k+1) a0=
 a6.l0 bar k k 0 a0:=by kernel_rfl
theorem a6.l0_eq (bar:aD)(k:Nat)(n:Nat)(i2:Int)(x2000:List (List UInt8)):a6.l0 bar k (n+1) i2 x2000=
 bif decide (i2<((x2000).length:Int)) then
 bif decide (0≤i2)&&decide (i2<((x2000).length:Int)) then
 (x2000[(i2).toNat]?).bind fun e_1=>
 bif decide ((([126]:List UInt8)).length+(e_1).length≤9223372036854775807) then
 bif decide (0≤i2)&&decide (i2<((x2000).length:Int)) then
 (x2000[(i2).toNat]?).bind fun e_2=>
 a6.l0 bar k n (IntKind.i64.wrap (i2+1)) ((x2000).set ((i2).toNat) (([126]:List UInt8)++e_1))
 else
 none
 else
 none
 else
 none
 else
 some ():=by kernel_rfl
theorem aS.f_eq (bar:aD)(k:Nat)(a0:List Int):aS.f bar (k+1) a0=
 aS.l0 bar k k 0 a0:=by kernel_rfl
theorem aS.l0_eq (bar:aD)(k:Nat)(n:Nat)(i2:Int)(x2000:List Int):aS.l0 bar k (n+1) i2 x2000=
 bif decide (i2<((x2000).length:Int)) then
 bif decide (0≤i2)&&decide (i2<((x2000).length:Int)) then
 (x2000[(i2).toNat]?).bind fun e_1=>
 bif decide (0≤i2)&&decide (i2<((x2000).length:Int)) then
 (x2000[(i2).toNat]?).bind fun e_2=>
 aS.l0 bar k n (IntKind.i64.wrap (i2+1)) ((x2000).set ((i2).toNat) (IntKind.i64.wrap ((-9) - e_1)))
 else
 none
 else
 none
 else
 some ():=by kernel_rfl
theorem aj.f_eq (bar:aD)(k:Nat)(a0:List bc):aj.f bar (k+1) a0=
 bif (!(decide (((a0).length:Int)<1))) then
 bif (!(decide (((a0).length:Int)>8))) then
 (rd a0 0).bind fun e_1=>
 bif (e_1.parent != (-1)) then
 some false
 else
 bif (((a0).length:Int)==((a0).length:Int))&&(decide (0≤((a0).length:Int))&&decide (((a0).length:Int)*8≤140737488355328)) then
 aj.l0 bar k k 0 a0 (List.replicate (((a0).length:Int)).toNat (0:Int):List Int)
 else
 none
 else
 some false
 else
 some false:=by kernel_rfl
theorem aj.l0_eq (bar:aD)(k:Nat)(n:Nat)(i4:Int)(t1:List bc)(x2003:List Int):aj.l0 bar k (n+1) i4 t1 x2003=
 bif decide (i4<((t1).length:Int)) then
 (rd t1 i4).bind fun e_1=>
 (bB.f bar k e_1.kind 0 4).bind fun r_2=>
 bif (!r_2) then
 some false
 else
 (bA.f bar k t1 i4).bind fun r_3=>
 (cX.f bar k e_1.kind).bind fun r_4=>
 bif r_4 then
 bif (!(decide (((r_3).length:Int)>0))) then
 bif (e_1.kind==3) then
 bif (!(((r_3).length:Int) != 1)) then
 bif (e_1.kind==4) then
 bif decide (((r_3).length:Int)<1) then
 some false
 else
 bif (i4==0) then
 aj.l0 bar k n (IntKind.i64.wrap (i4+1)) t1 x2003
 else
 (bB.f bar k e_1.parent 0 (IntKind.i64.wrap (i4 - 1))).bind fun r_5=>
 bif (!(!r_5)) then
 bif decide (0≤e_1.parent)&&decide (e_1.parent<((x2003).length:Int)) then
 (x2003[(e_1.parent).toNat]?).bind fun e_6=>
 bif decide (e_6≥4) then
 some false
 else
 bif decide (0≤e_1.parent)&&decide (e_1.parent<((x2003).length:Int)) then
 (x2003[(e_1.parent).toNat]?).bind fun e_7=>
 bif decide (0≤i4)&&decide (i4<((x2003).length:Int)) then
 (x2003[(i4).toNat]?).bind fun e_8=>
 aj.l0 bar k n (IntKind.i64.wrap (i4+1)) t1 ((x2003).set ((i4).toNat) (IntKind.i64.wrap (e_7+1)))
 else
 none
 else
 none
 else
 none
 else
 some false
 else
 bif (i4==0) then
 aj.l0 bar k n (IntKind.i64.wrap (i4+1)) t1 x2003
 else
 (bB.f bar k e_1.parent 0 (IntKind.i64.wrap (i4 - 1))).bind fun r_9=>
 bif (!(!r_9)) then
 bif decide (0≤e_1.parent)&&decide (e_1.parent<((x2003).length:Int)) then
 (x2003[(e_1.parent).toNat]?).bind fun e_10=>
 bif decide (e_10≥4) then
 some false
 else
 bif decide (0≤e_1.parent)&&decide (e_1.parent<((x2003).length:Int)) then
 (x2003[(e_1.parent).toNat]?).bind fun e_11=>
 bif decide (0≤i4)&&decide (i4<((x2003).length:Int)) then
 (x2003[(i4).toNat]?).bind fun e_12=>
 aj.l0 bar k n (IntKind.i64.wrap (i4+1)) t1 ((x2003).set ((i4).toNat) (IntKind.i64.wrap (e_11+1)))
 else
 none
 else
 none
 else
 none
 else
 some false
 else
 some false
 else
 bif (e_1.kind==4) then
 bif decide (((r_3).length:Int)<1) then
 some false
 else
 bif (i4==0) then
 aj.l0 bar k n (IntKind.i64.wrap (i4+1)) t1 x2003
 else
 (bB.f bar k e_1.parent 0 (IntKind.i64.wrap (i4 - 1))).bind fun r_13=>
 bif (!(!r_13)) then
 bif decide (0≤e_1.parent)&&decide (e_1.parent<((x2003).length:Int)) then
 (x2003[(e_1.parent).toNat]?).bind fun e_14=>
 bif decide (e_14≥4) then
 some false
 else
 bif decide (0≤e_1.parent)&&decide (e_1.parent<((x2003).length:Int)) then
 (x2003[(e_1.parent).toNat]?).bind fun e_15=>
 bif decide (0≤i4)&&decide (i4<((x2003).length:Int)) then
 (x2003[(i4).toNat]?).bind fun e_16=>
 aj.l0 bar k n (IntKind.i64.wrap (i4+1)) t1 ((x2003).set ((i4).toNat) (IntKind.i64.wrap (e_15+1)))
 else
 none
 else
 none
 else
 none
 else
 some false
 else
 bif (i4==0) then
 aj.l0 bar k n (IntKind.i64.wrap (i4+1)) t1 x2003
 else
 (bB.f bar k e_1.parent 0 (IntKind.i64.wrap (i4 - 1))).bind fun r_17=>
 bif (!(!r_17)) then
 bif decide (0≤e_1.parent)&&decide (e_1.parent<((x2003).length:Int)) then
 (x2003[(e_1.parent).toNat]?).bind fun e_18=>
 bif decide (e_18≥4) then
 some false
 else
 bif decide (0≤e_1.parent)&&decide (e_1.parent<((x2003).length:Int)) then
 (x2003[(e_1.parent).toNat]?).bind fun e_19=>
 bif decide (0≤i4)&&decide (i4<((x2003).length:Int)) then
 (x2003[(i4).toNat]?).bind fun e_20=>
 aj.l0 bar k n (IntKind.i64.wrap (i4+1)) t1 ((x2003).set ((i4).toNat) (IntKind.i64.wrap (e_19+1)))
 else
 none
 else
 none
 else
 none
 else
 some false
 else
 some false
 else
 bif (e_1.kind==3) then
 bif (!(((r_3).length:Int) != 1)) then
 bif (e_1.kind==4) then
 bif decide (((r_3).length:Int)<1) then
 some false
 else
 bif (i4==0) then
 aj.l0 bar k n (IntKind.i64.wrap (i4+1)) t1 x2003
 else
 (bB.f bar k e_1.parent 0 (IntKind.i64.wrap (i4 - 1))).bind fun r_21=>
 bif (!(!r_21)) then
 bif decide (0≤e_1.parent)&&decide (e_1.parent<((x2003).length:Int)) then
 (x2003[(e_1.parent).toNat]?).bind fun e_22=>
 bif decide (e_22≥4) then
 some false
 else
 bif decide (0≤e_1.parent)&&decide (e_1.parent<((x2003).length:Int)) then
 (x2003[(e_1.parent).toNat]?).bind fun e_23=>
 bif decide (0≤i4)&&decide (i4<((x2003).length:Int)) then
 (x2003[(i4).toNat]?).bind fun e_24=>
 aj.l0 bar k n (IntKind.i64.wrap (i4+1)) t1 ((x2003).set ((i4).toNat) (IntKind.i64.wrap (e_23+1)))
 else
 none
 else
 none
 else
 none
 else
 some false
 else
 bif (i4==0) then
 aj.l0 bar k n (IntKind.i64.wrap (i4+1)) t1 x2003
 else
 (bB.f bar k e_1.parent 0 (IntKind.i64.wrap (i4 - 1))).bind fun r_25=>
 bif (!(!r_25)) then
 bif decide (0≤e_1.parent)&&decide (e_1.parent<((x2003).length:Int)) then
 (x2003[(e_1.parent).toNat]?).bind fun e_26=>
 bif decide (e_26≥4) then
 some false
 else
 bif decide (0≤e_1.parent)&&decide (e_1.parent<((x2003).length:Int)) then
 (x2003[(e_1.parent).toNat]?).bind fun e_27=>
 bif decide (0≤i4)&&decide (i4<((x2003).length:Int)) then
 (x2003[(i4).toNat]?).bind fun e_28=>
 aj.l0 bar k n (IntKind.i64.wrap (i4+1)) t1 ((x2003).set ((i4).toNat) (IntKind.i64.wrap (e_27+1)))
 else
 none
 else
 none
 else
 none
 else
 some false
 else
 some false
 else
 bif (e_1.kind==4) then
 bif decide (((r_3).length:Int)<1) then
 some false
 else
 bif (i4==0) then
 aj.l0 bar k n (IntKind.i64.wrap (i4+1)) t1 x2003
 else
 (bB.f bar k e_1.parent 0 (IntKind.i64.wrap (i4 - 1))).bind fun r_29=>
 bif (!(!r_29)) then
 bif decide (0≤e_1.parent)&&decide (e_1.parent<((x2003).length:Int)) then
 (x2003[(e_1.parent).toNat]?).bind fun e_30=>
 bif decide (e_30≥4) then
 some false
 else
 bif decide (0≤e_1.parent)&&decide (e_1.parent<((x2003).length:Int)) then
 (x2003[(e_1.parent).toNat]?).bind fun e_31=>
 bif decide (0≤i4)&&decide (i4<((x2003).length:Int)) then
 (x2003[(i4).toNat]?).bind fun e_32=>
 aj.l0 bar k n (IntKind.i64.wrap (i4+1)) t1 ((x2003).set ((i4).toNat) (IntKind.i64.wrap (e_31+1)))
 else
 none
 else
 none
 else
 none
 else
 some false
 else
 bif (i4==0) then
 aj.l0 bar k n (IntKind.i64.wrap (i4+1)) t1 x2003
 else
 (bB.f bar k e_1.parent 0 (IntKind.i64.wrap (i4 - 1))).bind fun r_33=>
 bif (!(!r_33)) then
 bif decide (0≤e_1.parent)&&decide (e_1.parent<((x2003).length:Int)) then
 (x2003[(e_1.parent).toNat]?).bind fun e_34=>
 bif decide (e_34≥4) then
 some false
 else
 bif decide (0≤e_1.parent)&&decide (e_1.parent<((x2003).length:Int)) then
 (x2003[(e_1.parent).toNat]?).bind fun e_35=>
 bif decide (0≤i4)&&decide (i4<((x2003).length:Int)) then
 (x2003[(i4).toNat]?).bind fun e_36=>
 aj.l0 bar k n (IntKind.i64.wrap (i4+1)) t1 ((x2003).set ((i4).toNat) (IntKind.i64.wrap (e_35+1)))
 else
 none
 else
 none
 else
 none
 else
 some false
 else
 some true:=by kernel_rfl
end Go.Proofs.YtjkokaockhecnaaGreatDoorA
