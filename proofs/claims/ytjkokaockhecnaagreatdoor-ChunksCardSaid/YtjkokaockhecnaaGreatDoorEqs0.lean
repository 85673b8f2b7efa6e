/- Each function and each loop of the program answers as its equation says; no condition. -/
import Derived.Test.YtjkokaockhecnaaGreatDoorFns
namespace Go.Proofs.YtjkokaockhecnaaGreatDoorA
open Go
set_option linter.unusedVariables false
theorem fl.f_eq (bar:aC)(k:Nat)(a0:List aT)(a1:Int)(a2:Col)(a3:Int)(a4:List (List UInt8)):fl.f bar (k+1) a0 a1 a2 a3 a4=
 (dw.f bar k a2).bind fun r_1=>
 (dI.f bar k a4).bind fun r_2=>
 (bC.f bar k a0 a1 r_1 a3).bind fun r_3=>
 (aB.f bar k a0 a1 a2 a3).bind fun r_4=>
 (bm.f bar k a0 a1 r_2.1).bind fun r_5=>
 (bO.f bar k a0 a1 a4).bind fun r_6=>
 (aH.f bar k r_3.1 r_4.1).bind fun r_7=>
 bif (!(!r_7)) then
 (ct.f bar k r_3.2).bind fun r_8=>
 bif (!(r_8 != r_4.2)) then
 (bF.f bar k (Col.mk r_5.1.1 r_5.1.2.1 r_5.1.2.2) r_6.1).bind fun r_9=>
 bif (!(!r_9)) then
 (ct.f bar k r_5.2).bind fun r_10=>
 bif (r_10 != r_6.2) then
 some false
 else
 (aM.f bar k r_3.1).bind fun r_11=>
 (cw.f bar k r_5.1.1 r_5.1.2.1 r_5.1.2.2).bind fun r_12=>
 (bF.f bar k r_1 a2).bind fun r_13=>
 bif r_13 then
 (dH.f bar k (r_2.1,r_2.2) a4).bind fun r_14=>
 bif r_14 then
 (eE.f bar k).bind fun r_15=>
 some r_15
 else
 some false
 else
 some false
 else
 some false
 else
 some false
 else
 some false:=by kernel_rfl
theorem ct.f_eq (bar:aC)(k:Nat)(a0:Int):ct.f bar (k+1) a0=
 some a0:=by kernel_rfl
theorem dw.f_eq (bar:aC)(k:Nat)(a0:Col):dw.f bar (k+1) a0=
 bif decide ((a0.reps).length*8≤140737488355328) then
 bif decide ((a0.defs).length*8≤140737488355328) then
 bif decide ((a0.values).length*16≤140737488355328) then
 some a0
 else
 none
 else
 none
 else
 none:=by kernel_rfl
theorem cb.f_eq (bar:aC)(k:Nat)(a0:List aT)(a1:Int)(a2:Col):cb.f bar (k+1) a0 a1 a2=
 (eg.f bar k a0 a1 a2).bind fun r_1=>
 bif (!r_1) then
 some (([]:List UInt8),2200)
 else
 (bz.f bar k a0 a1).bind fun r_2=>
 (gV.f bar k a2.reps r_2.1).bind fun r_3=>
 (gV.f bar k a2.defs r_2.2.1).bind fun r_4=>
 cb.l0 bar k k r_3 r_4 ((([((a2.reps).length:Int),((r_3).length:Int),((r_4).length:Int)]:List Int)).length:Int) 0 a2.reps a2.defs a2.values ([]:List Int) ([((a2.reps).length:Int),((r_3).length:Int),((r_4).length:Int)]:List Int):=by kernel_rfl
theorem cb.l0_eq (bar:aC)(k:Nat)(n:Nat)(reps11:List UInt8)(defs12:List UInt8)(x46:Int)(x47:Int)(c5:List Int)(c5_1:List Int)(c5_2:List (List UInt8))(body13:List Int)(x2045:List Int):cb.l0 bar k (n+1) reps11 defs12 x46 x47 c5 c5_1 c5_2 body13 x2045=
 bif decide (x47<x46) then
 bif decide (0≤x47)&&decide (x47<((x2045).length:Int)) then
 (x2045[(x47).toNat]?).bind fun e_1=>
 (dZ.f bar k e_1 4).bind fun r_2=>
 bif decide ((body13).length+(r_2).length≤140737488355328) then
 cb.l0 bar k n reps11 defs12 x46 (IntKind.i64.wrap (x47+1)) c5 c5_1 c5_2 (body13++bK r_2) x2045
 else
 none
 else
 none
 else
 bif decide ((reps11).length+(defs12).length≤9223372036854775807) then
 bif decide ((body13).length+(reps11++defs12).length≤140737488355328) then
 cb.l2 bar k k c5_2 ((c5_2).length:Int) 0 (body13++bK (reps11++defs12))
 else
 none
 else
 none:=by kernel_rfl
theorem cb.l2_eq (bar:aC)(k:Nat)(n:Nat)(x60:List (List UInt8))(x61:Int)(x62:Int)(body13:List Int):cb.l2 bar k (n+1) x60 x61 x62 body13=
 bif decide (x62<x61) then
 (rd x60 x62).bind fun e_1=>
 (iR.f bar k e_1).bind fun r_2=>
 bif decide ((body13).length+(r_2).length≤140737488355328) then
 cb.l2 bar k n x60 x61 (IntKind.i64.wrap (x62+1)) (body13++bK r_2)
 else
 none
 else
 (dk.f bar k (ag body13)).bind fun r_3=>
 (dZ.f bar k r_3 4).bind fun r_4=>
 bif decide ((r_4).length+(ag body13).length≤9223372036854775807) then
 some (r_4++(ag body13),0)
 else
 none:=by kernel_rfl
theorem aQ.f_eq (bar:aC)(k:Nat)(a0:List aT)(a1:Int)(a2:Col):aQ.f bar (k+1) a0 a1 a2=
 (ax.f bar k a0 a1 a2).bind fun r_1=>
 bif (!r_1) then
 some (([]:List UInt8),2200)
 else
 (aD.f bar k a0 a1).bind fun r_2=>
 (dK.f bar k r_2.1).bind fun r_3=>
 (ae.f bar k a2.reps r_3).bind fun r_4=>
 (dK.f bar k r_2.2.1).bind fun r_5=>
 (ae.f bar k a2.defs r_5).bind fun r_6=>
 (aY.f bar k ((a2.reps).length:Int) 4).bind fun r_7=>
 (aY.f bar k ((r_4.1).length:Int) 4).bind fun r_8=>
 bif decide ((r_7).length+(r_8).length≤9223372036854775807) then
 (aY.f bar k ((r_6.1).length:Int) 4).bind fun r_9=>
 bif decide ((r_7++r_8).length+(r_9).length≤9223372036854775807) then
 bif decide (((r_7++r_8)++r_9).length+(r_4.1).length≤9223372036854775807) then
 bif decide ((((r_7++r_8)++r_9)++r_4.1).length+(r_6.1).length≤9223372036854775807) then
 aQ.l0 bar k k ((((r_7++r_8)++r_9)++r_4.1)++r_6.1) 0 a2.reps a2.defs a2.values
 else
 none
 else
 none
 else
 none
 else
 none:=by kernel_rfl
theorem aQ.l0_eq (bar:aC)(k:Nat)(n:Nat)(s15:List UInt8)(i16:Int)(c5:List Int)(c5_1:List Int)(c5_2:List (List UInt8)):aQ.l0 bar k (n+1) s15 i16 c5 c5_1 c5_2=
 bif decide (i16<((c5_2).length:Int)) then
 (rd c5_2 i16).bind fun e_1=>
 (dd.f bar k e_1).bind fun r_2=>
 bif decide ((s15).length+(r_2).length≤9223372036854775807) then
 aQ.l0 bar k n (s15++r_2) (IntKind.i64.wrap (i16+1)) c5 c5_1 c5_2
 else
 none
 else
 (aN.f bar k s15).bind fun r_3=>
 (aY.f bar k r_3 4).bind fun r_4=>
 bif decide ((r_4).length+(s15).length≤9223372036854775807) then
 some (r_4++s15,0)
 else
 none:=by kernel_rfl
theorem b6.f_eq (bar:aC)(k:Nat)(a0:List aT)(a1:Int)(a2:List UInt8):b6.f bar (k+1) a0 a1 a2=
 (f7.f bar k a0 a1).bind fun r_1=>
 bif (!(!r_1)) then
 bif decide (((a2).length:Int)<4) then
 some ((([]:List Int),([]:List Int),([]:List (List UInt8))),2200)
 else
 bif decide (0≤4)&&decide (4≤(((a2).length:Nat):Int)) then
 (fq.f bar k (List.drop 0 (List.take 4 a2))).bind fun r_2=>
 bif decide (0≤4)&&decide (4≤(((a2).length:Nat):Int)) then
 (dk.f bar k (List.drop 4 (List.take ((a2).length) a2))).bind fun r_3=>
 bif (r_2 != r_3) then
 some ((([]:List Int),([]:List Int),([]:List (List UInt8))),2201)
 else
 (bz.f bar k a0 a1).bind fun r_4=>
 bif decide (0≤4)&&decide (4≤(((a2).length:Nat):Int)) then
 (ca.f bar k (List.drop 4 (List.take ((a2).length) a2)) false).bind fun r_5=>
 (ca.f bar k r_5.2.1 r_5.2.2).bind fun r_6=>
 (ca.f bar k r_6.2.1 r_6.2.2).bind fun r_7=>
 (bD.f bar k r_7.2.1 r_7.2.2 r_6.1).bind fun r_8=>
 (gv.f bar k (IntKind.u64.wrap r_4.1)).bind fun r_9=>
 (bc.f bar k r_8.1 r_9 r_5.1).bind fun r_10=>
 (bD.f bar k r_8.2.1 r_8.2.2 r_7.1).bind fun r_11=>
 (gv.f bar k (IntKind.u64.wrap r_4.2.1)).bind fun r_12=>
 (bc.f bar k r_11.1 r_12 r_5.1).bind fun r_13=>
 (cD.f bar k r_13.1 r_4.2.1).bind fun r_14=>
 b6.l0 bar k k a1 a2 r_10.2 r_13.2 r_14 0 a0 r_10.1 r_13.1 ([]:List (List UInt8)) r_11.2.1 r_11.2.2
 else
 none
 else
 none
 else
 none
 else
 some ((([]:List Int),([]:List Int),([]:List (List UInt8))),2200):=by kernel_rfl
theorem b6.l0_eq (bar:aC)(k:Nat)(n:Nat)(leaf1:Int)(s2:List UInt8)(e16:Int)(f17:Int)(x82:Int)(x83:Int)(t3:List aT)(out15:List Int)(out15_1:List Int)(out15_2:List (List UInt8))(x48:List UInt8)(x48_1:Bool):b6.l0 bar k (n+1) leaf1 s2 e16 f17 x82 x83 t3 out15 out15_1 out15_2 x48 x48_1=
 bif decide (x83<x82) then
 bif (!x48_1) then
 (rd t3 leaf1).bind fun e_1=>
 (dB.f bar k x48 x48_1 e_1.kind).bind fun r_2=>
 bif decide (((out15_2).length+(([r_2.1]:List (List UInt8))).length)*16≤140737488355328) then
 b6.l0 bar k n leaf1 s2 e16 f17 x82 (IntKind.i64.wrap (x83+1)) t3 out15 out15_1 (out15_2++([r_2.1]:List (List UInt8))) r_2.2.1 r_2.2.2
 else
 none
 else
 b6.l0 bar k n leaf1 s2 e16 f17 x82 (IntKind.i64.wrap (x83+1)) t3 out15 out15_1 out15_2 x48 x48_1
 else
 (cb.f bar k t3 leaf1 (Col.mk out15 out15_1 out15_2)).bind fun r_3=>
 bif (!x48_1) then
 bif (!(e16 != 0)) then
 bif (!(f17 != 0)) then
 bif (!(r_3.2 != 0)) then
 bif (r_3.1 != s2) then
 some ((([]:List Int),([]:List Int),([]:List (List UInt8))),2200)
 else
 some ((out15,out15_1,out15_2),0)
 else
 some ((([]:List Int),([]:List Int),([]:List (List UInt8))),2200)
 else
 some ((([]:List Int),([]:List Int),([]:List (List UInt8))),2200)
 else
 some ((([]:List Int),([]:List Int),([]:List (List UInt8))),2200)
 else
 some ((([]:List Int),([]:List Int),([]:List (List UInt8))),2200):=by kernel_rfl
theorem aA.f_eq (bar:aC)(k:Nat)(a0:List aT)(a1:Int)(a2:List UInt8):aA.f bar (k+1) a0 a1 a2=
 (cE.f bar k a0 a1).bind fun r_1=>
 bif (!(!r_1)) then
 bif decide (((a2).length:Int)<4) then
 some ((Col.mk ([]:List Int) ([]:List Int) ([]:List (List UInt8))),2200)
 else
 bif decide (0≤4)&&decide (4≤(((a2).length:Nat):Int)) then
 (aN.f bar k (List.drop 4 (List.take ((a2).length) a2))).bind fun r_2=>
 (aY.f bar k r_2 4).bind fun r_3=>
 bif decide (0≤4)&&decide (4≤(((a2).length:Nat):Int)) then
 bif (r_3 != (List.drop 0 (List.take 4 a2))) then
 some ((Col.mk ([]:List Int) ([]:List Int) ([]:List (List UInt8))),2201)
 else
 (cM.f bar k (List.drop 4 (List.take ((a2).length) a2)) 0 4).bind fun r_4=>
 (cM.f bar k (List.drop 4 (List.take ((a2).length) a2)) 4 4).bind fun r_5=>
 (cM.f bar k (List.drop 4 (List.take ((a2).length) a2)) 8 4).bind fun r_6=>
 bif (!(r_4.2 != 0)) then
 bif (!(r_5.2 != 0)) then
 bif (!(r_6.2 != 0)) then
 bif (!(decide (r_5.1>(IntKind.i64.wrap (((List.drop 4 (List.take ((a2).length) a2)).length:Int) - 12))))) then
 bif decide (r_6.1>(IntKind.i64.wrap ((IntKind.i64.wrap (((List.drop 4 (List.take ((a2).length) a2)).length:Int) - 12)) - r_5.1))) then
 some ((Col.mk ([]:List Int) ([]:List Int) ([]:List (List UInt8))),2200)
 else
 (aD.f bar k a0 a1).bind fun r_7=>
 bif decide (0≤IntKind.i64.wrap (12+r_5.1))&&decide (IntKind.i64.wrap (12+r_5.1)≤(((List.drop 4 (List.take ((a2).length) a2)).length:Nat):Int)) then
 bif decide (0≤12)&&decide (12≤(((IntKind.i64.wrap (12+r_5.1)).toNat:Nat):Int)) then
 (dK.f bar k r_7.1).bind fun r_8=>
 (aa.f bar k (List.drop 12 (List.take ((IntKind.i64.wrap (12+r_5.1)).toNat) (List.drop 4 (List.take ((a2).length) a2)))) r_8 r_4.1).bind fun r_9=>
 bif decide (0≤IntKind.i64.wrap ((IntKind.i64.wrap (12+r_5.1))+r_6.1))&&decide (IntKind.i64.wrap ((IntKind.i64.wrap (12+r_5.1))+r_6.1)≤(((List.drop 4 (List.take ((a2).length) a2)).length:Nat):Int)) then
 bif decide (0≤IntKind.i64.wrap (12+r_5.1))&&decide (IntKind.i64.wrap (12+r_5.1)≤(((IntKind.i64.wrap ((IntKind.i64.wrap (12+r_5.1))+r_6.1)).toNat:Nat):Int)) then
 (dK.f bar k r_7.2.1).bind fun r_10=>
 (aa.f bar k (List.drop ((IntKind.i64.wrap (12+r_5.1)).toNat) (List.take ((IntKind.i64.wrap ((IntKind.i64.wrap (12+r_5.1))+r_6.1)).toNat) (List.drop 4 (List.take ((a2).length) a2)))) r_10 r_4.1).bind fun r_11=>
 bif (!(r_9.2 != 0)) then
 bif (r_11.2 != 0) then
 some ((Col.mk ([]:List Int) ([]:List Int) ([]:List (List UInt8))),2200)
 else
 aA.l0 bar k k a1 a2 (List.drop 4 (List.take ((a2).length) a2)) r_5.1 r_6.1 r_7.2.1 0 0 a0 r_9.1 r_11.1
 else
 some ((Col.mk ([]:List Int) ([]:List Int) ([]:List (List UInt8))),2200)
 else
 none
 else
 none
 else
 none
 else
 none
 else
 some ((Col.mk ([]:List Int) ([]:List Int) ([]:List (List UInt8))),2200)
 else
 some ((Col.mk ([]:List Int) ([]:List Int) ([]:List (List UInt8))),2200)
 else
 some ((Col.mk ([]:List Int) ([]:List Int) ([]:List (List UInt8))),2200)
 else
 some ((Col.mk ([]:List Int) ([]:List Int) ([]:List (List UInt8))),2200)
 else
 none
 else
 none
 else
 some ((Col.mk ([]:List Int) ([]:List Int) ([]:List (List UInt8))),2200):=by kernel_rfl
theorem aA.l0_eq (bar:aC)(k:Nat)(n:Nat)(leaf1:Int)(s2:List UInt8)(body8:List UInt8)(r11:Int)(d13:Int)(def_16:Int)(k_20:Int)(i21:Int)(t3:List aT)(x2018:List Int)(x2019:List Int):aA.l0 bar k (n+1) leaf1 s2 body8 r11 d13 def_16 k_20 i21 t3 x2018 x2019=
 bif decide (i21<((x2019).length:Int)) then
 bif decide (0≤i21)&&decide (i21<((x2019).length:Int)) then
 (x2019[(i21).toNat]?).bind fun e_1=>
 bif (e_1==def_16) then
 aA.l0 bar k n leaf1 s2 body8 r11 d13 def_16 (IntKind.i64.wrap (k_20+1)) (IntKind.i64.wrap (i21+1)) t3 x2018 x2019
 else
 aA.l0 bar k n leaf1 s2 body8 r11 d13 def_16 k_20 (IntKind.i64.wrap (i21+1)) t3 x2018 x2019
 else
 none
 else
 (rd t3 leaf1).bind fun e_2=>
 bif decide (0≤IntKind.i64.wrap ((IntKind.i64.wrap (12+r11))+d13))&&decide (IntKind.i64.wrap ((IntKind.i64.wrap (12+r11))+d13)≤(((body8).length:Nat):Int)) then
 (ac.f bar k e_2.kind (List.drop ((IntKind.i64.wrap ((IntKind.i64.wrap (12+r11))+d13)).toNat) (List.take ((body8).length) body8)) k_20).bind fun r_3=>
 (aQ.f bar k t3 leaf1 (Col.mk x2018 x2019 r_3.1)).bind fun r_4=>
 bif (!(!r_3.2)) then
 bif (!(r_4.2 != 0)) then
 bif (r_4.1 != s2) then
 some ((Col.mk ([]:List Int) ([]:List Int) ([]:List (List UInt8))),2200)
 else
 some ((Col.mk x2018 x2019 r_3.1),0)
 else
 some ((Col.mk ([]:List Int) ([]:List Int) ([]:List (List UInt8))),2200)
 else
 some ((Col.mk ([]:List Int) ([]:List Int) ([]:List (List UInt8))),2200)
 else
 none:=by kernel_rfl
theorem bF.f_eq (bar:aC)(k:Nat)(a0:Col)(a1:Col):bF.f bar (k+1) a0 a1=
 (aZ.f bar k a0.reps a1.reps).bind fun r_1=>
 bif r_1 then
 (aZ.f bar k a0.defs a1.defs).bind fun r_2=>
 bif r_2 then
 (aH.f bar k a0.values a1.values).bind fun r_3=>
 some r_3
 else
 some false
 else
 some false:=by kernel_rfl
theorem cw.f_eq (bar:aC)(k:Nat)(a0_0:List Int)(a0_1:List Int)(a0_2:List (List UInt8)):cw.f bar (k+1) a0_0 a0_1 a0_2=
 (aU.f bar k a0_0).bind fun r_1=>
 (aU.f bar k a0_1).bind fun r_2=>
 (aM.f bar k a0_2).bind fun r_3=>
 some ():=by kernel_rfl
theorem dI.f_eq (bar:aC)(k:Nat)(a0:List (List UInt8)):dI.f bar (k+1) a0=
 (dJ.f bar k a0).bind fun r_1=>
 bif decide (((r_1).length+(([([126,114,111,111,109]:List UInt8),([126,98,101,104,105,110,100]:List UInt8)]:List (List UInt8))).length)*16≤140737488355328) then
 bif decide (0≤((a0).length:Int))&&decide (((a0).length:Int)≤(((r_1++([([126,114,111,111,109]:List UInt8),([126,98,101,104,105,110,100]:List UInt8)]:List (List UInt8))).length:Nat):Int)) then
 some (List.take ((((a0).length:Int)).toNat) (r_1++([([126,114,111,111,109]:List UInt8),([126,98,101,104,105,110,100]:List UInt8)]:List (List UInt8))),List.drop ((((a0).length:Int)).toNat) (r_1++([([126,114,111,111,109]:List UInt8),([126,98,101,104,105,110,100]:List UInt8)]:List (List UInt8))))
 else
 none
 else
 none:=by kernel_rfl
theorem bC.f_eq (bar:aC)(k:Nat)(a0:List aT)(a1:Int)(a2:Col)(a3:Int):bC.f bar (k+1) a0 a1 a2 a3=
 (eg.f bar k a0 a1 a2).bind fun r_1=>
 bif (!(!r_1)) then
 bif (!(decide (a3<1))) then
 bif decide (((a2.reps).length:Int)>0) then
 (rd a2.reps 0).bind fun e_2=>
 bif (e_2 != 0) then
 some (([]:List (List UInt8)),2300)
 else
 (bz.f bar k a0 a1).bind fun r_3=>
 bC.l0 bar k k a1 a3 r_3.2.1 a0 a2.reps a2.defs a2.values ([]:List (List UInt8))
 else
 (bz.f bar k a0 a1).bind fun r_4=>
 bC.l0 bar k k a1 a3 r_4.2.1 a0 a2.reps a2.defs a2.values ([]:List (List UInt8))
 else
 some (([]:List (List UInt8)),2300)
 else
 some (([]:List (List UInt8)),2300):=by kernel_rfl
theorem bC.l0_eq (bar:aC)(k:Nat)(n:Nat)(leaf1:Int)(limit3:Int)(def_11:Int)(t4:List aT)(c6:List Int)(c6_1:List Int)(c6_2:List (List UInt8))(x2013:List (List UInt8)):bC.l0 bar k (n+1) leaf1 limit3 def_11 t4 c6 c6_1 c6_2 x2013=
 bif decide (((c6).length:Int)>0) then
 (cd.f bar k (Col.mk c6 c6_1 c6_2) limit3 def_11).bind fun r_1=>
 bif decide (0≤r_1.1)&&decide (r_1.1≤(((c6).length:Nat):Int)) then
 bif decide (0≤r_1.1)&&decide (r_1.1≤(((c6_1).length:Nat):Int)) then
 bif decide (0≤r_1.2)&&decide (r_1.2≤(((c6_2).length:Nat):Int)) then
 (cb.f bar k t4 leaf1 (Col.mk (List.drop 0 (List.take ((r_1.1).toNat) c6)) (List.drop 0 (List.take ((r_1.1).toNat) c6_1)) (List.drop 0 (List.take ((r_1.2).toNat) c6_2)))).bind fun r_2=>
 bif decide (((x2013).length+(([r_2.1]:List (List UInt8))).length)*16≤140737488355328) then
 bif decide (0≤r_1.1)&&decide (r_1.1≤(((c6).length:Nat):Int)) then
 bif decide (0≤r_1.1)&&decide (r_1.1≤(((c6_1).length:Nat):Int)) then
 bif decide (0≤r_1.2)&&decide (r_1.2≤(((c6_2).length:Nat):Int)) then
 bC.l0 bar k n leaf1 limit3 def_11 t4 (List.drop ((r_1.1).toNat) (List.take ((c6).length) c6)) (List.drop ((r_1.1).toNat) (List.take ((c6_1).length) c6_1)) (List.drop ((r_1.2).toNat) (List.take ((c6_2).length) c6_2)) (x2013++([r_2.1]:List (List UInt8)))
 else
 none
 else
 none
 else
 none
 else
 none
 else
 none
 else
 none
 else
 none
 else
 some (x2013,0):=by kernel_rfl
theorem aB.f_eq (bar:aC)(k:Nat)(a0:List aT)(a1:Int)(a2:Col)(a3:Int):aB.f bar (k+1) a0 a1 a2 a3=
 (ax.f bar k a0 a1 a2).bind fun r_1=>
 bif (!(!r_1)) then
 bif (!(decide (a3<1))) then
 bif decide (((a2.reps).length:Int)>0) then
 (rd a2.reps 0).bind fun e_2=>
 bif (e_2 != 0) then
 some (([]:List (List UInt8)),2300)
 else
 (aD.f bar k a0 a1).bind fun r_3=>
 aB.l0 bar k k a1 a3 r_3.2.1 0 0 0 a0 a2.reps a2.defs a2.values ([]:List Int) ([]:List Int) ([]:List (List UInt8)) ([]:List (List UInt8))
 else
 (aD.f bar k a0 a1).bind fun r_4=>
 aB.l0 bar k k a1 a3 r_4.2.1 0 0 0 a0 a2.reps a2.defs a2.values ([]:List Int) ([]:List Int) ([]:List (List UInt8)) ([]:List (List UInt8))
 else
 some (([]:List (List UInt8)),2300)
 else
 some (([]:List (List UInt8)),2300):=by kernel_rfl
theorem aB.l0_eq (bar:aC)(k:Nat)(n:Nat)(leaf1:Int)(limit3:Int)(def_11:Int)(records15:Int)(v16:Int)(i17:Int)(t4:List aT)(c6:List Int)(c6_1:List Int)(c6_2:List (List UInt8))(part14:List Int)(part14_1:List Int)(part14_2:List (List UInt8))(x2013:List (List UInt8)):aB.l0 bar k (n+1) leaf1 limit3 def_11 records15 v16 i17 t4 c6 c6_1 c6_2 part14 part14_1 part14_2 x2013=
 bif decide (i17<((c6).length:Int)) then
 (rd c6 i17).bind fun e_1=>
 bif (e_1==0) then
 bif (records15==limit3) then
 (aQ.f bar k t4 leaf1 (Col.mk part14 part14_1 part14_2)).bind fun r_2=>
 bif decide (((x2013).length+(([r_2.1]:List (List UInt8))).length)*16≤140737488355328) then
 bar _ (aB.j17 bar k n leaf1 limit3 def_11 (IntKind.i64.wrap (0+1)) v16 i17 t4 c6 c6_1 c6_2 ([]:List Int) ([]:List Int) ([]:List (List UInt8)) (x2013++([r_2.1]:List (List UInt8))))
 else
 none
 else
 bar _ (aB.j17 bar k n leaf1 limit3 def_11 (IntKind.i64.wrap (records15+1)) v16 i17 t4 c6 c6_1 c6_2 part14 part14_1 part14_2 x2013)
 else
 bar _ (aB.j17 bar k n leaf1 limit3 def_11 records15 v16 i17 t4 c6 c6_1 c6_2 part14 part14_1 part14_2 x2013)
 else
 bif decide (records15>0) then
 (aQ.f bar k t4 leaf1 (Col.mk part14 part14_1 part14_2)).bind fun r_3=>
 bif decide (((x2013).length+(([r_3.1]:List (List UInt8))).length)*16≤140737488355328) then
 some (x2013++([r_3.1]:List (List UInt8)),0)
 else
 none
 else
 some (x2013,0):=by kernel_rfl
theorem aB.j17_eq (bar:aC)(k:Nat)(m1:Nat)(leaf1:Int)(limit3:Int)(def_11:Int)(records15:Int)(v16:Int)(i17:Int)(t4:List aT)(c6:List Int)(c6_1:List Int)(c6_2:List (List UInt8))(part14:List Int)(part14_1:List Int)(part14_2:List (List UInt8))(x2013:List (List UInt8)):aB.j17 bar k m1 leaf1 limit3 def_11 records15 v16 i17 t4 c6 c6_1 c6_2 part14 part14_1 part14_2 x2013=
 (rd c6 i17).bind fun e_1=>
 bif decide (((part14).length+(([e_1]:List Int)).length)*8≤140737488355328) then
 (rd c6_1 i17).bind fun e_2=>
 bif decide (((part14_1).length+(([e_2]:List Int)).length)*8≤140737488355328) then
 (rd c6_1 i17).bind fun e_3=>
 bif (e_3==def_11) then
 (rd c6_2 v16).bind fun e_4=>
 bif decide (((part14_2).length+(([e_4]:List (List UInt8))).length)*16≤140737488355328) then
 aB.l0 bar k m1 leaf1 limit3 def_11 records15 (IntKind.i64.wrap (v16+1)) (IntKind.i64.wrap (i17+1)) t4 c6 c6_1 c6_2 (part14++([e_1]:List Int)) (part14_1++([e_2]:List Int)) (part14_2++([e_4]:List (List UInt8))) x2013
 else
 none
 else
 aB.l0 bar k m1 leaf1 limit3 def_11 records15 v16 (IntKind.i64.wrap (i17+1)) t4 c6 c6_1 c6_2 (part14++([e_1]:List Int)) (part14_1++([e_2]:List Int)) part14_2 x2013
 else
 none
 else
 none:=by kernel_rfl
theorem bm.f_eq (bar:aC)(k:Nat)(a0:List aT)(a1:Int)(a2:List (List UInt8)):bm.f bar (k+1) a0 a1 a2=
 (f7.f bar k a0 a1).bind fun r_1=>
 bm.l0 bar k k a1 r_1 a2 ((a2).length:Int) 0 a0 ([]:List Int) ([]:List Int) ([]:List (List UInt8)):=by kernel_rfl
theorem bm.l0_eq (bar:aC)(k:Nat)(n:Nat)(leaf1:Int)(is9:Bool)(x17:List (List UInt8))(x18:Int)(x19:Int)(t3:List aT)(out8:List Int)(out8_1:List Int)(out8_2:List (List UInt8)):bm.l0 bar k (n+1) leaf1 is9 x17 x18 x19 t3 out8 out8_1 out8_2=
 bif decide (x19<x18) then
 (rd x17 x19).bind fun e_1=>
 (b6.f bar k t3 leaf1 e_1).bind fun r_2=>
 bif (!(r_2.2 != 0)) then
 bif (!(((r_2.1.1).length:Int)==0)) then
 bif decide (0≤0)&&decide (0<((r_2.1.1).length:Int)) then
 (r_2.1.1[0]?).bind fun e_3=>
 bif (!(e_3 != 0)) then
 bif decide ((IntKind.i64.wrap (((out8).length:Int)+((r_2.1.1).length:Int)))>4096) then
 some ((([]:List Int),([]:List Int),([]:List (List UInt8))),2300)
 else
 bif decide (((out8).length+(r_2.1.1).length)*8≤140737488355328) then
 bif decide (((out8_1).length+(r_2.1.2.1).length)*8≤140737488355328) then
 bif decide (((out8_2).length+(r_2.1.2.2).length)*16≤140737488355328) then
 bm.l0 bar k n leaf1 is9 x17 x18 (IntKind.i64.wrap (x19+1)) t3 (out8++r_2.1.1) (out8_1++r_2.1.2.1) (out8_2++r_2.1.2.2)
 else
 none
 else
 none
 else
 none
 else
 some ((([]:List Int),([]:List Int),([]:List (List UInt8))),2300)
 else
 none
 else
 some ((([]:List Int),([]:List Int),([]:List (List UInt8))),2300)
 else
 some ((([]:List Int),([]:List Int),([]:List (List UInt8))),2300)
 else
 bif (!is9) then
 some ((([]:List Int),([]:List Int),([]:List (List UInt8))),2300)
 else
 some ((out8,out8_1,out8_2),0):=by kernel_rfl
theorem bO.f_eq (bar:aC)(k:Nat)(a0:List aT)(a1:Int)(a2:List (List UInt8)):bO.f bar (k+1) a0 a1 a2=
 (cE.f bar k a0 a1).bind fun r_1=>
 bif (!r_1) then
 some ((Col.mk ([]:List Int) ([]:List Int) ([]:List (List UInt8))),2300)
 else
 bO.l0 bar k k a1 a2 0 a0 ([]:List Int) ([]:List Int) ([]:List (List UInt8)):=by kernel_rfl
theorem bO.l0_eq (bar:aC)(k:Nat)(n:Nat)(leaf1:Int)(pages2:List (List UInt8))(i9:Int)(t3:List aT)(c8:List Int)(c8_1:List Int)(c8_2:List (List UInt8)):bO.l0 bar k (n+1) leaf1 pages2 i9 t3 c8 c8_1 c8_2=
 bif decide (i9<((pages2).length:Int)) then
 (rd pages2 i9).bind fun e_1=>
 (aA.f bar k t3 leaf1 e_1).bind fun r_2=>
 bif (!(r_2.2 != 0)) then
 bif (!(((r_2.1.reps).length:Int)==0)) then
 (rd r_2.1.reps 0).bind fun e_3=>
 bif (!(e_3 != 0)) then
 bif decide ((IntKind.i64.wrap (((c8).length:Int)+((r_2.1.reps).length:Int)))>4096) then
 some ((Col.mk ([]:List Int) ([]:List Int) ([]:List (List UInt8))),2300)
 else
 bif decide (((c8).length+(r_2.1.reps).length)*8≤140737488355328) then
 bif decide (((c8_1).length+(r_2.1.defs).length)*8≤140737488355328) then
 bif decide (((c8_2).length+(r_2.1.values).length)*16≤140737488355328) then
 bO.l0 bar k n leaf1 pages2 (IntKind.i64.wrap (i9+1)) t3 (c8++r_2.1.reps) (c8_1++r_2.1.defs) (c8_2++r_2.1.values)
 else
 none
 else
 none
 else
 none
 else
 some ((Col.mk ([]:List Int) ([]:List Int) ([]:List (List UInt8))),2300)
 else
 some ((Col.mk ([]:List Int) ([]:List Int) ([]:List (List UInt8))),2300)
 else
 some ((Col.mk ([]:List Int) ([]:List Int) ([]:List (List UInt8))),2300)
 else
 some ((Col.mk c8 c8_1 c8_2),0):=by kernel_rfl
theorem aH.f_eq (bar:aC)(k:Nat)(a0:List (List UInt8))(a1:List (List UInt8)):aH.f bar (k+1) a0 a1=
 bif (((a0).length:Int) != ((a1).length:Int)) then
 some false
 else
 aH.l0 bar k k a0 a1 0:=by kernel_rfl
theorem aH.l0_eq (bar:aC)(k:Nat)(n:Nat)(a0:List (List UInt8))(b1:List (List UInt8))(i5:Int):aH.l0 bar k (n+1) a0 b1 i5=
 bif decide (i5<((a0).length:Int)) then
 (rd a0 i5).bind fun e_1=>
 (rd b1 i5).bind fun e_2=>
 bif (e_1 != e_2) then
 some false
 else
 aH.l0 bar k n a0 b1 (IntKind.i64.wrap (i5+1))
 else
 some true:=by kernel_rfl
theorem aM.f_eq (bar:aC)(k:Nat)(a0:List (List UInt8)):aM.f bar (k+1) a0=
 aM.l0 bar k k 0 a0:=by kernel_rfl
theorem aM.l0_eq (bar:aC)(k:Nat)(n:Nat)(i2:Int)(x2000:List (List UInt8)):aM.l0 bar k (n+1) i2 x2000=
 bif decide (i2<((x2000).length:Int)) then
 bif decide (0≤i2)&&decide (i2<((x2000).length:Int)) then
 (x2000[(i2).toNat]?).bind fun e_1=>
 bif decide ((([126]:List UInt8)).length+(e_1).length≤9223372036854775807) then
 bif decide (0≤i2)&&decide (i2<((x2000).length:Int)) then
 (x2000[(i2).toNat]?).bind fun e_2=>
 aM.l0 bar k n (IntKind.i64.wrap (i2+1)) ((x2000).set ((i2).toNat) (([126]:List UInt8)++e_1))
 else
 none
 else
 none
 else
 none
 else
 some ():=by kernel_rfl
theorem dH.f_eq (bar:aC)(k:Nat)(a0:List (List UInt8)×List (List UInt8))(a1:List (List UInt8)):dH.f bar (k+1) a0 a1=
 bif decide (0≤IntKind.i64.wrap (((a0.1).length:Int)+2))&&decide (IntKind.i64.wrap (((a0.1).length:Int)+2)≤(((a0.1++a0.2).length:Nat):Int)) then
 (aH.f bar k a0.1 a1).bind fun r_1=>
 bif r_1 then
 (rd (List.drop 0 (List.take ((IntKind.i64.wrap (((a0.1).length:Int)+2)).toNat) (a0.1++a0.2))) ((a1).length:Int)).bind fun e_2=>
 bif (e_2==([126,114,111,111,109]:List UInt8)) then
 (rd (List.drop 0 (List.take ((IntKind.i64.wrap (((a0.1).length:Int)+2)).toNat) (a0.1++a0.2))) (IntKind.i64.wrap (((a1).length:Int)+1))).bind fun e_3=>
 some (e_3==([126,98,101,104,105,110,100]:List UInt8))
 else
 some false
 else
 some false
 else
 none:=by kernel_rfl
theorem eE.f_eq (bar:aC)(k:Nat):eE.f bar (k+1)=
 (cz.f bar k).bind fun r_1=>
 (bC.f bar k r_1 0 (Col.mk ([0,0,0]:List Int) ([1,0,1]:List Int) ([([105,53,59]:List UInt8),([105,54,59]:List UInt8)]:List (List UInt8))) 2).bind fun r_2=>
 (cz.f bar k).bind fun r_3=>
 (bm.f bar k r_3 0 r_2.1).bind fun r_4=>
 (cz.f bar k).bind fun r_5=>
 (bC.f bar k r_5 0 (Col.mk ([0,0,0]:List Int) ([1,0,1]:List Int) ([([105,53,59]:List UInt8),([105,54,59]:List UInt8)]:List (List UInt8))) 0).bind fun r_6=>
 (cz.f bar k).bind fun r_7=>
 (bm.f bar k r_7 0 ([([]:List UInt8)]:List (List UInt8))).bind fun r_8=>
 (cz.f bar k).bind fun r_9=>
 (bm.f bar k r_9 0 ([]:List (List UInt8))).bind fun r_10=>
 bif (((r_2.1).length:Int)==2) then
 (ct.f bar k r_2.2).bind fun r_11=>
 bif (r_11==0) then
 (bF.f bar k (Col.mk ([0,0,0]:List Int) ([1,0,1]:List Int) ([([105,53,59]:List UInt8),([105,54,59]:List UInt8)]:List (List UInt8))) (Col.mk r_4.1.1 r_4.1.2.1 r_4.1.2.2)).bind fun r_12=>
 bif r_12 then
 (ct.f bar k r_4.2).bind fun r_13=>
 bif (r_13==0) then
 (ct.f bar k r_6.2).bind fun r_14=>
 bif (r_14==2300) then
 (ct.f bar k r_8.2).bind fun r_15=>
 bif (r_15==2300) then
 (bF.f bar k (Col.mk r_10.1.1 r_10.1.2.1 r_10.1.2.2) (Col.mk ([]:List Int) ([]:List Int) ([]:List (List UInt8)))).bind fun r_16=>
 bif r_16 then
 (ct.f bar k r_10.2).bind fun r_17=>
 some (r_17==0)
 else
 some false
 else
 some false
 else
 some false
 else
 some false
 else
 some false
 else
 some false
 else
 some false:=by kernel_rfl
theorem eg.f_eq (bar:aC)(k:Nat)(a0:List aT)(a1:Int)(a2:Col):eg.f bar (k+1) a0 a1 a2=
 (bz.f bar k a0 a1).bind fun r_1=>
 (f7.f bar k a0 a1).bind fun r_2=>
 bif (!(!r_2)) then
 bif (!(((a2.reps).length:Int) != ((a2.defs).length:Int))) then
 bif (!(decide (((a2.reps).length:Int)>4096))) then
 (cL.f bar k a2.reps r_1.1).bind fun r_3=>
 bif (!(!r_3)) then
 (cL.f bar k a2.defs r_1.2.1).bind fun r_4=>
 bif (!r_4) then
 some false
 else
 eg.l0 bar k k a1 r_1.2.1 a2.values ((a2.values).length:Int) 0 a0 a2.reps a2.defs
 else
 some false
 else
 some false
 else
 some false
 else
 some false:=by kernel_rfl
theorem eg.l0_eq (bar:aC)(k:Nat)(n:Nat)(leaf1:Int)(def_8:Int)(x53:List (List UInt8))(x54:Int)(x55:Int)(t3:List aT)(c5:List Int)(c5_1:List Int):eg.l0 bar k (n+1) leaf1 def_8 x53 x54 x55 t3 c5 c5_1=
 bif decide (x55<x54) then
 (rd x53 x55).bind fun e_1=>
 (lJ.f bar k).bind fun r_2=>
 bif (!(e_1==r_2)) then
 (dl.f bar k t3 leaf1 e_1).bind fun r_3=>
 bif (!r_3) then
 some false
 else
 eg.l0 bar k n leaf1 def_8 x53 x54 (IntKind.i64.wrap (x55+1)) t3 c5 c5_1
 else
 some false
 else
 (cD.f bar k c5_1 def_8).bind fun r_4=>
 some (((x53).length:Int)==r_4):=by kernel_rfl
theorem bz.f_eq (bar:aC)(k:Nat)(a0:List aT)(a1:Int):bz.f bar (k+1) a0 a1=
 (fU.f bar k a0 a1).bind fun r_1=>
 bif (!r_1) then
 some (0,0,500)
 else
 (cR.f bar k a0 a1).bind fun r_2=>
 bz.l0 bar k k 0 0 ((r_2).length:Int) 0 a0 r_2:=by kernel_rfl
theorem bz.l0_eq (bar:aC)(k:Nat)(n:Nat)(rep7:Int)(def_8:Int)(x17:Int)(x18:Int)(t2:List aT)(x2016:List Int):bz.l0 bar k (n+1) rep7 def_8 x17 x18 t2 x2016=
 bif decide (x18<x17) then
 bif decide (0≤x18)&&decide (x18<((x2016).length:Int)) then
 (x2016[(x18).toNat]?).bind fun e_1=>
 (rd t2 e_1).bind fun e_2=>
 bif (e_2.kind==3) then
 (rd t2 e_1).bind fun e_3=>
 bif e_3.null then
 bz.l0 bar k n (IntKind.i64.wrap (rep7+1)) (IntKind.i64.wrap ((IntKind.i64.wrap (def_8+1))+1)) x17 (IntKind.i64.wrap (x18+1)) t2 x2016
 else
 bz.l0 bar k n (IntKind.i64.wrap (rep7+1)) (IntKind.i64.wrap (def_8+1)) x17 (IntKind.i64.wrap (x18+1)) t2 x2016
 else
 (rd t2 e_1).bind fun e_4=>
 bif e_4.null then
 bz.l0 bar k n rep7 (IntKind.i64.wrap (def_8+1)) x17 (IntKind.i64.wrap (x18+1)) t2 x2016
 else
 bz.l0 bar k n rep7 def_8 x17 (IntKind.i64.wrap (x18+1)) t2 x2016
 else
 none
 else
 some (rep7,def_8,0):=by kernel_rfl
theorem gV.f_eq (bar:aC)(k:Nat)(a0:List Int)(a1:Int):gV.f bar (k+1) a0 a1=
 (gv.f bar k (IntKind.u64.wrap a1)).bind fun r_1=>
 (cf.f bar k a0 r_1).bind fun r_2=>
 some r_2.1:=by kernel_rfl
theorem iR.f_eq (bar:aC)(k:Nat)(a0:List UInt8):iR.f bar (k+1) a0=
 (dV.f bar k a0).bind fun r_1=>
 bif (r_1.1==0) then
 bif decide (0≤0)&&decide (0<((r_1.2.1).length:Int)) then
 (r_1.2.1[0]?).bind fun e_2=>
 (eA.f bar k e_2).bind fun r_3=>
 (dZ.f bar k r_3.1 8).bind fun r_4=>
 some r_4
 else
 none
 else
 bif (r_1.1==1) then
 bif decide (0≤0)&&decide (0<((r_1.2.1).length:Int)) then
 (r_1.2.1[0]?).bind fun e_5=>
 (rd e_5 0).bind fun b_6=>
 (cD.f bar k ([IntKind.i64.wrap (b_6.toNat:Int)]:List Int) 116).bind fun r_7=>
 (dZ.f bar k r_7 1).bind fun r_8=>
 some r_8
 else
 none
 else
 bif decide (0≤0)&&decide (0<((r_1.2.1).length:Int)) then
 (r_1.2.1[0]?).bind fun e_9=>
 (dZ.f bar k ((e_9).length:Int) 4).bind fun r_10=>
 bif decide (0≤0)&&decide (0<((r_1.2.1).length:Int)) then
 (r_1.2.1[0]?).bind fun e_11=>
 bif decide ((r_10).length+(e_11).length≤9223372036854775807) then
 some (r_10++e_11)
 else
 none
 else
 none
 else
 none:=by kernel_rfl
theorem dk.f_eq (bar:aC)(k:Nat)(a0:List UInt8):dk.f bar (k+1) a0=
 dk.l0 bar k k a0 4294967295 ((a0).length:Int) 0:=by kernel_rfl
theorem dk.l0_eq (bar:aC)(k:Nat)(n:Nat)(s0:List UInt8)(sum3:Int)(x7:Int)(x8:Int):dk.l0 bar k (n+1) s0 sum3 x7 x8=
 bif decide (x8<x7) then
 (rd s0 x8).bind fun b_1=>
 dk.l2 bar k n k s0 (aE .xor .u32 sum3 (IntKind.u32.wrap (b_1.toNat:Int))) x7 x8 0
 else
 some (IntKind.i64.wrap (aE .xor .u32 sum3 4294967295)):=by kernel_rfl
theorem dk.l2_eq (bar:aC)(k:Nat)(m1:Nat)(n:Nat)(s0:List UInt8)(sum3:Int)(x7:Int)(x8:Int)(x17:Int):dk.l2 bar k m1 (n+1) s0 sum3 x7 x8 x17=
 bif decide (x17<8) then
 dk.l2 bar k m1 n s0 (aE .xor .u32 (Int.fdiv sum3 (2 ^ (min 1 IntKind.u32.bits))) (IntKind.u32.wrap (3988292384*(aE .and .u32 sum3 1)))) x7 x8 (IntKind.i64.wrap (x17+1))
 else
 dk.l0 bar k m1 s0 sum3 x7 (IntKind.i64.wrap (x8+1)):=by kernel_rfl
theorem aN.f_eq (bar:aC)(k:Nat)(a0:List UInt8):aN.f bar (k+1) a0=
 aN.l0 bar k k a0 4294967295 0:=by kernel_rfl
theorem aN.l0_eq (bar:aC)(k:Nat)(n:Nat)(s0:List UInt8)(x3:Int)(i4:Int):aN.l0 bar k (n+1) s0 x3 i4=
 bif decide (i4<((s0).length:Int)) then
 (rd s0 i4).bind fun b_1=>
 aN.l2 bar k n k s0 (aE .xor .u32 x3 (IntKind.u32.wrap (b_1.toNat:Int))) i4 0
 else
 some (IntKind.i64.wrap (aE .xor .u32 (IntKind.u32.max) x3)):=by kernel_rfl
theorem aN.l2_eq (bar:aC)(k:Nat)(m1:Nat)(n:Nat)(s0:List UInt8)(x3:Int)(i4:Int)(j5:Int):aN.l2 bar k m1 (n+1) s0 x3 i4 j5=
 bif decide (j5<8) then
 bif ((aE .and .u32 x3 1)==1) then
 aN.l2 bar k m1 n s0 (aE .xor .u32 (Int.fdiv x3 (2 ^ (min 1 IntKind.u32.bits))) 3988292384) i4 (IntKind.i64.wrap (j5+1))
 else
 aN.l2 bar k m1 n s0 (Int.fdiv x3 (2 ^ (min 1 IntKind.u32.bits))) i4 (IntKind.i64.wrap (j5+1))
 else
 aN.l0 bar k m1 s0 x3 (IntKind.i64.wrap (i4+1)):=by kernel_rfl
theorem ax.f_eq (bar:aC)(k:Nat)(a0:List aT)(a1:Int)(a2:Col):ax.f bar (k+1) a0 a1 a2=
 (cE.f bar k a0 a1).bind fun r_1=>
 bif (!(!r_1)) then
 bif (!(((a2.reps).length:Int) != ((a2.defs).length:Int))) then
 bif decide (((a2.reps).length:Int)>4096) then
 some false
 else
 (aD.f bar k a0 a1).bind fun r_2=>
 ax.l0 bar k k a1 r_2.1 r_2.2.1 0 0 a0 a2.reps a2.defs a2.values
 else
 some false
 else
 some false:=by kernel_rfl
theorem ax.l0_eq (bar:aC)(k:Nat)(n:Nat)(leaf1:Int)(rep7:Int)(def_8:Int)(k_10:Int)(i11:Int)(t3:List aT)(c5:List Int)(c5_1:List Int)(c5_2:List (List UInt8)):ax.l0 bar k (n+1) leaf1 rep7 def_8 k_10 i11 t3 c5 c5_1 c5_2=
 bif decide (i11<((c5).length:Int)) then
 (rd c5 i11).bind fun e_1=>
 bif (!(decide (e_1<0))) then
 (rd c5 i11).bind fun e_2=>
 bif (!(decide (e_2>rep7))) then
 (rd c5_1 i11).bind fun e_3=>
 bif (!(decide (e_3<0))) then
 (rd c5_1 i11).bind fun e_4=>
 bif decide (e_4>def_8) then
 some false
 else
 (rd c5_1 i11).bind fun e_5=>
 bif (e_5==def_8) then
 ax.l0 bar k n leaf1 rep7 def_8 (IntKind.i64.wrap (k_10+1)) (IntKind.i64.wrap (i11+1)) t3 c5 c5_1 c5_2
 else
 ax.l0 bar k n leaf1 rep7 def_8 k_10 (IntKind.i64.wrap (i11+1)) t3 c5 c5_1 c5_2
 else
 some false
 else
 some false
 else
 some false
 else
 ax.l2 bar k k leaf1 k_10 0 t3 c5 c5_1 c5_2:=by kernel_rfl
theorem ax.l2_eq (bar:aC)(k:Nat)(n:Nat)(leaf1:Int)(k_10:Int)(i12:Int)(t3:List aT)(c5:List Int)(c5_1:List Int)(c5_2:List (List UInt8)):ax.l2 bar k (n+1) leaf1 k_10 i12 t3 c5 c5_1 c5_2=
 bif decide (i12<((c5_2).length:Int)) then
 (rd c5_2 i12).bind fun e_1=>
 bif (!(e_1==([110]:List UInt8))) then
 (rd c5_2 i12).bind fun e_2=>
 (af.f bar k t3 leaf1 e_2).bind fun r_3=>
 bif (!r_3) then
 some false
 else
 ax.l2 bar k n leaf1 k_10 (IntKind.i64.wrap (i12+1)) t3 c5 c5_1 c5_2
 else
 some false
 else
 some (k_10==((c5_2).length:Int)):=by kernel_rfl
theorem aD.f_eq (bar:aC)(k:Nat)(a0:List aT)(a1:Int):aD.f bar (k+1) a0 a1=
 (ce.f bar k a0 a1).bind fun r_1=>
 bif (!r_1) then
 some (0,0,500)
 else
 aD.l0 bar k k a1 0 0 a0:=by kernel_rfl
theorem aD.l0_eq (bar:aC)(k:Nat)(n:Nat)(at_1:Int)(rep7:Int)(def_8:Int)(t2:List aT):aD.l0 bar k (n+1) at_1 rep7 def_8 t2=
 bif decide (at_1≥0) then
 (rd t2 at_1).bind fun e_1=>
 bif (e_1.kind==3) then
 bar _ (aD.j8 bar k n at_1 (IntKind.i64.wrap (rep7+1)) (IntKind.i64.wrap (def_8+1)) t2)
 else
 bar _ (aD.j8 bar k n at_1 rep7 def_8 t2)
 else
 some (rep7,def_8,0):=by kernel_rfl
theorem aD.j8_eq (bar:aC)(k:Nat)(m1:Nat)(at_1:Int)(rep7:Int)(def_8:Int)(t2:List aT):aD.j8 bar k m1 at_1 rep7 def_8 t2=
 (rd t2 at_1).bind fun e_1=>
 bif e_1.null then
 (rd t2 at_1).bind fun e_2=>
 aD.l0 bar k m1 e_2.parent rep7 (IntKind.i64.wrap (def_8+1)) t2
 else
 (rd t2 at_1).bind fun e_3=>
 aD.l0 bar k m1 e_3.parent rep7 def_8 t2:=by kernel_rfl
theorem ae.f_eq (bar:aC)(k:Nat)(a0:List Int)(a1:Int):ae.f bar (k+1) a0 a1=
 bif (!(decide (a1<0))) then
 bif (!(decide (a1>16))) then
 bif decide (((a0).length:Int)>4096) then
 some (([]:List UInt8),2100)
 else
 ae.l0 bar k k a0 a1 0
 else
 some (([]:List UInt8),2100)
 else
 some (([]:List UInt8),2100):=by kernel_rfl
theorem ae.l0_eq (bar:aC)(k:Nat)(n:Nat)(xs0:List Int)(width1:Int)(i6:Int):ae.l0 bar k (n+1) xs0 width1 i6=
 bif decide (i6<((xs0).length:Int)) then
 (rd xs0 i6).bind fun e_1=>
 bif (!(decide (e_1<0))) then
 (rd xs0 i6).bind fun e_2=>
 bif decide (width1<0) then
 none
 else
 bif decide (e_2≥(IntKind.i64.wrap (1*2 ^ (min (width1).toNat IntKind.i64.bits)))) then
 some (([]:List UInt8),2100)
 else
 ae.l0 bar k n xs0 width1 (IntKind.i64.wrap (i6+1))
 else
 some (([]:List UInt8),2100)
 else
 ae.l2 bar k k xs0 width1 ([]:List UInt8) 0:=by kernel_rfl
theorem ae.l2_eq (bar:aC)(k:Nat)(n:Nat)(xs0:List Int)(width1:Int)(s7:List UInt8)(at_8:Int):ae.l2 bar k (n+1) xs0 width1 s7 at_8=
 bif decide (at_8<((xs0).length:Int)) then
 (bG.f bar k xs0 at_8).bind fun r_1=>
 bif decide (r_1≥8) then
 (aV.f bar k (IntKind.i64.wrap (2*r_1))).bind fun r_2=>
 bif decide ((s7).length+(r_2.1).length≤9223372036854775807) then
 (rd xs0 at_8).bind fun e_3=>
 (bZ.f bar k width1).bind fun r_4=>
 (aY.f bar k e_3 r_4).bind fun r_5=>
 bif decide ((s7++r_2.1).length+(r_5).length≤9223372036854775807) then
 ae.l2 bar k n xs0 width1 ((s7++r_2.1)++r_5) (IntKind.i64.wrap (at_8+r_1))
 else
 none
 else
 none
 else
 ae.l4 bar k n k xs0 width1 s7 at_8 (bif decide (((xs0).length:Int)<(IntKind.i64.wrap (at_8+8))) then ((xs0).length:Int) else IntKind.i64.wrap (at_8+8))
 else
 some (s7,0):=by kernel_rfl
theorem ae.l4_eq (bar:aC)(k:Nat)(m1:Nat)(n:Nat)(xs0:List Int)(width1:Int)(s7:List UInt8)(at_8:Int)(to12:Int):ae.l4 bar k m1 (n+1) xs0 width1 s7 at_8 to12=
 bif decide (to12<((xs0).length:Int)) then
 (bG.f bar k xs0 to12).bind fun r_1=>
 bif decide (r_1<8) then
 ae.l4 bar k m1 n xs0 width1 s7 at_8 (bif decide (((xs0).length:Int)<(IntKind.i64.wrap (to12+8))) then ((xs0).length:Int) else IntKind.i64.wrap (to12+8))
 else
 (aV.f bar k (IntKind.i64.wrap ((IntKind.i64.wrap (2*(IntKind.i64.wrap (Int.tdiv (IntKind.i64.wrap ((IntKind.i64.wrap (to12 - at_8))+7)) 8))))+1))).bind fun r_2=>
 bif decide ((s7).length+(r_2.1).length≤9223372036854775807) then
 bif decide (0≤to12)&&decide (to12≤(((xs0).length:Nat):Int)) then
 bif decide (0≤at_8)&&decide (at_8≤(((to12).toNat:Nat):Int)) then
 (aJ.f bar k (List.drop ((at_8).toNat) (List.take ((to12).toNat) xs0)) width1).bind fun r_3=>
 bif decide ((s7++r_2.1).length+(r_3).length≤9223372036854775807) then
 ae.l2 bar k m1 xs0 width1 ((s7++r_2.1)++r_3) to12
 else
 none
 else
 none
 else
 none
 else
 none
 else
 (aV.f bar k (IntKind.i64.wrap ((IntKind.i64.wrap (2*(IntKind.i64.wrap (Int.tdiv (IntKind.i64.wrap ((IntKind.i64.wrap (to12 - at_8))+7)) 8))))+1))).bind fun r_4=>
 bif decide ((s7).length+(r_4.1).length≤9223372036854775807) then
 bif decide (0≤to12)&&decide (to12≤(((xs0).length:Nat):Int)) then
 bif decide (0≤at_8)&&decide (at_8≤(((to12).toNat:Nat):Int)) then
 (aJ.f bar k (List.drop ((at_8).toNat) (List.take ((to12).toNat) xs0)) width1).bind fun r_5=>
 bif decide ((s7++r_4.1).length+(r_5).length≤9223372036854775807) then
 ae.l2 bar k m1 xs0 width1 ((s7++r_4.1)++r_5) to12
 else
 none
 else
 none
 else
 none
 else
 none:=by kernel_rfl
theorem dd.f_eq (bar:aC)(k:Nat)(a0:List UInt8):dd.f bar (k+1) a0=
 (ah.f bar k a0).bind fun r_1=>
 bif (r_1.1==0) then
 (dG.f bar k a0).bind fun r_2=>
 some r_2
 else
 bif (a0==([116]:List UInt8)) then
 some ([1]:List UInt8)
 else
 bif (a0==([102]:List UInt8)) then
 some ([0]:List UInt8)
 else
 bif decide (0≤0)&&decide (0<((r_1.2.1).length:Int)) then
 (r_1.2.1[0]?).bind fun e_3=>
 (aY.f bar k ((e_3).length:Int) 4).bind fun r_4=>
 bif decide (0≤0)&&decide (0<((r_1.2.1).length:Int)) then
 (r_1.2.1[0]?).bind fun e_5=>
 bif decide ((r_4).length+(e_5).length≤9223372036854775807) then
 some (r_4++e_5)
 else
 none
 else
 none
 else
 none:=by kernel_rfl
theorem f7.f_eq (bar:aC)(k:Nat)(a0:List aT)(a1:Int):f7.f bar (k+1) a0 a1=
 (fU.f bar k a0 a1).bind fun r_1=>
 bif r_1 then
 (rd a0 a1).bind fun e_2=>
 (g9.f bar k e_2.kind).bind fun r_3=>
 some (!r_3)
 else
 some false:=by kernel_rfl
theorem fq.f_eq (bar:aC)(k:Nat)(a0:List UInt8):fq.f bar (k+1) a0=
 fq.l0 bar k k a0 0 ((a0).length:Int) 0:=by kernel_rfl
theorem fq.l0_eq (bar:aC)(k:Nat)(n:Nat)(s0:List UInt8)(out3:Int)(x6:Int)(x7:Int):fq.l0 bar k (n+1) s0 out3 x6 x7=
 bif decide (x7<x6) then
 (rd s0 x7).bind fun b_1=>
 bif decide (IntKind.i64.wrap (8*x7)<0) then
 none
 else
 fq.l0 bar k n s0 (aE .or .u64 out3 (IntKind.u64.wrap ((IntKind.u64.wrap (b_1.toNat:Int))*2 ^ (min (IntKind.i64.wrap (8*x7)).toNat IntKind.u64.bits)))) x6 (IntKind.i64.wrap (x7+1))
 else
 some (IntKind.i64.wrap out3):=by kernel_rfl
theorem ca.f_eq (bar:aC)(k:Nat)(a0_0:List UInt8)(a0_1:Bool):ca.f bar (k+1) a0_0 a0_1=
 (q8.f bar k a0_0 0 4).bind fun r_1=>
 bif (!a0_1) then
 (bD.f bar k a0_0 (r_1.2 != 0) 4).bind fun r_2=>
 some (r_1.1,(r_2.2.1,r_2.2.2))
 else
 (bD.f bar k a0_0 true 4).bind fun r_3=>
 some (r_1.1,(r_3.2.1,r_3.2.2)):=by kernel_rfl
theorem bc.f_eq (bar:aC)(k:Nat)(a0:List UInt8)(a1:Int)(a2:Int):bc.f bar (k+1) a0 a1 a2=
 bif (!(decide (a1<0))) then
 bif (!(decide (a1>16))) then
 bif (!(decide (a2<0))) then
 bif decide (a2>4096) then
 some (([]:List Int),2100)
 else
 bc.l0 bar k k a0 a1 a2 a0 a1 ([]:List Int) false
 else
 some (([]:List Int),2100)
 else
 some (([]:List Int),2100)
 else
 some (([]:List Int),2100):=by kernel_rfl
theorem bc.l0_eq (bar:aC)(k:Nat)(n:Nat)(s0:List UInt8)(width1:Int)(count2:Int)(x32:List UInt8)(x32_1:Int)(x32_2:List Int)(x32_3:Bool):bc.l0 bar k (n+1) s0 width1 count2 x32 x32_1 x32_2 x32_3=
 bif (!x32_3) then
 bif decide (((x32_2).length:Int)<count2) then
 (dz.f bar k x32 0).bind fun r_1=>
 bif decide (0≤r_1.2.1)&&decide (r_1.2.1≤(((x32).length:Nat):Int)) then
 bif ((Int.tmod r_1.1 2)==0) then
 (fa.f bar k (List.drop ((r_1.2.1).toNat) (List.take ((x32).length) x32)) x32_1 x32_2 (r_1.2.2 != 0) (IntKind.i64.wrap (Int.tdiv r_1.1 2)) (IntKind.i64.wrap (count2 - ((x32_2).length:Int)))).bind fun r_2=>
 bar _ (bc.j12 bar k n s0 width1 count2 r_1.1 r_2.1 r_2.2.1 r_2.2.2.1 r_2.2.2.2)
 else
 (ar.f bar k (List.drop ((r_1.2.1).toNat) (List.take ((x32).length) x32)) x32_1 x32_2 (r_1.2.2 != 0) (IntKind.i64.wrap (Int.tdiv r_1.1 2)) (IntKind.i64.wrap (count2 - ((x32_2).length:Int)))).bind fun r_3=>
 bar _ (bc.j12 bar k n s0 width1 count2 r_1.1 r_3.1 r_3.2.1 r_3.2.2.1 r_3.2.2.2)
 else
 none
 else
 (cf.f bar k x32_2 width1).bind fun r_4=>
 bif (!x32_3) then
 bif (!(r_4.2 != 0)) then
 bif (!(r_4.1 != s0)) then
 bif (((x32_2).length:Int) != count2) then
 some (([]:List Int),2100)
 else
 some (x32_2,0)
 else
 some (([]:List Int),2100)
 else
 some (([]:List Int),2100)
 else
 some (([]:List Int),2100)
 else
 (cf.f bar k x32_2 width1).bind fun r_5=>
 bif (!x32_3) then
 bif (!(r_5.2 != 0)) then
 bif (!(r_5.1 != s0)) then
 bif (((x32_2).length:Int) != count2) then
 some (([]:List Int),2100)
 else
 some (x32_2,0)
 else
 some (([]:List Int),2100)
 else
 some (([]:List Int),2100)
 else
 some (([]:List Int),2100):=by kernel_rfl
theorem bc.j12_eq (bar:aC)(k:Nat)(m1:Nat)(s0:List UInt8)(width1:Int)(count2:Int)(head9:Int)(x32:List UInt8)(x32_1:Int)(x32_2:List Int)(x32_3:Bool):bc.j12 bar k m1 s0 width1 count2 head9 x32 x32_1 x32_2 x32_3=
 bif (!x32_3) then
 bc.l0 bar k m1 s0 width1 count2 x32 x32_1 x32_2 (decide (head9<2))
 else
 bc.l0 bar k m1 s0 width1 count2 x32 x32_1 x32_2 true:=by kernel_rfl
theorem bD.f_eq (bar:aC)(k:Nat)(a0_0:List UInt8)(a0_1:Bool)(a1:Int):bD.f bar (k+1) a0_0 a0_1 a1=
 bif (!a0_1) then
 bif (!(decide (a1<0))) then
 bif decide (a1>((a0_0).length:Int)) then
 some (([]:List UInt8),(a0_0,true))
 else
 bif decide (0≤a1)&&decide (a1≤(((a0_0).length:Nat):Int)) then
 bif decide (0≤a1)&&decide (a1≤(((a0_0).length:Nat):Int)) then
 some (List.drop 0 (List.take ((a1).toNat) a0_0),(List.drop ((a1).toNat) (List.take ((a0_0).length) a0_0),a0_1))
 else
 none
 else
 none
 else
 some (([]:List UInt8),(a0_0,true))
 else
 some (([]:List UInt8),(a0_0,true)):=by kernel_rfl
theorem cD.f_eq (bar:aC)(k:Nat)(a0:List Int)(a1:Int):cD.f bar (k+1) a0 a1=
 cD.l0 bar k k a1 0 a0 ((a0).length:Int) 0:=by kernel_rfl
theorem cD.l0_eq (bar:aC)(k:Nat)(n:Nat)(one1:Int)(out5:Int)(x8:List Int)(x9:Int)(x10:Int):cD.l0 bar k (n+1) one1 out5 x8 x9 x10=
 bif decide (x10<x9) then
 (rd x8 x10).bind fun e_1=>
 bif (e_1==one1) then
 cD.l0 bar k n one1 (IntKind.i64.wrap (out5+1)) x8 x9 (IntKind.i64.wrap (x10+1))
 else
 cD.l0 bar k n one1 out5 x8 x9 (IntKind.i64.wrap (x10+1))
 else
 some out5:=by kernel_rfl
theorem dB.f_eq (bar:aC)(k:Nat)(a0_0:List UInt8)(a0_1:Bool)(a1:Int):dB.f bar (k+1) a0_0 a0_1 a1=
 bif (a1==0) then
 (bD.f bar k a0_0 a0_1 8).bind fun r_1=>
 (fq.f bar k r_1.1).bind fun r_2=>
 (lu.f bar k r_2).bind fun r_3=>
 some (r_3,(r_1.2.1,r_1.2.2))
 else
 bif (a1==1) then
 (bD.f bar k a0_0 a0_1 1).bind fun r_4=>
 (fq.f bar k r_4.1).bind fun r_5=>
 (ka.f bar k (r_5==1)).bind fun r_6=>
 some (r_6,(r_4.2.1,r_4.2.2))
 else
 (fx.f bar k a0_0 a0_1).bind fun r_7=>
 (h9.f bar k r_7.1).bind fun r_8=>
 some (r_8,(r_7.2.1,r_7.2.2)):=by kernel_rfl
theorem cE.f_eq (bar:aC)(k:Nat)(a0:List aT)(a1:Int):cE.f bar (k+1) a0 a1=
 (ce.f bar k a0 a1).bind fun r_1=>
 bif r_1 then
 (rd a0 a1).bind fun e_2=>
 (dh.f bar k e_2.kind).bind fun r_3=>
 some r_3
 else
 some false:=by kernel_rfl
end Go.Proofs.YtjkokaockhecnaaGreatDoorA
