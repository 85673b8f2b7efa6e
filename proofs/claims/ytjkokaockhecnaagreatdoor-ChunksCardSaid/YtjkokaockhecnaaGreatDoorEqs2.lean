/- Each function and each loop of the program answers as its equation says; no condition. -/
import Derived.Test.YtjkokaockhecnaaGreatDoorFns
namespace Go.Proofs.YtjkokaockhecnaaGreatDoorA
open Go
set_option linter.unusedVariables false
theorem bY.f_eq (bar:aC)(k:Nat)(a0:List aT):bY.f bar (k+1) a0=
 bif (!(((a0).length:Int)==0)) then
 bif decide (((a0).length:Int)>8) then
 some false
 else
 bY.l0 bar k k a0 ((a0).length:Int) 0
 else
 some false:=by kernel_rfl
theorem bY.l0_eq (bar:aC)(k:Nat)(n:Nat)(x19:List aT)(x20:Int)(x21:Int):bY.l0 bar k (n+1) x19 x20 x21=
 bif decide (x21<x20) then
 (rd x19 x21).bind fun e_1=>
 bif (!(decide (e_1.kind<0))) then
 bif (!(decide (e_1.kind>4))) then
 (ic.f bar k x19 x21).bind fun r_2=>
 bif (!r_2) then
 some false
 else
 bY.l0 bar k n x19 x20 (IntKind.i64.wrap (x21+1))
 else
 some false
 else
 some false
 else
 bY.l2 bar k k x19 ((x19).length:Int) 0:=by kernel_rfl
theorem bY.l2_eq (bar:aC)(k:Nat)(n:Nat)(x41:List aT)(x42:Int)(x43:Int):bY.l2 bar k (n+1) x41 x42 x43=
 bif decide (x43<x42) then
 (rd x41 x43).bind fun e_1=>
 (cG.f bar k x41 x43).bind fun r_2=>
 bif (e_1.kind==3) then
 bif (!(((r_2).length:Int) != 1)) then
 bif (e_1.kind==4) then
 bif (!(((r_2).length:Int)==0)) then
 (cR.f bar k x41 x43).bind fun r_3=>
 bif decide (((r_3).length:Int)>5) then
 some false
 else
 bY.l2 bar k n x41 x42 (IntKind.i64.wrap (x43+1))
 else
 some false
 else
 (cR.f bar k x41 x43).bind fun r_4=>
 bif decide (((r_4).length:Int)>5) then
 some false
 else
 bY.l2 bar k n x41 x42 (IntKind.i64.wrap (x43+1))
 else
 some false
 else
 bif (e_1.kind==4) then
 bif (!(((r_2).length:Int)==0)) then
 (cR.f bar k x41 x43).bind fun r_5=>
 bif decide (((r_5).length:Int)>5) then
 some false
 else
 bY.l2 bar k n x41 x42 (IntKind.i64.wrap (x43+1))
 else
 some false
 else
 (cR.f bar k x41 x43).bind fun r_6=>
 bif decide (((r_6).length:Int)>5) then
 some false
 else
 bY.l2 bar k n x41 x42 (IntKind.i64.wrap (x43+1))
 else
 some true:=by kernel_rfl
theorem gJ.f_eq (bar:aC)(k:Nat)(a0:List Int)(a1:Int):gJ.f bar (k+1) a0 a1=
 bif decide (a1≥0) then
 bif decide (a1≤16) then
 bif decide (((a0).length:Int)≤4096) then
 (bT.f bar k a0 a1).bind fun r_1=>
 some (!r_1)
 else
 some false
 else
 some false
 else
 some false:=by kernel_rfl
theorem cp.f_eq (bar:aC)(k:Nat)(a0:List Int):cp.f bar (k+1) a0=
 cp.l0 bar k k a0 ((a0).length:Int) 0:=by kernel_rfl
theorem cp.l0_eq (bar:aC)(k:Nat)(n:Nat)(xs0:List Int)(x6:Int)(x7:Int):cp.l0 bar k (n+1) xs0 x6 x7=
 bif decide (x7<x6) then
 (rd xs0 x7).bind fun e_1=>
 (rd xs0 0).bind fun e_2=>
 bif (e_1 != e_2) then
 some x7
 else
 cp.l0 bar k n xs0 x6 (IntKind.i64.wrap (x7+1))
 else
 some ((xs0).length:Int):=by kernel_rfl
theorem cQ.f_eq (bar:aC)(k:Nat)(a0:Int):cQ.f bar (k+1) a0=
 (ki.f bar k a0).bind fun r_1=>
 bif (!r_1) then
 some (([]:List UInt8),300)
 else
 cQ.l0 bar k k a0 ([]:List Int):=by kernel_rfl
theorem cQ.l0_eq (bar:aC)(k:Nat)(n:Nat)(x0:Int)(x2004:List Int):cQ.l0 bar k (n+1) x0 x2004=
 bif decide (x0≥128) then
 bif decide (((x2004).length+(([aE .or .u8 (IntKind.u8.wrap x0) 128]:List Int)).length)*1≤140737488355328) then
 cQ.l0 bar k n (Int.fdiv x0 (2 ^ (min 7 IntKind.i64.bits))) (x2004++([aE .or .u8 (IntKind.u8.wrap x0) 128]:List Int))
 else
 none
 else
 bif decide (((x2004).length+(([IntKind.u8.wrap x0]:List Int)).length)*1≤140737488355328) then
 some (ag (x2004++([IntKind.u8.wrap x0]:List Int)),0)
 else
 none:=by kernel_rfl
theorem fZ.f_eq (bar:aC)(k:Nat)(a0:Int):fZ.f bar (k+1) a0=
 some (IntKind.i64.wrap (Int.tdiv (IntKind.i64.wrap (a0+7)) 8)):=by kernel_rfl
theorem cm.f_eq (bar:aC)(k:Nat)(a0:List Int):cm.f bar (k+1) a0=
 cm.l0 bar k k a0 0:=by kernel_rfl
theorem cm.l0_eq (bar:aC)(k:Nat)(n:Nat)(xs0:List Int)(at_3:Int):cm.l0 bar k (n+1) xs0 at_3=
 bif decide (at_3<((xs0).length:Int)) then
 bif decide (0≤at_3)&&decide (at_3≤(((xs0).length:Nat):Int)) then
 (cp.f bar k (List.drop ((at_3).toNat) (List.take ((xs0).length) xs0))).bind fun r_1=>
 bif decide (r_1≥8) then
 some at_3
 else
 cm.l0 bar k n xs0 (IntKind.i64.wrap (at_3+8))
 else
 none
 else
 some ((xs0).length:Int):=by kernel_rfl
theorem bL.f_eq (bar:aC)(k:Nat)(a0:List Int)(a1:Int):bL.f bar (k+1) a0 a1=
 bif (IntKind.i64.wrap ((IntKind.i64.wrap ((IntKind.i64.wrap (Int.tdiv (IntKind.i64.wrap ((IntKind.i64.wrap (((a0).length:Int)+8)) - 1)) 8))*8))*a1)==IntKind.i64.wrap ((IntKind.i64.wrap ((IntKind.i64.wrap (Int.tdiv (IntKind.i64.wrap ((IntKind.i64.wrap (((a0).length:Int)+8)) - 1)) 8))*8))*a1))&&(decide (0≤IntKind.i64.wrap ((IntKind.i64.wrap ((IntKind.i64.wrap (Int.tdiv (IntKind.i64.wrap ((IntKind.i64.wrap (((a0).length:Int)+8)) - 1)) 8))*8))*a1))&&decide ((IntKind.i64.wrap ((IntKind.i64.wrap ((IntKind.i64.wrap (Int.tdiv (IntKind.i64.wrap ((IntKind.i64.wrap (((a0).length:Int)+8)) - 1)) 8))*8))*a1))*1≤140737488355328)) then
 bL.l0 bar k k a1 a0 ((a0).length:Int) 0 (List.replicate (IntKind.i64.wrap ((IntKind.i64.wrap ((IntKind.i64.wrap (Int.tdiv (IntKind.i64.wrap ((IntKind.i64.wrap (((a0).length:Int)+8)) - 1)) 8))*8))*a1)).toNat (false:Bool):List Bool)
 else
 none:=by kernel_rfl
theorem bL.l0_eq (bar:aC)(k:Nat)(n:Nat)(width1:Int)(x18:List Int)(x19:Int)(x20:Int)(x2005:List Bool):bL.l0 bar k (n+1) width1 x18 x19 x20 x2005=
 bif decide (x20<x19) then
 (rd x18 x20).bind fun e_1=>
 bL.l2 bar k n k width1 x20 e_1 x18 x19 0 x2005
 else
 (fN.f bar k x2005).bind fun r_2=>
 some r_2:=by kernel_rfl
theorem bL.l2_eq (bar:aC)(k:Nat)(m1:Nat)(n:Nat)(width1:Int)(i6:Int)(x7:Int)(x18:List Int)(x19:Int)(x26:Int)(x2005:List Bool):bL.l2 bar k m1 (n+1) width1 i6 x7 x18 x19 x26 x2005=
 bif decide (x26<width1) then
 bif decide (x26<0) then
 none
 else
 bif decide (0≤IntKind.i64.wrap ((IntKind.i64.wrap (i6*width1))+x26))&&decide (IntKind.i64.wrap ((IntKind.i64.wrap (i6*width1))+x26)<((x2005).length:Int)) then
 (x2005[(IntKind.i64.wrap ((IntKind.i64.wrap (i6*width1))+x26)).toNat]?).bind fun e_1=>
 bL.l2 bar k m1 n width1 i6 x7 x18 x19 (IntKind.i64.wrap (x26+1)) ((x2005).set ((IntKind.i64.wrap ((IntKind.i64.wrap (i6*width1))+x26)).toNat) ((aE .and .i64 (Int.fdiv x7 (2 ^ (min (x26).toNat IntKind.i64.bits))) 1)==1))
 else
 none
 else
 bL.l0 bar k m1 width1 x18 x19 (IntKind.i64.wrap (i6+1)) x2005:=by kernel_rfl
theorem bP.f_eq (bar:aC)(k:Nat)(a0_0:List UInt8)(a0_1:Bool)(a1:Int):bP.f bar (k+1) a0_0 a0_1 a1=
 bif decide (a1>4) then
 (b7.f bar k a0_0 a0_1).bind fun r_1=>
 some ((r_1.1.1,r_1.1.2),(r_1.2.1,r_1.2.2))
 else
 (cA.f bar k a0_0 a0_1).bind fun r_2=>
 bif (r_2.1==110) then
 some (((-1),([]:List (List UInt8))),(r_2.2.1,r_2.2.2))
 else
 bif (r_2.1==105) then
 (bQ.f bar k r_2.2.1 r_2.2.2 ([59]:List UInt8)).bind fun r_3=>
 some ((0,([r_3.1.2]:List (List UInt8))),(r_3.2.1,r_3.2.2))
 else
 bif (r_2.1==116) then
 bif (r_2.1==116) then
 some ((1,([ag ([r_2.1]:List Int)]:List (List UInt8))),(r_2.2.1,r_2.2.2))
 else
 bif (r_2.1==115) then
 (bQ.f bar k r_2.2.1 r_2.2.2 ([58]:List UInt8)).bind fun r_4=>
 (dm.f bar k r_4.2.1 r_4.2.2 r_4.1.1).bind fun r_5=>
 some ((2,([r_5.1]:List (List UInt8))),(r_5.2.1,r_5.2.2))
 else
 bif (r_2.1==91) then
 (aS.f bar k r_2.2.1 r_2.2.2 93 (IntKind.i64.wrap (a1+1))).bind fun r_6=>
 some ((3,r_6.1),(r_6.2.1,r_6.2.2))
 else
 bif (r_2.1==123) then
 (aS.f bar k r_2.2.1 r_2.2.2 125 (IntKind.i64.wrap (a1+1))).bind fun r_7=>
 some ((4,r_7.1),(r_7.2.1,r_7.2.2))
 else
 (b7.f bar k r_2.2.1 r_2.2.2).bind fun r_8=>
 some ((r_8.1.1,r_8.1.2),(r_8.2.1,r_8.2.2))
 else
 bif (r_2.1==102) then
 some ((1,([ag ([r_2.1]:List Int)]:List (List UInt8))),(r_2.2.1,r_2.2.2))
 else
 bif (r_2.1==115) then
 (bQ.f bar k r_2.2.1 r_2.2.2 ([58]:List UInt8)).bind fun r_9=>
 (dm.f bar k r_9.2.1 r_9.2.2 r_9.1.1).bind fun r_10=>
 some ((2,([r_10.1]:List (List UInt8))),(r_10.2.1,r_10.2.2))
 else
 bif (r_2.1==91) then
 (aS.f bar k r_2.2.1 r_2.2.2 93 (IntKind.i64.wrap (a1+1))).bind fun r_11=>
 some ((3,r_11.1),(r_11.2.1,r_11.2.2))
 else
 bif (r_2.1==123) then
 (aS.f bar k r_2.2.1 r_2.2.2 125 (IntKind.i64.wrap (a1+1))).bind fun r_12=>
 some ((4,r_12.1),(r_12.2.1,r_12.2.2))
 else
 (b7.f bar k r_2.2.1 r_2.2.2).bind fun r_13=>
 some ((r_13.1.1,r_13.1.2),(r_13.2.1,r_13.2.2)):=by kernel_rfl
theorem er.f_eq (bar:aC)(k:Nat)(a0:List aT)(a1:Int):er.f bar (k+1) a0 a1=
 (ce.f bar k a0 a1).bind fun r_1=>
 bif (!r_1) then
 some (([]:List Int),500)
 else
 (bH.f bar k a0 a1).bind fun r_2=>
 some (r_2,0):=by kernel_rfl
theorem a7.f_eq (bar:aC)(k:Nat)(a0:List Bool):a7.f bar (k+1) a0=
 (bZ.f bar k ((a0).length:Int)).bind fun r_1=>
 bif (r_1==r_1)&&(decide (0≤r_1)&&decide (r_1*1≤140737488355328)) then
 a7.l0 bar k k a0 0 (List.replicate (r_1).toNat (0:Int):List Int)
 else
 none:=by kernel_rfl
theorem a7.l0_eq (bar:aC)(k:Nat)(n:Nat)(xs0:List Bool)(i4:Int)(x2003:List Int):a7.l0 bar k (n+1) xs0 i4 x2003=
 bif decide (i4<((xs0).length:Int)) then
 (rd xs0 i4).bind fun e_1=>
 bif e_1 then
 bif decide (0≤IntKind.i64.wrap (Int.tdiv i4 8))&&decide (IntKind.i64.wrap (Int.tdiv i4 8)<((x2003).length:Int)) then
 (x2003[(IntKind.i64.wrap (Int.tdiv i4 8)).toNat]?).bind fun e_2=>
 bif decide (Int.tmod i4 8<0) then
 none
 else
 bif decide (0≤IntKind.i64.wrap (Int.tdiv i4 8))&&decide (IntKind.i64.wrap (Int.tdiv i4 8)<((x2003).length:Int)) then
 (x2003[(IntKind.i64.wrap (Int.tdiv i4 8)).toNat]?).bind fun e_3=>
 a7.l0 bar k n xs0 (IntKind.i64.wrap (i4+1)) ((x2003).set ((IntKind.i64.wrap (Int.tdiv i4 8)).toNat) (aE .or .u8 e_2 (IntKind.u8.wrap (1*2 ^ (min (Int.tmod i4 8).toNat IntKind.u8.bits)))))
 else
 none
 else
 none
 else
 a7.l0 bar k n xs0 (IntKind.i64.wrap (i4+1)) x2003
 else
 some (ag x2003):=by kernel_rfl
theorem ai.f_eq (bar:aC)(k:Nat)(a0:List UInt8)(a1:Int)(a2:Int):ai.f bar (k+1) a0 a1 a2=
 bif decide (a1≥((a0).length:Int)) then
 some (-1)
 else
 (rd a0 a1).bind fun b_1=>
 bif ((b_1.toNat:Int)==110) then
 bif ((b_1.toNat:Int)==110) then
 some (IntKind.i64.wrap (a1+1))
 else
 bif ((b_1.toNat:Int)==105) then
 (aK.f bar k a0 a1 59).bind fun r_2=>
 bif decide (r_2<0) then
 some (-1)
 else
 bif decide (0≤r_2)&&decide (r_2≤(((a0).length:Nat):Int)) then
 bif decide (0≤IntKind.i64.wrap (a1+1))&&decide (IntKind.i64.wrap (a1+1)≤(((r_2).toNat:Nat):Int)) then
 (am.f bar k (List.drop ((IntKind.i64.wrap (a1+1)).toNat) (List.take ((r_2).toNat) a0))).bind fun r_3=>
 bif (!r_3.2) then
 some (-1)
 else
 some (IntKind.i64.wrap (r_2+1))
 else
 none
 else
 none
 else
 bif ((b_1.toNat:Int)==115) then
 (aK.f bar k a0 a1 58).bind fun r_4=>
 bif decide (r_4<0) then
 some (-1)
 else
 bif decide (0≤r_4)&&decide (r_4≤(((a0).length:Nat):Int)) then
 bif decide (0≤IntKind.i64.wrap (a1+1))&&decide (IntKind.i64.wrap (a1+1)≤(((r_4).toNat:Nat):Int)) then
 (am.f bar k (List.drop ((IntKind.i64.wrap (a1+1)).toNat) (List.take ((r_4).toNat) a0))).bind fun r_5=>
 bif (!(!r_5.2)) then
 bif (!(decide (r_5.1<0))) then
 bif decide (r_5.1>(IntKind.i64.wrap ((IntKind.i64.wrap (((a0).length:Int) - r_4)) - 1))) then
 some (-1)
 else
 some (IntKind.i64.wrap ((IntKind.i64.wrap (r_4+1))+r_5.1))
 else
 some (-1)
 else
 some (-1)
 else
 none
 else
 none
 else
 bif ((b_1.toNat:Int)==91) then
 bif ((b_1.toNat:Int)==91) then
 (rd a0 a1).bind fun b_6=>
 ai.l1 bar k k a0 (IntKind.i64.wrap (a1+1)) a2 (IntKind.u8.wrap ((b_6.toNat:Int)+2))
 else
 some (-1)
 else
 bif ((b_1.toNat:Int)==123) then
 (rd a0 a1).bind fun b_7=>
 ai.l1 bar k k a0 (IntKind.i64.wrap (a1+1)) a2 (IntKind.u8.wrap ((b_7.toNat:Int)+2))
 else
 some (-1)
 else
 bif ((b_1.toNat:Int)==116) then
 bif ((b_1.toNat:Int)==116) then
 some (IntKind.i64.wrap (a1+1))
 else
 bif ((b_1.toNat:Int)==105) then
 (aK.f bar k a0 a1 59).bind fun r_8=>
 bif decide (r_8<0) then
 some (-1)
 else
 bif decide (0≤r_8)&&decide (r_8≤(((a0).length:Nat):Int)) then
 bif decide (0≤IntKind.i64.wrap (a1+1))&&decide (IntKind.i64.wrap (a1+1)≤(((r_8).toNat:Nat):Int)) then
 (am.f bar k (List.drop ((IntKind.i64.wrap (a1+1)).toNat) (List.take ((r_8).toNat) a0))).bind fun r_9=>
 bif (!r_9.2) then
 some (-1)
 else
 some (IntKind.i64.wrap (r_8+1))
 else
 none
 else
 none
 else
 bif ((b_1.toNat:Int)==115) then
 (aK.f bar k a0 a1 58).bind fun r_10=>
 bif decide (r_10<0) then
 some (-1)
 else
 bif decide (0≤r_10)&&decide (r_10≤(((a0).length:Nat):Int)) then
 bif decide (0≤IntKind.i64.wrap (a1+1))&&decide (IntKind.i64.wrap (a1+1)≤(((r_10).toNat:Nat):Int)) then
 (am.f bar k (List.drop ((IntKind.i64.wrap (a1+1)).toNat) (List.take ((r_10).toNat) a0))).bind fun r_11=>
 bif (!(!r_11.2)) then
 bif (!(decide (r_11.1<0))) then
 bif decide (r_11.1>(IntKind.i64.wrap ((IntKind.i64.wrap (((a0).length:Int) - r_10)) - 1))) then
 some (-1)
 else
 some (IntKind.i64.wrap ((IntKind.i64.wrap (r_10+1))+r_11.1))
 else
 some (-1)
 else
 some (-1)
 else
 none
 else
 none
 else
 bif ((b_1.toNat:Int)==91) then
 bif ((b_1.toNat:Int)==91) then
 (rd a0 a1).bind fun b_12=>
 ai.l1 bar k k a0 (IntKind.i64.wrap (a1+1)) a2 (IntKind.u8.wrap ((b_12.toNat:Int)+2))
 else
 some (-1)
 else
 bif ((b_1.toNat:Int)==123) then
 (rd a0 a1).bind fun b_13=>
 ai.l1 bar k k a0 (IntKind.i64.wrap (a1+1)) a2 (IntKind.u8.wrap ((b_13.toNat:Int)+2))
 else
 some (-1)
 else
 bif ((b_1.toNat:Int)==102) then
 some (IntKind.i64.wrap (a1+1))
 else
 bif ((b_1.toNat:Int)==105) then
 (aK.f bar k a0 a1 59).bind fun r_14=>
 bif decide (r_14<0) then
 some (-1)
 else
 bif decide (0≤r_14)&&decide (r_14≤(((a0).length:Nat):Int)) then
 bif decide (0≤IntKind.i64.wrap (a1+1))&&decide (IntKind.i64.wrap (a1+1)≤(((r_14).toNat:Nat):Int)) then
 (am.f bar k (List.drop ((IntKind.i64.wrap (a1+1)).toNat) (List.take ((r_14).toNat) a0))).bind fun r_15=>
 bif (!r_15.2) then
 some (-1)
 else
 some (IntKind.i64.wrap (r_14+1))
 else
 none
 else
 none
 else
 bif ((b_1.toNat:Int)==115) then
 (aK.f bar k a0 a1 58).bind fun r_16=>
 bif decide (r_16<0) then
 some (-1)
 else
 bif decide (0≤r_16)&&decide (r_16≤(((a0).length:Nat):Int)) then
 bif decide (0≤IntKind.i64.wrap (a1+1))&&decide (IntKind.i64.wrap (a1+1)≤(((r_16).toNat:Nat):Int)) then
 (am.f bar k (List.drop ((IntKind.i64.wrap (a1+1)).toNat) (List.take ((r_16).toNat) a0))).bind fun r_17=>
 bif (!(!r_17.2)) then
 bif (!(decide (r_17.1<0))) then
 bif decide (r_17.1>(IntKind.i64.wrap ((IntKind.i64.wrap (((a0).length:Int) - r_16)) - 1))) then
 some (-1)
 else
 some (IntKind.i64.wrap ((IntKind.i64.wrap (r_16+1))+r_17.1))
 else
 some (-1)
 else
 some (-1)
 else
 none
 else
 none
 else
 bif ((b_1.toNat:Int)==91) then
 bif ((b_1.toNat:Int)==91) then
 (rd a0 a1).bind fun b_18=>
 ai.l1 bar k k a0 (IntKind.i64.wrap (a1+1)) a2 (IntKind.u8.wrap ((b_18.toNat:Int)+2))
 else
 some (-1)
 else
 bif ((b_1.toNat:Int)==123) then
 (rd a0 a1).bind fun b_19=>
 ai.l1 bar k k a0 (IntKind.i64.wrap (a1+1)) a2 (IntKind.u8.wrap ((b_19.toNat:Int)+2))
 else
 some (-1):=by kernel_rfl
theorem ai.l1_eq (bar:aC)(k:Nat)(n:Nat)(s0:List UInt8)(at_1:Int)(deep2:Int)(stop13:Int):ai.l1 bar k (n+1) s0 at_1 deep2 stop13=
 bif decide (deep2>0) then
 bif decide (at_1<((s0).length:Int)) then
 (rd s0 at_1).bind fun b_1=>
 bif ((b_1.toNat:Int) != stop13) then
 (ai.f bar k s0 at_1 (IntKind.i64.wrap (deep2 - 1))).bind fun r_2=>
 bif decide (r_2<0) then
 some (-1)
 else
 ai.l1 bar k n s0 r_2 deep2 stop13
 else
 bif decide (at_1<((s0).length:Int)) then
 (rd s0 at_1).bind fun b_3=>
 bif ((b_3.toNat:Int)==stop13) then
 some (IntKind.i64.wrap (at_1+1))
 else
 some (-1)
 else
 some (-1)
 else
 bif decide (at_1<((s0).length:Int)) then
 (rd s0 at_1).bind fun b_4=>
 bif ((b_4.toNat:Int)==stop13) then
 some (IntKind.i64.wrap (at_1+1))
 else
 some (-1)
 else
 some (-1)
 else
 bif decide (at_1<((s0).length:Int)) then
 (rd s0 at_1).bind fun b_5=>
 bif ((b_5.toNat:Int)==stop13) then
 some (IntKind.i64.wrap (at_1+1))
 else
 some (-1)
 else
 some (-1):=by kernel_rfl
theorem aK.f_eq (bar:aC)(k:Nat)(a0:List UInt8)(a1:Int)(a2:Int):aK.f bar (k+1) a0 a1 a2=
 aK.l0 bar k k a0 a1 a2 a1:=by kernel_rfl
theorem aK.l0_eq (bar:aC)(k:Nat)(n:Nat)(s0:List UInt8)(at_1:Int)(sign2:Int)(i7:Int):aK.l0 bar k (n+1) s0 at_1 sign2 i7=
 bif decide (i7<((s0).length:Int)) then
 bif decide (i7<(IntKind.i64.wrap (at_1+22))) then
 (rd s0 i7).bind fun b_1=>
 bif ((b_1.toNat:Int)==sign2) then
 some i7
 else
 aK.l0 bar k n s0 at_1 sign2 (IntKind.i64.wrap (i7+1))
 else
 some (-1)
 else
 some (-1):=by kernel_rfl
theorem bW.f_eq (bar:aC)(k:Nat)(a0:List aT)(a1:Int)(a2:List (List UInt8)):bW.f bar (k+1) a0 a1 a2=
 (ce.f bar k a0 a1).bind fun r_1=>
 bif (!r_1) then
 some ((iT.mk 0 0 0 [] [] [] ([]:List iT)),1000)
 else
 bW.l0 bar k k a1 a2 0 a0:=by kernel_rfl
theorem bW.l0_eq (bar:aC)(k:Nat)(n:Nat)(at_1:Int)(vs2:List (List UInt8))(i8:Int)(t3:List aT):bW.l0 bar k (n+1) at_1 vs2 i8 t3=
 bif decide (i8<((vs2).length:Int)) then
 (rd vs2 i8).bind fun e_1=>
 (af.f bar k t3 at_1 e_1).bind fun r_2=>
 bif (!r_2) then
 some ((iT.mk 0 0 0 [] [] [] ([]:List iT)),1000)
 else
 bW.l0 bar k n at_1 vs2 (IntKind.i64.wrap (i8+1)) t3
 else
 (aw.f bar k t3 at_1 vs2).bind fun r_3=>
 bif (!r_3.2) then
 some ((iT.mk 0 0 0 [] [] [] ([]:List iT)),1001)
 else
 some ((iT.mk r_3.1.layout r_3.1.offset r_3.1.length r_3.1.valid r_3.1.ends r_3.1.data r_3.1.kids),0):=by kernel_rfl
theorem ki.f_eq (bar:aC)(k:Nat)(a0:Int):ki.f bar (k+1) a0=
 bif decide (a0≥0) then
 some (decide (a0≤2147483647))
 else
 some false:=by kernel_rfl
theorem cu.f_eq (bar:aC)(k:Nat)(a0_0:List UInt8)(a0_1:Int)(a0_2:List Int)(a0_3:Bool)(a1:Int):cu.f bar (k+1) a0_0 a0_1 a0_2 a0_3 a1=
 bif (!a0_3) then
 bif decide (a1>((a0_0).length:Int)) then
 some (([]:List UInt8),(a0_0,a0_1,a0_2,true))
 else
 bif decide (0≤a1)&&decide (a1≤(((a0_0).length:Nat):Int)) then
 bif decide (0≤a1)&&decide (a1≤(((a0_0).length:Nat):Int)) then
 some (List.drop 0 (List.take ((a1).toNat) a0_0),(List.drop ((a1).toNat) (List.take ((a0_0).length) a0_0),a0_1,a0_2,a0_3))
 else
 none
 else
 none
 else
 some (([]:List UInt8),(a0_0,a0_1,a0_2,true)):=by kernel_rfl
theorem az.f_eq (bar:aC)(k:Nat)(a0:List Int)(a1:Int):az.f bar (k+1) a0 a1=
 bif decide (a1<0) then
 none
 else
 bar _ (az.j3 bar k a0 a1):=by kernel_rfl
theorem az.j3_eq (bar:aC)(k:Nat)(x0:List Int)(count1:Int):az.j3 bar k x0 count1=
 (gw.f bar k (IntKind.u64.wrap ((x0).length:Int)) (IntKind.u64.wrap count1)).bind fun r_1=>
 bif (!(decide (r_1.1>0))) then
 bif decide (r_1.2>9223372036854775807) then
 none
 else
 bar _ (az.j6 bar k x0 r_1.2)
 else
 none:=by kernel_rfl
theorem az.j6_eq (bar:aC)(k:Nat)(x0:List Int)(lo6:Int):az.j6 bar k x0 lo6=
 bif (IntKind.i64.wrap lo6==IntKind.i64.wrap lo6)&&(decide (0≤IntKind.i64.wrap lo6)&&decide ((IntKind.i64.wrap lo6)*8≤140737488355328)) then
 bif Nat.ble (0+((List.replicate (IntKind.i64.wrap lo6).toNat (0:Int):List Int)).length) ((List.replicate (IntKind.i64.wrap lo6).toNat (0:Int):List Int)).length then
 az.l0 bar k k ((min (x0).length (((List.replicate (IntKind.i64.wrap lo6).toNat (0:Int):List Int)).length):Nat):Int) (List.take 0 (List.replicate (IntKind.i64.wrap lo6).toNat (0:Int):List Int)++List.take (((List.replicate (IntKind.i64.wrap lo6).toNat (0:Int):List Int)).length) x0++List.drop (0+(min (x0).length (((List.replicate (IntKind.i64.wrap lo6).toNat (0:Int):List Int)).length))) (List.replicate (IntKind.i64.wrap lo6).toNat (0:Int):List Int))
 else
 none
 else
 none:=by kernel_rfl
theorem az.l0_eq (bar:aC)(k:Nat)(n:Nat)(n_8:Int)(x2007:List Int):az.l0 bar k (n+1) n_8 x2007=
 bif decide (n_8<((x2007).length:Int)) then
 bif decide (0≤n_8)&&decide (n_8≤(((x2007).length:Nat):Int)) then
 bif decide (0≤n_8)&&decide (n_8≤(((x2007).length:Nat):Int)) then
 bif Nat.ble ((n_8).toNat+(((x2007).length) - ((n_8).toNat))) (x2007).length then
 (bif Nat.ble (0+(n_8).toNat) (x2007).length then some (List.take ((n_8).toNat) (List.drop 0 x2007)) else none).bind fun ys_1=>
 az.l0 bar k n (IntKind.i64.wrap (n_8+((min (ys_1).length (((x2007).length) - ((n_8).toNat)):Nat):Int))) (List.take ((n_8).toNat) x2007++List.take (((x2007).length) - ((n_8).toNat)) ys_1++List.drop (((n_8).toNat)+(min (ys_1).length (((x2007).length) - ((n_8).toNat)))) x2007)
 else
 none
 else
 none
 else
 none
 else
 some x2007:=by kernel_rfl
theorem qk.f_eq (bar:aC)(k:Nat)(a0:List UInt8)(a1:Int):qk.f bar (k+1) a0 a1=
 (rd a0 (IntKind.i64.wrap (Int.tdiv a1 8))).bind fun b_1=>
 bif decide (Int.tmod a1 8<0) then
 none
 else
 some ((aE .and .u8 (Int.fdiv (b_1.toNat:Int) (2 ^ (min (Int.tmod a1 8).toNat IntKind.u8.bits))) 1)==1):=by kernel_rfl
theorem strconv_Itoa.f_eq (bar:aC)(k:Nat)(a0:Int):strconv_Itoa.f bar (k+1) a0=
 qT a0:=by kernel_rfl
theorem a6.f_eq (bar:aC)(k:Nat)(a0:Int):a6.f bar (k+1) a0=
 bif decide (a0≥0) then
 (aF.f bar k a0).bind fun r_1=>
 some r_1
 else
 a6.l0 bar k k a0 ([]:List UInt8):=by kernel_rfl
theorem a6.l0_eq (bar:aC)(k:Nat)(n:Nat)(x0:Int)(s3:List UInt8):a6.l0 bar k (n+1) x0 s3=
 bif decide (x0<0) then
 bif decide ((ag ([IntKind.u8.wrap (IntKind.i64.wrap (48 - (Int.tmod x0 10)))]:List Int)).length+(s3).length≤9223372036854775807) then
 a6.l0 bar k n (IntKind.i64.wrap (Int.tdiv x0 10)) ((ag ([IntKind.u8.wrap (IntKind.i64.wrap (48 - (Int.tmod x0 10)))]:List Int))++s3)
 else
 none
 else
 bif decide ((([45]:List UInt8)).length+(s3).length≤9223372036854775807) then
 some (([45]:List UInt8)++s3)
 else
 none:=by kernel_rfl
theorem aF.f_eq (bar:aC)(k:Nat)(a0:Int):aF.f bar (k+1) a0=
 bif decide (a0<0) then
 bar _ (aF.j4 bar k a0 (IntKind.u64.wrap ((IntKind.u64.wrap (IntKind.i64.wrap (0 - (IntKind.i64.wrap (a0+1)))))+1)))
 else
 bar _ (aF.j4 bar k a0 (IntKind.u64.wrap a0)):=by kernel_rfl
theorem aF.j4_eq (bar:aC)(k:Nat)(x0:Int)(size3:Int):aF.j4 bar k x0 size3=
 aF.l0 bar k k x0 size3 ([]:List Int):=by kernel_rfl
theorem aF.l0_eq (bar:aC)(k:Nat)(n:Nat)(x0:Int)(size3:Int)(x2004:List Int):aF.l0 bar k (n+1) x0 size3 x2004=
 bif (!(decide (size3>0))) then
 bif (((x2004).length:Int)==0) then
 bif decide (((([IntKind.u8.wrap (IntKind.u64.wrap (48+(Int.tmod size3 10)))]:List Int)).length+(x2004).length)*1≤140737488355328) then
 aF.l0 bar k n x0 (IntKind.u64.wrap (Int.tdiv size3 10)) (([IntKind.u8.wrap (IntKind.u64.wrap (48+(Int.tmod size3 10)))]:List Int)++x2004)
 else
 none
 else
 bif decide (x0<0) then
 bif decide (((([45]:List Int)).length+(x2004).length)*1≤140737488355328) then
 some (ag (([45]:List Int)++x2004))
 else
 none
 else
 some (ag x2004)
 else
 bif decide (((([IntKind.u8.wrap (IntKind.u64.wrap (48+(Int.tmod size3 10)))]:List Int)).length+(x2004).length)*1≤140737488355328) then
 aF.l0 bar k n x0 (IntKind.u64.wrap (Int.tdiv size3 10)) (([IntKind.u8.wrap (IntKind.u64.wrap (48+(Int.tmod size3 10)))]:List Int)++x2004)
 else
 none:=by kernel_rfl
theorem cG.f_eq (bar:aC)(k:Nat)(a0:List aT)(a1:Int):cG.f bar (k+1) a0 a1=
 cG.l0 bar k k a1 a0 ((a0).length:Int) 0 ([]:List Int):=by kernel_rfl
theorem cG.l0_eq (bar:aC)(k:Nat)(n:Nat)(at_1:Int)(x11:List aT)(x12:Int)(x13:Int)(x2005:List Int):cG.l0 bar k (n+1) at_1 x11 x12 x13 x2005=
 bif decide (x13<x12) then
 (rd x11 x13).bind fun e_1=>
 bif decide (x13>0) then
 bif (e_1.parent==at_1) then
 bif decide (((x2005).length+(([x13]:List Int)).length)*8≤140737488355328) then
 cG.l0 bar k n at_1 x11 x12 (IntKind.i64.wrap (x13+1)) (x2005++([x13]:List Int))
 else
 none
 else
 cG.l0 bar k n at_1 x11 x12 (IntKind.i64.wrap (x13+1)) x2005
 else
 cG.l0 bar k n at_1 x11 x12 (IntKind.i64.wrap (x13+1)) x2005
 else
 some x2005:=by kernel_rfl
theorem ic.f_eq (bar:aC)(k:Nat)(a0:List aT)(a1:Int):ic.f bar (k+1) a0 a1=
 (rd a0 a1).bind fun e_1=>
 bif (a1==0) then
 some (e_1.parent==(-1))
 else
 bif decide (e_1.parent≥0) then
 bif decide (e_1.parent<a1) then
 (rd a0 e_1.parent).bind fun e_2=>
 (g9.f bar k e_2.kind).bind fun r_3=>
 some r_3
 else
 some false
 else
 some false:=by kernel_rfl
theorem bT.f_eq (bar:aC)(k:Nat)(a0:List Int)(a1_0:Int):bT.f bar (k+1) a0 a1_0=
 (au.f bar k a0 a1_0).bind fun r_1=>
 some (decide (r_1≥0)):=by kernel_rfl
theorem fN.f_eq (bar:aC)(k:Nat)(a0:List Bool):fN.f bar (k+1) a0=
 (fZ.f bar k ((a0).length:Int)).bind fun r_1=>
 bif (r_1==r_1)&&(decide (0≤r_1)&&decide (r_1*1≤140737488355328)) then
 fN.l0 bar k k a0 ((a0).length:Int) 0 (List.replicate (r_1).toNat (0:Int):List Int)
 else
 none:=by kernel_rfl
theorem fN.l0_eq (bar:aC)(k:Nat)(n:Nat)(x10:List Bool)(x11:Int)(x12:Int)(x2003:List Int):fN.l0 bar k (n+1) x10 x11 x12 x2003=
 bif decide (x12<x11) then
 (rd x10 x12).bind fun e_1=>
 bif e_1 then
 bif decide (0≤IntKind.i64.wrap (Int.tdiv x12 8))&&decide (IntKind.i64.wrap (Int.tdiv x12 8)<((x2003).length:Int)) then
 (x2003[(IntKind.i64.wrap (Int.tdiv x12 8)).toNat]?).bind fun e_2=>
 bif decide (Int.tmod x12 8<0) then
 none
 else
 bif decide (0≤IntKind.i64.wrap (Int.tdiv x12 8))&&decide (IntKind.i64.wrap (Int.tdiv x12 8)<((x2003).length:Int)) then
 (x2003[(IntKind.i64.wrap (Int.tdiv x12 8)).toNat]?).bind fun e_3=>
 fN.l0 bar k n x10 x11 (IntKind.i64.wrap (x12+1)) ((x2003).set ((IntKind.i64.wrap (Int.tdiv x12 8)).toNat) (aE .or .u8 e_2 (IntKind.u8.wrap (1*2 ^ (min (Int.tmod x12 8).toNat IntKind.u8.bits)))))
 else
 none
 else
 none
 else
 fN.l0 bar k n x10 x11 (IntKind.i64.wrap (x12+1)) x2003
 else
 some (ag x2003):=by kernel_rfl
theorem b7.f_eq (bar:aC)(k:Nat)(a0_0:List UInt8)(a0_1:Bool):b7.f bar (k+1) a0_0 a0_1=
 some ((0,([]:List (List UInt8))),(a0_0,true)):=by kernel_rfl
theorem cA.f_eq (bar:aC)(k:Nat)(a0_0:List UInt8)(a0_1:Bool):cA.f bar (k+1) a0_0 a0_1=
 bif (a0_0==([]:List UInt8)) then
 some (0,(a0_0,true))
 else
 (rd a0_0 0).bind fun b_1=>
 bif decide (0≤1)&&decide (1≤(((a0_0).length:Nat):Int)) then
 some ((b_1.toNat:Int),(List.drop 1 (List.take ((a0_0).length) a0_0),a0_1))
 else
 none:=by kernel_rfl
theorem bQ.f_eq (bar:aC)(k:Nat)(a0_0:List UInt8)(a0_1:Bool)(a1:List UInt8):bQ.f bar (k+1) a0_0 a0_1 a1=
 (strings_Cut.f bar k a0_0 a1).bind fun r_1=>
 (eA.f bar k r_1.1).bind fun r_2=>
 bif (!(!r_1.2.2)) then
 bif (!r_2.2) then
 (strconv_Itoa.f bar k r_2.1).bind fun r_3=>
 bif (r_3 != r_1.1) then
 some ((r_2.1,r_1.1),(r_1.2.1,true))
 else
 some ((r_2.1,r_1.1),(r_1.2.1,a0_1))
 else
 some ((r_2.1,r_1.1),(r_1.2.1,true))
 else
 some ((r_2.1,r_1.1),(r_1.2.1,true)):=by kernel_rfl
theorem dm.f_eq (bar:aC)(k:Nat)(a0_0:List UInt8)(a0_1:Bool)(a1:Int):dm.f bar (k+1) a0_0 a0_1 a1=
 bif (!a0_1) then
 bif (!(decide (a1<0))) then
 bif decide (a1>((a0_0).length:Int)) then
 some (([]:List UInt8),(a0_0,true))
 else
 bif decide (0≤a1)&&decide (a1≤(((a0_0).length:Nat):Int)) then
 bif decide (0≤a1)&&decide (a1≤(((a0_0).length:Nat):Int)) then
 some (List.drop 0 (List.take ((a1).toNat) a0_0),(List.drop ((a1).toNat) (List.take ((a0_0).length) a0_0),a0_1))
 else
 none
 else
 none
 else
 some (([]:List UInt8),(a0_0,true))
 else
 some (([]:List UInt8),(a0_0,true)):=by kernel_rfl
theorem aS.f_eq (bar:aC)(k:Nat)(a0_0:List UInt8)(a0_1:Bool)(a1:Int)(a2:Int):aS.f bar (k+1) a0_0 a0_1 a1 a2=
 aS.l0 bar k k a1 a2 a0_0 a0_1 ([]:List (List UInt8)):=by kernel_rfl
theorem aS.l0_eq (bar:aC)(k:Nat)(n:Nat)(end_1:Int)(within2:Int)(x1000:List UInt8)(x1000_1:Bool)(x2007:List (List UInt8)):aS.l0 bar k (n+1) end_1 within2 x1000 x1000_1 x2007=
 bif (!x1000_1) then
 bif (x1000 != ([]:List UInt8)) then
 (rd x1000 0).bind fun b_1=>
 bif ((b_1.toNat:Int) != end_1) then
 (bP.f bar k x1000 x1000_1 within2).bind fun r_2=>
 bif decide (0≤IntKind.i64.wrap (((x1000).length:Int) - ((r_2.2.1).length:Int)))&&decide (IntKind.i64.wrap (((x1000).length:Int) - ((r_2.2.1).length:Int))≤(((x1000).length:Nat):Int)) then
 bif decide (((x2007).length+(([List.drop 0 (List.take ((IntKind.i64.wrap (((x1000).length:Int) - ((r_2.2.1).length:Int))).toNat) x1000)]:List (List UInt8))).length)*16≤140737488355328) then
 aS.l0 bar k n end_1 within2 r_2.2.1 r_2.2.2 (x2007++([List.drop 0 (List.take ((IntKind.i64.wrap (((x1000).length:Int) - ((r_2.2.1).length:Int))).toNat) x1000)]:List (List UInt8)))
 else
 none
 else
 none
 else
 (cA.f bar k x1000 x1000_1).bind fun r_3=>
 some (x2007,(r_3.2.1,r_3.2.2))
 else
 (cA.f bar k x1000 x1000_1).bind fun r_4=>
 some (x2007,(r_4.2.1,r_4.2.2))
 else
 (cA.f bar k x1000 x1000_1).bind fun r_5=>
 some (x2007,(r_5.2.1,r_5.2.2)):=by kernel_rfl
theorem am.f_eq (bar:aC)(k:Nat)(a0:List UInt8):am.f bar (k+1) a0=
 am.l0 bar k k a0 0 0:=by kernel_rfl
theorem am.l0_eq (bar:aC)(k:Nat)(n:Nat)(s0:List UInt8)(x4:Int)(i5:Int):am.l0 bar k (n+1) s0 x4 i5=
 bif decide (i5<((s0).length:Int)) then
 bif decide (((s0).length:Int)<21) then
 (rd s0 i5).bind fun b_1=>
 bif ((b_1.toNat:Int)==45) then
 bif (i5==0) then
 am.l0 bar k n s0 x4 (IntKind.i64.wrap (i5+1))
 else
 (rd s0 i5).bind fun b_2=>
 bif (!(decide ((b_2.toNat:Int)<48))) then
 (rd s0 i5).bind fun b_3=>
 bif decide ((b_3.toNat:Int)>57) then
 some (0,false)
 else
 (rd s0 0).bind fun b_4=>
 bif ((b_4.toNat:Int)==45) then
 (rd s0 i5).bind fun b_5=>
 am.l0 bar k n s0 (IntKind.i64.wrap ((IntKind.i64.wrap (10*x4)) - (IntKind.i64.wrap (IntKind.u8.wrap ((b_5.toNat:Int) - 48))))) (IntKind.i64.wrap (i5+1))
 else
 (rd s0 i5).bind fun b_6=>
 am.l0 bar k n s0 (IntKind.i64.wrap ((IntKind.i64.wrap (10*x4))+(IntKind.i64.wrap (IntKind.u8.wrap ((b_6.toNat:Int) - 48))))) (IntKind.i64.wrap (i5+1))
 else
 some (0,false)
 else
 (rd s0 i5).bind fun b_7=>
 bif (!(decide ((b_7.toNat:Int)<48))) then
 (rd s0 i5).bind fun b_8=>
 bif decide ((b_8.toNat:Int)>57) then
 some (0,false)
 else
 (rd s0 0).bind fun b_9=>
 bif ((b_9.toNat:Int)==45) then
 (rd s0 i5).bind fun b_10=>
 am.l0 bar k n s0 (IntKind.i64.wrap ((IntKind.i64.wrap (10*x4)) - (IntKind.i64.wrap (IntKind.u8.wrap ((b_10.toNat:Int) - 48))))) (IntKind.i64.wrap (i5+1))
 else
 (rd s0 i5).bind fun b_11=>
 am.l0 bar k n s0 (IntKind.i64.wrap ((IntKind.i64.wrap (10*x4))+(IntKind.i64.wrap (IntKind.u8.wrap ((b_11.toNat:Int) - 48))))) (IntKind.i64.wrap (i5+1))
 else
 some (0,false)
 else
 (a6.f bar k x4).bind fun r_12=>
 some (x4,(r_12==s0))
 else
 (a6.f bar k x4).bind fun r_13=>
 some (x4,(r_13==s0)):=by kernel_rfl
theorem aw.f_eq (bar:aC)(k:Nat)(a0:List aT)(a1:Int)(a2:List (List UInt8)):aw.f bar (k+1) a0 a1 a2=
 (bN.f bar k a2).bind fun r_1=>
 bif decide (((a2).length:Int)>64) then
 some ((iT.mk 0 0 ((a2).length:Int) r_1 [] [] ([]:List iT)),false)
 else
 (er.f bar k a0 a1).bind fun r_2=>
 bif (((r_2.1).length:Int)==((r_2.1).length:Int))&&(decide (0≤((r_2.1).length:Int))&&decide (((r_2.1).length:Int)*24≤140737488355328)) then
 aw.l0 bar k k a1 a2 ((((r_2.1).length:Int)).toNat) 0 a0 ((a2).length:Int) r_1 [] [] (killCC 8 6 (killCC 6 6 (killC 2012 (killC 2009 (killC 40 (jk false (List.replicate ((((r_2.1).length:Int)).toNat) (ay.sl .str true [])))))))) r_2.1 ([]:List Bool)
 else
 none:=by kernel_rfl
theorem aw.l0_eq (bar:aC)(k:Nat)(n:Nat)(at_1:Int)(vs2:List (List UInt8))(rows11:Nat)(i13:Int)(t3:List aT)(a8:Int)(a8_1:List UInt8)(a8_2:List UInt8)(a8_3:List UInt8)(x40:List ay)(x2009:List Int)(x2012:List Bool):aw.l0 bar k (n+1) at_1 vs2 rows11 i13 t3 a8 a8_1 a8_2 a8_3 x40 x2009 x2012=
 bif decide (i13<((vs2).length:Int)) then
 (rd vs2 i13).bind fun e_1=>
 (ah.f bar k e_1).bind fun r_2=>
 (rd t3 at_1).bind fun e_3=>
 bif (e_3.kind==0) then
 bif decide (r_2.1≥0) then
 bif decide (0≤0)&&decide (0<((r_2.2.1).length:Int)) then
 (r_2.2.1[0]?).bind fun e_4=>
 (am.f bar k e_4).bind fun r_5=>
 (aY.f bar k r_5.1 8).bind fun r_6=>
 bif decide ((a8_3).length+(r_6).length≤9223372036854775807) then
 aw.l0 bar k n at_1 vs2 rows11 (IntKind.i64.wrap (i13+1)) t3 a8 a8_1 a8_2 (a8_3++r_6) (eZ [101,102,103,104,105,106] (killC 52 x40)) x2009 x2012
 else
 none
 else
 none
 else
 (aY.f bar k 0 8).bind fun r_7=>
 bif decide ((a8_3).length+(r_7).length≤9223372036854775807) then
 aw.l0 bar k n at_1 vs2 rows11 (IntKind.i64.wrap (i13+1)) t3 a8 a8_1 a8_2 (a8_3++r_7) (eZ [101,102,103,104,105,106] (killC 52 x40)) x2009 x2012
 else
 none
 else
 bif (e_3.kind==1) then
 (rd vs2 i13).bind fun e_8=>
 bif decide (((x2012).length+(([(e_8==([116]:List UInt8))]:List Bool)).length)*1≤140737488355328) then
 aw.l0 bar k n at_1 vs2 rows11 (IntKind.i64.wrap (i13+1)) t3 a8 a8_1 a8_2 a8_3 (killC 2012 (killC 116 (killC 115 (killC 52 x40)))) x2009 (x2012++([(e_8==([116]:List UInt8))]:List Bool))
 else
 none
 else
 bif (e_3.kind==2) then
 (aY.f bar k ((a8_3).length:Int) 4).bind fun r_9=>
 bif decide ((a8_2).length+(r_9).length≤9223372036854775807) then
 (uD.f bar k r_2.2.1).bind fun r_10=>
 bif decide ((a8_3).length+(r_10).length≤9223372036854775807) then
 aw.l0 bar k n at_1 vs2 rows11 (IntKind.i64.wrap (i13+1)) t3 a8 a8_1 (a8_2++r_9) (a8_3++r_10) (eZ [127,128,129,130,131,132] (eZ [119,120,121,122,123,124,125,126] (killC 52 x40))) x2009 x2012
 else
 none
 else
 none
 else
 bif (e_3.kind==3) then
 bif decide (0≤0)&&decide (0<((rows11:Nat):Int)) then
 ((eZ [135,136,137,138,139,140,141,142,143] (killC 52 x40))[0]?).bind fun c_11=>
 (wJ .str c_11).bind fun p_12=>
 bif p_12.1 then
 (aY.f bar k ((p_12.2).length:Int) 4).bind fun r_13=>
 bif decide ((a8_2).length+(r_13).length≤9223372036854775807) then
 bif decide (0≤0)&&decide (0<((rows11:Nat):Int)) then
 ((eZ [135,136,137,138,139,140,141,142,143] (killC 52 x40))[0]?).bind fun c_14=>
 (wJ .str c_14).bind fun p_15=>
 bif p_15.1 then
 ((eZ [135,136,137,138,139,140,141,142,143] (killC 52 x40))[0]?).bind fun c_16=>
 (wJ .str c_16).bind fun p_17=>
 bif decide (((p_17.2).length+(r_2.2.1).length)*16≤140737488355328) then
 bif decide (0≤0)&&decide (0<((rows11:Nat):Int)) then
 bif Nat.blt 0 (killC 149 ((eZ [135,136,137,138,139,140,141,142,143] (killC 52 x40)).set 0 (.av .und))).length then
 aw.l0 bar k n at_1 vs2 rows11 (IntKind.i64.wrap (i13+1)) t3 a8 a8_1 (a8_2++r_13) a8_3 (cZ 40 ((killC 149 ((eZ [135,136,137,138,139,140,141,142,143] (killC 52 x40)).set 0 (.av .und))).set 0 (ay.sl .str true (p_17.2++r_2.2.1)))) x2009 x2012
 else
 none
 else
 none
 else
 none
 else
 none
 else
 none
 else
 none
 else
 none
 else
 none
 else
 aw.l3 bar k n k at_1 vs2 rows11 i13 r_2.1 0 t3 a8 a8_1 a8_2 a8_3 (killC 2015 (killC 52 x40)) x2009 x2012 r_2.2.1
 else
 (rd t3 at_1).bind fun e_18=>
 bif (e_18.kind==1) then
 (a7.f bar k x2012).bind fun r_19=>
 bar _ (aw.j39 bar k rows11 t3 a8 a8_1 a8_2 r_19 x40 x2009)
 else
 bif (e_18.kind==2) then
 (aY.f bar k ((a8_3).length:Int) 4).bind fun r_20=>
 bif decide ((a8_2).length+(r_20).length≤9223372036854775807) then
 bar _ (aw.j39 bar k rows11 t3 a8 a8_1 (a8_2++r_20) a8_3 (eZ [164,165,166,167,168,169,170,171] x40) x2009)
 else
 none
 else
 bif (e_18.kind==3) then
 bif decide (0≤0)&&decide (0<((rows11:Nat):Int)) then
 ((eZ [174,175,176,177,178,179,180,181,182] x40)[0]?).bind fun c_21=>
 (wJ .str c_21).bind fun p_22=>
 bif p_22.1 then
 (aY.f bar k ((p_22.2).length:Int) 4).bind fun r_23=>
 bif decide ((a8_2).length+(r_23).length≤9223372036854775807) then
 bar _ (aw.j39 bar k rows11 t3 a8 a8_1 (a8_2++r_23) a8_3 (eZ [174,175,176,177,178,179,180,181,182] x40) x2009)
 else
 none
 else
 none
 else
 none
 else
 bar _ (aw.j39 bar k rows11 t3 a8 a8_1 a8_2 a8_3 x40 x2009):=by kernel_rfl
theorem aw.j39_eq (bar:aC)(k:Nat)(rows11:Nat)(t3:List aT)(a8:Int)(a8_1:List UInt8)(a8_2:List UInt8)(a8_3:List UInt8)(x40:List ay)(x2009:List Int):aw.j39 bar k rows11 t3 a8 a8_1 a8_2 a8_3 x40 x2009=
 aw.l6 bar k k rows11 0 t3 a8 a8_1 a8_2 a8_3 ([]:List iT) x40 x2009:=by kernel_rfl
theorem aw.l6_eq (bar:aC)(k:Nat)(n:Nat)(rows11:Nat)(j20:Int)(t3:List aT)(a8:Int)(a8_1:List UInt8)(a8_2:List UInt8)(a8_3:List UInt8)(a8_4:List iT)(x40:List ay)(x2009:List Int):aw.l6 bar k (n+1) rows11 j20 t3 a8 a8_1 a8_2 a8_3 a8_4 x40 x2009=
 bif decide (j20<((x2009).length:Int)) then
 bif decide (0≤j20)&&decide (j20<((x2009).length:Int)) then
 (x2009[(j20).toNat]?).bind fun e_1=>
 bif decide (0≤j20)&&decide (j20<((rows11:Nat):Int)) then
 ((eZ [190,191,192,193,194,195,196,197,198,199,189,200,201,21,22] x40)[(j20).toNat]?).bind fun c_2=>
 (wJ .str c_2).bind fun p_3=>
 bif p_3.1 then
 (aw.f bar k t3 e_1 p_3.2).bind fun r_4=>
 bif (!r_4.2) then
 some ((iT.mk 0 0 a8 a8_1 a8_2 a8_3 a8_4),false)
 else
 bif decide (((a8_4).length+(([(iT.mk r_4.1.layout r_4.1.offset r_4.1.length r_4.1.valid r_4.1.ends r_4.1.data r_4.1.kids)]:List iT)).length)*96≤140737488355328) then
 aw.l6 bar k n rows11 (IntKind.i64.wrap (j20+1)) t3 a8 a8_1 a8_2 a8_3 (a8_4++([(iT.mk r_4.1.layout r_4.1.offset r_4.1.length r_4.1.valid r_4.1.ends r_4.1.data r_4.1.kids)]:List iT)) (killCC 8 6 (killC 209 (killC 208 (eZ [190,191,192,193,194,195,196,197,198,199,189,200,201,21,22] x40)))) x2009
 else
 none
 else
 none
 else
 none
 else
 none
 else
 bif decide (((a8_3).length:Int)≤4096) then
 some ((iT.mk 0 0 a8 a8_1 a8_2 a8_3 a8_4),decide (((a8_2).length:Int)≤4096))
 else
 some ((iT.mk 0 0 a8 a8_1 a8_2 a8_3 a8_4),false):=by kernel_rfl
theorem gw.f_eq (bar:aC)(k:Nat)(a0:Int)(a1:Int):gw.f bar (k+1) a0 a1=
 (gx.f bar k a0 a1).bind fun r_1=>
 some (r_1.1,r_1.2):=by kernel_rfl
theorem au.f_eq (bar:aC)(k:Nat)(a0:List Int)(a1_0:Int):au.f bar (k+1) a0 a1_0=
 au.l0 bar k k a0 a1_0 ((a0).length:Int) 0:=by kernel_rfl
theorem au.l0_eq (bar:aC)(k:Nat)(n:Nat)(s0:List Int)(f1:Int)(x7:Int)(x8:Int):au.l0 bar k (n+1) s0 f1 x7 x8=
 bif decide (x8<x7) then
 (rd s0 x8).bind fun e_1=>
 (iq.f bar k e_1 f1).bind fun r_2=>
 bif r_2 then
 some x8
 else
 au.l0 bar k n s0 f1 x7 (IntKind.i64.wrap (x8+1))
 else
 some (-1):=by kernel_rfl
theorem strings_Cut.f_eq (bar:aC)(k:Nat)(a0:List UInt8)(a1:List UInt8):strings_Cut.f bar (k+1) a0 a1=
 uk a0 a1:=by kernel_rfl
theorem bN.f_eq (bar:aC)(k:Nat)(a0:List (List UInt8)):bN.f bar (k+1) a0=
 bN.l0 bar k k a0 true 0 ([]:List Bool):=by kernel_rfl
theorem bN.l0_eq (bar:aC)(k:Nat)(n:Nat)(vs0:List (List UInt8))(all4:Bool)(i5:Int)(x2003:List Bool):bN.l0 bar k (n+1) vs0 all4 i5 x2003=
 bif decide (i5<((vs0).length:Int)) then
 (rd vs0 i5).bind fun e_1=>
 bif decide (((x2003).length+(([(e_1 != ([110]:List UInt8))]:List Bool)).length)*1≤140737488355328) then
 bif all4 then
 (rd vs0 i5).bind fun e_2=>
 bN.l0 bar k n vs0 (e_2 != ([110]:List UInt8)) (IntKind.i64.wrap (i5+1)) (x2003++([(e_1 != ([110]:List UInt8))]:List Bool))
 else
 bN.l0 bar k n vs0 false (IntKind.i64.wrap (i5+1)) (x2003++([(e_1 != ([110]:List UInt8))]:List Bool))
 else
 none
 else
 bif all4 then
 some ([]:List UInt8)
 else
 (a7.f bar k x2003).bind fun r_3=>
 some r_3:=by kernel_rfl
theorem gx.f_eq (bar:aC)(k:Nat)(a0:Int)(a1:Int):gx.f bar (k+1) a0 a1=
 some (IntKind.u64.wrap ((IntKind.u64.wrap ((IntKind.u64.wrap ((Int.fdiv a0 (2 ^ (min 32 IntKind.u64.bits)))*(Int.fdiv a1 (2 ^ (min 32 IntKind.u64.bits)))))+(Int.fdiv (IntKind.u64.wrap ((IntKind.u64.wrap ((Int.fdiv a0 (2 ^ (min 32 IntKind.u64.bits)))*(aE .and .u64 a1 4294967295)))+(Int.fdiv (IntKind.u64.wrap ((aE .and .u64 a0 4294967295)*(aE .and .u64 a1 4294967295))) (2 ^ (min 32 IntKind.u64.bits))))) (2 ^ (min 32 IntKind.u64.bits)))))+(Int.fdiv (IntKind.u64.wrap ((aE .and .u64 (IntKind.u64.wrap ((IntKind.u64.wrap ((Int.fdiv a0 (2 ^ (min 32 IntKind.u64.bits)))*(aE .and .u64 a1 4294967295)))+(Int.fdiv (IntKind.u64.wrap ((aE .and .u64 a0 4294967295)*(aE .and .u64 a1 4294967295))) (2 ^ (min 32 IntKind.u64.bits))))) 4294967295)+(IntKind.u64.wrap ((aE .and .u64 a0 4294967295)*(Int.fdiv a1 (2 ^ (min 32 IntKind.u64.bits))))))) (2 ^ (min 32 IntKind.u64.bits)))),IntKind.u64.wrap (a0*a1)):=by kernel_rfl
theorem iq.f_eq (bar:aC)(k:Nat)(a0:Int)(a1:Int):iq.f bar (k+1) a0 a1=
 bif (!(decide (a0<0))) then
 bif decide (a1<0) then
 none
 else
 some (decide ((Int.fdiv a0 (2 ^ (min (a1).toNat IntKind.i64.bits)))>0))
 else
 some true:=by kernel_rfl
end Go.Proofs.YtjkokaockhecnaaGreatDoorA
