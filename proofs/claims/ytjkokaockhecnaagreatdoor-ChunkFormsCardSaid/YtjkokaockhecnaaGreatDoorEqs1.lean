/- Each function and each loop of the program answers as its equation says; no condition. -/
import Derived.Test.YtjkokaockhecnaaGreatDoorFns
namespace Go.Proofs.YtjkokaockhecnaaGreatDoorA
open Go
set_option linter.unusedVariables false
theorem aU.l0_eq (bar:aF)(k:Nat)(n:Nat)(a0:List (List UInt8))(b1:List (List UInt8))(i5:Int):aU.l0 bar k (n+1) a0 b1 i5=
 bif decide (i5<((a0).length:Int)) then
 (rd a0 i5).bind fun e_1=>
 (rd b1 i5).bind fun e_2=>
 bif (e_1 != e_2) then
 some false
 else
 aU.l0 bar k n a0 b1 (IntKind.i64.wrap (i5+1))
 else
 some true:=by kernel_rfl
theorem aP.f_eq (bar:aF)(k:Nat)(a0:List Int)(a1:List Int):aP.f bar (k+1) a0 a1=
 bif (((a0).length:Int) != ((a1).length:Int)) then
 some false
 else
 aP.l0 bar k k a0 a1 0:=by kernel_rfl
theorem aP.l0_eq (bar:aF)(k:Nat)(n:Nat)(a0:List Int)(b1:List Int)(i5:Int):aP.l0 bar k (n+1) a0 b1 i5=
 bif decide (i5<((a0).length:Int)) then
 (rd a0 i5).bind fun e_1=>
 (rd b1 i5).bind fun e_2=>
 bif (e_1 != e_2) then
 some false
 else
 aP.l0 bar k n a0 b1 (IntKind.i64.wrap (i5+1))
 else
 some true:=by kernel_rfl
theorem dM.f_eq (bar:aF)(k:Nat)(a0:List aL)(a1:Int):dM.f bar (k+1) a0 a1=
 (bW.f bar k a0 a1).bind fun r_1=>
 bif (!r_1) then
 some (([]:List Int),500)
 else
 (bh.f bar k a0 a1).bind fun r_2=>
 some (r_2,0):=by kernel_rfl
theorem cV.f_eq (bar:aF)(k:Nat)(a0:Int):cV.f bar (k+1) a0=
 bif (a0 != 3) then
 some (a0 != 4)
 else
 some false:=by kernel_rfl
theorem ai.f_eq (bar:aF)(k:Nat)(a0:List aL):ai.f bar (k+1) a0=
 bif (!(decide (((a0).length:Int)<1))) then
 bif (!(decide (((a0).length:Int)>8))) then
 (rd a0 0).bind fun e_1=>
 bif (e_1.parent != (-1)) then
 some false
 else
 bif (((a0).length:Int)==((a0).length:Int))&&(decide (0≤((a0).length:Int))&&decide (((a0).length:Int)*8≤140737488355328)) then
 ai.l0 bar k k 0 a0 (List.replicate (((a0).length:Int)).toNat (0:Int):List Int)
 else
 none
 else
 some false
 else
 some false:=by kernel_rfl
theorem ai.l0_eq (bar:aF)(k:Nat)(n:Nat)(i4:Int)(t1:List aL)(x2003:List Int):ai.l0 bar k (n+1) i4 t1 x2003=
 bif decide (i4<((t1).length:Int)) then
 (rd t1 i4).bind fun e_1=>
 (bj.f bar k e_1.kind 0 4).bind fun r_2=>
 bif (!r_2) then
 some false
 else
 (bh.f bar k t1 i4).bind fun r_3=>
 (cV.f bar k e_1.kind).bind fun r_4=>
 bif r_4 then
 bif (!(decide (((r_3).length:Int)>0))) then
 bif (e_1.kind==3) then
 bif (!(((r_3).length:Int) != 1)) then
 bif (e_1.kind==4) then
 bif decide (((r_3).length:Int)<1) then
 some false
 else
 bif (i4==0) then
 ai.l0 bar k n (IntKind.i64.wrap (i4+1)) t1 x2003
 else
 (bj.f bar k e_1.parent 0 (IntKind.i64.wrap (i4 - 1))).bind fun r_5=>
 bif (!(!r_5)) then
 bif decide (0≤e_1.parent)&&decide (e_1.parent<((x2003).length:Int)) then
 (x2003[(e_1.parent).toNat]?).bind fun e_6=>
 bif decide (e_6≥4) then
 some false
 else
 bif decide (0≤e_1.parent)&&decide (e_1.parent<((x2003).length:Int)) then
 (x2003[(e_1.parent).toNat]?).bind fun e_7=>
 bif decide (0≤i4)&&decide (i4<((x2003).length:Int)) then
 (x2003[(i4).toNat]?).bind fun e_8=>
 ai.l0 bar k n (IntKind.i64.wrap (i4+1)) t1 ((x2003).set ((i4).toNat) (IntKind.i64.wrap (e_7+1)))
 else
 none
 else
 none
 else
 none
 else
 some false
 else
 bif (i4==0) then
 ai.l0 bar k n (IntKind.i64.wrap (i4+1)) t1 x2003
 else
 (bj.f bar k e_1.parent 0 (IntKind.i64.wrap (i4 - 1))).bind fun r_9=>
 bif (!(!r_9)) then
 bif decide (0≤e_1.parent)&&decide (e_1.parent<((x2003).length:Int)) then
 (x2003[(e_1.parent).toNat]?).bind fun e_10=>
 bif decide (e_10≥4) then
 some false
 else
 bif decide (0≤e_1.parent)&&decide (e_1.parent<((x2003).length:Int)) then
 (x2003[(e_1.parent).toNat]?).bind fun e_11=>
 bif decide (0≤i4)&&decide (i4<((x2003).length:Int)) then
 (x2003[(i4).toNat]?).bind fun e_12=>
 ai.l0 bar k n (IntKind.i64.wrap (i4+1)) t1 ((x2003).set ((i4).toNat) (IntKind.i64.wrap (e_11+1)))
 else
 none
 else
 none
 else
 none
 else
 some false
 else
 some false
 else
 bif (e_1.kind==4) then
 bif decide (((r_3).length:Int)<1) then
 some false
 else
 bif (i4==0) then
 ai.l0 bar k n (IntKind.i64.wrap (i4+1)) t1 x2003
 else
 (bj.f bar k e_1.parent 0 (IntKind.i64.wrap (i4 - 1))).bind fun r_13=>
 bif (!(!r_13)) then
 bif decide (0≤e_1.parent)&&decide (e_1.parent<((x2003).length:Int)) then
 (x2003[(e_1.parent).toNat]?).bind fun e_14=>
 bif decide (e_14≥4) then
 some false
 else
 bif decide (0≤e_1.parent)&&decide (e_1.parent<((x2003).length:Int)) then
 (x2003[(e_1.parent).toNat]?).bind fun e_15=>
 bif decide (0≤i4)&&decide (i4<((x2003).length:Int)) then
 (x2003[(i4).toNat]?).bind fun e_16=>
 ai.l0 bar k n (IntKind.i64.wrap (i4+1)) t1 ((x2003).set ((i4).toNat) (IntKind.i64.wrap (e_15+1)))
 else
 none
 else
 none
 else
 none
 else
 some false
 else
 bif (i4==0) then
 ai.l0 bar k n (IntKind.i64.wrap (i4+1)) t1 x2003
 else
 (bj.f bar k e_1.parent 0 (IntKind.i64.wrap (i4 - 1))).bind fun r_17=>
 bif (!(!r_17)) then
 bif decide (0≤e_1.parent)&&decide (e_1.parent<((x2003).length:Int)) then
 (x2003[(e_1.parent).toNat]?).bind fun e_18=>
 bif decide (e_18≥4) then
 some false
 else
 bif decide (0≤e_1.parent)&&decide (e_1.parent<((x2003).length:Int)) then
 (x2003[(e_1.parent).toNat]?).bind fun e_19=>
 bif decide (0≤i4)&&decide (i4<((x2003).length:Int)) then
 (x2003[(i4).toNat]?).bind fun e_20=>
 ai.l0 bar k n (IntKind.i64.wrap (i4+1)) t1 ((x2003).set ((i4).toNat) (IntKind.i64.wrap (e_19+1)))
 else
 none
 else
 none
 else
 none
 else
 some false
 else
 some false
 else
 bif (e_1.kind==3) then
 bif (!(((r_3).length:Int) != 1)) then
 bif (e_1.kind==4) then
 bif decide (((r_3).length:Int)<1) then
 some false
 else
 bif (i4==0) then
 ai.l0 bar k n (IntKind.i64.wrap (i4+1)) t1 x2003
 else
 (bj.f bar k e_1.parent 0 (IntKind.i64.wrap (i4 - 1))).bind fun r_21=>
 bif (!(!r_21)) then
 bif decide (0≤e_1.parent)&&decide (e_1.parent<((x2003).length:Int)) then
 (x2003[(e_1.parent).toNat]?).bind fun e_22=>
 bif decide (e_22≥4) then
 some false
 else
 bif decide (0≤e_1.parent)&&decide (e_1.parent<((x2003).length:Int)) then
 (x2003[(e_1.parent).toNat]?).bind fun e_23=>
 bif decide (0≤i4)&&decide (i4<((x2003).length:Int)) then
 (x2003[(i4).toNat]?).bind fun e_24=>
 ai.l0 bar k n (IntKind.i64.wrap (i4+1)) t1 ((x2003).set ((i4).toNat) (IntKind.i64.wrap (e_23+1)))
 else
 none
 else
 none
 else
 none
 else
 some false
 else
 bif (i4==0) then
 ai.l0 bar k n (IntKind.i64.wrap (i4+1)) t1 x2003
 else
 (bj.f bar k e_1.parent 0 (IntKind.i64.wrap (i4 - 1))).bind fun r_25=>
 bif (!(!r_25)) then
 bif decide (0≤e_1.parent)&&decide (e_1.parent<((x2003).length:Int)) then
 (x2003[(e_1.parent).toNat]?).bind fun e_26=>
 bif decide (e_26≥4) then
 some false
 else
 bif decide (0≤e_1.parent)&&decide (e_1.parent<((x2003).length:Int)) then
 (x2003[(e_1.parent).toNat]?).bind fun e_27=>
 bif decide (0≤i4)&&decide (i4<((x2003).length:Int)) then
 (x2003[(i4).toNat]?).bind fun e_28=>
 ai.l0 bar k n (IntKind.i64.wrap (i4+1)) t1 ((x2003).set ((i4).toNat) (IntKind.i64.wrap (e_27+1)))
 else
 none
 else
 none
 else
 none
 else
 some false
 else
 some false
 else
 bif (e_1.kind==4) then
 bif decide (((r_3).length:Int)<1) then
 some false
 else
 bif (i4==0) then
 ai.l0 bar k n (IntKind.i64.wrap (i4+1)) t1 x2003
 else
 (bj.f bar k e_1.parent 0 (IntKind.i64.wrap (i4 - 1))).bind fun r_29=>
 bif (!(!r_29)) then
 bif decide (0≤e_1.parent)&&decide (e_1.parent<((x2003).length:Int)) then
 (x2003[(e_1.parent).toNat]?).bind fun e_30=>
 bif decide (e_30≥4) then
 some false
 else
 bif decide (0≤e_1.parent)&&decide (e_1.parent<((x2003).length:Int)) then
 (x2003[(e_1.parent).toNat]?).bind fun e_31=>
 bif decide (0≤i4)&&decide (i4<((x2003).length:Int)) then
 (x2003[(i4).toNat]?).bind fun e_32=>
 ai.l0 bar k n (IntKind.i64.wrap (i4+1)) t1 ((x2003).set ((i4).toNat) (IntKind.i64.wrap (e_31+1)))
 else
 none
 else
 none
 else
 none
 else
 some false
 else
 bif (i4==0) then
 ai.l0 bar k n (IntKind.i64.wrap (i4+1)) t1 x2003
 else
 (bj.f bar k e_1.parent 0 (IntKind.i64.wrap (i4 - 1))).bind fun r_33=>
 bif (!(!r_33)) then
 bif decide (0≤e_1.parent)&&decide (e_1.parent<((x2003).length:Int)) then
 (x2003[(e_1.parent).toNat]?).bind fun e_34=>
 bif decide (e_34≥4) then
 some false
 else
 bif decide (0≤e_1.parent)&&decide (e_1.parent<((x2003).length:Int)) then
 (x2003[(e_1.parent).toNat]?).bind fun e_35=>
 bif decide (0≤i4)&&decide (i4<((x2003).length:Int)) then
 (x2003[(i4).toNat]?).bind fun e_36=>
 ai.l0 bar k n (IntKind.i64.wrap (i4+1)) t1 ((x2003).set ((i4).toNat) (IntKind.i64.wrap (e_35+1)))
 else
 none
 else
 none
 else
 none
 else
 some false
 else
 some true:=by kernel_rfl
theorem fq.f_eq (bar:aF)(k:Nat)(a0:Int):fq.f bar (k+1) a0=
 (bj.f bar k a0 0 2147483647).bind fun r_1=>
 some r_1:=by kernel_rfl
theorem aQ.f_eq (bar:aF)(k:Nat)(a0:List Bool):aQ.f bar (k+1) a0=
 (b7.f bar k ((a0).length:Int)).bind fun r_1=>
 bif (r_1==r_1)&&(decide (0≤r_1)&&decide (r_1*1≤140737488355328)) then
 aQ.l0 bar k k a0 0 (List.replicate (r_1).toNat (0:Int):List Int)
 else
 none:=by kernel_rfl
theorem aQ.l0_eq (bar:aF)(k:Nat)(n:Nat)(xs0:List Bool)(i4:Int)(x2003:List Int):aQ.l0 bar k (n+1) xs0 i4 x2003=
 bif decide (i4<((xs0).length:Int)) then
 (rd xs0 i4).bind fun e_1=>
 bif e_1 then
 bif decide (0≤IntKind.i64.wrap (Int.tdiv i4 8))&&decide (IntKind.i64.wrap (Int.tdiv i4 8)<((x2003).length:Int)) then
 (x2003[(IntKind.i64.wrap (Int.tdiv i4 8)).toNat]?).bind fun e_2=>
 bif decide (Int.tmod i4 8<0) then
 none
 else
 bif decide (0≤IntKind.i64.wrap (Int.tdiv i4 8))&&decide (IntKind.i64.wrap (Int.tdiv i4 8)<((x2003).length:Int)) then
 (x2003[(IntKind.i64.wrap (Int.tdiv i4 8)).toNat]?).bind fun e_3=>
 aQ.l0 bar k n xs0 (IntKind.i64.wrap (i4+1)) ((x2003).set ((IntKind.i64.wrap (Int.tdiv i4 8)).toNat) (aH .or .u8 e_2 (IntKind.u8.wrap (1*2 ^ (min (Int.tmod i4 8).toNat IntKind.u8.bits)))))
 else
 none
 else
 none
 else
 aQ.l0 bar k n xs0 (IntKind.i64.wrap (i4+1)) x2003
 else
 some (ae x2003):=by kernel_rfl
theorem ah.f_eq (bar:aF)(k:Nat)(a0:List UInt8)(a1:Int)(a2:Int):ah.f bar (k+1) a0 a1 a2=
 bif decide (a1≥((a0).length:Int)) then
 some (-1)
 else
 (rd a0 a1).bind fun b_1=>
 bif ((b_1.toNat:Int)==110) then
 bif ((b_1.toNat:Int)==110) then
 some (IntKind.i64.wrap (a1+1))
 else
 bif ((b_1.toNat:Int)==105) then
 (aI.f bar k a0 a1 59).bind fun r_2=>
 bif decide (r_2<0) then
 some (-1)
 else
 bif decide (0≤r_2)&&decide (r_2≤(((a0).length:Nat):Int)) then
 bif decide (0≤IntKind.i64.wrap (a1+1))&&decide (IntKind.i64.wrap (a1+1)≤(((r_2).toNat:Nat):Int)) then
 (aj.f bar k (List.drop ((IntKind.i64.wrap (a1+1)).toNat) (List.take ((r_2).toNat) a0))).bind fun r_3=>
 bif (!r_3.2) then
 some (-1)
 else
 some (IntKind.i64.wrap (r_2+1))
 else
 none
 else
 none
 else
 bif ((b_1.toNat:Int)==115) then
 (aI.f bar k a0 a1 58).bind fun r_4=>
 bif decide (r_4<0) then
 some (-1)
 else
 bif decide (0≤r_4)&&decide (r_4≤(((a0).length:Nat):Int)) then
 bif decide (0≤IntKind.i64.wrap (a1+1))&&decide (IntKind.i64.wrap (a1+1)≤(((r_4).toNat:Nat):Int)) then
 (aj.f bar k (List.drop ((IntKind.i64.wrap (a1+1)).toNat) (List.take ((r_4).toNat) a0))).bind fun r_5=>
 bif (!(!r_5.2)) then
 bif (!(decide (r_5.1<0))) then
 bif decide (r_5.1>(IntKind.i64.wrap ((IntKind.i64.wrap (((a0).length:Int) - r_4)) - 1))) then
 some (-1)
 else
 some (IntKind.i64.wrap ((IntKind.i64.wrap (r_4+1))+r_5.1))
 else
 some (-1)
 else
 some (-1)
 else
 none
 else
 none
 else
 bif ((b_1.toNat:Int)==91) then
 bif ((b_1.toNat:Int)==91) then
 (rd a0 a1).bind fun b_6=>
 ah.l1 bar k k a0 (IntKind.i64.wrap (a1+1)) a2 (IntKind.u8.wrap ((b_6.toNat:Int)+2))
 else
 some (-1)
 else
 bif ((b_1.toNat:Int)==123) then
 (rd a0 a1).bind fun b_7=>
 ah.l1 bar k k a0 (IntKind.i64.wrap (a1+1)) a2 (IntKind.u8.wrap ((b_7.toNat:Int)+2))
 else
 some (-1)
 else
 bif ((b_1.toNat:Int)==116) then
 bif ((b_1.toNat:Int)==116) then
 some (IntKind.i64.wrap (a1+1))
 else
 bif ((b_1.toNat:Int)==105) then
 (aI.f bar k a0 a1 59).bind fun r_8=>
 bif decide (r_8<0) then
 some (-1)
 else
 bif decide (0≤r_8)&&decide (r_8≤(((a0).length:Nat):Int)) then
 bif decide (0≤IntKind.i64.wrap (a1+1))&&decide (IntKind.i64.wrap (a1+1)≤(((r_8).toNat:Nat):Int)) then
 (aj.f bar k (List.drop ((IntKind.i64.wrap (a1+1)).toNat) (List.take ((r_8).toNat) a0))).bind fun r_9=>
 bif (!r_9.2) then
 some (-1)
 else
 some (IntKind.i64.wrap (r_8+1))
 else
 none
 else
 none
 else
 bif ((b_1.toNat:Int)==115) then
 (aI.f bar k a0 a1 58).bind fun r_10=>
 bif decide (r_10<0) then
 some (-1)
 else
 bif decide (0≤r_10)&&decide (r_10≤(((a0).length:Nat):Int)) then
 bif decide (0≤IntKind.i64.wrap (a1+1))&&decide (IntKind.i64.wrap (a1+1)≤(((r_10).toNat:Nat):Int)) then
 (aj.f bar k (List.drop ((IntKind.i64.wrap (a1+1)).toNat) (List.take ((r_10).toNat) a0))).bind fun r_11=>
 bif (!(!r_11.2)) then
 bif (!(decide (r_11.1<0))) then
 bif decide (r_11.1>(IntKind.i64.wrap ((IntKind.i64.wrap (((a0).length:Int) - r_10)) - 1))) then
 some (-1)
 else
 some (IntKind.i64.wrap ((IntKind.i64.wrap (r_10+1))+r_11.1))
 else
 some (-1)
 else
 some (-1)
 else
 none
 else
 none
 else
 bif ((b_1.toNat:Int)==91) then
 bif ((b_1.toNat:Int)==91) then
 (rd a0 a1).bind fun b_12=>
 ah.l1 bar k k a0 (IntKind.i64.wrap (a1+1)) a2 (IntKind.u8.wrap ((b_12.toNat:Int)+2))
 else
 some (-1)
 else
 bif ((b_1.toNat:Int)==123) then
 (rd a0 a1).bind fun b_13=>
 ah.l1 bar k k a0 (IntKind.i64.wrap (a1+1)) a2 (IntKind.u8.wrap ((b_13.toNat:Int)+2))
 else
 some (-1)
 else
 bif ((b_1.toNat:Int)==102) then
 some (IntKind.i64.wrap (a1+1))
 else
 bif ((b_1.toNat:Int)==105) then
 (aI.f bar k a0 a1 59).bind fun r_14=>
 bif decide (r_14<0) then
 some (-1)
 else
 bif decide (0≤r_14)&&decide (r_14≤(((a0).length:Nat):Int)) then
 bif decide (0≤IntKind.i64.wrap (a1+1))&&decide (IntKind.i64.wrap (a1+1)≤(((r_14).toNat:Nat):Int)) then
 (aj.f bar k (List.drop ((IntKind.i64.wrap (a1+1)).toNat) (List.take ((r_14).toNat) a0))).bind fun r_15=>
 bif (!r_15.2) then
 some (-1)
 else
 some (IntKind.i64.wrap (r_14+1))
 else
 none
 else
 none
 else
 bif ((b_1.toNat:Int)==115) then
 (aI.f bar k a0 a1 58).bind fun r_16=>
 bif decide (r_16<0) then
 some (-1)
 else
 bif decide (0≤r_16)&&decide (r_16≤(((a0).length:Nat):Int)) then
 bif decide (0≤IntKind.i64.wrap (a1+1))&&decide (IntKind.i64.wrap (a1+1)≤(((r_16).toNat:Nat):Int)) then
 (aj.f bar k (List.drop ((IntKind.i64.wrap (a1+1)).toNat) (List.take ((r_16).toNat) a0))).bind fun r_17=>
 bif (!(!r_17.2)) then
 bif (!(decide (r_17.1<0))) then
 bif decide (r_17.1>(IntKind.i64.wrap ((IntKind.i64.wrap (((a0).length:Int) - r_16)) - 1))) then
 some (-1)
 else
 some (IntKind.i64.wrap ((IntKind.i64.wrap (r_16+1))+r_17.1))
 else
 some (-1)
 else
 some (-1)
 else
 none
 else
 none
 else
 bif ((b_1.toNat:Int)==91) then
 bif ((b_1.toNat:Int)==91) then
 (rd a0 a1).bind fun b_18=>
 ah.l1 bar k k a0 (IntKind.i64.wrap (a1+1)) a2 (IntKind.u8.wrap ((b_18.toNat:Int)+2))
 else
 some (-1)
 else
 bif ((b_1.toNat:Int)==123) then
 (rd a0 a1).bind fun b_19=>
 ah.l1 bar k k a0 (IntKind.i64.wrap (a1+1)) a2 (IntKind.u8.wrap ((b_19.toNat:Int)+2))
 else
 some (-1):=by kernel_rfl
theorem ah.l1_eq (bar:aF)(k:Nat)(n:Nat)(s0:List UInt8)(at_1:Int)(deep2:Int)(stop13:Int):ah.l1 bar k (n+1) s0 at_1 deep2 stop13=
 bif decide (deep2>0) then
 bif decide (at_1<((s0).length:Int)) then
 (rd s0 at_1).bind fun b_1=>
 bif ((b_1.toNat:Int) != stop13) then
 (ah.f bar k s0 at_1 (IntKind.i64.wrap (deep2 - 1))).bind fun r_2=>
 bif decide (r_2<0) then
 some (-1)
 else
 ah.l1 bar k n s0 r_2 deep2 stop13
 else
 bif decide (at_1<((s0).length:Int)) then
 (rd s0 at_1).bind fun b_3=>
 bif ((b_3.toNat:Int)==stop13) then
 some (IntKind.i64.wrap (at_1+1))
 else
 some (-1)
 else
 some (-1)
 else
 bif decide (at_1<((s0).length:Int)) then
 (rd s0 at_1).bind fun b_4=>
 bif ((b_4.toNat:Int)==stop13) then
 some (IntKind.i64.wrap (at_1+1))
 else
 some (-1)
 else
 some (-1)
 else
 bif decide (at_1<((s0).length:Int)) then
 (rd s0 at_1).bind fun b_5=>
 bif ((b_5.toNat:Int)==stop13) then
 some (IntKind.i64.wrap (at_1+1))
 else
 some (-1)
 else
 some (-1):=by kernel_rfl
theorem aI.f_eq (bar:aF)(k:Nat)(a0:List UInt8)(a1:Int)(a2:Int):aI.f bar (k+1) a0 a1 a2=
 aI.l0 bar k k a0 a1 a2 a1:=by kernel_rfl
theorem aI.l0_eq (bar:aF)(k:Nat)(n:Nat)(s0:List UInt8)(at_1:Int)(sign2:Int)(i7:Int):aI.l0 bar k (n+1) s0 at_1 sign2 i7=
 bif decide (i7<((s0).length:Int)) then
 bif decide (i7<(IntKind.i64.wrap (at_1+22))) then
 (rd s0 i7).bind fun b_1=>
 bif ((b_1.toNat:Int)==sign2) then
 some i7
 else
 aI.l0 bar k n s0 at_1 sign2 (IntKind.i64.wrap (i7+1))
 else
 some (-1)
 else
 some (-1):=by kernel_rfl
theorem bI.f_eq (bar:aF)(k:Nat)(a0:List aL)(a1:Int)(a2:List (List UInt8)):bI.f bar (k+1) a0 a1 a2=
 (bW.f bar k a0 a1).bind fun r_1=>
 bif (!r_1) then
 some ((g8.mk 0 0 0 [] [] [] ([]:List g8)),1000)
 else
 bI.l0 bar k k a1 a2 0 a0:=by kernel_rfl
theorem bI.l0_eq (bar:aF)(k:Nat)(n:Nat)(at_1:Int)(vs2:List (List UInt8))(i8:Int)(t3:List aL):bI.l0 bar k (n+1) at_1 vs2 i8 t3=
 bif decide (i8<((vs2).length:Int)) then
 (rd vs2 i8).bind fun e_1=>
 (ac.f bar k t3 at_1 e_1).bind fun r_2=>
 bif (!r_2) then
 some ((g8.mk 0 0 0 [] [] [] ([]:List g8)),1000)
 else
 bI.l0 bar k n at_1 vs2 (IntKind.i64.wrap (i8+1)) t3
 else
 (ar.f bar k t3 at_1 vs2).bind fun r_3=>
 bif (!r_3.2) then
 some ((g8.mk 0 0 0 [] [] [] ([]:List g8)),1001)
 else
 some ((g8.mk r_3.1.layout r_3.1.offset r_3.1.length r_3.1.valid r_3.1.ends r_3.1.data r_3.1.kids),0):=by kernel_rfl
theorem bV.f_eq (bar:aF)(k:Nat)(a0:List Int)(a1:Int):bV.f bar (k+1) a0 a1=
 (fG.f bar k a0 a1).bind fun r_1=>
 bif (!r_1) then
 some (([]:List UInt8),2100)
 else
 bV.l0 bar k k a0 a1 ([]:List Int):=by kernel_rfl
theorem bV.l0_eq (bar:aF)(k:Nat)(n:Nat)(xs0:List Int)(width1:Int)(out6:List Int):bV.l0 bar k (n+1) xs0 width1 out6=
 bif decide (((xs0).length:Int)>0) then
 (b6.f bar k xs0).bind fun r_1=>
 bif decide (r_1≥8) then
 (cw.f bar k (IntKind.i64.wrap (2*r_1))).bind fun r_2=>
 (rd xs0 0).bind fun e_3=>
 (eV.f bar k width1).bind fun r_4=>
 (dD.f bar k e_3 r_4).bind fun r_5=>
 bif decide ((r_2.1).length+(r_5).length≤9223372036854775807) then
 bif decide ((out6).length+(r_2.1++r_5).length≤140737488355328) then
 bif decide (0≤r_1)&&decide (r_1≤(((xs0).length:Nat):Int)) then
 bV.l0 bar k n (List.drop ((r_1).toNat) (List.take ((xs0).length) xs0)) width1 (out6++bz (r_2.1++r_5))
 else
 none
 else
 none
 else
 none
 else
 (bZ.f bar k xs0).bind fun r_6=>
 (cw.f bar k (IntKind.i64.wrap ((IntKind.i64.wrap (2*(IntKind.i64.wrap (Int.tdiv (IntKind.i64.wrap ((IntKind.i64.wrap (r_6+8)) - 1)) 8))))+1))).bind fun r_7=>
 bif decide (0≤r_6)&&decide (r_6≤(((xs0).length:Nat):Int)) then
 (bB.f bar k (List.drop 0 (List.take ((r_6).toNat) xs0)) width1).bind fun r_8=>
 bif decide ((r_7.1).length+(r_8).length≤9223372036854775807) then
 bif decide ((out6).length+(r_7.1++r_8).length≤140737488355328) then
 bif decide (0≤r_6)&&decide (r_6≤(((xs0).length:Nat):Int)) then
 bV.l0 bar k n (List.drop ((r_6).toNat) (List.take ((xs0).length) xs0)) width1 (out6++bz (r_7.1++r_8))
 else
 none
 else
 none
 else
 none
 else
 none
 else
 some (ae out6,0):=by kernel_rfl
theorem dz.f_eq (bar:aF)(k:Nat)(a0:List UInt8):dz.f bar (k+1) a0=
 bif decide (((a0).length:Int)>65536) then
 some (0,([]:List (List UInt8)),700)
 else
 (bD.f bar k a0 false 0).bind fun r_1=>
 bif (!r_1.2.2) then
 bif (r_1.2.1 != ([]:List UInt8)) then
 some (0,([]:List (List UInt8)),700)
 else
 some (r_1.1.1,r_1.1.2,0)
 else
 some (0,([]:List (List UInt8)),700):=by kernel_rfl
theorem dN.f_eq (bar:aF)(k:Nat)(a0:List UInt8):dN.f bar (k+1) a0=
 mD a0:=by kernel_rfl
theorem jc.f_eq (bar:aF)(k:Nat)(a0:List aL)(a1:Int):jc.f bar (k+1) a0 a1=
 (eX.f bar k a0 a1).bind fun r_1=>
 bif (!r_1) then
 some (([]:List Int),500)
 else
 (cm.f bar k a0 a1).bind fun r_2=>
 some (r_2,0):=by kernel_rfl
theorem bK.f_eq (bar:aF)(k:Nat)(a0:List aL):bK.f bar (k+1) a0=
 bif (!(((a0).length:Int)==0)) then
 bif decide (((a0).length:Int)>8) then
 some false
 else
 bK.l0 bar k k a0 ((a0).length:Int) 0
 else
 some false:=by kernel_rfl
theorem bK.l0_eq (bar:aF)(k:Nat)(n:Nat)(x19:List aL)(x20:Int)(x21:Int):bK.l0 bar k (n+1) x19 x20 x21=
 bif decide (x21<x20) then
 (rd x19 x21).bind fun e_1=>
 bif (!(decide (e_1.kind<0))) then
 bif (!(decide (e_1.kind>4))) then
 (gj.f bar k x19 x21).bind fun r_2=>
 bif (!r_2) then
 some false
 else
 bK.l0 bar k n x19 x20 (IntKind.i64.wrap (x21+1))
 else
 some false
 else
 some false
 else
 bK.l2 bar k k x19 ((x19).length:Int) 0:=by kernel_rfl
theorem bK.l2_eq (bar:aF)(k:Nat)(n:Nat)(x41:List aL)(x42:Int)(x43:Int):bK.l2 bar k (n+1) x41 x42 x43=
 bif decide (x43<x42) then
 (rd x41 x43).bind fun e_1=>
 (cm.f bar k x41 x43).bind fun r_2=>
 bif (e_1.kind==3) then
 bif (!(((r_2).length:Int) != 1)) then
 bif (e_1.kind==4) then
 bif (!(((r_2).length:Int)==0)) then
 (cA.f bar k x41 x43).bind fun r_3=>
 bif decide (((r_3).length:Int)>5) then
 some false
 else
 bK.l2 bar k n x41 x42 (IntKind.i64.wrap (x43+1))
 else
 some false
 else
 (cA.f bar k x41 x43).bind fun r_4=>
 bif decide (((r_4).length:Int)>5) then
 some false
 else
 bK.l2 bar k n x41 x42 (IntKind.i64.wrap (x43+1))
 else
 some false
 else
 bif (e_1.kind==4) then
 bif (!(((r_2).length:Int)==0)) then
 (cA.f bar k x41 x43).bind fun r_5=>
 bif decide (((r_5).length:Int)>5) then
 some false
 else
 bK.l2 bar k n x41 x42 (IntKind.i64.wrap (x43+1))
 else
 some false
 else
 (cA.f bar k x41 x43).bind fun r_6=>
 bif decide (((r_6).length:Int)>5) then
 some false
 else
 bK.l2 bar k n x41 x42 (IntKind.i64.wrap (x43+1))
 else
 some true:=by kernel_rfl
theorem nW.f_eq (bar:aF)(k:Nat)(a0:List UInt8)(a1:Int)(a2:Int):nW.f bar (k+1) a0 a1 a2=
 bif (a2 != 4) then
 bif (!(a2 != 8)) then
 bif (!(decide (a1<0))) then
 bif (!(decide (a1>((a0).length:Int)))) then
 bif decide ((IntKind.i64.wrap (((a0).length:Int) - a1))<a2) then
 some (0,300)
 else
 bif decide (0≤IntKind.i64.wrap (a1+a2))&&decide (IntKind.i64.wrap (a1+a2)≤(((a0).length:Nat):Int)) then
 bif decide (0≤a1)&&decide (a1≤(((IntKind.i64.wrap (a1+a2)).toNat:Nat):Int)) then
 (eH.f bar k (List.drop ((a1).toNat) (List.take ((IntKind.i64.wrap (a1+a2)).toNat) a0))).bind fun r_1=>
 bif (a2==4) then
 (jx.f bar k r_1).bind fun r_2=>
 bif (!r_2) then
 some (0,300)
 else
 some (r_1,0)
 else
 some (r_1,0)
 else
 none
 else
 none
 else
 some (0,300)
 else
 some (0,300)
 else
 some (0,300)
 else
 bif (!(decide (a1<0))) then
 bif (!(decide (a1>((a0).length:Int)))) then
 bif decide ((IntKind.i64.wrap (((a0).length:Int) - a1))<a2) then
 some (0,300)
 else
 bif decide (0≤IntKind.i64.wrap (a1+a2))&&decide (IntKind.i64.wrap (a1+a2)≤(((a0).length:Nat):Int)) then
 bif decide (0≤a1)&&decide (a1≤(((IntKind.i64.wrap (a1+a2)).toNat:Nat):Int)) then
 (eH.f bar k (List.drop ((a1).toNat) (List.take ((IntKind.i64.wrap (a1+a2)).toNat) a0))).bind fun r_3=>
 bif (a2==4) then
 (jx.f bar k r_3).bind fun r_4=>
 bif (!r_4) then
 some (0,300)
 else
 some (r_3,0)
 else
 some (r_3,0)
 else
 none
 else
 none
 else
 some (0,300)
 else
 some (0,300):=by kernel_rfl
theorem db.f_eq (bar:aF)(k:Nat)(a0:List UInt8)(a1:Int):db.f bar (k+1) a0 a1=
 bif (!(decide (a1<0))) then
 bif decide (a1>((a0).length:Int)) then
 some (0,0,300)
 else
 db.l0 bar k k a0 a1 0 0
 else
 some (0,0,300):=by kernel_rfl
theorem db.l0_eq (bar:aF)(k:Nat)(n:Nat)(s0:List UInt8)(at_1:Int)(x7:Int)(i8:Int):db.l0 bar k (n+1) s0 at_1 x7 i8=
 bif decide (i8<5) then
 bif decide ((IntKind.i64.wrap (at_1+i8))<((s0).length:Int)) then
 (rd s0 (IntKind.i64.wrap (at_1+i8))).bind fun b_1=>
 bif decide (IntKind.i64.wrap (7*i8)<0) then
 none
 else
 bif decide ((b_1.toNat:Int)≥128) then
 db.l0 bar k n s0 at_1 (aH .or .i64 x7 (IntKind.i64.wrap ((IntKind.i64.wrap (Int.tmod (b_1.toNat:Int) 128))*2 ^ (min (IntKind.i64.wrap (7*i8)).toNat IntKind.i64.bits)))) (IntKind.i64.wrap (i8+1))
 else
 (cw.f bar k (aH .or .i64 x7 (IntKind.i64.wrap ((IntKind.i64.wrap (Int.tmod (b_1.toNat:Int) 128))*2 ^ (min (IntKind.i64.wrap (7*i8)).toNat IntKind.i64.bits))))).bind fun r_2=>
 bif (!(r_2.2 != 0)) then
 bif decide (0≤IntKind.i64.wrap ((IntKind.i64.wrap (at_1+i8))+1))&&decide (IntKind.i64.wrap ((IntKind.i64.wrap (at_1+i8))+1)≤(((s0).length:Nat):Int)) then
 bif decide (0≤at_1)&&decide (at_1≤(((IntKind.i64.wrap ((IntKind.i64.wrap (at_1+i8))+1)).toNat:Nat):Int)) then
 bif (r_2.1 != (List.drop ((at_1).toNat) (List.take ((IntKind.i64.wrap ((IntKind.i64.wrap (at_1+i8))+1)).toNat) s0))) then
 some (0,0,300)
 else
 some (aH .or .i64 x7 (IntKind.i64.wrap ((IntKind.i64.wrap (Int.tmod (b_1.toNat:Int) 128))*2 ^ (min (IntKind.i64.wrap (7*i8)).toNat IntKind.i64.bits))),IntKind.i64.wrap ((IntKind.i64.wrap (at_1+i8))+1),0)
 else
 none
 else
 none
 else
 some (0,0,300)
 else
 some (0,0,300)
 else
 some (0,0,300):=by kernel_rfl
theorem ek.f_eq (bar:aF)(k:Nat)(a0_0:List UInt8)(a0_1:Int)(a0_2:List Int)(a0_3:Bool)(a1:Int)(a2:Int):ek.f bar (k+1) a0_0 a0_1 a0_2 a0_3 a1 a2=
 (eV.f bar k a0_1).bind fun r_1=>
 (cd.f bar k a0_0 a0_1 a0_2 a0_3 r_1).bind fun r_2=>
 (eH.f bar k r_2.1).bind fun r_3=>
 bif (!r_2.2.2.2.2) then
 bif (!(decide (a1>a2))) then
 (ax.f bar k ([r_3]:List Int) a1).bind fun r_4=>
 bif decide (((r_2.2.2.2.1).length+(r_4).length)*8≤140737488355328) then
 some (r_2.2.1,r_2.2.2.1,r_2.2.2.2.1++r_4,decide (a1>a2))
 else
 none
 else
 some (r_2.2.1,r_2.2.2.1,r_2.2.2.2.1,decide (a1>a2))
 else
 some (r_2.2.1,r_2.2.2.1,r_2.2.2.2.1,true):=by kernel_rfl
theorem am.f_eq (bar:aF)(k:Nat)(a0_0:List UInt8)(a0_1:Int)(a0_2:List Int)(a0_3:Bool)(a1:Int)(a2:Int):am.f bar (k+1) a0_0 a0_1 a0_2 a0_3 a1 a2=
 bif decide (a1>(IntKind.i64.wrap (Int.tdiv (IntKind.i64.wrap ((IntKind.i64.wrap (a2+8)) - 1)) 8))) then
 some (a0_0,a0_1,a0_2,true)
 else
 (cd.f bar k a0_0 a0_1 a0_2 a0_3 (IntKind.i64.wrap (a1*a0_1))).bind fun r_1=>
 am.l0 bar k k r_1.1 (bif decide (a2<(IntKind.i64.wrap (a1*8))) then a2 else IntKind.i64.wrap (a1*8)) 0 r_1.2.1 r_1.2.2.1 r_1.2.2.2.1 r_1.2.2.2.2:=by kernel_rfl
theorem am.l0_eq (bar:aF)(k:Nat)(n:Nat)(s6:List UInt8)(x30:Int)(x31:Int)(x1000:List UInt8)(x1000_1:Int)(x1000_2:List Int)(x1000_3:Bool):am.l0 bar k (n+1) s6 x30 x31 x1000 x1000_1 x1000_2 x1000_3=
 bif decide (x31<x30) then
 am.l2 bar k n k s6 x31 0 x30 x1000_1 0 x1000 x1000_2 x1000_3
 else
 some (x1000,x1000_1,x1000_2,x1000_3):=by kernel_rfl
theorem am.l2_eq (bar:aF)(k:Nat)(m1:Nat)(n:Nat)(s6:List UInt8)(i7:Int)(x8:Int)(x30:Int)(x37:Int)(x38:Int)(x1000:List UInt8)(x1000_1:List Int)(x1000_2:Bool):am.l2 bar k m1 (n+1) s6 i7 x8 x30 x37 x38 x1000 x1000_1 x1000_2=
 bif decide (x38<x37) then
 bif (!x1000_2) then
 (oI.f bar k s6 (IntKind.i64.wrap ((IntKind.i64.wrap (i7*x37))+x38))).bind fun r_1=>
 bif r_1 then
 bif decide (x38<0) then
 none
 else
 am.l2 bar k m1 n s6 i7 (aH .or .i64 x8 (IntKind.i64.wrap (1*2 ^ (min (x38).toNat IntKind.i64.bits)))) x30 x37 (IntKind.i64.wrap (x38+1)) x1000 x1000_1 x1000_2
 else
 am.l2 bar k m1 n s6 i7 x8 x30 x37 (IntKind.i64.wrap (x38+1)) x1000 x1000_1 x1000_2
 else
 am.l2 bar k m1 n s6 i7 x8 x30 x37 (IntKind.i64.wrap (x38+1)) x1000 x1000_1 x1000_2
 else
 bif decide (((x1000_1).length+(([x8]:List Int)).length)*8≤140737488355328) then
 am.l0 bar k m1 s6 x30 (IntKind.i64.wrap (i7+1)) x1000 x37 (x1000_1++([x8]:List Int)) x1000_2
 else
 none:=by kernel_rfl
theorem kc.f_eq (bar:aF)(k:Nat)(a0:Int):kc.f bar (k+1) a0=
 (strconv_Itoa.f bar k a0).bind fun r_1=>
 bif decide ((([105]:List UInt8)).length+(r_1).length≤9223372036854775807) then
 bif decide ((([105]:List UInt8)++r_1).length+(([59]:List UInt8)).length≤9223372036854775807) then
 some ((([105]:List UInt8)++r_1)++([59]:List UInt8))
 else
 none
 else
 none:=by kernel_rfl
theorem iL.f_eq (bar:aF)(k:Nat)(a0:Bool):iL.f bar (k+1) a0=
 bif a0 then
 some ([116]:List UInt8)
 else
 some ([102]:List UInt8):=by kernel_rfl
theorem ic.f_eq (bar:aF)(k:Nat)(a0:List UInt8):ic.f bar (k+1) a0=
 (strconv_Itoa.f bar k ((a0).length:Int)).bind fun r_1=>
 bif decide ((([115]:List UInt8)).length+(r_1).length≤9223372036854775807) then
 bif decide ((([115]:List UInt8)++r_1).length+(([58]:List UInt8)).length≤9223372036854775807) then
 bif decide (((([115]:List UInt8)++r_1)++([58]:List UInt8)).length+(a0).length≤9223372036854775807) then
 some (((([115]:List UInt8)++r_1)++([58]:List UInt8))++a0)
 else
 none
 else
 none
 else
 none:=by kernel_rfl
theorem fD.f_eq (bar:aF)(k:Nat)(a0_0:List UInt8)(a0_1:Bool):fD.f bar (k+1) a0_0 a0_1=
 (b9.f bar k a0_0 a0_1).bind fun r_1=>
 (bJ.f bar k r_1.2.1 r_1.2.2 r_1.1).bind fun r_2=>
 some (r_2.1,(r_2.2.1,r_2.2.2)):=by kernel_rfl
theorem bh.f_eq (bar:aF)(k:Nat)(a0:List aL)(a1:Int):bh.f bar (k+1) a0 a1=
 bh.l0 bar k k a1 1 a0 ([]:List Int):=by kernel_rfl
theorem bh.l0_eq (bar:aF)(k:Nat)(n:Nat)(at_1:Int)(i6:Int)(t2:List aL)(x2005:List Int):bh.l0 bar k (n+1) at_1 i6 t2 x2005=
 bif decide (i6<((t2).length:Int)) then
 (rd t2 i6).bind fun e_1=>
 bif (e_1.parent==at_1) then
 bif decide (((x2005).length+(([i6]:List Int)).length)*8≤140737488355328) then
 bh.l0 bar k n at_1 (IntKind.i64.wrap (i6+1)) t2 (x2005++([i6]:List Int))
 else
 none
 else
 bh.l0 bar k n at_1 (IntKind.i64.wrap (i6+1)) t2 x2005
 else
 some x2005:=by kernel_rfl
theorem bj.f_eq (bar:aF)(k:Nat)(a0:Int)(a1:Int)(a2:Int):bj.f bar (k+1) a0 a1 a2=
 bif decide (a0≥a1) then
 some (decide (a0≤a2))
 else
 some false:=by kernel_rfl
theorem aj.f_eq (bar:aF)(k:Nat)(a0:List UInt8):aj.f bar (k+1) a0=
 aj.l0 bar k k a0 0 0:=by kernel_rfl
theorem aj.l0_eq (bar:aF)(k:Nat)(n:Nat)(s0:List UInt8)(x4:Int)(i5:Int):aj.l0 bar k (n+1) s0 x4 i5=
 bif decide (i5<((s0).length:Int)) then
 bif decide (((s0).length:Int)<21) then
 (rd s0 i5).bind fun b_1=>
 bif ((b_1.toNat:Int)==45) then
 bif (i5==0) then
 aj.l0 bar k n s0 x4 (IntKind.i64.wrap (i5+1))
 else
 (rd s0 i5).bind fun b_2=>
 bif (!(decide ((b_2.toNat:Int)<48))) then
 (rd s0 i5).bind fun b_3=>
 bif decide ((b_3.toNat:Int)>57) then
 some (0,false)
 else
 (rd s0 0).bind fun b_4=>
 bif ((b_4.toNat:Int)==45) then
 (rd s0 i5).bind fun b_5=>
 aj.l0 bar k n s0 (IntKind.i64.wrap ((IntKind.i64.wrap (10*x4)) - (IntKind.i64.wrap (IntKind.u8.wrap ((b_5.toNat:Int) - 48))))) (IntKind.i64.wrap (i5+1))
 else
 (rd s0 i5).bind fun b_6=>
 aj.l0 bar k n s0 (IntKind.i64.wrap ((IntKind.i64.wrap (10*x4))+(IntKind.i64.wrap (IntKind.u8.wrap ((b_6.toNat:Int) - 48))))) (IntKind.i64.wrap (i5+1))
 else
 some (0,false)
 else
 (rd s0 i5).bind fun b_7=>
 bif (!(decide ((b_7.toNat:Int)<48))) then
 (rd s0 i5).bind fun b_8=>
 bif decide ((b_8.toNat:Int)>57) then
 some (0,false)
 else
 (rd s0 0).bind fun b_9=>
 bif ((b_9.toNat:Int)==45) then
 (rd s0 i5).bind fun b_10=>
 aj.l0 bar k n s0 (IntKind.i64.wrap ((IntKind.i64.wrap (10*x4)) - (IntKind.i64.wrap (IntKind.u8.wrap ((b_10.toNat:Int) - 48))))) (IntKind.i64.wrap (i5+1))
 else
 (rd s0 i5).bind fun b_11=>
 aj.l0 bar k n s0 (IntKind.i64.wrap ((IntKind.i64.wrap (10*x4))+(IntKind.i64.wrap (IntKind.u8.wrap ((b_11.toNat:Int) - 48))))) (IntKind.i64.wrap (i5+1))
 else
 some (0,false)
 else
 (aW.f bar k x4).bind fun r_12=>
 some (x4,(r_12==s0))
 else
 (aW.f bar k x4).bind fun r_13=>
 some (x4,(r_13==s0)):=by kernel_rfl
theorem ar.f_eq (bar:aF)(k:Nat)(a0:List aL)(a1:Int)(a2:List (List UInt8)):ar.f bar (k+1) a0 a1 a2=
 (bC.f bar k a2).bind fun r_1=>
 bif decide (((a2).length:Int)>64) then
 some ((g8.mk 0 0 ((a2).length:Int) r_1 [] [] ([]:List g8)),false)
 else
 (dM.f bar k a0 a1).bind fun r_2=>
 bif (((r_2.1).length:Int)==((r_2.1).length:Int))&&(decide (0≤((r_2.1).length:Int))&&decide (((r_2.1).length:Int)*24≤140737488355328)) then
 ar.l0 bar k k a1 a2 ((((r_2.1).length:Int)).toNat) 0 a0 ((a2).length:Int) r_1 [] [] (killCC 8 6 (killCC 6 6 (killC 2012 (killC 2009 (killC 40 (ix false (List.replicate ((((r_2.1).length:Int)).toNat) (au.sl .str true [])))))))) r_2.1 ([]:List Bool)
 else
 none:=by kernel_rfl
theorem ar.l0_eq (bar:aF)(k:Nat)(n:Nat)(at_1:Int)(vs2:List (List UInt8))(rows11:Nat)(i13:Int)(t3:List aL)(a8:Int)(a8_1:List UInt8)(a8_2:List UInt8)(a8_3:List UInt8)(x40:List au)(x2009:List Int)(x2012:List Bool):ar.l0 bar k (n+1) at_1 vs2 rows11 i13 t3 a8 a8_1 a8_2 a8_3 x40 x2009 x2012=
 bif decide (i13<((vs2).length:Int)) then
 (rd vs2 i13).bind fun e_1=>
 (af.f bar k e_1).bind fun r_2=>
 (rd t3 at_1).bind fun e_3=>
 bif (e_3.kind==0) then
 bif decide (r_2.1≥0) then
 bif decide (0≤0)&&decide (0<((r_2.2.1).length:Int)) then
 (r_2.2.1[0]?).bind fun e_4=>
 (aj.f bar k e_4).bind fun r_5=>
 (aT.f bar k r_5.1 8).bind fun r_6=>
 bif decide ((a8_3).length+(r_6).length≤9223372036854775807) then
 ar.l0 bar k n at_1 vs2 rows11 (IntKind.i64.wrap (i13+1)) t3 a8 a8_1 a8_2 (a8_3++r_6) (eh [101,102,103,104,105,106] (killC 52 x40)) x2009 x2012
 else
 none
 else
 none
 else
 (aT.f bar k 0 8).bind fun r_7=>
 bif decide ((a8_3).length+(r_7).length≤9223372036854775807) then
 ar.l0 bar k n at_1 vs2 rows11 (IntKind.i64.wrap (i13+1)) t3 a8 a8_1 a8_2 (a8_3++r_7) (eh [101,102,103,104,105,106] (killC 52 x40)) x2009 x2012
 else
 none
 else
 bif (e_3.kind==1) then
 (rd vs2 i13).bind fun e_8=>
 bif decide (((x2012).length+(([(e_8==([116]:List UInt8))]:List Bool)).length)*1≤140737488355328) then
 ar.l0 bar k n at_1 vs2 rows11 (IntKind.i64.wrap (i13+1)) t3 a8 a8_1 a8_2 a8_3 (killC 2012 (killC 116 (killC 115 (killC 52 x40)))) x2009 (x2012++([(e_8==([116]:List UInt8))]:List Bool))
 else
 none
 else
 bif (e_3.kind==2) then
 (aT.f bar k ((a8_3).length:Int) 4).bind fun r_9=>
 bif decide ((a8_2).length+(r_9).length≤9223372036854775807) then
 (sd.f bar k r_2.2.1).bind fun r_10=>
 bif decide ((a8_3).length+(r_10).length≤9223372036854775807) then
 ar.l0 bar k n at_1 vs2 rows11 (IntKind.i64.wrap (i13+1)) t3 a8 a8_1 (a8_2++r_9) (a8_3++r_10) (eh [127,128,129,130,131,132] (eh [119,120,121,122,123,124,125,126] (killC 52 x40))) x2009 x2012
 else
 none
 else
 none
 else
 bif (e_3.kind==3) then
 bif decide (0≤0)&&decide (0<((rows11:Nat):Int)) then
 ((eh [135,136,137,138,139,140,141,142,143] (killC 52 x40))[0]?).bind fun c_11=>
 (tZ .str c_11).bind fun p_12=>
 bif p_12.1 then
 (aT.f bar k ((p_12.2).length:Int) 4).bind fun r_13=>
 bif decide ((a8_2).length+(r_13).length≤9223372036854775807) then
 bif decide (0≤0)&&decide (0<((rows11:Nat):Int)) then
 ((eh [135,136,137,138,139,140,141,142,143] (killC 52 x40))[0]?).bind fun c_14=>
 (tZ .str c_14).bind fun p_15=>
 bif p_15.1 then
 ((eh [135,136,137,138,139,140,141,142,143] (killC 52 x40))[0]?).bind fun c_16=>
 (tZ .str c_16).bind fun p_17=>
 bif decide (((p_17.2).length+(r_2.2.1).length)*16≤140737488355328) then
 bif decide (0≤0)&&decide (0<((rows11:Nat):Int)) then
 bif Nat.blt 0 (killC 149 ((eh [135,136,137,138,139,140,141,142,143] (killC 52 x40)).set 0 (.av .und))).length then
 ar.l0 bar k n at_1 vs2 rows11 (IntKind.i64.wrap (i13+1)) t3 a8 a8_1 (a8_2++r_13) a8_3 (cI 40 ((killC 149 ((eh [135,136,137,138,139,140,141,142,143] (killC 52 x40)).set 0 (.av .und))).set 0 (au.sl .str true (p_17.2++r_2.2.1)))) x2009 x2012
 else
 none
 else
 none
 else
 none
 else
 none
 else
 none
 else
 none
 else
 none
 else
 none
 else
 ar.l3 bar k n k at_1 vs2 rows11 i13 r_2.1 0 t3 a8 a8_1 a8_2 a8_3 (killC 2015 (killC 52 x40)) x2009 x2012 r_2.2.1
 else
 (rd t3 at_1).bind fun e_18=>
 bif (e_18.kind==1) then
 (aQ.f bar k x2012).bind fun r_19=>
 bar _ (ar.j39 bar k rows11 t3 a8 a8_1 a8_2 r_19 x40 x2009)
 else
 bif (e_18.kind==2) then
 (aT.f bar k ((a8_3).length:Int) 4).bind fun r_20=>
 bif decide ((a8_2).length+(r_20).length≤9223372036854775807) then
 bar _ (ar.j39 bar k rows11 t3 a8 a8_1 (a8_2++r_20) a8_3 (eh [164,165,166,167,168,169,170,171] x40) x2009)
 else
 none
 else
 bif (e_18.kind==3) then
 bif decide (0≤0)&&decide (0<((rows11:Nat):Int)) then
 ((eh [174,175,176,177,178,179,180,181,182] x40)[0]?).bind fun c_21=>
 (tZ .str c_21).bind fun p_22=>
 bif p_22.1 then
 (aT.f bar k ((p_22.2).length:Int) 4).bind fun r_23=>
 bif decide ((a8_2).length+(r_23).length≤9223372036854775807) then
 bar _ (ar.j39 bar k rows11 t3 a8 a8_1 (a8_2++r_23) a8_3 (eh [174,175,176,177,178,179,180,181,182] x40) x2009)
 else
 none
 else
 none
 else
 none
 else
 bar _ (ar.j39 bar k rows11 t3 a8 a8_1 a8_2 a8_3 x40 x2009):=by kernel_rfl
theorem ar.j39_eq (bar:aF)(k:Nat)(rows11:Nat)(t3:List aL)(a8:Int)(a8_1:List UInt8)(a8_2:List UInt8)(a8_3:List UInt8)(x40:List au)(x2009:List Int):ar.j39 bar k rows11 t3 a8 a8_1 a8_2 a8_3 x40 x2009=
 ar.l6 bar k k rows11 0 t3 a8 a8_1 a8_2 a8_3 ([]:List g8) x40 x2009:=by kernel_rfl
theorem ar.l6_eq (bar:aF)(k:Nat)(n:Nat)(rows11:Nat)(j20:Int)(t3:List aL)(a8:Int)(a8_1:List UInt8)(a8_2:List UInt8)(a8_3:List UInt8)(a8_4:List g8)(x40:List au)(x2009:List Int):ar.l6 bar k (n+1) rows11 j20 t3 a8 a8_1 a8_2 a8_3 a8_4 x40 x2009=
 bif decide (j20<((x2009).length:Int)) then
 bif decide (0≤j20)&&decide (j20<((x2009).length:Int)) then
 (x2009[(j20).toNat]?).bind fun e_1=>
 bif decide (0≤j20)&&decide (j20<((rows11:Nat):Int)) then
 ((eh [190,191,192,193,194,195,196,197,198,199,189,200,201,21,22] x40)[(j20).toNat]?).bind fun c_2=>
 (tZ .str c_2).bind fun p_3=>
 bif p_3.1 then
 (ar.f bar k t3 e_1 p_3.2).bind fun r_4=>
 bif (!r_4.2) then
 some ((g8.mk 0 0 a8 a8_1 a8_2 a8_3 a8_4),false)
 else
 bif decide (((a8_4).length+(([(g8.mk r_4.1.layout r_4.1.offset r_4.1.length r_4.1.valid r_4.1.ends r_4.1.data r_4.1.kids)]:List g8)).length)*96≤140737488355328) then
 ar.l6 bar k n rows11 (IntKind.i64.wrap (j20+1)) t3 a8 a8_1 a8_2 a8_3 (a8_4++([(g8.mk r_4.1.layout r_4.1.offset r_4.1.length r_4.1.valid r_4.1.ends r_4.1.data r_4.1.kids)]:List g8)) (killCC 8 6 (killC 209 (killC 208 (eh [190,191,192,193,194,195,196,197,198,199,189,200,201,21,22] x40)))) x2009
 else
 none
 else
 none
 else
 none
 else
 none
 else
 bif decide (((a8_3).length:Int)≤4096) then
 some ((g8.mk 0 0 a8 a8_1 a8_2 a8_3 a8_4),decide (((a8_2).length:Int)≤4096))
 else
 some ((g8.mk 0 0 a8 a8_1 a8_2 a8_3 a8_4),false):=by kernel_rfl
theorem fG.f_eq (bar:aF)(k:Nat)(a0:List Int)(a1:Int):fG.f bar (k+1) a0 a1=
 bif decide (a1≥0) then
 bif decide (a1≤16) then
 bif decide (((a0).length:Int)≤4096) then
 (bF.f bar k a0 a1).bind fun r_1=>
 some (!r_1)
 else
 some false
 else
 some false
 else
 some false:=by kernel_rfl
theorem b6.f_eq (bar:aF)(k:Nat)(a0:List Int):b6.f bar (k+1) a0=
 b6.l0 bar k k a0 ((a0).length:Int) 0:=by kernel_rfl
theorem b6.l0_eq (bar:aF)(k:Nat)(n:Nat)(xs0:List Int)(x6:Int)(x7:Int):b6.l0 bar k (n+1) xs0 x6 x7=
 bif decide (x7<x6) then
 (rd xs0 x7).bind fun e_1=>
 (rd xs0 0).bind fun e_2=>
 bif (e_1 != e_2) then
 some x7
 else
 b6.l0 bar k n xs0 x6 (IntKind.i64.wrap (x7+1))
 else
 some ((xs0).length:Int):=by kernel_rfl
theorem cw.f_eq (bar:aF)(k:Nat)(a0:Int):cw.f bar (k+1) a0=
 (jx.f bar k a0).bind fun r_1=>
 bif (!r_1) then
 some (([]:List UInt8),300)
 else
 cw.l0 bar k k a0 ([]:List Int):=by kernel_rfl
theorem cw.l0_eq (bar:aF)(k:Nat)(n:Nat)(x0:Int)(x2004:List Int):cw.l0 bar k (n+1) x0 x2004=
 bif decide (x0≥128) then
 bif decide (((x2004).length+(([aH .or .u8 (IntKind.u8.wrap x0) 128]:List Int)).length)*1≤140737488355328) then
 cw.l0 bar k n (Int.fdiv x0 (2 ^ (min 7 IntKind.i64.bits))) (x2004++([aH .or .u8 (IntKind.u8.wrap x0) 128]:List Int))
 else
 none
 else
 bif decide (((x2004).length+(([IntKind.u8.wrap x0]:List Int)).length)*1≤140737488355328) then
 some (ae (x2004++([IntKind.u8.wrap x0]:List Int)),0)
 else
 none:=by kernel_rfl
theorem eV.f_eq (bar:aF)(k:Nat)(a0:Int):eV.f bar (k+1) a0=
 some (IntKind.i64.wrap (Int.tdiv (IntKind.i64.wrap (a0+7)) 8)):=by kernel_rfl
theorem bZ.f_eq (bar:aF)(k:Nat)(a0:List Int):bZ.f bar (k+1) a0=
 bZ.l0 bar k k a0 0:=by kernel_rfl
theorem bZ.l0_eq (bar:aF)(k:Nat)(n:Nat)(xs0:List Int)(at_3:Int):bZ.l0 bar k (n+1) xs0 at_3=
 bif decide (at_3<((xs0).length:Int)) then
 bif decide (0≤at_3)&&decide (at_3≤(((xs0).length:Nat):Int)) then
 (b6.f bar k (List.drop ((at_3).toNat) (List.take ((xs0).length) xs0))).bind fun r_1=>
 bif decide (r_1≥8) then
 some at_3
 else
 bZ.l0 bar k n xs0 (IntKind.i64.wrap (at_3+8))
 else
 none
 else
 some ((xs0).length:Int):=by kernel_rfl
theorem bB.f_eq (bar:aF)(k:Nat)(a0:List Int)(a1:Int):bB.f bar (k+1) a0 a1=
 bif (IntKind.i64.wrap ((IntKind.i64.wrap ((IntKind.i64.wrap (Int.tdiv (IntKind.i64.wrap ((IntKind.i64.wrap (((a0).length:Int)+8)) - 1)) 8))*8))*a1)==IntKind.i64.wrap ((IntKind.i64.wrap ((IntKind.i64.wrap (Int.tdiv (IntKind.i64.wrap ((IntKind.i64.wrap (((a0).length:Int)+8)) - 1)) 8))*8))*a1))&&(decide (0≤IntKind.i64.wrap ((IntKind.i64.wrap ((IntKind.i64.wrap (Int.tdiv (IntKind.i64.wrap ((IntKind.i64.wrap (((a0).length:Int)+8)) - 1)) 8))*8))*a1))&&decide ((IntKind.i64.wrap ((IntKind.i64.wrap ((IntKind.i64.wrap (Int.tdiv (IntKind.i64.wrap ((IntKind.i64.wrap (((a0).length:Int)+8)) - 1)) 8))*8))*a1))*1≤140737488355328)) then
 bB.l0 bar k k a1 a0 ((a0).length:Int) 0 (List.replicate (IntKind.i64.wrap ((IntKind.i64.wrap ((IntKind.i64.wrap (Int.tdiv (IntKind.i64.wrap ((IntKind.i64.wrap (((a0).length:Int)+8)) - 1)) 8))*8))*a1)).toNat (false:Bool):List Bool)
 else
 none:=by kernel_rfl
theorem bB.l0_eq (bar:aF)(k:Nat)(n:Nat)(width1:Int)(x18:List Int)(x19:Int)(x20:Int)(x2005:List Bool):bB.l0 bar k (n+1) width1 x18 x19 x20 x2005=
 bif decide (x20<x19) then
 (rd x18 x20).bind fun e_1=>
 bB.l2 bar k n k width1 x20 e_1 x18 x19 0 x2005
 else
 (eT.f bar k x2005).bind fun r_2=>
 some r_2:=by kernel_rfl
theorem bB.l2_eq (bar:aF)(k:Nat)(m1:Nat)(n:Nat)(width1:Int)(i6:Int)(x7:Int)(x18:List Int)(x19:Int)(x26:Int)(x2005:List Bool):bB.l2 bar k m1 (n+1) width1 i6 x7 x18 x19 x26 x2005=
 bif decide (x26<width1) then
 bif decide (x26<0) then
 none
 else
 bif decide (0≤IntKind.i64.wrap ((IntKind.i64.wrap (i6*width1))+x26))&&decide (IntKind.i64.wrap ((IntKind.i64.wrap (i6*width1))+x26)<((x2005).length:Int)) then
 (x2005[(IntKind.i64.wrap ((IntKind.i64.wrap (i6*width1))+x26)).toNat]?).bind fun e_1=>
 bB.l2 bar k m1 n width1 i6 x7 x18 x19 (IntKind.i64.wrap (x26+1)) ((x2005).set ((IntKind.i64.wrap ((IntKind.i64.wrap (i6*width1))+x26)).toNat) ((aH .and .i64 (Int.fdiv x7 (2 ^ (min (x26).toNat IntKind.i64.bits))) 1)==1))
 else
 none
 else
 bB.l0 bar k m1 width1 x18 x19 (IntKind.i64.wrap (i6+1)) x2005:=by kernel_rfl
end Go.Proofs.YtjkokaockhecnaaGreatDoorA
