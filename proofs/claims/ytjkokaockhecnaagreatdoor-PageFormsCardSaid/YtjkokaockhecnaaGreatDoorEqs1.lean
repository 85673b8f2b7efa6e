/- Each function and each loop of the program answers as its equation says; no condition. -/
import Derived.Test.YtjkokaockhecnaaGreatDoorFns
namespace Go.Proofs.YtjkokaockhecnaaGreatDoorA
open Go
set_option linter.unusedVariables false
theorem aC.f_eq (bar:aX)(k:Nat)(a0_0:List UInt8)(a0_1:Bool)(a1:Int):aC.f bar (k+1) a0_0 a0_1 a1=
 bif decide (a1>4) then
 (aL.f bar k a0_0 a0_1).bind fun r_1=>
 some ((r_1.1.1,r_1.1.2),(r_1.2.1,r_1.2.2))
 else
 (aZ.f bar k a0_0 a0_1).bind fun r_2=>
 bif (r_2.1==110) then
 some (((-1),([]:List (List UInt8))),(r_2.2.1,r_2.2.2))
 else
 bif (r_2.1==105) then
 (aD.f bar k r_2.2.1 r_2.2.2 ([59]:List UInt8)).bind fun r_3=>
 some ((0,([r_3.1.2]:List (List UInt8))),(r_3.2.1,r_3.2.2))
 else
 bif (r_2.1==116) then
 bif (r_2.1==116) then
 some ((1,([ah ([r_2.1]:List Int)]:List (List UInt8))),(r_2.2.1,r_2.2.2))
 else
 bif (r_2.1==115) then
 (aD.f bar k r_2.2.1 r_2.2.2 ([58]:List UInt8)).bind fun r_4=>
 (bp.f bar k r_4.2.1 r_4.2.2 r_4.1.1).bind fun r_5=>
 some ((2,([r_5.1]:List (List UInt8))),(r_5.2.1,r_5.2.2))
 else
 bif (r_2.1==91) then
 (am.f bar k r_2.2.1 r_2.2.2 93 (IntKind.i64.wrap (a1+1))).bind fun r_6=>
 some ((3,r_6.1),(r_6.2.1,r_6.2.2))
 else
 bif (r_2.1==123) then
 (am.f bar k r_2.2.1 r_2.2.2 125 (IntKind.i64.wrap (a1+1))).bind fun r_7=>
 some ((4,r_7.1),(r_7.2.1,r_7.2.2))
 else
 (aL.f bar k r_2.2.1 r_2.2.2).bind fun r_8=>
 some ((r_8.1.1,r_8.1.2),(r_8.2.1,r_8.2.2))
 else
 bif (r_2.1==102) then
 some ((1,([ah ([r_2.1]:List Int)]:List (List UInt8))),(r_2.2.1,r_2.2.2))
 else
 bif (r_2.1==115) then
 (aD.f bar k r_2.2.1 r_2.2.2 ([58]:List UInt8)).bind fun r_9=>
 (bp.f bar k r_9.2.1 r_9.2.2 r_9.1.1).bind fun r_10=>
 some ((2,([r_10.1]:List (List UInt8))),(r_10.2.1,r_10.2.2))
 else
 bif (r_2.1==91) then
 (am.f bar k r_2.2.1 r_2.2.2 93 (IntKind.i64.wrap (a1+1))).bind fun r_11=>
 some ((3,r_11.1),(r_11.2.1,r_11.2.2))
 else
 bif (r_2.1==123) then
 (am.f bar k r_2.2.1 r_2.2.2 125 (IntKind.i64.wrap (a1+1))).bind fun r_12=>
 some ((4,r_12.1),(r_12.2.1,r_12.2.2))
 else
 (aL.f bar k r_2.2.1 r_2.2.2).bind fun r_13=>
 some ((r_13.1.1,r_13.1.2),(r_13.2.1,r_13.2.2)):=by kernel_rfl
theorem a7.f_eq (bar:aX)(k:Nat)(a0:List aM)(a1:Int):a7.f bar (k+1) a0 a1=
 a7.l0 bar k k a1 a0 ((a0).length:Int) 0 ([]:List Int):=by kernel_rfl
theorem a7.l0_eq (bar:aX)(k:Nat)(n:Nat)(at_1:Int)(x11:List aM)(x12:Int)(x13:Int)(x2005:List Int):a7.l0 bar k (n+1) at_1 x11 x12 x13 x2005=
 bif decide (x13<x12) then
 (rd x11 x13).bind fun e_1=>
 bif decide (x13>0) then
 bif (e_1.parent==at_1) then
 bif decide (((x2005).length+(([x13]:List Int)).length)*8≤140737488355328) then
 a7.l0 bar k n at_1 x11 x12 (IntKind.i64.wrap (x13+1)) (x2005++([x13]:List Int))
 else
 none
 else
 a7.l0 bar k n at_1 x11 x12 (IntKind.i64.wrap (x13+1)) x2005
 else
 a7.l0 bar k n at_1 x11 x12 (IntKind.i64.wrap (x13+1)) x2005
 else
 some x2005:=by kernel_rfl
theorem ef.f_eq (bar:aX)(k:Nat)(a0:List aM)(a1:Int):ef.f bar (k+1) a0 a1=
 (rd a0 a1).bind fun e_1=>
 bif (a1==0) then
 some (e_1.parent==(-1))
 else
 bif decide (e_1.parent≥0) then
 bif decide (e_1.parent<a1) then
 (rd a0 e_1.parent).bind fun e_2=>
 (dG.f bar k e_2.kind).bind fun r_3=>
 some r_3
 else
 some false
 else
 some false:=by kernel_rfl
theorem aF.f_eq (bar:aX)(k:Nat)(a0:List Int)(a1_0:Int):aF.f bar (k+1) a0 a1_0=
 (ae.f bar k a0 a1_0).bind fun r_1=>
 some (decide (r_1≥0)):=by kernel_rfl
theorem lk.f_eq (bar:aX)(k:Nat)(a0:Int):lk.f bar (k+1) a0=
 bif decide (a0≥0) then
 some (decide (a0≤2147483647))
 else
 some false:=by kernel_rfl
theorem cY.f_eq (bar:aX)(k:Nat)(a0:List Bool):cY.f bar (k+1) a0=
 (dy.f bar k ((a0).length:Int)).bind fun r_1=>
 bif (r_1==r_1)&&(decide (0≤r_1)&&decide (r_1*1≤140737488355328)) then
 cY.l0 bar k k a0 ((a0).length:Int) 0 (List.replicate (r_1).toNat (0:Int):List Int)
 else
 none:=by kernel_rfl
theorem cY.l0_eq (bar:aX)(k:Nat)(n:Nat)(x10:List Bool)(x11:Int)(x12:Int)(x2003:List Int):cY.l0 bar k (n+1) x10 x11 x12 x2003=
 bif decide (x12<x11) then
 (rd x10 x12).bind fun e_1=>
 bif e_1 then
 bif decide (0≤IntKind.i64.wrap (Int.tdiv x12 8))&&decide (IntKind.i64.wrap (Int.tdiv x12 8)<((x2003).length:Int)) then
 (x2003[(IntKind.i64.wrap (Int.tdiv x12 8)).toNat]?).bind fun e_2=>
 bif decide (Int.tmod x12 8<0) then
 none
 else
 bif decide (0≤IntKind.i64.wrap (Int.tdiv x12 8))&&decide (IntKind.i64.wrap (Int.tdiv x12 8)<((x2003).length:Int)) then
 (x2003[(IntKind.i64.wrap (Int.tdiv x12 8)).toNat]?).bind fun e_3=>
 cY.l0 bar k n x10 x11 (IntKind.i64.wrap (x12+1)) ((x2003).set ((IntKind.i64.wrap (Int.tdiv x12 8)).toNat) (aN .or .u8 e_2 (IntKind.u8.wrap (1*2 ^ (min (Int.tmod x12 8).toNat IntKind.u8.bits)))))
 else
 none
 else
 none
 else
 cY.l0 bar k n x10 x11 (IntKind.i64.wrap (x12+1)) x2003
 else
 some (ah x2003):=by kernel_rfl
theorem aL.f_eq (bar:aX)(k:Nat)(a0_0:List UInt8)(a0_1:Bool):aL.f bar (k+1) a0_0 a0_1=
 some ((0,([]:List (List UInt8))),(a0_0,true)):=by kernel_rfl
theorem aZ.f_eq (bar:aX)(k:Nat)(a0_0:List UInt8)(a0_1:Bool):aZ.f bar (k+1) a0_0 a0_1=
 bif (a0_0==([]:List UInt8)) then
 some (0,(a0_0,true))
 else
 (rd a0_0 0).bind fun b_1=>
 bif decide (0≤1)&&decide (1≤(((a0_0).length:Nat):Int)) then
 some ((b_1.toNat:Int),(List.drop 1 (List.take ((a0_0).length) a0_0),a0_1))
 else
 none:=by kernel_rfl
theorem aD.f_eq (bar:aX)(k:Nat)(a0_0:List UInt8)(a0_1:Bool)(a1:List UInt8):aD.f bar (k+1) a0_0 a0_1 a1=
 (strings_Cut.f bar k a0_0 a1).bind fun r_1=>
 (cd.f bar k r_1.1).bind fun r_2=>
 bif (!(!r_1.2.2)) then
 bif (!r_2.2) then
 (strconv_Itoa.f bar k r_2.1).bind fun r_3=>
 bif (r_3 != r_1.1) then
 some ((r_2.1,r_1.1),(r_1.2.1,true))
 else
 some ((r_2.1,r_1.1),(r_1.2.1,a0_1))
 else
 some ((r_2.1,r_1.1),(r_1.2.1,true))
 else
 some ((r_2.1,r_1.1),(r_1.2.1,true)):=by kernel_rfl
theorem bp.f_eq (bar:aX)(k:Nat)(a0_0:List UInt8)(a0_1:Bool)(a1:Int):bp.f bar (k+1) a0_0 a0_1 a1=
 bif (!a0_1) then
 bif (!(decide (a1<0))) then
 bif decide (a1>((a0_0).length:Int)) then
 some (([]:List UInt8),(a0_0,true))
 else
 bif decide (0≤a1)&&decide (a1≤(((a0_0).length:Nat):Int)) then
 bif decide (0≤a1)&&decide (a1≤(((a0_0).length:Nat):Int)) then
 some (List.drop 0 (List.take ((a1).toNat) a0_0),(List.drop ((a1).toNat) (List.take ((a0_0).length) a0_0),a0_1))
 else
 none
 else
 none
 else
 some (([]:List UInt8),(a0_0,true))
 else
 some (([]:List UInt8),(a0_0,true)):=by kernel_rfl
theorem am.f_eq (bar:aX)(k:Nat)(a0_0:List UInt8)(a0_1:Bool)(a1:Int)(a2:Int):am.f bar (k+1) a0_0 a0_1 a1 a2=
 am.l0 bar k k a1 a2 a0_0 a0_1 ([]:List (List UInt8)):=by kernel_rfl
theorem am.l0_eq (bar:aX)(k:Nat)(n:Nat)(end_1:Int)(within2:Int)(x1000:List UInt8)(x1000_1:Bool)(x2007:List (List UInt8)):am.l0 bar k (n+1) end_1 within2 x1000 x1000_1 x2007=
 bif (!x1000_1) then
 bif (x1000 != ([]:List UInt8)) then
 (rd x1000 0).bind fun b_1=>
 bif ((b_1.toNat:Int) != end_1) then
 (aC.f bar k x1000 x1000_1 within2).bind fun r_2=>
 bif decide (0≤IntKind.i64.wrap (((x1000).length:Int) - ((r_2.2.1).length:Int)))&&decide (IntKind.i64.wrap (((x1000).length:Int) - ((r_2.2.1).length:Int))≤(((x1000).length:Nat):Int)) then
 bif decide (((x2007).length+(([List.drop 0 (List.take ((IntKind.i64.wrap (((x1000).length:Int) - ((r_2.2.1).length:Int))).toNat) x1000)]:List (List UInt8))).length)*16≤140737488355328) then
 am.l0 bar k n end_1 within2 r_2.2.1 r_2.2.2 (x2007++([List.drop 0 (List.take ((IntKind.i64.wrap (((x1000).length:Int) - ((r_2.2.1).length:Int))).toNat) x1000)]:List (List UInt8)))
 else
 none
 else
 none
 else
 (aZ.f bar k x1000 x1000_1).bind fun r_3=>
 some (x2007,(r_3.2.1,r_3.2.2))
 else
 (aZ.f bar k x1000 x1000_1).bind fun r_4=>
 some (x2007,(r_4.2.1,r_4.2.2))
 else
 (aZ.f bar k x1000 x1000_1).bind fun r_5=>
 some (x2007,(r_5.2.1,r_5.2.2)):=by kernel_rfl
theorem strconv_Itoa.f_eq (bar:aX)(k:Nat)(a0:Int):strconv_Itoa.f bar (k+1) a0=
 lm a0:=by kernel_rfl
theorem ae.f_eq (bar:aX)(k:Nat)(a0:List Int)(a1_0:Int):ae.f bar (k+1) a0 a1_0=
 ae.l0 bar k k a0 a1_0 ((a0).length:Int) 0:=by kernel_rfl
theorem ae.l0_eq (bar:aX)(k:Nat)(n:Nat)(s0:List Int)(f1:Int)(x7:Int)(x8:Int):ae.l0 bar k (n+1) s0 f1 x7 x8=
 bif decide (x8<x7) then
 (rd s0 x8).bind fun e_1=>
 (dQ.f bar k e_1 f1).bind fun r_2=>
 bif r_2 then
 some x8
 else
 ae.l0 bar k n s0 f1 x7 (IntKind.i64.wrap (x8+1))
 else
 some (-1):=by kernel_rfl
theorem strings_Cut.f_eq (bar:aX)(k:Nat)(a0:List UInt8)(a1:List UInt8):strings_Cut.f bar (k+1) a0 a1=
 oG a0 a1:=by kernel_rfl
theorem dQ.f_eq (bar:aX)(k:Nat)(a0:Int)(a1:Int):dQ.f bar (k+1) a0 a1=
 bif (!(decide (a0<0))) then
 bif decide (a1<0) then
 none
 else
 some (decide ((Int.fdiv a0 (2 ^ (min (a1).toNat IntKind.i64.bits)))>0))
 else
 some true:=by kernel_rfl
end Go.Proofs.YtjkokaockhecnaaGreatDoorA
