/- Each function and each loop of the program answers as its equation says; no condition. -/
import Derived.Test.YtjkokaockhecnaaGreatDoorFns
namespace Go.Proofs.YtjkokaockhecnaaGreatDoorA
open Go
set_option linter.unusedVariables false
theorem aX.l0_eq (bar:aF)(k:Nat)(n:Nat)(xs0:List Int)(at_3:Int):aX.l0 bar k (n+1) xs0 at_3=
 bif decide (at_3<((xs0).length:Int)) then
 bif decide (0≤at_3)&&decide (at_3≤(((xs0).length:Nat):Int)) then
 (aY.f bar k (List.drop ((at_3).toNat) (List.take ((xs0).length) xs0))).bind fun r_1=>
 bif decide (r_1≥8) then
 some at_3
 else
 aX.l0 bar k n xs0 (IntKind.i64.wrap (at_3+8))
 else
 none
 else
 some ((xs0).length:Int):=by kernel_rfl
theorem aI.f_eq (bar:aF)(k:Nat)(a0:List Int)(a1:Int):aI.f bar (k+1) a0 a1=
 bif (IntKind.i64.wrap ((IntKind.i64.wrap ((IntKind.i64.wrap (Int.tdiv (IntKind.i64.wrap ((IntKind.i64.wrap (((a0).length:Int)+8)) - 1)) 8))*8))*a1)==IntKind.i64.wrap ((IntKind.i64.wrap ((IntKind.i64.wrap (Int.tdiv (IntKind.i64.wrap ((IntKind.i64.wrap (((a0).length:Int)+8)) - 1)) 8))*8))*a1))&&(decide (0≤IntKind.i64.wrap ((IntKind.i64.wrap ((IntKind.i64.wrap (Int.tdiv (IntKind.i64.wrap ((IntKind.i64.wrap (((a0).length:Int)+8)) - 1)) 8))*8))*a1))&&decide ((IntKind.i64.wrap ((IntKind.i64.wrap ((IntKind.i64.wrap (Int.tdiv (IntKind.i64.wrap ((IntKind.i64.wrap (((a0).length:Int)+8)) - 1)) 8))*8))*a1))*1≤140737488355328)) then
 aI.l0 bar k k a1 a0 ((a0).length:Int) 0 (List.replicate (IntKind.i64.wrap ((IntKind.i64.wrap ((IntKind.i64.wrap (Int.tdiv (IntKind.i64.wrap ((IntKind.i64.wrap (((a0).length:Int)+8)) - 1)) 8))*8))*a1)).toNat (false:Bool):List Bool)
 else
 none:=by kernel_rfl
theorem aI.l0_eq (bar:aF)(k:Nat)(n:Nat)(width1:Int)(x18:List Int)(x19:Int)(x20:Int)(x2005:List Bool):aI.l0 bar k (n+1) width1 x18 x19 x20 x2005=
 bif decide (x20<x19) then
 (rd x18 x20).bind fun e_1=>
 aI.l2 bar k n k width1 x20 e_1 x18 x19 0 x2005
 else
 (dx.f bar k x2005).bind fun r_2=>
 some r_2:=by kernel_rfl
theorem aI.l2_eq (bar:aF)(k:Nat)(m1:Nat)(n:Nat)(width1:Int)(i6:Int)(x7:Int)(x18:List Int)(x19:Int)(x26:Int)(x2005:List Bool):aI.l2 bar k m1 (n+1) width1 i6 x7 x18 x19 x26 x2005=
 bif decide (x26<width1) then
 bif decide (x26<0) then
 none
 else
 bif decide (0≤IntKind.i64.wrap ((IntKind.i64.wrap (i6*width1))+x26))&&decide (IntKind.i64.wrap ((IntKind.i64.wrap (i6*width1))+x26)<((x2005).length:Int)) then
 (x2005[(IntKind.i64.wrap ((IntKind.i64.wrap (i6*width1))+x26)).toNat]?).bind fun e_1=>
 aI.l2 bar k m1 n width1 i6 x7 x18 x19 (IntKind.i64.wrap (x26+1)) ((x2005).set ((IntKind.i64.wrap ((IntKind.i64.wrap (i6*width1))+x26)).toNat) ((ax .and .i64 (Int.fdiv x7 (2 ^ (min (x26).toNat IntKind.i64.bits))) 1)==1))
 else
 none
 else
 aI.l0 bar k m1 width1 x18 x19 (IntKind.i64.wrap (i6+1)) x2005:=by kernel_rfl
theorem aJ.f_eq (bar:aF)(k:Nat)(a0_0:List UInt8)(a0_1:Bool)(a1:Int):aJ.f bar (k+1) a0_0 a0_1 a1=
 bif decide (a1>4) then
 (aR.f bar k a0_0 a0_1).bind fun r_1=>
 some ((r_1.1.1,r_1.1.2),(r_1.2.1,r_1.2.2))
 else
 (bb.f bar k a0_0 a0_1).bind fun r_2=>
 bif (r_2.1==110) then
 some (((-1),([]:List (List UInt8))),(r_2.2.1,r_2.2.2))
 else
 bif (r_2.1==105) then
 (aK.f bar k r_2.2.1 r_2.2.2 ([59]:List UInt8)).bind fun r_3=>
 some ((0,([r_3.1.2]:List (List UInt8))),(r_3.2.1,r_3.2.2))
 else
 bif (r_2.1==116) then
 bif (r_2.1==116) then
 some ((1,([ab ([r_2.1]:List Int)]:List (List UInt8))),(r_2.2.1,r_2.2.2))
 else
 bif (r_2.1==115) then
 (aK.f bar k r_2.2.1 r_2.2.2 ([58]:List UInt8)).bind fun r_4=>
 (bI.f bar k r_4.2.1 r_4.2.2 r_4.1.1).bind fun r_5=>
 some ((2,([r_5.1]:List (List UInt8))),(r_5.2.1,r_5.2.2))
 else
 bif (r_2.1==91) then
 (au.f bar k r_2.2.1 r_2.2.2 93 (IntKind.i64.wrap (a1+1))).bind fun r_6=>
 some ((3,r_6.1),(r_6.2.1,r_6.2.2))
 else
 bif (r_2.1==123) then
 (au.f bar k r_2.2.1 r_2.2.2 125 (IntKind.i64.wrap (a1+1))).bind fun r_7=>
 some ((4,r_7.1),(r_7.2.1,r_7.2.2))
 else
 (aR.f bar k r_2.2.1 r_2.2.2).bind fun r_8=>
 some ((r_8.1.1,r_8.1.2),(r_8.2.1,r_8.2.2))
 else
 bif (r_2.1==102) then
 some ((1,([ab ([r_2.1]:List Int)]:List (List UInt8))),(r_2.2.1,r_2.2.2))
 else
 bif (r_2.1==115) then
 (aK.f bar k r_2.2.1 r_2.2.2 ([58]:List UInt8)).bind fun r_9=>
 (bI.f bar k r_9.2.1 r_9.2.2 r_9.1.1).bind fun r_10=>
 some ((2,([r_10.1]:List (List UInt8))),(r_10.2.1,r_10.2.2))
 else
 bif (r_2.1==91) then
 (au.f bar k r_2.2.1 r_2.2.2 93 (IntKind.i64.wrap (a1+1))).bind fun r_11=>
 some ((3,r_11.1),(r_11.2.1,r_11.2.2))
 else
 bif (r_2.1==123) then
 (au.f bar k r_2.2.1 r_2.2.2 125 (IntKind.i64.wrap (a1+1))).bind fun r_12=>
 some ((4,r_12.1),(r_12.2.1,r_12.2.2))
 else
 (aR.f bar k r_2.2.1 r_2.2.2).bind fun r_13=>
 some ((r_13.1.1,r_13.1.2),(r_13.2.1,r_13.2.2)):=by kernel_rfl
theorem gJ.f_eq (bar:aF)(k:Nat)(a0:Int):gJ.f bar (k+1) a0=
 bif decide (a0≥0) then
 some (decide (a0≤2147483647))
 else
 some false:=by kernel_rfl
theorem ba.f_eq (bar:aF)(k:Nat)(a0_0:List UInt8)(a0_1:Int)(a0_2:List Int)(a0_3:Bool)(a1:Int):ba.f bar (k+1) a0_0 a0_1 a0_2 a0_3 a1=
 bif (!a0_3) then
 bif decide (a1>((a0_0).length:Int)) then
 some (([]:List UInt8),(a0_0,a0_1,a0_2,true))
 else
 bif decide (0≤a1)&&decide (a1≤(((a0_0).length:Nat):Int)) then
 bif decide (0≤a1)&&decide (a1≤(((a0_0).length:Nat):Int)) then
 some (List.drop 0 (List.take ((a1).toNat) a0_0),(List.drop ((a1).toNat) (List.take ((a0_0).length) a0_0),a0_1,a0_2,a0_3))
 else
 none
 else
 none
 else
 some (([]:List UInt8),(a0_0,a0_1,a0_2,true)):=by kernel_rfl
theorem ai.f_eq (bar:aF)(k:Nat)(a0:List Int)(a1:Int):ai.f bar (k+1) a0 a1=
 bif decide (a1<0) then
 none
 else
 bar _ (ai.j3 bar k a0 a1):=by kernel_rfl
theorem ai.j3_eq (bar:aF)(k:Nat)(x0:List Int)(count1:Int):ai.j3 bar k x0 count1=
 (dS.f bar k (IntKind.u64.wrap ((x0).length:Int)) (IntKind.u64.wrap count1)).bind fun r_1=>
 bif (!(decide (r_1.1>0))) then
 bif decide (r_1.2>9223372036854775807) then
 none
 else
 bar _ (ai.j6 bar k x0 r_1.2)
 else
 none:=by kernel_rfl
theorem ai.j6_eq (bar:aF)(k:Nat)(x0:List Int)(lo6:Int):ai.j6 bar k x0 lo6=
 bif (IntKind.i64.wrap lo6==IntKind.i64.wrap lo6)&&(decide (0≤IntKind.i64.wrap lo6)&&decide ((IntKind.i64.wrap lo6)*8≤140737488355328)) then
 bif Nat.ble (0+((List.replicate (IntKind.i64.wrap lo6).toNat (0:Int):List Int)).length) ((List.replicate (IntKind.i64.wrap lo6).toNat (0:Int):List Int)).length then
 ai.l0 bar k k ((min (x0).length (((List.replicate (IntKind.i64.wrap lo6).toNat (0:Int):List Int)).length):Nat):Int) (List.take 0 (List.replicate (IntKind.i64.wrap lo6).toNat (0:Int):List Int)++List.take (((List.replicate (IntKind.i64.wrap lo6).toNat (0:Int):List Int)).length) x0++List.drop (0+(min (x0).length (((List.replicate (IntKind.i64.wrap lo6).toNat (0:Int):List Int)).length))) (List.replicate (IntKind.i64.wrap lo6).toNat (0:Int):List Int))
 else
 none
 else
 none:=by kernel_rfl
theorem ai.l0_eq (bar:aF)(k:Nat)(n:Nat)(n_8:Int)(x2007:List Int):ai.l0 bar k (n+1) n_8 x2007=
 bif decide (n_8<((x2007).length:Int)) then
 bif decide (0≤n_8)&&decide (n_8≤(((x2007).length:Nat):Int)) then
 bif decide (0≤n_8)&&decide (n_8≤(((x2007).length:Nat):Int)) then
 bif Nat.ble ((n_8).toNat+(((x2007).length) - ((n_8).toNat))) (x2007).length then
 (bif Nat.ble (0+(n_8).toNat) (x2007).length then some (List.take ((n_8).toNat) (List.drop 0 x2007)) else none).bind fun ys_1=>
 ai.l0 bar k n (IntKind.i64.wrap (n_8+((min (ys_1).length (((x2007).length) - ((n_8).toNat)):Nat):Int))) (List.take ((n_8).toNat) x2007++List.take (((x2007).length) - ((n_8).toNat)) ys_1++List.drop (((n_8).toNat)+(min (ys_1).length (((x2007).length) - ((n_8).toNat)))) x2007)
 else
 none
 else
 none
 else
 none
 else
 some x2007:=by kernel_rfl
theorem mE.f_eq (bar:aF)(k:Nat)(a0:List UInt8)(a1:Int):mE.f bar (k+1) a0 a1=
 (rd a0 (IntKind.i64.wrap (Int.tdiv a1 8))).bind fun b_1=>
 bif decide (Int.tmod a1 8<0) then
 none
 else
 some ((ax .and .u8 (Int.fdiv (b_1.toNat:Int) (2 ^ (min (Int.tmod a1 8).toNat IntKind.u8.bits))) 1)==1):=by kernel_rfl
theorem strconv_Itoa.f_eq (bar:aF)(k:Nat)(a0:Int):strconv_Itoa.f bar (k+1) a0=
 mq a0:=by kernel_rfl
theorem bj.f_eq (bar:aF)(k:Nat)(a0:List bu)(a1:Int):bj.f bar (k+1) a0 a1=
 bj.l0 bar k k a1 a0 ((a0).length:Int) 0 ([]:List Int):=by kernel_rfl
theorem bj.l0_eq (bar:aF)(k:Nat)(n:Nat)(at_1:Int)(x11:List bu)(x12:Int)(x13:Int)(x2005:List Int):bj.l0 bar k (n+1) at_1 x11 x12 x13 x2005=
 bif decide (x13<x12) then
 (rd x11 x13).bind fun e_1=>
 bif decide (x13>0) then
 bif (e_1.parent==at_1) then
 bif decide (((x2005).length+(([x13]:List Int)).length)*8≤140737488355328) then
 bj.l0 bar k n at_1 x11 x12 (IntKind.i64.wrap (x13+1)) (x2005++([x13]:List Int))
 else
 none
 else
 bj.l0 bar k n at_1 x11 x12 (IntKind.i64.wrap (x13+1)) x2005
 else
 bj.l0 bar k n at_1 x11 x12 (IntKind.i64.wrap (x13+1)) x2005
 else
 some x2005:=by kernel_rfl
theorem eG.f_eq (bar:aF)(k:Nat)(a0:List bu)(a1:Int):eG.f bar (k+1) a0 a1=
 (rd a0 a1).bind fun e_1=>
 bif (a1==0) then
 some (e_1.parent==(-1))
 else
 bif decide (e_1.parent≥0) then
 bif decide (e_1.parent<a1) then
 (rd a0 e_1.parent).bind fun e_2=>
 (ey.f bar k e_2.kind).bind fun r_3=>
 some r_3
 else
 some false
 else
 some false:=by kernel_rfl
theorem aL.f_eq (bar:aF)(k:Nat)(a0:List Int)(a1_0:Int):aL.f bar (k+1) a0 a1_0=
 (ag.f bar k a0 a1_0).bind fun r_1=>
 some (decide (r_1≥0)):=by kernel_rfl
theorem dx.f_eq (bar:aF)(k:Nat)(a0:List Bool):dx.f bar (k+1) a0=
 (dA.f bar k ((a0).length:Int)).bind fun r_1=>
 bif (r_1==r_1)&&(decide (0≤r_1)&&decide (r_1*1≤140737488355328)) then
 dx.l0 bar k k a0 ((a0).length:Int) 0 (List.replicate (r_1).toNat (0:Int):List Int)
 else
 none:=by kernel_rfl
theorem dx.l0_eq (bar:aF)(k:Nat)(n:Nat)(x10:List Bool)(x11:Int)(x12:Int)(x2003:List Int):dx.l0 bar k (n+1) x10 x11 x12 x2003=
 bif decide (x12<x11) then
 (rd x10 x12).bind fun e_1=>
 bif e_1 then
 bif decide (0≤IntKind.i64.wrap (Int.tdiv x12 8))&&decide (IntKind.i64.wrap (Int.tdiv x12 8)<((x2003).length:Int)) then
 (x2003[(IntKind.i64.wrap (Int.tdiv x12 8)).toNat]?).bind fun e_2=>
 bif decide (Int.tmod x12 8<0) then
 none
 else
 bif decide (0≤IntKind.i64.wrap (Int.tdiv x12 8))&&decide (IntKind.i64.wrap (Int.tdiv x12 8)<((x2003).length:Int)) then
 (x2003[(IntKind.i64.wrap (Int.tdiv x12 8)).toNat]?).bind fun e_3=>
 dx.l0 bar k n x10 x11 (IntKind.i64.wrap (x12+1)) ((x2003).set ((IntKind.i64.wrap (Int.tdiv x12 8)).toNat) (ax .or .u8 e_2 (IntKind.u8.wrap (1*2 ^ (min (Int.tmod x12 8).toNat IntKind.u8.bits)))))
 else
 none
 else
 none
 else
 dx.l0 bar k n x10 x11 (IntKind.i64.wrap (x12+1)) x2003
 else
 some (ab x2003):=by kernel_rfl
theorem aR.f_eq (bar:aF)(k:Nat)(a0_0:List UInt8)(a0_1:Bool):aR.f bar (k+1) a0_0 a0_1=
 some ((0,([]:List (List UInt8))),(a0_0,true)):=by kernel_rfl
theorem bb.f_eq (bar:aF)(k:Nat)(a0_0:List UInt8)(a0_1:Bool):bb.f bar (k+1) a0_0 a0_1=
 bif (a0_0==([]:List UInt8)) then
 some (0,(a0_0,true))
 else
 (rd a0_0 0).bind fun b_1=>
 bif decide (0≤1)&&decide (1≤(((a0_0).length:Nat):Int)) then
 some ((b_1.toNat:Int),(List.drop 1 (List.take ((a0_0).length) a0_0),a0_1))
 else
 none:=by kernel_rfl
theorem aK.f_eq (bar:aF)(k:Nat)(a0_0:List UInt8)(a0_1:Bool)(a1:List UInt8):aK.f bar (k+1) a0_0 a0_1 a1=
 (strings_Cut.f bar k a0_0 a1).bind fun r_1=>
 (cC.f bar k r_1.1).bind fun r_2=>
 bif (!(!r_1.2.2)) then
 bif (!r_2.2) then
 (strconv_Itoa.f bar k r_2.1).bind fun r_3=>
 bif (r_3 != r_1.1) then
 some ((r_2.1,r_1.1),(r_1.2.1,true))
 else
 some ((r_2.1,r_1.1),(r_1.2.1,a0_1))
 else
 some ((r_2.1,r_1.1),(r_1.2.1,true))
 else
 some ((r_2.1,r_1.1),(r_1.2.1,true)):=by kernel_rfl
theorem bI.f_eq (bar:aF)(k:Nat)(a0_0:List UInt8)(a0_1:Bool)(a1:Int):bI.f bar (k+1) a0_0 a0_1 a1=
 bif (!a0_1) then
 bif (!(decide (a1<0))) then
 bif decide (a1>((a0_0).length:Int)) then
 some (([]:List UInt8),(a0_0,true))
 else
 bif decide (0≤a1)&&decide (a1≤(((a0_0).length:Nat):Int)) then
 bif decide (0≤a1)&&decide (a1≤(((a0_0).length:Nat):Int)) then
 some (List.drop 0 (List.take ((a1).toNat) a0_0),(List.drop ((a1).toNat) (List.take ((a0_0).length) a0_0),a0_1))
 else
 none
 else
 none
 else
 some (([]:List UInt8),(a0_0,true))
 else
 some (([]:List UInt8),(a0_0,true)):=by kernel_rfl
theorem au.f_eq (bar:aF)(k:Nat)(a0_0:List UInt8)(a0_1:Bool)(a1:Int)(a2:Int):au.f bar (k+1) a0_0 a0_1 a1 a2=
 au.l0 bar k k a1 a2 a0_0 a0_1 ([]:List (List UInt8)):=by kernel_rfl
theorem au.l0_eq (bar:aF)(k:Nat)(n:Nat)(end_1:Int)(within2:Int)(x1000:List UInt8)(x1000_1:Bool)(x2007:List (List UInt8)):au.l0 bar k (n+1) end_1 within2 x1000 x1000_1 x2007=
 bif (!x1000_1) then
 bif (x1000 != ([]:List UInt8)) then
 (rd x1000 0).bind fun b_1=>
 bif ((b_1.toNat:Int) != end_1) then
 (aJ.f bar k x1000 x1000_1 within2).bind fun r_2=>
 bif decide (0≤IntKind.i64.wrap (((x1000).length:Int) - ((r_2.2.1).length:Int)))&&decide (IntKind.i64.wrap (((x1000).length:Int) - ((r_2.2.1).length:Int))≤(((x1000).length:Nat):Int)) then
 bif decide (((x2007).length+(([List.drop 0 (List.take ((IntKind.i64.wrap (((x1000).length:Int) - ((r_2.2.1).length:Int))).toNat) x1000)]:List (List UInt8))).length)*16≤140737488355328) then
 au.l0 bar k n end_1 within2 r_2.2.1 r_2.2.2 (x2007++([List.drop 0 (List.take ((IntKind.i64.wrap (((x1000).length:Int) - ((r_2.2.1).length:Int))).toNat) x1000)]:List (List UInt8)))
 else
 none
 else
 none
 else
 (bb.f bar k x1000 x1000_1).bind fun r_3=>
 some (x2007,(r_3.2.1,r_3.2.2))
 else
 (bb.f bar k x1000 x1000_1).bind fun r_4=>
 some (x2007,(r_4.2.1,r_4.2.2))
 else
 (bb.f bar k x1000 x1000_1).bind fun r_5=>
 some (x2007,(r_5.2.1,r_5.2.2)):=by kernel_rfl
theorem dS.f_eq (bar:aF)(k:Nat)(a0:Int)(a1:Int):dS.f bar (k+1) a0 a1=
 (d5.f bar k a0 a1).bind fun r_1=>
 some (r_1.1,r_1.2):=by kernel_rfl
theorem ag.f_eq (bar:aF)(k:Nat)(a0:List Int)(a1_0:Int):ag.f bar (k+1) a0 a1_0=
 ag.l0 bar k k a0 a1_0 ((a0).length:Int) 0:=by kernel_rfl
theorem ag.l0_eq (bar:aF)(k:Nat)(n:Nat)(s0:List Int)(f1:Int)(x7:Int)(x8:Int):ag.l0 bar k (n+1) s0 f1 x7 x8=
 bif decide (x8<x7) then
 (rd s0 x8).bind fun e_1=>
 (eM.f bar k e_1 f1).bind fun r_2=>
 bif r_2 then
 some x8
 else
 ag.l0 bar k n s0 f1 x7 (IntKind.i64.wrap (x8+1))
 else
 some (-1):=by kernel_rfl
theorem strings_Cut.f_eq (bar:aF)(k:Nat)(a0:List UInt8)(a1:List UInt8):strings_Cut.f bar (k+1) a0 a1=
 oS a0 a1:=by kernel_rfl
theorem d5.f_eq (bar:aF)(k:Nat)(a0:Int)(a1:Int):d5.f bar (k+1) a0 a1=
 some (IntKind.u64.wrap ((IntKind.u64.wrap ((IntKind.u64.wrap ((Int.fdiv a0 (2 ^ (min 32 IntKind.u64.bits)))*(Int.fdiv a1 (2 ^ (min 32 IntKind.u64.bits)))))+(Int.fdiv (IntKind.u64.wrap ((IntKind.u64.wrap ((Int.fdiv a0 (2 ^ (min 32 IntKind.u64.bits)))*(ax .and .u64 a1 4294967295)))+(Int.fdiv (IntKind.u64.wrap ((ax .and .u64 a0 4294967295)*(ax .and .u64 a1 4294967295))) (2 ^ (min 32 IntKind.u64.bits))))) (2 ^ (min 32 IntKind.u64.bits)))))+(Int.fdiv (IntKind.u64.wrap ((ax .and .u64 (IntKind.u64.wrap ((IntKind.u64.wrap ((Int.fdiv a0 (2 ^ (min 32 IntKind.u64.bits)))*(ax .and .u64 a1 4294967295)))+(Int.fdiv (IntKind.u64.wrap ((ax .and .u64 a0 4294967295)*(ax .and .u64 a1 4294967295))) (2 ^ (min 32 IntKind.u64.bits))))) 4294967295)+(IntKind.u64.wrap ((ax .and .u64 a0 4294967295)*(Int.fdiv a1 (2 ^ (min 32 IntKind.u64.bits))))))) (2 ^ (min 32 IntKind.u64.bits)))),IntKind.u64.wrap (a0*a1)):=by kernel_rfl
theorem eM.f_eq (bar:aF)(k:Nat)(a0:Int)(a1:Int):eM.f bar (k+1) a0 a1=
 bif (!(decide (a0<0))) then
 bif decide (a1<0) then
 none
 else
 some (decide ((Int.fdiv a0 (2 ^ (min (a1).toNat IntKind.i64.bits)))>0))
 else
 some true:=by kernel_rfl
end Go.Proofs.YtjkokaockhecnaaGreatDoorA
