/- Each function and each loop of the program answers as its equation says; no condition. -/
import Derived.Test.YtjkokaockhecnaaGreatDoorFns
namespace Go.Proofs.YtjkokaockhecnaaGreatDoorA
open Go
set_option linter.unusedVariables false
theorem bD.f_eq (bar:aF)(k:Nat)(a0_0:List UInt8)(a0_1:Bool)(a1:Int):bD.f bar (k+1) a0_0 a0_1 a1=
 bif decide (a1>4) then
 (bN.f bar k a0_0 a0_1).bind fun r_1=>
 some ((r_1.1.1,r_1.1.2),(r_1.2.1,r_1.2.2))
 else
 (cg.f bar k a0_0 a0_1).bind fun r_2=>
 bif (r_2.1==110) then
 some (((-1),([]:List (List UInt8))),(r_2.2.1,r_2.2.2))
 else
 bif (r_2.1==105) then
 (bE.f bar k r_2.2.1 r_2.2.2 ([59]:List UInt8)).bind fun r_3=>
 some ((0,([r_3.1.2]:List (List UInt8))),(r_3.2.1,r_3.2.2))
 else
 bif (r_2.1==116) then
 bif (r_2.1==116) then
 some ((1,([ae ([r_2.1]:List Int)]:List (List UInt8))),(r_2.2.1,r_2.2.2))
 else
 bif (r_2.1==115) then
 (bE.f bar k r_2.2.1 r_2.2.2 ([58]:List UInt8)).bind fun r_4=>
 (cO.f bar k r_4.2.1 r_4.2.2 r_4.1.1).bind fun r_5=>
 some ((2,([r_5.1]:List (List UInt8))),(r_5.2.1,r_5.2.2))
 else
 bif (r_2.1==91) then
 (aO.f bar k r_2.2.1 r_2.2.2 93 (IntKind.i64.wrap (a1+1))).bind fun r_6=>
 some ((3,r_6.1),(r_6.2.1,r_6.2.2))
 else
 bif (r_2.1==123) then
 (aO.f bar k r_2.2.1 r_2.2.2 125 (IntKind.i64.wrap (a1+1))).bind fun r_7=>
 some ((4,r_7.1),(r_7.2.1,r_7.2.2))
 else
 (bN.f bar k r_2.2.1 r_2.2.2).bind fun r_8=>
 some ((r_8.1.1,r_8.1.2),(r_8.2.1,r_8.2.2))
 else
 bif (r_2.1==102) then
 some ((1,([ae ([r_2.1]:List Int)]:List (List UInt8))),(r_2.2.1,r_2.2.2))
 else
 bif (r_2.1==115) then
 (bE.f bar k r_2.2.1 r_2.2.2 ([58]:List UInt8)).bind fun r_9=>
 (cO.f bar k r_9.2.1 r_9.2.2 r_9.1.1).bind fun r_10=>
 some ((2,([r_10.1]:List (List UInt8))),(r_10.2.1,r_10.2.2))
 else
 bif (r_2.1==91) then
 (aO.f bar k r_2.2.1 r_2.2.2 93 (IntKind.i64.wrap (a1+1))).bind fun r_11=>
 some ((3,r_11.1),(r_11.2.1,r_11.2.2))
 else
 bif (r_2.1==123) then
 (aO.f bar k r_2.2.1 r_2.2.2 125 (IntKind.i64.wrap (a1+1))).bind fun r_12=>
 some ((4,r_12.1),(r_12.2.1,r_12.2.2))
 else
 (bN.f bar k r_2.2.1 r_2.2.2).bind fun r_13=>
 some ((r_13.1.1,r_13.1.2),(r_13.2.1,r_13.2.2)):=by kernel_rfl
theorem cm.f_eq (bar:aF)(k:Nat)(a0:List aL)(a1:Int):cm.f bar (k+1) a0 a1=
 cm.l0 bar k k a1 a0 ((a0).length:Int) 0 ([]:List Int):=by kernel_rfl
theorem cm.l0_eq (bar:aF)(k:Nat)(n:Nat)(at_1:Int)(x11:List aL)(x12:Int)(x13:Int)(x2005:List Int):cm.l0 bar k (n+1) at_1 x11 x12 x13 x2005=
 bif decide (x13<x12) then
 (rd x11 x13).bind fun e_1=>
 bif decide (x13>0) then
 bif (e_1.parent==at_1) then
 bif decide (((x2005).length+(([x13]:List Int)).length)*8≤140737488355328) then
 cm.l0 bar k n at_1 x11 x12 (IntKind.i64.wrap (x13+1)) (x2005++([x13]:List Int))
 else
 none
 else
 cm.l0 bar k n at_1 x11 x12 (IntKind.i64.wrap (x13+1)) x2005
 else
 cm.l0 bar k n at_1 x11 x12 (IntKind.i64.wrap (x13+1)) x2005
 else
 some x2005:=by kernel_rfl
theorem gj.f_eq (bar:aF)(k:Nat)(a0:List aL)(a1:Int):gj.f bar (k+1) a0 a1=
 (rd a0 a1).bind fun e_1=>
 bif (a1==0) then
 some (e_1.parent==(-1))
 else
 bif decide (e_1.parent≥0) then
 bif decide (e_1.parent<a1) then
 (rd a0 e_1.parent).bind fun e_2=>
 (fY.f bar k e_2.kind).bind fun r_3=>
 some r_3
 else
 some false
 else
 some false:=by kernel_rfl
theorem jx.f_eq (bar:aF)(k:Nat)(a0:Int):jx.f bar (k+1) a0=
 bif decide (a0≥0) then
 some (decide (a0≤2147483647))
 else
 some false:=by kernel_rfl
theorem cd.f_eq (bar:aF)(k:Nat)(a0_0:List UInt8)(a0_1:Int)(a0_2:List Int)(a0_3:Bool)(a1:Int):cd.f bar (k+1) a0_0 a0_1 a0_2 a0_3 a1=
 bif (!a0_3) then
 bif decide (a1>((a0_0).length:Int)) then
 some (([]:List UInt8),(a0_0,a0_1,a0_2,true))
 else
 bif decide (0≤a1)&&decide (a1≤(((a0_0).length:Nat):Int)) then
 bif decide (0≤a1)&&decide (a1≤(((a0_0).length:Nat):Int)) then
 some (List.drop 0 (List.take ((a1).toNat) a0_0),(List.drop ((a1).toNat) (List.take ((a0_0).length) a0_0),a0_1,a0_2,a0_3))
 else
 none
 else
 none
 else
 some (([]:List UInt8),(a0_0,a0_1,a0_2,true)):=by kernel_rfl
theorem ax.f_eq (bar:aF)(k:Nat)(a0:List Int)(a1:Int):ax.f bar (k+1) a0 a1=
 bif decide (a1<0) then
 none
 else
 bar _ (ax.j3 bar k a0 a1):=by kernel_rfl
theorem ax.j3_eq (bar:aF)(k:Nat)(x0:List Int)(count1:Int):ax.j3 bar k x0 count1=
 (fp.f bar k (IntKind.u64.wrap ((x0).length:Int)) (IntKind.u64.wrap count1)).bind fun r_1=>
 bif (!(decide (r_1.1>0))) then
 bif decide (r_1.2>9223372036854775807) then
 none
 else
 bar _ (ax.j6 bar k x0 r_1.2)
 else
 none:=by kernel_rfl
theorem ax.j6_eq (bar:aF)(k:Nat)(x0:List Int)(lo6:Int):ax.j6 bar k x0 lo6=
 bif (IntKind.i64.wrap lo6==IntKind.i64.wrap lo6)&&(decide (0≤IntKind.i64.wrap lo6)&&decide ((IntKind.i64.wrap lo6)*8≤140737488355328)) then
 bif Nat.ble (0+((List.replicate (IntKind.i64.wrap lo6).toNat (0:Int):List Int)).length) ((List.replicate (IntKind.i64.wrap lo6).toNat (0:Int):List Int)).length then
 ax.l0 bar k k ((min (x0).length (((List.replicate (IntKind.i64.wrap lo6).toNat (0:Int):List Int)).length):Nat):Int) (List.take 0 (List.replicate (IntKind.i64.wrap lo6).toNat (0:Int):List Int)++List.take (((List.replicate (IntKind.i64.wrap lo6).toNat (0:Int):List Int)).length) x0++List.drop (0+(min (x0).length (((List.replicate (IntKind.i64.wrap lo6).toNat (0:Int):List Int)).length))) (List.replicate (IntKind.i64.wrap lo6).toNat (0:Int):List Int))
 else
 none
 else
 none:=by kernel_rfl
theorem ax.l0_eq (bar:aF)(k:Nat)(n:Nat)(n_8:Int)(x2007:List Int):ax.l0 bar k (n+1) n_8 x2007=
 bif decide (n_8<((x2007).length:Int)) then
 bif decide (0≤n_8)&&decide (n_8≤(((x2007).length:Nat):Int)) then
 bif decide (0≤n_8)&&decide (n_8≤(((x2007).length:Nat):Int)) then
 bif Nat.ble ((n_8).toNat+(((x2007).length) - ((n_8).toNat))) (x2007).length then
 (bif Nat.ble (0+(n_8).toNat) (x2007).length then some (List.take ((n_8).toNat) (List.drop 0 x2007)) else none).bind fun ys_1=>
 ax.l0 bar k n (IntKind.i64.wrap (n_8+((min (ys_1).length (((x2007).length) - ((n_8).toNat)):Nat):Int))) (List.take ((n_8).toNat) x2007++List.take (((x2007).length) - ((n_8).toNat)) ys_1++List.drop (((n_8).toNat)+(min (ys_1).length (((x2007).length) - ((n_8).toNat)))) x2007)
 else
 none
 else
 none
 else
 none
 else
 some x2007:=by kernel_rfl
theorem oI.f_eq (bar:aF)(k:Nat)(a0:List UInt8)(a1:Int):oI.f bar (k+1) a0 a1=
 (rd a0 (IntKind.i64.wrap (Int.tdiv a1 8))).bind fun b_1=>
 bif decide (Int.tmod a1 8<0) then
 none
 else
 some ((aH .and .u8 (Int.fdiv (b_1.toNat:Int) (2 ^ (min (Int.tmod a1 8).toNat IntKind.u8.bits))) 1)==1):=by kernel_rfl
theorem strconv_Itoa.f_eq (bar:aF)(k:Nat)(a0:Int):strconv_Itoa.f bar (k+1) a0=
 ol a0:=by kernel_rfl
theorem aW.f_eq (bar:aF)(k:Nat)(a0:Int):aW.f bar (k+1) a0=
 bif decide (a0≥0) then
 (aB.f bar k a0).bind fun r_1=>
 some r_1
 else
 aW.l0 bar k k a0 ([]:List UInt8):=by kernel_rfl
theorem aW.l0_eq (bar:aF)(k:Nat)(n:Nat)(x0:Int)(s3:List UInt8):aW.l0 bar k (n+1) x0 s3=
 bif decide (x0<0) then
 bif decide ((ae ([IntKind.u8.wrap (IntKind.i64.wrap (48 - (Int.tmod x0 10)))]:List Int)).length+(s3).length≤9223372036854775807) then
 aW.l0 bar k n (IntKind.i64.wrap (Int.tdiv x0 10)) ((ae ([IntKind.u8.wrap (IntKind.i64.wrap (48 - (Int.tmod x0 10)))]:List Int))++s3)
 else
 none
 else
 bif decide ((([45]:List UInt8)).length+(s3).length≤9223372036854775807) then
 some (([45]:List UInt8)++s3)
 else
 none:=by kernel_rfl
theorem bC.f_eq (bar:aF)(k:Nat)(a0:List (List UInt8)):bC.f bar (k+1) a0=
 bC.l0 bar k k a0 true 0 ([]:List Bool):=by kernel_rfl
theorem bC.l0_eq (bar:aF)(k:Nat)(n:Nat)(vs0:List (List UInt8))(all4:Bool)(i5:Int)(x2003:List Bool):bC.l0 bar k (n+1) vs0 all4 i5 x2003=
 bif decide (i5<((vs0).length:Int)) then
 (rd vs0 i5).bind fun e_1=>
 bif decide (((x2003).length+(([(e_1 != ([110]:List UInt8))]:List Bool)).length)*1≤140737488355328) then
 bif all4 then
 (rd vs0 i5).bind fun e_2=>
 bC.l0 bar k n vs0 (e_2 != ([110]:List UInt8)) (IntKind.i64.wrap (i5+1)) (x2003++([(e_1 != ([110]:List UInt8))]:List Bool))
 else
 bC.l0 bar k n vs0 false (IntKind.i64.wrap (i5+1)) (x2003++([(e_1 != ([110]:List UInt8))]:List Bool))
 else
 none
 else
 bif all4 then
 some ([]:List UInt8)
 else
 (aQ.f bar k x2003).bind fun r_3=>
 some r_3:=by kernel_rfl
theorem bF.f_eq (bar:aF)(k:Nat)(a0:List Int)(a1_0:Int):bF.f bar (k+1) a0 a1_0=
 (ap.f bar k a0 a1_0).bind fun r_1=>
 some (decide (r_1≥0)):=by kernel_rfl
theorem eT.f_eq (bar:aF)(k:Nat)(a0:List Bool):eT.f bar (k+1) a0=
 (eV.f bar k ((a0).length:Int)).bind fun r_1=>
 bif (r_1==r_1)&&(decide (0≤r_1)&&decide (r_1*1≤140737488355328)) then
 eT.l0 bar k k a0 ((a0).length:Int) 0 (List.replicate (r_1).toNat (0:Int):List Int)
 else
 none:=by kernel_rfl
theorem eT.l0_eq (bar:aF)(k:Nat)(n:Nat)(x10:List Bool)(x11:Int)(x12:Int)(x2003:List Int):eT.l0 bar k (n+1) x10 x11 x12 x2003=
 bif decide (x12<x11) then
 (rd x10 x12).bind fun e_1=>
 bif e_1 then
 bif decide (0≤IntKind.i64.wrap (Int.tdiv x12 8))&&decide (IntKind.i64.wrap (Int.tdiv x12 8)<((x2003).length:Int)) then
 (x2003[(IntKind.i64.wrap (Int.tdiv x12 8)).toNat]?).bind fun e_2=>
 bif decide (Int.tmod x12 8<0) then
 none
 else
 bif decide (0≤IntKind.i64.wrap (Int.tdiv x12 8))&&decide (IntKind.i64.wrap (Int.tdiv x12 8)<((x2003).length:Int)) then
 (x2003[(IntKind.i64.wrap (Int.tdiv x12 8)).toNat]?).bind fun e_3=>
 eT.l0 bar k n x10 x11 (IntKind.i64.wrap (x12+1)) ((x2003).set ((IntKind.i64.wrap (Int.tdiv x12 8)).toNat) (aH .or .u8 e_2 (IntKind.u8.wrap (1*2 ^ (min (Int.tmod x12 8).toNat IntKind.u8.bits)))))
 else
 none
 else
 none
 else
 eT.l0 bar k n x10 x11 (IntKind.i64.wrap (x12+1)) x2003
 else
 some (ae x2003):=by kernel_rfl
theorem bN.f_eq (bar:aF)(k:Nat)(a0_0:List UInt8)(a0_1:Bool):bN.f bar (k+1) a0_0 a0_1=
 some ((0,([]:List (List UInt8))),(a0_0,true)):=by kernel_rfl
theorem cg.f_eq (bar:aF)(k:Nat)(a0_0:List UInt8)(a0_1:Bool):cg.f bar (k+1) a0_0 a0_1=
 bif (a0_0==([]:List UInt8)) then
 some (0,(a0_0,true))
 else
 (rd a0_0 0).bind fun b_1=>
 bif decide (0≤1)&&decide (1≤(((a0_0).length:Nat):Int)) then
 some ((b_1.toNat:Int),(List.drop 1 (List.take ((a0_0).length) a0_0),a0_1))
 else
 none:=by kernel_rfl
theorem bE.f_eq (bar:aF)(k:Nat)(a0_0:List UInt8)(a0_1:Bool)(a1:List UInt8):bE.f bar (k+1) a0_0 a0_1 a1=
 (strings_Cut.f bar k a0_0 a1).bind fun r_1=>
 (dN.f bar k r_1.1).bind fun r_2=>
 bif (!(!r_1.2.2)) then
 bif (!r_2.2) then
 (strconv_Itoa.f bar k r_2.1).bind fun r_3=>
 bif (r_3 != r_1.1) then
 some ((r_2.1,r_1.1),(r_1.2.1,true))
 else
 some ((r_2.1,r_1.1),(r_1.2.1,a0_1))
 else
 some ((r_2.1,r_1.1),(r_1.2.1,true))
 else
 some ((r_2.1,r_1.1),(r_1.2.1,true)):=by kernel_rfl
theorem cO.f_eq (bar:aF)(k:Nat)(a0_0:List UInt8)(a0_1:Bool)(a1:Int):cO.f bar (k+1) a0_0 a0_1 a1=
 bif (!a0_1) then
 bif (!(decide (a1<0))) then
 bif decide (a1>((a0_0).length:Int)) then
 some (([]:List UInt8),(a0_0,true))
 else
 bif decide (0≤a1)&&decide (a1≤(((a0_0).length:Nat):Int)) then
 bif decide (0≤a1)&&decide (a1≤(((a0_0).length:Nat):Int)) then
 some (List.drop 0 (List.take ((a1).toNat) a0_0),(List.drop ((a1).toNat) (List.take ((a0_0).length) a0_0),a0_1))
 else
 none
 else
 none
 else
 some (([]:List UInt8),(a0_0,true))
 else
 some (([]:List UInt8),(a0_0,true)):=by kernel_rfl
theorem aO.f_eq (bar:aF)(k:Nat)(a0_0:List UInt8)(a0_1:Bool)(a1:Int)(a2:Int):aO.f bar (k+1) a0_0 a0_1 a1 a2=
 aO.l0 bar k k a1 a2 a0_0 a0_1 ([]:List (List UInt8)):=by kernel_rfl
theorem aO.l0_eq (bar:aF)(k:Nat)(n:Nat)(end_1:Int)(within2:Int)(x1000:List UInt8)(x1000_1:Bool)(x2007:List (List UInt8)):aO.l0 bar k (n+1) end_1 within2 x1000 x1000_1 x2007=
 bif (!x1000_1) then
 bif (x1000 != ([]:List UInt8)) then
 (rd x1000 0).bind fun b_1=>
 bif ((b_1.toNat:Int) != end_1) then
 (bD.f bar k x1000 x1000_1 within2).bind fun r_2=>
 bif decide (0≤IntKind.i64.wrap (((x1000).length:Int) - ((r_2.2.1).length:Int)))&&decide (IntKind.i64.wrap (((x1000).length:Int) - ((r_2.2.1).length:Int))≤(((x1000).length:Nat):Int)) then
 bif decide (((x2007).length+(([List.drop 0 (List.take ((IntKind.i64.wrap (((x1000).length:Int) - ((r_2.2.1).length:Int))).toNat) x1000)]:List (List UInt8))).length)*16≤140737488355328) then
 aO.l0 bar k n end_1 within2 r_2.2.1 r_2.2.2 (x2007++([List.drop 0 (List.take ((IntKind.i64.wrap (((x1000).length:Int) - ((r_2.2.1).length:Int))).toNat) x1000)]:List (List UInt8)))
 else
 none
 else
 none
 else
 (cg.f bar k x1000 x1000_1).bind fun r_3=>
 some (x2007,(r_3.2.1,r_3.2.2))
 else
 (cg.f bar k x1000 x1000_1).bind fun r_4=>
 some (x2007,(r_4.2.1,r_4.2.2))
 else
 (cg.f bar k x1000 x1000_1).bind fun r_5=>
 some (x2007,(r_5.2.1,r_5.2.2)):=by kernel_rfl
theorem fp.f_eq (bar:aF)(k:Nat)(a0:Int)(a1:Int):fp.f bar (k+1) a0 a1=
 (fA.f bar k a0 a1).bind fun r_1=>
 some (r_1.1,r_1.2):=by kernel_rfl
theorem aB.f_eq (bar:aF)(k:Nat)(a0:Int):aB.f bar (k+1) a0=
 bif decide (a0<0) then
 bar _ (aB.j4 bar k a0 (IntKind.u64.wrap ((IntKind.u64.wrap (IntKind.i64.wrap (0 - (IntKind.i64.wrap (a0+1)))))+1)))
 else
 bar _ (aB.j4 bar k a0 (IntKind.u64.wrap a0)):=by kernel_rfl
theorem aB.j4_eq (bar:aF)(k:Nat)(x0:Int)(size3:Int):aB.j4 bar k x0 size3=
 aB.l0 bar k k x0 size3 ([]:List Int):=by kernel_rfl
theorem aB.l0_eq (bar:aF)(k:Nat)(n:Nat)(x0:Int)(size3:Int)(x2004:List Int):aB.l0 bar k (n+1) x0 size3 x2004=
 bif (!(decide (size3>0))) then
 bif (((x2004).length:Int)==0) then
 bif decide (((([IntKind.u8.wrap (IntKind.u64.wrap (48+(Int.tmod size3 10)))]:List Int)).length+(x2004).length)*1≤140737488355328) then
 aB.l0 bar k n x0 (IntKind.u64.wrap (Int.tdiv size3 10)) (([IntKind.u8.wrap (IntKind.u64.wrap (48+(Int.tmod size3 10)))]:List Int)++x2004)
 else
 none
 else
 bif decide (x0<0) then
 bif decide (((([45]:List Int)).length+(x2004).length)*1≤140737488355328) then
 some (ae (([45]:List Int)++x2004))
 else
 none
 else
 some (ae x2004)
 else
 bif decide (((([IntKind.u8.wrap (IntKind.u64.wrap (48+(Int.tmod size3 10)))]:List Int)).length+(x2004).length)*1≤140737488355328) then
 aB.l0 bar k n x0 (IntKind.u64.wrap (Int.tdiv size3 10)) (([IntKind.u8.wrap (IntKind.u64.wrap (48+(Int.tmod size3 10)))]:List Int)++x2004)
 else
 none:=by kernel_rfl
theorem ap.f_eq (bar:aF)(k:Nat)(a0:List Int)(a1_0:Int):ap.f bar (k+1) a0 a1_0=
 ap.l0 bar k k a0 a1_0 ((a0).length:Int) 0:=by kernel_rfl
theorem ap.l0_eq (bar:aF)(k:Nat)(n:Nat)(s0:List Int)(f1:Int)(x7:Int)(x8:Int):ap.l0 bar k (n+1) s0 f1 x7 x8=
 bif decide (x8<x7) then
 (rd s0 x8).bind fun e_1=>
 (gb.f bar k e_1 f1).bind fun r_2=>
 bif r_2 then
 some x8
 else
 ap.l0 bar k n s0 f1 x7 (IntKind.i64.wrap (x8+1))
 else
 some (-1):=by kernel_rfl
theorem strings_Cut.f_eq (bar:aF)(k:Nat)(a0:List UInt8)(a1:List UInt8):strings_Cut.f bar (k+1) a0 a1=
 s4 a0 a1:=by kernel_rfl
theorem fA.f_eq (bar:aF)(k:Nat)(a0:Int)(a1:Int):fA.f bar (k+1) a0 a1=
 some (IntKind.u64.wrap ((IntKind.u64.wrap ((IntKind.u64.wrap ((Int.fdiv a0 (2 ^ (min 32 IntKind.u64.bits)))*(Int.fdiv a1 (2 ^ (min 32 IntKind.u64.bits)))))+(Int.fdiv (IntKind.u64.wrap ((IntKind.u64.wrap ((Int.fdiv a0 (2 ^ (min 32 IntKind.u64.bits)))*(aH .and .u64 a1 4294967295)))+(Int.fdiv (IntKind.u64.wrap ((aH .and .u64 a0 4294967295)*(aH .and .u64 a1 4294967295))) (2 ^ (min 32 IntKind.u64.bits))))) (2 ^ (min 32 IntKind.u64.bits)))))+(Int.fdiv (IntKind.u64.wrap ((aH .and .u64 (IntKind.u64.wrap ((IntKind.u64.wrap ((Int.fdiv a0 (2 ^ (min 32 IntKind.u64.bits)))*(aH .and .u64 a1 4294967295)))+(Int.fdiv (IntKind.u64.wrap ((aH .and .u64 a0 4294967295)*(aH .and .u64 a1 4294967295))) (2 ^ (min 32 IntKind.u64.bits))))) 4294967295)+(IntKind.u64.wrap ((aH .and .u64 a0 4294967295)*(Int.fdiv a1 (2 ^ (min 32 IntKind.u64.bits))))))) (2 ^ (min 32 IntKind.u64.bits)))),IntKind.u64.wrap (a0*a1)):=by kernel_rfl
theorem gb.f_eq (bar:aF)(k:Nat)(a0:Int)(a1:Int):gb.f bar (k+1) a0 a1=
 bif (!(decide (a0<0))) then
 bif decide (a1<0) then
 none
 else
 some (decide ((Int.fdiv a0 (2 ^ (min (a1).toNat IntKind.i64.bits)))>0))
 else
 some true:=by kernel_rfl
end Go.Proofs.YtjkokaockhecnaaGreatDoorA
