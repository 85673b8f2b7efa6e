/- Each function and each loop of the program answers as its equation says; no condition. -/
import Derived.Test.YtjkokaockhecnaaGreatDoorFns
namespace Go.Proofs.YtjkokaockhecnaaGreatDoorA
open Go
set_option linter.unusedVariables false
theorem pN.f_eq (bar:aD)(k:Nat)(a0:List UInt8)(a1:Int):pN.f bar (k+1) a0 a1=
 (rd a0 (IntKind.i64.wrap (Int.tdiv a1 8))).bind fun b_1=>
 bif decide (Int.tmod a1 8<0) then
 none
 else
 some ((aB .and .u8 (Int.fdiv (b_1.toNat:Int) (2 ^ (min (Int.tmod a1 8).toNat IntKind.u8.bits))) 1)==1):=by kernel_rfl
theorem strconv_Itoa.f_eq (bar:aD)(k:Nat)(a0:Int):strconv_Itoa.f bar (k+1) a0=
 pL a0:=by kernel_rfl
theorem aW.f_eq (bar:aD)(k:Nat)(a0:Int):aW.f bar (k+1) a0=
 bif decide (a0≥0) then
 (aC.f bar k a0).bind fun r_1=>
 some r_1
 else
 aW.l0 bar k k a0 ([]:List UInt8):=by kernel_rfl
theorem aW.l0_eq (bar:aD)(k:Nat)(n:Nat)(x0:Int)(s3:List UInt8):aW.l0 bar k (n+1) x0 s3=
 bif decide (x0<0) then
 bif decide ((ag ([IntKind.u8.wrap (IntKind.i64.wrap (48 - (Int.tmod x0 10)))]:List Int)).length+(s3).length≤9223372036854775807) then
 aW.l0 bar k n (IntKind.i64.wrap (Int.tdiv x0 10)) ((ag ([IntKind.u8.wrap (IntKind.i64.wrap (48 - (Int.tmod x0 10)))]:List Int))++s3)
 else
 none
 else
 bif decide ((([45]:List UInt8)).length+(s3).length≤9223372036854775807) then
 some (([45]:List UInt8)++s3)
 else
 none:=by kernel_rfl
theorem aC.f_eq (bar:aD)(k:Nat)(a0:Int):aC.f bar (k+1) a0=
 bif decide (a0<0) then
 bar _ (aC.j4 bar k a0 (IntKind.u64.wrap ((IntKind.u64.wrap (IntKind.i64.wrap (0 - (IntKind.i64.wrap (a0+1)))))+1)))
 else
 bar _ (aC.j4 bar k a0 (IntKind.u64.wrap a0)):=by kernel_rfl
theorem aC.j4_eq (bar:aD)(k:Nat)(x0:Int)(size3:Int):aC.j4 bar k x0 size3=
 aC.l0 bar k k x0 size3 ([]:List Int):=by kernel_rfl
theorem aC.l0_eq (bar:aD)(k:Nat)(n:Nat)(x0:Int)(size3:Int)(x2004:List Int):aC.l0 bar k (n+1) x0 size3 x2004=
 bif (!(decide (size3>0))) then
 bif (((x2004).length:Int)==0) then
 bif decide (((([IntKind.u8.wrap (IntKind.u64.wrap (48+(Int.tmod size3 10)))]:List Int)).length+(x2004).length)*1≤140737488355328) then
 aC.l0 bar k n x0 (IntKind.u64.wrap (Int.tdiv size3 10)) (([IntKind.u8.wrap (IntKind.u64.wrap (48+(Int.tmod size3 10)))]:List Int)++x2004)
 else
 none
 else
 bif decide (x0<0) then
 bif decide (((([45]:List Int)).length+(x2004).length)*1≤140737488355328) then
 some (ag (([45]:List Int)++x2004))
 else
 none
 else
 some (ag x2004)
 else
 bif decide (((([IntKind.u8.wrap (IntKind.u64.wrap (48+(Int.tmod size3 10)))]:List Int)).length+(x2004).length)*1≤140737488355328) then
 aC.l0 bar k n x0 (IntKind.u64.wrap (Int.tdiv size3 10)) (([IntKind.u8.wrap (IntKind.u64.wrap (48+(Int.tmod size3 10)))]:List Int)++x2004)
 else
 none:=by kernel_rfl
theorem cq.f_eq (bar:aD)(k:Nat)(a0:List bc)(a1:Int):cq.f bar (k+1) a0 a1=
 cq.l0 bar k k a1 a0 ((a0).length:Int) 0 ([]:List Int):=by kernel_rfl
theorem cq.l0_eq (bar:aD)(k:Nat)(n:Nat)(at_1:Int)(x11:List bc)(x12:Int)(x13:Int)(x2005:List Int):cq.l0 bar k (n+1) at_1 x11 x12 x13 x2005=
 bif decide (x13<x12) then
 (rd x11 x13).bind fun e_1=>
 bif decide (x13>0) then
 bif (e_1.parent==at_1) then
 bif decide (((x2005).length+(([x13]:List Int)).length)*8≤140737488355328) then
 cq.l0 bar k n at_1 x11 x12 (IntKind.i64.wrap (x13+1)) (x2005++([x13]:List Int))
 else
 none
 else
 cq.l0 bar k n at_1 x11 x12 (IntKind.i64.wrap (x13+1)) x2005
 else
 cq.l0 bar k n at_1 x11 x12 (IntKind.i64.wrap (x13+1)) x2005
 else
 some x2005:=by kernel_rfl
theorem gJ.f_eq (bar:aD)(k:Nat)(a0:List bc)(a1:Int):gJ.f bar (k+1) a0 a1=
 (rd a0 a1).bind fun e_1=>
 bif (a1==0) then
 some (e_1.parent==(-1))
 else
 bif decide (e_1.parent≥0) then
 bif decide (e_1.parent<a1) then
 (rd a0 e_1.parent).bind fun e_2=>
 (gy.f bar k e_2.kind).bind fun r_3=>
 some r_3
 else
 some false
 else
 some false:=by kernel_rfl
theorem bL.f_eq (bar:aD)(k:Nat)(a0:List Int)(a1_0:Int):bL.f bar (k+1) a0 a1_0=
 (ar.f bar k a0 a1_0).bind fun r_1=>
 some (decide (r_1≥0)):=by kernel_rfl
theorem fl.f_eq (bar:aD)(k:Nat)(a0:List Bool):fl.f bar (k+1) a0=
 (fp.f bar k ((a0).length:Int)).bind fun r_1=>
 bif (r_1==r_1)&&(decide (0≤r_1)&&decide (r_1*1≤140737488355328)) then
 fl.l0 bar k k a0 ((a0).length:Int) 0 (List.replicate (r_1).toNat (0:Int):List Int)
 else
 none:=by kernel_rfl
theorem fl.l0_eq (bar:aD)(k:Nat)(n:Nat)(x10:List Bool)(x11:Int)(x12:Int)(x2003:List Int):fl.l0 bar k (n+1) x10 x11 x12 x2003=
 bif decide (x12<x11) then
 (rd x10 x12).bind fun e_1=>
 bif e_1 then
 bif decide (0≤IntKind.i64.wrap (Int.tdiv x12 8))&&decide (IntKind.i64.wrap (Int.tdiv x12 8)<((x2003).length:Int)) then
 (x2003[(IntKind.i64.wrap (Int.tdiv x12 8)).toNat]?).bind fun e_2=>
 bif decide (Int.tmod x12 8<0) then
 none
 else
 bif decide (0≤IntKind.i64.wrap (Int.tdiv x12 8))&&decide (IntKind.i64.wrap (Int.tdiv x12 8)<((x2003).length:Int)) then
 (x2003[(IntKind.i64.wrap (Int.tdiv x12 8)).toNat]?).bind fun e_3=>
 fl.l0 bar k n x10 x11 (IntKind.i64.wrap (x12+1)) ((x2003).set ((IntKind.i64.wrap (Int.tdiv x12 8)).toNat) (aB .or .u8 e_2 (IntKind.u8.wrap (1*2 ^ (min (Int.tmod x12 8).toNat IntKind.u8.bits)))))
 else
 none
 else
 none
 else
 fl.l0 bar k n x10 x11 (IntKind.i64.wrap (x12+1)) x2003
 else
 some (ag x2003):=by kernel_rfl
theorem bU.f_eq (bar:aD)(k:Nat)(a0_0:List UInt8)(a0_1:Bool):bU.f bar (k+1) a0_0 a0_1=
 some ((0,([]:List (List UInt8))),(a0_0,true)):=by kernel_rfl
theorem cm.f_eq (bar:aD)(k:Nat)(a0_0:List UInt8)(a0_1:Bool):cm.f bar (k+1) a0_0 a0_1=
 bif (a0_0==([]:List UInt8)) then
 some (0,(a0_0,true))
 else
 (rd a0_0 0).bind fun b_1=>
 bif decide (0≤1)&&decide (1≤(((a0_0).length:Nat):Int)) then
 some ((b_1.toNat:Int),(List.drop 1 (List.take ((a0_0).length) a0_0),a0_1))
 else
 none:=by kernel_rfl
theorem bK.f_eq (bar:aD)(k:Nat)(a0_0:List UInt8)(a0_1:Bool)(a1:List UInt8):bK.f bar (k+1) a0_0 a0_1 a1=
 (strings_Cut.f bar k a0_0 a1).bind fun r_1=>
 (dZ.f bar k r_1.1).bind fun r_2=>
 bif (!(!r_1.2.2)) then
 bif (!r_2.2) then
 (strconv_Itoa.f bar k r_2.1).bind fun r_3=>
 bif (r_3 != r_1.1) then
 some ((r_2.1,r_1.1),(r_1.2.1,true))
 else
 some ((r_2.1,r_1.1),(r_1.2.1,a0_1))
 else
 some ((r_2.1,r_1.1),(r_1.2.1,true))
 else
 some ((r_2.1,r_1.1),(r_1.2.1,true)):=by kernel_rfl
theorem cV.f_eq (bar:aD)(k:Nat)(a0_0:List UInt8)(a0_1:Bool)(a1:Int):cV.f bar (k+1) a0_0 a0_1 a1=
 bif (!a0_1) then
 bif (!(decide (a1<0))) then
 bif decide (a1>((a0_0).length:Int)) then
 some (([]:List UInt8),(a0_0,true))
 else
 bif decide (0≤a1)&&decide (a1≤(((a0_0).length:Nat):Int)) then
 bif decide (0≤a1)&&decide (a1≤(((a0_0).length:Nat):Int)) then
 some (List.drop 0 (List.take ((a1).toNat) a0_0),(List.drop ((a1).toNat) (List.take ((a0_0).length) a0_0),a0_1))
 else
 none
 else
 none
 else
 some (([]:List UInt8),(a0_0,true))
 else
 some (([]:List UInt8),(a0_0,true)):=by kernel_rfl
theorem aN.f_eq (bar:aD)(k:Nat)(a0_0:List UInt8)(a0_1:Bool)(a1:Int)(a2:Int):aN.f bar (k+1) a0_0 a0_1 a1 a2=
 aN.l0 bar k k a1 a2 a0_0 a0_1 ([]:List (List UInt8)):=by kernel_rfl
theorem aN.l0_eq (bar:aD)(k:Nat)(n:Nat)(end_1:Int)(within2:Int)(x1000:List UInt8)(x1000_1:Bool)(x2007:List (List UInt8)):aN.l0 bar k (n+1) end_1 within2 x1000 x1000_1 x2007=
 bif (!x1000_1) then
 bif (x1000 != ([]:List UInt8)) then
 (rd x1000 0).bind fun b_1=>
 bif ((b_1.toNat:Int) != end_1) then
 (bJ.f bar k x1000 x1000_1 within2).bind fun r_2=>
 bif decide (0≤IntKind.i64.wrap (((x1000).length:Int) - ((r_2.2.1).length:Int)))&&decide (IntKind.i64.wrap (((x1000).length:Int) - ((r_2.2.1).length:Int))≤(((x1000).length:Nat):Int)) then
 bif decide (((x2007).length+(([List.drop 0 (List.take ((IntKind.i64.wrap (((x1000).length:Int) - ((r_2.2.1).length:Int))).toNat) x1000)]:List (List UInt8))).length)*16≤140737488355328) then
 aN.l0 bar k n end_1 within2 r_2.2.1 r_2.2.2 (x2007++([List.drop 0 (List.take ((IntKind.i64.wrap (((x1000).length:Int) - ((r_2.2.1).length:Int))).toNat) x1000)]:List (List UInt8)))
 else
 none
 else
 none
 else
 (cm.f bar k x1000 x1000_1).bind fun r_3=>
 some (x2007,(r_3.2.1,r_3.2.2))
 else
 (cm.f bar k x1000 x1000_1).bind fun r_4=>
 some (x2007,(r_4.2.1,r_4.2.2))
 else
 (cm.f bar k x1000 x1000_1).bind fun r_5=>
 some (x2007,(r_5.2.1,r_5.2.2)):=by kernel_rfl
theorem ak.f_eq (bar:aD)(k:Nat)(a0:List UInt8):ak.f bar (k+1) a0=
 ak.l0 bar k k a0 0 0:=by kernel_rfl
theorem ak.l0_eq (bar:aD)(k:Nat)(n:Nat)(s0:List UInt8)(x4:Int)(i5:Int):ak.l0 bar k (n+1) s0 x4 i5=
 bif decide (i5<((s0).length:Int)) then
 bif decide (((s0).length:Int)<21) then
 (rd s0 i5).bind fun b_1=>
 bif ((b_1.toNat:Int)==45) then
 bif (i5==0) then
 ak.l0 bar k n s0 x4 (IntKind.i64.wrap (i5+1))
 else
 (rd s0 i5).bind fun b_2=>
 bif (!(decide ((b_2.toNat:Int)<48))) then
 (rd s0 i5).bind fun b_3=>
 bif decide ((b_3.toNat:Int)>57) then
 some (0,false)
 else
 (rd s0 0).bind fun b_4=>
 bif ((b_4.toNat:Int)==45) then
 (rd s0 i5).bind fun b_5=>
 ak.l0 bar k n s0 (IntKind.i64.wrap ((IntKind.i64.wrap (10*x4)) - (IntKind.i64.wrap (IntKind.u8.wrap ((b_5.toNat:Int) - 48))))) (IntKind.i64.wrap (i5+1))
 else
 (rd s0 i5).bind fun b_6=>
 ak.l0 bar k n s0 (IntKind.i64.wrap ((IntKind.i64.wrap (10*x4))+(IntKind.i64.wrap (IntKind.u8.wrap ((b_6.toNat:Int) - 48))))) (IntKind.i64.wrap (i5+1))
 else
 some (0,false)
 else
 (rd s0 i5).bind fun b_7=>
 bif (!(decide ((b_7.toNat:Int)<48))) then
 (rd s0 i5).bind fun b_8=>
 bif decide ((b_8.toNat:Int)>57) then
 some (0,false)
 else
 (rd s0 0).bind fun b_9=>
 bif ((b_9.toNat:Int)==45) then
 (rd s0 i5).bind fun b_10=>
 ak.l0 bar k n s0 (IntKind.i64.wrap ((IntKind.i64.wrap (10*x4)) - (IntKind.i64.wrap (IntKind.u8.wrap ((b_10.toNat:Int) - 48))))) (IntKind.i64.wrap (i5+1))
 else
 (rd s0 i5).bind fun b_11=>
 ak.l0 bar k n s0 (IntKind.i64.wrap ((IntKind.i64.wrap (10*x4))+(IntKind.i64.wrap (IntKind.u8.wrap ((b_11.toNat:Int) - 48))))) (IntKind.i64.wrap (i5+1))
 else
 some (0,false)
 else
 (aW.f bar k x4).bind fun r_12=>
 some (x4,(r_12==s0))
 else
 (aW.f bar k x4).bind fun r_13=>
 some (x4,(r_13==s0)):=by kernel_rfl
theorem au.f_eq (bar:aD)(k:Nat)(a0:List bc)(a1:Int)(a2:List (List UInt8)):au.f bar (k+1) a0 a1 a2=
 (bI.f bar k a2).bind fun r_1=>
 bif decide (((a2).length:Int)>64) then
 some ((hZ.mk 0 0 ((a2).length:Int) r_1 [] [] ([]:List hZ)),false)
 else
 (dU.f bar k a0 a1).bind fun r_2=>
 bif (((r_2.1).length:Int)==((r_2.1).length:Int))&&(decide (0≤((r_2.1).length:Int))&&decide (((r_2.1).length:Int)*24≤140737488355328)) then
 au.l0 bar k k a1 a2 ((((r_2.1).length:Int)).toNat) 0 a0 ((a2).length:Int) r_1 [] [] (killCC 8 6 (killCC 6 6 (killC 2012 (killC 2009 (killC 40 (iV false (List.replicate ((((r_2.1).length:Int)).toNat) (ax.sl .str true [])))))))) r_2.1 ([]:List Bool)
 else
 none:=by kernel_rfl
theorem au.l0_eq (bar:aD)(k:Nat)(n:Nat)(at_1:Int)(vs2:List (List UInt8))(rows11:Nat)(i13:Int)(t3:List bc)(a8:Int)(a8_1:List UInt8)(a8_2:List UInt8)(a8_3:List UInt8)(x40:List ax)(x2009:List Int)(x2012:List Bool):au.l0 bar k (n+1) at_1 vs2 rows11 i13 t3 a8 a8_1 a8_2 a8_3 x40 x2009 x2012=
 bif decide (i13<((vs2).length:Int)) then
 (rd vs2 i13).bind fun e_1=>
 (ah.f bar k e_1).bind fun r_2=>
 (rd t3 at_1).bind fun e_3=>
 bif (e_3.kind==0) then
 bif decide (r_2.1≥0) then
 bif decide (0≤0)&&decide (0<((r_2.2.1).length:Int)) then
 (r_2.2.1[0]?).bind fun e_4=>
 (ak.f bar k e_4).bind fun r_5=>
 (aT.f bar k r_5.1 8).bind fun r_6=>
 bif decide ((a8_3).length+(r_6).length≤9223372036854775807) then
 au.l0 bar k n at_1 vs2 rows11 (IntKind.i64.wrap (i13+1)) t3 a8 a8_1 a8_2 (a8_3++r_6) (eI [101,102,103,104,105,106] (killC 52 x40)) x2009 x2012
 else
 none
 else
 none
 else
 (aT.f bar k 0 8).bind fun r_7=>
 bif decide ((a8_3).length+(r_7).length≤9223372036854775807) then
 au.l0 bar k n at_1 vs2 rows11 (IntKind.i64.wrap (i13+1)) t3 a8 a8_1 a8_2 (a8_3++r_7) (eI [101,102,103,104,105,106] (killC 52 x40)) x2009 x2012
 else
 none
 else
 bif (e_3.kind==1) then
 (rd vs2 i13).bind fun e_8=>
 bif decide (((x2012).length+(([(e_8==([116]:List UInt8))]:List Bool)).length)*1≤140737488355328) then
 au.l0 bar k n at_1 vs2 rows11 (IntKind.i64.wrap (i13+1)) t3 a8 a8_1 a8_2 a8_3 (killC 2012 (killC 116 (killC 115 (killC 52 x40)))) x2009 (x2012++([(e_8==([116]:List UInt8))]:List Bool))
 else
 none
 else
 bif (e_3.kind==2) then
 (aT.f bar k ((a8_3).length:Int) 4).bind fun r_9=>
 bif decide ((a8_2).length+(r_9).length≤9223372036854775807) then
 (ud.f bar k r_2.2.1).bind fun r_10=>
 bif decide ((a8_3).length+(r_10).length≤9223372036854775807) then
 au.l0 bar k n at_1 vs2 rows11 (IntKind.i64.wrap (i13+1)) t3 a8 a8_1 (a8_2++r_9) (a8_3++r_10) (eI [127,128,129,130,131,132] (eI [119,120,121,122,123,124,125,126] (killC 52 x40))) x2009 x2012
 else
 none
 else
 none
 else
 bif (e_3.kind==3) then
 bif decide (0≤0)&&decide (0<((rows11:Nat):Int)) then
 ((eI [135,136,137,138,139,140,141,142,143] (killC 52 x40))[0]?).bind fun c_11=>
 (vP .str c_11).bind fun p_12=>
 bif p_12.1 then
 (aT.f bar k ((p_12.2).length:Int) 4).bind fun r_13=>
 bif decide ((a8_2).length+(r_13).length≤9223372036854775807) then
 bif decide (0≤0)&&decide (0<((rows11:Nat):Int)) then
 ((eI [135,136,137,138,139,140,141,142,143] (killC 52 x40))[0]?).bind fun c_14=>
 (vP .str c_14).bind fun p_15=>
 bif p_15.1 then
 ((eI [135,136,137,138,139,140,141,142,143] (killC 52 x40))[0]?).bind fun c_16=>
 (vP .str c_16).bind fun p_17=>
 bif decide (((p_17.2).length+(r_2.2.1).length)*16≤140737488355328) then
 bif decide (0≤0)&&decide (0<((rows11:Nat):Int)) then
 bif Nat.blt 0 (killC 149 ((eI [135,136,137,138,139,140,141,142,143] (killC 52 x40)).set 0 (.av .und))).length then
 au.l0 bar k n at_1 vs2 rows11 (IntKind.i64.wrap (i13+1)) t3 a8 a8_1 (a8_2++r_13) a8_3 (cM 40 ((killC 149 ((eI [135,136,137,138,139,140,141,142,143] (killC 52 x40)).set 0 (.av .und))).set 0 (ax.sl .str true (p_17.2++r_2.2.1)))) x2009 x2012
 else
 none
 else
 none
 else
 none
 else
 none
 else
 none
 else
 none
 else
 none
 else
 none
 else
 au.l3 bar k n k at_1 vs2 rows11 i13 r_2.1 0 t3 a8 a8_1 a8_2 a8_3 (killC 2015 (killC 52 x40)) x2009 x2012 r_2.2.1
 else
 (rd t3 at_1).bind fun e_18=>
 bif (e_18.kind==1) then
 (aU.f bar k x2012).bind fun r_19=>
 bar _ (au.j39 bar k rows11 t3 a8 a8_1 a8_2 r_19 x40 x2009)
 else
 bif (e_18.kind==2) then
 (aT.f bar k ((a8_3).length:Int) 4).bind fun r_20=>
 bif decide ((a8_2).length+(r_20).length≤9223372036854775807) then
 bar _ (au.j39 bar k rows11 t3 a8 a8_1 (a8_2++r_20) a8_3 (eI [164,165,166,167,168,169,170,171] x40) x2009)
 else
 none
 else
 bif (e_18.kind==3) then
 bif decide (0≤0)&&decide (0<((rows11:Nat):Int)) then
 ((eI [174,175,176,177,178,179,180,181,182] x40)[0]?).bind fun c_21=>
 (vP .str c_21).bind fun p_22=>
 bif p_22.1 then
 (aT.f bar k ((p_22.2).length:Int) 4).bind fun r_23=>
 bif decide ((a8_2).length+(r_23).length≤9223372036854775807) then
 bar _ (au.j39 bar k rows11 t3 a8 a8_1 (a8_2++r_23) a8_3 (eI [174,175,176,177,178,179,180,181,182] x40) x2009)
 else
 none
 else
 none
 else
 none
 else
 bar _ (au.j39 bar k rows11 t3 a8 a8_1 a8_2 a8_3 x40 x2009):=by kernel_rfl
theorem au.j39_eq (bar:aD)(k:Nat)(rows11:Nat)(t3:List bc)(a8:Int)(a8_1:List UInt8)(a8_2:List UInt8)(a8_3:List UInt8)(x40:List ax)(x2009:List Int):au.j39 bar k rows11 t3 a8 a8_1 a8_2 a8_3 x40 x2009=
 au.l6 bar k k rows11 0 t3 a8 a8_1 a8_2 a8_3 ([]:List hZ) x40 x2009:=by kernel_rfl
theorem au.l6_eq (bar:aD)(k:Nat)(n:Nat)(rows11:Nat)(j20:Int)(t3:List bc)(a8:Int)(a8_1:List UInt8)(a8_2:List UInt8)(a8_3:List UInt8)(a8_4:List hZ)(x40:List ax)(x2009:List Int):au.l6 bar k (n+1) rows11 j20 t3 a8 a8_1 a8_2 a8_3 a8_4 x40 x2009=
 bif decide (j20<((x2009).length:Int)) then
 bif decide (0≤j20)&&decide (j20<((x2009).length:Int)) then
 (x2009[(j20).toNat]?).bind fun e_1=>
 bif decide (0≤j20)&&decide (j20<((rows11:Nat):Int)) then
 ((eI [190,191,192,193,194,195,196,197,198,199,189,200,201,21,22] x40)[(j20).toNat]?).bind fun c_2=>
 (vP .str c_2).bind fun p_3=>
 bif p_3.1 then
 (au.f bar k t3 e_1 p_3.2).bind fun r_4=>
 bif (!r_4.2) then
 some ((hZ.mk 0 0 a8 a8_1 a8_2 a8_3 a8_4),false)
 else
 bif decide (((a8_4).length+(([(hZ.mk r_4.1.layout r_4.1.offset r_4.1.length r_4.1.valid r_4.1.ends r_4.1.data r_4.1.kids)]:List hZ)).length)*96≤140737488355328) then
 au.l6 bar k n rows11 (IntKind.i64.wrap (j20+1)) t3 a8 a8_1 a8_2 a8_3 (a8_4++([(hZ.mk r_4.1.layout r_4.1.offset r_4.1.length r_4.1.valid r_4.1.ends r_4.1.data r_4.1.kids)]:List hZ)) (killCC 8 6 (killC 209 (killC 208 (eI [190,191,192,193,194,195,196,197,198,199,189,200,201,21,22] x40)))) x2009
 else
 none
 else
 none
 else
 none
 else
 none
 else
 bif decide (((a8_3).length:Int)≤4096) then
 some ((hZ.mk 0 0 a8 a8_1 a8_2 a8_3 a8_4),decide (((a8_2).length:Int)≤4096))
 else
 some ((hZ.mk 0 0 a8 a8_1 a8_2 a8_3 a8_4),false):=by kernel_rfl
theorem fU.f_eq (bar:aD)(k:Nat)(a0:Int)(a1:Int):fU.f bar (k+1) a0 a1=
 (fX.f bar k a0 a1).bind fun r_1=>
 some (r_1.1,r_1.2):=by kernel_rfl
theorem ar.f_eq (bar:aD)(k:Nat)(a0:List Int)(a1_0:Int):ar.f bar (k+1) a0 a1_0=
 ar.l0 bar k k a0 a1_0 ((a0).length:Int) 0:=by kernel_rfl
theorem ar.l0_eq (bar:aD)(k:Nat)(n:Nat)(s0:List Int)(f1:Int)(x7:Int)(x8:Int):ar.l0 bar k (n+1) s0 f1 x7 x8=
 bif decide (x8<x7) then
 (rd s0 x8).bind fun e_1=>
 (gI.f bar k e_1 f1).bind fun r_2=>
 bif r_2 then
 some x8
 else
 ar.l0 bar k n s0 f1 x7 (IntKind.i64.wrap (x8+1))
 else
 some (-1):=by kernel_rfl
theorem strings_Cut.f_eq (bar:aD)(k:Nat)(a0:List UInt8)(a1:List UInt8):strings_Cut.f bar (k+1) a0 a1=
 tl a0 a1:=by kernel_rfl
theorem bI.f_eq (bar:aD)(k:Nat)(a0:List (List UInt8)):bI.f bar (k+1) a0=
 bI.l0 bar k k a0 true 0 ([]:List Bool):=by kernel_rfl
theorem bI.l0_eq (bar:aD)(k:Nat)(n:Nat)(vs0:List (List UInt8))(all4:Bool)(i5:Int)(x2003:List Bool):bI.l0 bar k (n+1) vs0 all4 i5 x2003=
 bif decide (i5<((vs0).length:Int)) then
 (rd vs0 i5).bind fun e_1=>
 bif decide (((x2003).length+(([(e_1 != ([110]:List UInt8))]:List Bool)).length)*1≤140737488355328) then
 bif all4 then
 (rd vs0 i5).bind fun e_2=>
 bI.l0 bar k n vs0 (e_2 != ([110]:List UInt8)) (IntKind.i64.wrap (i5+1)) (x2003++([(e_1 != ([110]:List UInt8))]:List Bool))
 else
 bI.l0 bar k n vs0 false (IntKind.i64.wrap (i5+1)) (x2003++([(e_1 != ([110]:List UInt8))]:List Bool))
 else
 none
 else
 bif all4 then
 some ([]:List UInt8)
 else
 (aU.f bar k x2003).bind fun r_3=>
 some r_3:=by kernel_rfl
theorem fX.f_eq (bar:aD)(k:Nat)(a0:Int)(a1:Int):fX.f bar (k+1) a0 a1=
 some (IntKind.u64.wrap ((IntKind.u64.wrap ((IntKind.u64.wrap ((Int.fdiv a0 (2 ^ (min 32 IntKind.u64.bits)))*(Int.fdiv a1 (2 ^ (min 32 IntKind.u64.bits)))))+(Int.fdiv (IntKind.u64.wrap ((IntKind.u64.wrap ((Int.fdiv a0 (2 ^ (min 32 IntKind.u64.bits)))*(aB .and .u64 a1 4294967295)))+(Int.fdiv (IntKind.u64.wrap ((aB .and .u64 a0 4294967295)*(aB .and .u64 a1 4294967295))) (2 ^ (min 32 IntKind.u64.bits))))) (2 ^ (min 32 IntKind.u64.bits)))))+(Int.fdiv (IntKind.u64.wrap ((aB .and .u64 (IntKind.u64.wrap ((IntKind.u64.wrap ((Int.fdiv a0 (2 ^ (min 32 IntKind.u64.bits)))*(aB .and .u64 a1 4294967295)))+(Int.fdiv (IntKind.u64.wrap ((aB .and .u64 a0 4294967295)*(aB .and .u64 a1 4294967295))) (2 ^ (min 32 IntKind.u64.bits))))) 4294967295)+(IntKind.u64.wrap ((aB .and .u64 a0 4294967295)*(Int.fdiv a1 (2 ^ (min 32 IntKind.u64.bits))))))) (2 ^ (min 32 IntKind.u64.bits)))),IntKind.u64.wrap (a0*a1)):=by kernel_rfl
theorem gI.f_eq (bar:aD)(k:Nat)(a0:Int)(a1:Int):gI.f bar (k+1) a0 a1=
 bif (!(decide (a0<0))) then
 bif decide (a1<0) then
 none
 else
 some (decide ((Int.fdiv a0 (2 ^ (min (a1).toNat IntKind.i64.bits)))>0))
 else
 some true:=by kernel_rfl
end Go.Proofs.YtjkokaockhecnaaGreatDoorA
