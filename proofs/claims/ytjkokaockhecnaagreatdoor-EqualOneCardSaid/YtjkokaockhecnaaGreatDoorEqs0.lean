/- Each function and each loop of the program answers as its equation says; no condition. -/
import Derived.Test.YtjkokaockhecnaaGreatDoorFns
namespace Go.Proofs.YtjkokaockhecnaaGreatDoorA
open Go
set_option linter.unusedVariables false
theorem aL.f_eq (bar:aU)(k:Nat)(a0:Int)(a1:Int)(a2:Int):aL.f bar (k+1) a0 a1 a2=
 (fN.f bar k).bind fun r_1=>
 bif (!r_1) then
 some false
 else
 aL.l0 bar k k a1 a2 (IntKind.i64.wrap (1+(cM .and .i64 a0 31))) 0 ([]:List (List UInt8)):=by kernel_rfl
theorem aL.l0_eq (bar:aU)(k:Nat)(n:Nat)(at_1:Int)(by_2:Int)(k_7:Int)(i9:Int)(x2008:List (List UInt8)):aL.l0 bar k (n+1) at_1 by_2 k_7 i9 x2008=
 bif decide (i9<k_7) then
 (dB.f bar k i9).bind fun r_1=>
 bif decide (((x2008).length+(([r_1]:List (List UInt8))).length)*16≤140737488355328) then
 aL.l0 bar k n at_1 by_2 k_7 (IntKind.i64.wrap (i9+1)) (x2008++([r_1]:List (List UInt8)))
 else
 none
 else
 (bB.f bar k).bind fun r_2=>
 (aJ.f bar k r_2 0 x2008).bind fun r_3=>
 bif (IntKind.u64.wrap k_7==0) then
 none
 else
 bif decide (((([]:List (List UInt8))).length+(x2008).length)*16≤140737488355328) then
 (dB.f bar k (IntKind.i64.wrap ((IntKind.i64.wrap ((IntKind.i64.wrap (Int.tmod (IntKind.u64.wrap at_1) (IntKind.u64.wrap k_7)))+1))+(cM .and .i64 by_2 255)))).bind fun r_4=>
 bif decide (0≤IntKind.i64.wrap (Int.tmod (IntKind.u64.wrap at_1) (IntKind.u64.wrap k_7)))&&decide (IntKind.i64.wrap (Int.tmod (IntKind.u64.wrap at_1) (IntKind.u64.wrap k_7))<((([]:List (List UInt8))++x2008).length:Int)) then
 ((([]:List (List UInt8))++x2008)[(IntKind.i64.wrap (Int.tmod (IntKind.u64.wrap at_1) (IntKind.u64.wrap k_7))).toNat]?).bind fun e_5=>
 (bB.f bar k).bind fun r_6=>
 (aJ.f bar k r_6 0 ((([]:List (List UInt8))++x2008).set ((IntKind.i64.wrap (Int.tmod (IntKind.u64.wrap at_1) (IntKind.u64.wrap k_7))).toNat) r_4)).bind fun r_7=>
 bif decide (0≤IntKind.i64.wrap (Int.tmod (IntKind.u64.wrap at_1) (IntKind.u64.wrap k_7)))&&decide (IntKind.i64.wrap (Int.tmod (IntKind.u64.wrap at_1) (IntKind.u64.wrap k_7))<(((([]:List (List UInt8))++x2008).set ((IntKind.i64.wrap (Int.tmod (IntKind.u64.wrap at_1) (IntKind.u64.wrap k_7))).toNat) r_4).length:Int)) then
 (((([]:List (List UInt8))++x2008).set ((IntKind.i64.wrap (Int.tmod (IntKind.u64.wrap at_1) (IntKind.u64.wrap k_7))).toNat) r_4)[(IntKind.i64.wrap (Int.tmod (IntKind.u64.wrap at_1) (IntKind.u64.wrap k_7))).toNat]?).bind fun e_8=>
 (bB.f bar k).bind fun r_9=>
 (aJ.f bar k r_9 0 (((([]:List (List UInt8))++x2008).set ((IntKind.i64.wrap (Int.tmod (IntKind.u64.wrap at_1) (IntKind.u64.wrap k_7))).toNat) r_4).set ((IntKind.i64.wrap (Int.tmod (IntKind.u64.wrap at_1) (IntKind.u64.wrap k_7))).toNat) ([110]:List UInt8))).bind fun r_10=>
 (bB.f bar k).bind fun r_11=>
 (eq.f bar k r_11 0 r_3.1 r_7.1).bind fun r_12=>
 (bB.f bar k).bind fun r_13=>
 (eq.f bar k r_13 0 r_3.1 r_10.1).bind fun r_14=>
 bif (r_3.2==0) then
 bif (r_7.2==0) then
 bif (r_10.2==0) then
 bif (!r_12.1) then
 (dG.f bar k r_12.2).bind fun r_15=>
 bif (r_15==0) then
 bif (!r_14.1) then
 (dG.f bar k r_14.2).bind fun r_16=>
 some (r_16==0)
 else
 some false
 else
 some false
 else
 some false
 else
 some false
 else
 some false
 else
 some false
 else
 none
 else
 none
 else
 none:=by kernel_rfl
theorem dB.f_eq (bar:aU)(k:Nat)(a0:Int):dB.f bar (k+1) a0=
 (aH.f bar k a0).bind fun r_1=>
 bif decide ((([105]:List UInt8)).length+(r_1).length≤9223372036854775807) then
 bif decide ((([105]:List UInt8)++r_1).length+(([59]:List UInt8)).length≤9223372036854775807) then
 some ((([105]:List UInt8)++r_1)++([59]:List UInt8))
 else
 none
 else
 none:=by kernel_rfl
theorem aJ.f_eq (bar:aU)(k:Nat)(a0:List aI)(a1:Int)(a2:List (List UInt8)):aJ.f bar (k+1) a0 a1 a2=
 (bP.f bar k a0 a1).bind fun r_1=>
 bif (!r_1) then
 some ((aO.mk 0 0 0 [] [] [] ([]:List aO)),1000)
 else
 aJ.l0 bar k k a1 a2 0 a0:=by kernel_rfl
theorem aJ.l0_eq (bar:aU)(k:Nat)(n:Nat)(at_1:Int)(vs2:List (List UInt8))(i8:Int)(t3:List aI):aJ.l0 bar k (n+1) at_1 vs2 i8 t3=
 bif decide (i8<((vs2).length:Int)) then
 (rd vs2 i8).bind fun e_1=>
 (ah.f bar k t3 at_1 e_1).bind fun r_2=>
 bif (!r_2) then
 some ((aO.mk 0 0 0 [] [] [] ([]:List aO)),1000)
 else
 aJ.l0 bar k n at_1 vs2 (IntKind.i64.wrap (i8+1)) t3
 else
 (ab.f bar k t3 at_1 vs2).bind fun r_3=>
 bif (!r_3.2) then
 some ((aO.mk 0 0 0 [] [] [] ([]:List aO)),1001)
 else
 some ((aO.mk r_3.1.layout r_3.1.offset r_3.1.length r_3.1.valid r_3.1.ends r_3.1.data r_3.1.kids),0):=by kernel_rfl
theorem bB.f_eq (bar:aU)(k:Nat):bB.f bar (k+1)=
 some ([(aI.mk 0 (-1) true)]:List aI):=by kernel_rfl
theorem eq.f_eq (bar:aU)(k:Nat)(a0:List aI)(a1:Int)(a2:aO)(a3:aO):eq.f bar (k+1) a0 a1 a2 a3=
 (bI.f bar k a0 a1 a2).bind fun r_1=>
 (bI.f bar k a0 a1 a3).bind fun r_2=>
 bif (!(r_1.2 != 0)) then
 bif (r_2.2 != 0) then
 some (false,1500)
 else
 (ax.f bar k r_1.1 r_2.1).bind fun r_3=>
 some (r_3,0)
 else
 some (false,1500):=by kernel_rfl
theorem dG.f_eq (bar:aU)(k:Nat)(a0:Int):dG.f bar (k+1) a0=
 some a0:=by kernel_rfl
theorem aH.f_eq (bar:aU)(k:Nat)(a0:Int):aH.f bar (k+1) a0=
 bif decide (a0≥0) then
 (ar.f bar k a0).bind fun r_1=>
 some r_1
 else
 aH.l0 bar k k a0 ([]:List UInt8):=by kernel_rfl
theorem aH.l0_eq (bar:aU)(k:Nat)(n:Nat)(x0:Int)(s3:List UInt8):aH.l0 bar k (n+1) x0 s3=
 bif decide (x0<0) then
 bif decide ((aD ([IntKind.u8.wrap (IntKind.i64.wrap (48 - (Int.tmod x0 10)))]:List Int)).length+(s3).length≤9223372036854775807) then
 aH.l0 bar k n (IntKind.i64.wrap (Int.tdiv x0 10)) ((aD ([IntKind.u8.wrap (IntKind.i64.wrap (48 - (Int.tmod x0 10)))]:List Int))++s3)
 else
 none
 else
 bif decide ((([45]:List UInt8)).length+(s3).length≤9223372036854775807) then
 some (([45]:List UInt8)++s3)
 else
 none:=by kernel_rfl
theorem bP.f_eq (bar:aU)(k:Nat)(a0:List aI)(a1:Int):bP.f bar (k+1) a0 a1=
 (ai.f bar k a0).bind fun r_1=>
 bif r_1 then
 bif decide (a1≥0) then
 some (decide (a1<((a0).length:Int)))
 else
 some false
 else
 some false:=by kernel_rfl
theorem ah.f_eq (bar:aU)(k:Nat)(a0:List aI)(a1:Int)(a2:List UInt8):ah.f bar (k+1) a0 a1 a2=
 (bP.f bar k a0 a1).bind fun r_1=>
 bif (!r_1) then
 some false
 else
 (rd a0 a1).bind fun e_2=>
 (ae.f bar k a2).bind fun r_3=>
 bif (r_3.2.2 != 0) then
 some false
 else
 bif decide (r_3.1<0) then
 some e_2.null
 else
 (cI.f bar k a0 a1).bind fun r_4=>
 bif (!(r_3.1 != e_2.kind)) then
 bif (r_3.1==2) then
 bif decide (0≤0)&&decide (0<((r_3.2.1).length:Int)) then
 (r_3.2.1[0]?).bind fun e_5=>
 bif (!(decide (((e_5).length:Int)>16))) then
 bif (r_3.1==3) then
 bif (!(decide (((r_3.2.1).length:Int)>64))) then
 bif (r_3.1==4) then
 bif (((r_3.2.1).length:Int) != ((r_4.1).length:Int)) then
 some false
 else
 ah.l0 bar k k r_3.1 0 a0 r_3.2.1 r_4.1
 else
 ah.l0 bar k k r_3.1 0 a0 r_3.2.1 r_4.1
 else
 some false
 else
 bif (r_3.1==4) then
 bif (((r_3.2.1).length:Int) != ((r_4.1).length:Int)) then
 some false
 else
 ah.l0 bar k k r_3.1 0 a0 r_3.2.1 r_4.1
 else
 ah.l0 bar k k r_3.1 0 a0 r_3.2.1 r_4.1
 else
 some false
 else
 none
 else
 bif (r_3.1==3) then
 bif (!(decide (((r_3.2.1).length:Int)>64))) then
 bif (r_3.1==4) then
 bif (((r_3.2.1).length:Int) != ((r_4.1).length:Int)) then
 some false
 else
 ah.l0 bar k k r_3.1 0 a0 r_3.2.1 r_4.1
 else
 ah.l0 bar k k r_3.1 0 a0 r_3.2.1 r_4.1
 else
 some false
 else
 bif (r_3.1==4) then
 bif (((r_3.2.1).length:Int) != ((r_4.1).length:Int)) then
 some false
 else
 ah.l0 bar k k r_3.1 0 a0 r_3.2.1 r_4.1
 else
 ah.l0 bar k k r_3.1 0 a0 r_3.2.1 r_4.1
 else
 some false:=by kernel_rfl
theorem ah.l0_eq (bar:aU)(k:Nat)(n:Nat)(kind8:Int)(i13:Int)(t3:List aI)(x2009:List (List UInt8))(x2011:List Int):ah.l0 bar k (n+1) kind8 i13 t3 x2009 x2011=
 bif decide (i13<((x2009).length:Int)) then
 (cE.f bar k kind8).bind fun r_1=>
 bif (!r_1) then
 bif decide (0≤0)&&decide (0<((x2011).length:Int)) then
 (x2011[0]?).bind fun e_2=>
 bif (kind8==4) then
 bif decide (0≤i13)&&decide (i13<((x2011).length:Int)) then
 (x2011[(i13).toNat]?).bind fun e_3=>
 bif decide (0≤i13)&&decide (i13<((x2009).length:Int)) then
 (x2009[(i13).toNat]?).bind fun e_4=>
 (ah.f bar k t3 e_3 e_4).bind fun r_5=>
 bif (!r_5) then
 some false
 else
 ah.l0 bar k n kind8 (IntKind.i64.wrap (i13+1)) t3 x2009 x2011
 else
 none
 else
 none
 else
 bif decide (0≤i13)&&decide (i13<((x2009).length:Int)) then
 (x2009[(i13).toNat]?).bind fun e_6=>
 (ah.f bar k t3 e_2 e_6).bind fun r_7=>
 bif (!r_7) then
 some false
 else
 ah.l0 bar k n kind8 (IntKind.i64.wrap (i13+1)) t3 x2009 x2011
 else
 none
 else
 none
 else
 some true
 else
 some true:=by kernel_rfl
theorem ab.f_eq (bar:aU)(k:Nat)(a0:List aI)(a1:Int)(a2:List (List UInt8)):ab.f bar (k+1) a0 a1 a2=
 (aQ.f bar k a2).bind fun r_1=>
 bif decide (((a2).length:Int)>64) then
 some ((aO.mk 0 0 ((a2).length:Int) r_1 [] [] ([]:List aO)),false)
 else
 (cI.f bar k a0 a1).bind fun r_2=>
 bif (((r_2.1).length:Int)==((r_2.1).length:Int))&&(decide (0≤((r_2.1).length:Int))&&decide (((r_2.1).length:Int)*24≤140737488355328)) then
 ab.l0 bar k k a1 a2 ((((r_2.1).length:Int)).toNat) 0 a0 ((a2).length:Int) r_1 [] [] (killCC 8 6 (killCC 6 6 (killC 2012 (killC 2009 (killC 40 (fY false (List.replicate ((((r_2.1).length:Int)).toNat) (aj.sl .str true [])))))))) r_2.1 ([]:List Bool)
 else
 none:=by kernel_rfl
theorem ab.l0_eq (bar:aU)(k:Nat)(n:Nat)(at_1:Int)(vs2:List (List UInt8))(rows11:Nat)(i13:Int)(t3:List aI)(a8:Int)(a8_1:List UInt8)(a8_2:List UInt8)(a8_3:List UInt8)(x40:List aj)(x2009:List Int)(x2012:List Bool):ab.l0 bar k (n+1) at_1 vs2 rows11 i13 t3 a8 a8_1 a8_2 a8_3 x40 x2009 x2012=
 bif decide (i13<((vs2).length:Int)) then
 (rd vs2 i13).bind fun e_1=>
 (ae.f bar k e_1).bind fun r_2=>
 (rd t3 at_1).bind fun e_3=>
 bif (e_3.kind==0) then
 bif decide (r_2.1≥0) then
 bif decide (0≤0)&&decide (0<((r_2.2.1).length:Int)) then
 (r_2.2.1[0]?).bind fun e_4=>
 (am.f bar k e_4).bind fun r_5=>
 (bJ.f bar k r_5.1 8).bind fun r_6=>
 bif decide ((a8_3).length+(r_6).length≤9223372036854775807) then
 ab.l0 bar k n at_1 vs2 rows11 (IntKind.i64.wrap (i13+1)) t3 a8 a8_1 a8_2 (a8_3++r_6) (bZ [101,102,103,104,105,106] (killC 52 x40)) x2009 x2012
 else
 none
 else
 none
 else
 (bJ.f bar k 0 8).bind fun r_7=>
 bif decide ((a8_3).length+(r_7).length≤9223372036854775807) then
 ab.l0 bar k n at_1 vs2 rows11 (IntKind.i64.wrap (i13+1)) t3 a8 a8_1 a8_2 (a8_3++r_7) (bZ [101,102,103,104,105,106] (killC 52 x40)) x2009 x2012
 else
 none
 else
 bif (e_3.kind==1) then
 (rd vs2 i13).bind fun e_8=>
 bif decide (((x2012).length+(([(e_8==([116]:List UInt8))]:List Bool)).length)*1≤140737488355328) then
 ab.l0 bar k n at_1 vs2 rows11 (IntKind.i64.wrap (i13+1)) t3 a8 a8_1 a8_2 a8_3 (killC 2012 (killC 116 (killC 115 (killC 52 x40)))) x2009 (x2012++([(e_8==([116]:List UInt8))]:List Bool))
 else
 none
 else
 bif (e_3.kind==2) then
 (bJ.f bar k ((a8_3).length:Int) 4).bind fun r_9=>
 bif decide ((a8_2).length+(r_9).length≤9223372036854775807) then
 (a6.f bar k r_2.2.1).bind fun r_10=>
 bif decide ((a8_3).length+(r_10).length≤9223372036854775807) then
 ab.l0 bar k n at_1 vs2 rows11 (IntKind.i64.wrap (i13+1)) t3 a8 a8_1 (a8_2++r_9) (a8_3++r_10) (bZ [127,128,129,130,131,132] (bZ [119,120,121,122,123,124,125,126] (killC 52 x40))) x2009 x2012
 else
 none
 else
 none
 else
 bif (e_3.kind==3) then
 bif decide (0≤0)&&decide (0<((rows11:Nat):Int)) then
 ((bZ [135,136,137,138,139,140,141,142,143] (killC 52 x40))[0]?).bind fun c_11=>
 (kD .str c_11).bind fun p_12=>
 bif p_12.1 then
 (bJ.f bar k ((p_12.2).length:Int) 4).bind fun r_13=>
 bif decide ((a8_2).length+(r_13).length≤9223372036854775807) then
 bif decide (0≤0)&&decide (0<((rows11:Nat):Int)) then
 ((bZ [135,136,137,138,139,140,141,142,143] (killC 52 x40))[0]?).bind fun c_14=>
 (kD .str c_14).bind fun p_15=>
 bif p_15.1 then
 ((bZ [135,136,137,138,139,140,141,142,143] (killC 52 x40))[0]?).bind fun c_16=>
 (kD .str c_16).bind fun p_17=>
 bif decide (((p_17.2).length+(r_2.2.1).length)*16≤140737488355328) then
 bif decide (0≤0)&&decide (0<((rows11:Nat):Int)) then
 bif Nat.blt 0 (killC 149 ((bZ [135,136,137,138,139,140,141,142,143] (killC 52 x40)).set 0 (.av .und))).length then
 ab.l0 bar k n at_1 vs2 rows11 (IntKind.i64.wrap (i13+1)) t3 a8 a8_1 (a8_2++r_13) a8_3 (bz 40 ((killC 149 ((bZ [135,136,137,138,139,140,141,142,143] (killC 52 x40)).set 0 (.av .und))).set 0 (aj.sl .str true (p_17.2++r_2.2.1)))) x2009 x2012
 else
 none
 else
 none
 else
 none
 else
 none
 else
 none
 else
 none
 else
 none
 else
 none
 else
 ab.l3 bar k n k at_1 vs2 rows11 i13 r_2.1 0 t3 a8 a8_1 a8_2 a8_3 (killC 2015 (killC 52 x40)) x2009 x2012 r_2.2.1
 else
 (rd t3 at_1).bind fun e_18=>
 bif (e_18.kind==1) then
 (aF.f bar k x2012).bind fun r_19=>
 bar _ (ab.j39 bar k rows11 t3 a8 a8_1 a8_2 r_19 x40 x2009)
 else
 bif (e_18.kind==2) then
 (bJ.f bar k ((a8_3).length:Int) 4).bind fun r_20=>
 bif decide ((a8_2).length+(r_20).length≤9223372036854775807) then
 bar _ (ab.j39 bar k rows11 t3 a8 a8_1 (a8_2++r_20) a8_3 (bZ [164,165,166,167,168,169,170,171] x40) x2009)
 else
 none
 else
 bif (e_18.kind==3) then
 bif decide (0≤0)&&decide (0<((rows11:Nat):Int)) then
 ((bZ [174,175,176,177,178,179,180,181,182] x40)[0]?).bind fun c_21=>
 (kD .str c_21).bind fun p_22=>
 bif p_22.1 then
 (bJ.f bar k ((p_22.2).length:Int) 4).bind fun r_23=>
 bif decide ((a8_2).length+(r_23).length≤9223372036854775807) then
 bar _ (ab.j39 bar k rows11 t3 a8 a8_1 (a8_2++r_23) a8_3 (bZ [174,175,176,177,178,179,180,181,182] x40) x2009)
 else
 none
 else
 none
 else
 none
 else
 bar _ (ab.j39 bar k rows11 t3 a8 a8_1 a8_2 a8_3 x40 x2009):=by kernel_rfl
theorem ab.l3_eq (bar:aU)(k:Nat)(m1:Nat)(n:Nat)(at_1:Int)(vs2:List (List UInt8))(rows11:Nat)(i13:Int)(kind14:Int)(j18:Int)(t3:List aI)(a8:Int)(a8_1:List UInt8)(a8_2:List UInt8)(a8_3:List UInt8)(x40:List aj)(x2009:List Int)(x2012:List Bool)(x2015:List (List UInt8)):ab.l3 bar k m1 (n+1) at_1 vs2 rows11 i13 kind14 j18 t3 a8 a8_1 a8_2 a8_3 x40 x2009 x2012 x2015=
 bif decide (j18<((x2009).length:Int)) then
 bif decide (0≤j18)&&decide (j18<((x2009).length:Int)) then
 (x2009[(j18).toNat]?).bind fun e_1=>
 (aS.f bar k t3 e_1).bind fun r_2=>
 bif decide (kind14≥0) then
 bif decide (0≤j18)&&decide (j18<((x2015).length:Int)) then
 (x2015[(j18).toNat]?).bind fun e_3=>
 bif decide (0≤j18)&&decide (j18<((rows11:Nat):Int)) then
 ((bZ [68,69,70,71,72,73,19] x40)[(j18).toNat]?).bind fun c_4=>
 (kD .str c_4).bind fun p_5=>
 bif p_5.1 then
 ((killC 87 (bZ [68,69,70,71,72,73,19] x40))[(j18).toNat]?).bind fun c_6=>
 (kD .str c_6).bind fun p_7=>
 bif decide (((p_7.2).length+(([e_3]:List (List UInt8))).length)*16≤140737488355328) then
 bif decide (0≤j18)&&decide (j18<((rows11:Nat):Int)) then
 bif Nat.blt ((j18).toNat) (killC 88 ((killC 87 (bZ [68,69,70,71,72,73,19] x40)).set ((j18).toNat) (.av .und))).length then
 ab.l3 bar k m1 n at_1 vs2 rows11 i13 kind14 (IntKind.i64.wrap (j18+1)) t3 a8 a8_1 a8_2 a8_3 (bz 40 ((killC 88 ((killC 87 (bZ [68,69,70,71,72,73,19] x40)).set ((j18).toNat) (.av .und))).set ((j18).toNat) (aj.sl .str true (p_7.2++([e_3]:List (List UInt8)))))) x2009 x2012 x2015
 else
 none
 else
 none
 else
 none
 else
 none
 else
 none
 else
 none
 else
 bif decide (0≤j18)&&decide (j18<((rows11:Nat):Int)) then
 ((bZ [68,69,70,71,72,73,19] x40)[(j18).toNat]?).bind fun c_8=>
 (kD .str c_8).bind fun p_9=>
 bif p_9.1 then
 ((killC 87 (bZ [68,69,70,71,72,73,19] x40))[(j18).toNat]?).bind fun c_10=>
 (kD .str c_10).bind fun p_11=>
 bif decide (((p_11.2).length+(([r_2]:List (List UInt8))).length)*16≤140737488355328) then
 bif decide (0≤j18)&&decide (j18<((rows11:Nat):Int)) then
 bif Nat.blt ((j18).toNat) (killC 88 ((killC 87 (bZ [68,69,70,71,72,73,19] x40)).set ((j18).toNat) (.av .und))).length then
 ab.l3 bar k m1 n at_1 vs2 rows11 i13 kind14 (IntKind.i64.wrap (j18+1)) t3 a8 a8_1 a8_2 a8_3 (bz 40 ((killC 88 ((killC 87 (bZ [68,69,70,71,72,73,19] x40)).set ((j18).toNat) (.av .und))).set ((j18).toNat) (aj.sl .str true (p_11.2++([r_2]:List (List UInt8)))))) x2009 x2012 x2015
 else
 none
 else
 none
 else
 none
 else
 none
 else
 none
 else
 none
 else
 ab.l0 bar k m1 at_1 vs2 rows11 (IntKind.i64.wrap (i13+1)) t3 a8 a8_1 a8_2 a8_3 x40 x2009 x2012:=by kernel_rfl
theorem ab.j39_eq (bar:aU)(k:Nat)(rows11:Nat)(t3:List aI)(a8:Int)(a8_1:List UInt8)(a8_2:List UInt8)(a8_3:List UInt8)(x40:List aj)(x2009:List Int):ab.j39 bar k rows11 t3 a8 a8_1 a8_2 a8_3 x40 x2009=
 ab.l6 bar k k rows11 0 t3 a8 a8_1 a8_2 a8_3 ([]:List aO) x40 x2009:=by kernel_rfl
theorem ab.l6_eq (bar:aU)(k:Nat)(n:Nat)(rows11:Nat)(j20:Int)(t3:List aI)(a8:Int)(a8_1:List UInt8)(a8_2:List UInt8)(a8_3:List UInt8)(a8_4:List aO)(x40:List aj)(x2009:List Int):ab.l6 bar k (n+1) rows11 j20 t3 a8 a8_1 a8_2 a8_3 a8_4 x40 x2009=
 bif decide (j20<((x2009).length:Int)) then
 bif decide (0≤j20)&&decide (j20<((x2009).length:Int)) then
 (x2009[(j20).toNat]?).bind fun e_1=>
 bif decide (0≤j20)&&decide (j20<((rows11:Nat):Int)) then
 ((bZ [190,191,192,193,194,195,196,197,198,199,189,200,201,21,22] x40)[(j20).toNat]?).bind fun c_2=>
 (kD .str c_2).bind fun p_3=>
 bif p_3.1 then
 (ab.f bar k t3 e_1 p_3.2).bind fun r_4=>
 bif (!r_4.2) then
 some ((aO.mk 0 0 a8 a8_1 a8_2 a8_3 a8_4),false)
 else
 bif decide (((a8_4).length+(([(aO.mk r_4.1.layout r_4.1.offset r_4.1.length r_4.1.valid r_4.1.ends r_4.1.data r_4.1.kids)]:List aO)).length)*96≤140737488355328) then
 ab.l6 bar k n rows11 (IntKind.i64.wrap (j20+1)) t3 a8 a8_1 a8_2 a8_3 (a8_4++([(aO.mk r_4.1.layout r_4.1.offset r_4.1.length r_4.1.valid r_4.1.ends r_4.1.data r_4.1.kids)]:List aO)) (killCC 8 6 (killC 209 (killC 208 (bZ [190,191,192,193,194,195,196,197,198,199,189,200,201,21,22] x40)))) x2009
 else
 none
 else
 none
 else
 none
 else
 none
 else
 bif decide (((a8_3).length:Int)≤4096) then
 some ((aO.mk 0 0 a8 a8_1 a8_2 a8_3 a8_4),decide (((a8_2).length:Int)≤4096))
 else
 some ((aO.mk 0 0 a8 a8_1 a8_2 a8_3 a8_4),false):=by kernel_rfl
theorem bI.f_eq (bar:aU)(k:Nat)(a0:List aI)(a1:Int)(a2:aO):bI.f bar (k+1) a0 a1 a2=
 (dD.f bar k a0 a1 a2).bind fun r_1=>
 bif (!r_1) then
 some (([]:List (List UInt8)),900)
 else
 bI.l0 bar k k a1 a2.length 0 a0 a2.layout a2.offset a2.valid a2.ends a2.data a2.kids ([]:List (List UInt8)):=by kernel_rfl
theorem bI.l0_eq (bar:aU)(k:Nat)(n:Nat)(at_1:Int)(x16:Int)(x17:Int)(t3:List aI)(a5:Int)(a5_1:Int)(a5_2:List UInt8)(a5_3:List UInt8)(a5_4:List UInt8)(a5_5:List aO)(x2008:List (List UInt8)):bI.l0 bar k (n+1) at_1 x16 x17 t3 a5 a5_1 a5_2 a5_3 a5_4 a5_5 x2008=
 bif decide (x17<x16) then
 (bh.f bar k t3 at_1 (aO.mk a5 a5_1 x16 a5_2 a5_3 a5_4 a5_5) x17).bind fun r_1=>
 bif decide (((x2008).length+(([r_1]:List (List UInt8))).length)*16≤140737488355328) then
 bI.l0 bar k n at_1 x16 (IntKind.i64.wrap (x17+1)) t3 a5 a5_1 a5_2 a5_3 a5_4 a5_5 (x2008++([r_1]:List (List UInt8)))
 else
 none
 else
 some (x2008,0):=by kernel_rfl
theorem ax.f_eq (bar:aU)(k:Nat)(a0:List (List UInt8))(a1:List (List UInt8)):ax.f bar (k+1) a0 a1=
 bif (((a0).length:Int) != ((a1).length:Int)) then
 some false
 else
 ax.l0 bar k k a0 a1 ((a0).length:Int) 0:=by kernel_rfl
theorem ax.l0_eq (bar:aU)(k:Nat)(n:Nat)(s10:List (List UInt8))(s21:List (List UInt8))(x12:Int)(x13:Int):ax.l0 bar k (n+1) s10 s21 x12 x13=
 bif decide (x13<x12) then
 (rd s10 x13).bind fun e_1=>
 (rd s21 x13).bind fun e_2=>
 bif (e_1 != e_2) then
 some false
 else
 ax.l0 bar k n s10 s21 x12 (IntKind.i64.wrap (x13+1))
 else
 some true:=by kernel_rfl
theorem ar.f_eq (bar:aU)(k:Nat)(a0:Int):ar.f bar (k+1) a0=
 bif decide (a0<0) then
 bar _ (ar.j4 bar k a0 (IntKind.u64.wrap ((IntKind.u64.wrap (IntKind.i64.wrap (0 - (IntKind.i64.wrap (a0+1)))))+1)))
 else
 bar _ (ar.j4 bar k a0 (IntKind.u64.wrap a0)):=by kernel_rfl
theorem ar.j4_eq (bar:aU)(k:Nat)(x0:Int)(size3:Int):ar.j4 bar k x0 size3=
 ar.l0 bar k k x0 size3 ([]:List Int):=by kernel_rfl
theorem ar.l0_eq (bar:aU)(k:Nat)(n:Nat)(x0:Int)(size3:Int)(x2004:List Int):ar.l0 bar k (n+1) x0 size3 x2004=
 bif (!(decide (size3>0))) then
 bif (((x2004).length:Int)==0) then
 bif decide (((([IntKind.u8.wrap (IntKind.u64.wrap (48+(Int.tmod size3 10)))]:List Int)).length+(x2004).length)*1≤140737488355328) then
 ar.l0 bar k n x0 (IntKind.u64.wrap (Int.tdiv size3 10)) (([IntKind.u8.wrap (IntKind.u64.wrap (48+(Int.tmod size3 10)))]:List Int)++x2004)
 else
 none
 else
 bif decide (x0<0) then
 bif decide (((([45]:List Int)).length+(x2004).length)*1≤140737488355328) then
 some (aD (([45]:List Int)++x2004))
 else
 none
 else
 some (aD x2004)
 else
 bif decide (((([IntKind.u8.wrap (IntKind.u64.wrap (48+(Int.tmod size3 10)))]:List Int)).length+(x2004).length)*1≤140737488355328) then
 ar.l0 bar k n x0 (IntKind.u64.wrap (Int.tdiv size3 10)) (([IntKind.u8.wrap (IntKind.u64.wrap (48+(Int.tmod size3 10)))]:List Int)++x2004)
 else
 none:=by kernel_rfl
theorem ai.f_eq (bar:aU)(k:Nat)(a0:List aI):ai.f bar (k+1) a0=
 bif (!(decide (((a0).length:Int)<1))) then
 bif (!(decide (((a0).length:Int)>8))) then
 (rd a0 0).bind fun e_1=>
 bif (e_1.parent != (-1)) then
 some false
 else
 bif (((a0).length:Int)==((a0).length:Int))&&(decide (0≤((a0).length:Int))&&decide (((a0).length:Int)*8≤140737488355328)) then
 ai.l0 bar k k 0 a0 (List.replicate (((a0).length:Int)).toNat (0:Int):List Int)
 else
 none
 else
 some false
 else
 some false:=by kernel_rfl
theorem ai.l0_eq (bar:aU)(k:Nat)(n:Nat)(i4:Int)(t1:List aI)(x2003:List Int):ai.l0 bar k (n+1) i4 t1 x2003=
 bif decide (i4<((t1).length:Int)) then
 (rd t1 i4).bind fun e_1=>
 (aZ.f bar k e_1.kind 0 4).bind fun r_2=>
 bif (!r_2) then
 some false
 else
 (aR.f bar k t1 i4).bind fun r_3=>
 (cE.f bar k e_1.kind).bind fun r_4=>
 bif r_4 then
 bif (!(decide (((r_3).length:Int)>0))) then
 bif (e_1.kind==3) then
 bif (!(((r_3).length:Int) != 1)) then
 bif (e_1.kind==4) then
 bif decide (((r_3).length:Int)<1) then
 some false
 else
 bif (i4==0) then
 ai.l0 bar k n (IntKind.i64.wrap (i4+1)) t1 x2003
 else
 (aZ.f bar k e_1.parent 0 (IntKind.i64.wrap (i4 - 1))).bind fun r_5=>
 bif (!(!r_5)) then
 bif decide (0≤e_1.parent)&&decide (e_1.parent<((x2003).length:Int)) then
 (x2003[(e_1.parent).toNat]?).bind fun e_6=>
 bif decide (e_6≥4) then
 some false
 else
 bif decide (0≤e_1.parent)&&decide (e_1.parent<((x2003).length:Int)) then
 (x2003[(e_1.parent).toNat]?).bind fun e_7=>
 bif decide (0≤i4)&&decide (i4<((x2003).length:Int)) then
 (x2003[(i4).toNat]?).bind fun e_8=>
 ai.l0 bar k n (IntKind.i64.wrap (i4+1)) t1 ((x2003).set ((i4).toNat) (IntKind.i64.wrap (e_7+1)))
 else
 none
 else
 none
 else
 none
 else
 some false
 else
 bif (i4==0) then
 ai.l0 bar k n (IntKind.i64.wrap (i4+1)) t1 x2003
 else
 (aZ.f bar k e_1.parent 0 (IntKind.i64.wrap (i4 - 1))).bind fun r_9=>
 bif (!(!r_9)) then
 bif decide (0≤e_1.parent)&&decide (e_1.parent<((x2003).length:Int)) then
 (x2003[(e_1.parent).toNat]?).bind fun e_10=>
 bif decide (e_10≥4) then
 some false
 else
 bif decide (0≤e_1.parent)&&decide (e_1.parent<((x2003).length:Int)) then
 (x2003[(e_1.parent).toNat]?).bind fun e_11=>
 bif decide (0≤i4)&&decide (i4<((x2003).length:Int)) then
 (x2003[(i4).toNat]?).bind fun e_12=>
 ai.l0 bar k n (IntKind.i64.wrap (i4+1)) t1 ((x2003).set ((i4).toNat) (IntKind.i64.wrap (e_11+1)))
 else
 none
 else
 none
 else
 none
 else
 some false
 else
 some false
 else
 bif (e_1.kind==4) then
 bif decide (((r_3).length:Int)<1) then
 some false
 else
 bif (i4==0) then
 ai.l0 bar k n (IntKind.i64.wrap (i4+1)) t1 x2003
 else
 (aZ.f bar k e_1.parent 0 (IntKind.i64.wrap (i4 - 1))).bind fun r_13=>
 bif (!(!r_13)) then
 bif decide (0≤e_1.parent)&&decide (e_1.parent<((x2003).length:Int)) then
 (x2003[(e_1.parent).toNat]?).bind fun e_14=>
 bif decide (e_14≥4) then
 some false
 else
 bif decide (0≤e_1.parent)&&decide (e_1.parent<((x2003).length:Int)) then
 (x2003[(e_1.parent).toNat]?).bind fun e_15=>
 bif decide (0≤i4)&&decide (i4<((x2003).length:Int)) then
 (x2003[(i4).toNat]?).bind fun e_16=>
 ai.l0 bar k n (IntKind.i64.wrap (i4+1)) t1 ((x2003).set ((i4).toNat) (IntKind.i64.wrap (e_15+1)))
 else
 none
 else
 none
 else
 none
 else
 some false
 else
 bif (i4==0) then
 ai.l0 bar k n (IntKind.i64.wrap (i4+1)) t1 x2003
 else
 (aZ.f bar k e_1.parent 0 (IntKind.i64.wrap (i4 - 1))).bind fun r_17=>
 bif (!(!r_17)) then
 bif decide (0≤e_1.parent)&&decide (e_1.parent<((x2003).length:Int)) then
 (x2003[(e_1.parent).toNat]?).bind fun e_18=>
 bif decide (e_18≥4) then
 some false
 else
 bif decide (0≤e_1.parent)&&decide (e_1.parent<((x2003).length:Int)) then
 (x2003[(e_1.parent).toNat]?).bind fun e_19=>
 bif decide (0≤i4)&&decide (i4<((x2003).length:Int)) then
 (x2003[(i4).toNat]?).bind fun e_20=>
 ai.l0 bar k n (IntKind.i64.wrap (i4+1)) t1 ((x2003).set ((i4).toNat) (IntKind.i64.wrap (e_19+1)))
 else
 none
 else
 none
 else
 none
 else
 some false
 else
 some false
 else
 bif (e_1.kind==3) then
 bif (!(((r_3).length:Int) != 1)) then
 bif (e_1.kind==4) then
 bif decide (((r_3).length:Int)<1) then
 some false
 else
 bif (i4==0) then
 ai.l0 bar k n (IntKind.i64.wrap (i4+1)) t1 x2003
 else
 (aZ.f bar k e_1.parent 0 (IntKind.i64.wrap (i4 - 1))).bind fun r_21=>
 bif (!(!r_21)) then
 bif decide (0≤e_1.parent)&&decide (e_1.parent<((x2003).length:Int)) then
 (x2003[(e_1.parent).toNat]?).bind fun e_22=>
 bif decide (e_22≥4) then
 some false
 else
 bif decide (0≤e_1.parent)&&decide (e_1.parent<((x2003).length:Int)) then
 (x2003[(e_1.parent).toNat]?).bind fun e_23=>
 bif decide (0≤i4)&&decide (i4<((x2003).length:Int)) then
 (x2003[(i4).toNat]?).bind fun e_24=>
 ai.l0 bar k n (IntKind.i64.wrap (i4+1)) t1 ((x2003).set ((i4).toNat) (IntKind.i64.wrap (e_23+1)))
 else
 none
 else
 none
 else
 none
 else
 some false
 else
 bif (i4==0) then
 ai.l0 bar k n (IntKind.i64.wrap (i4+1)) t1 x2003
 else
 (aZ.f bar k e_1.parent 0 (IntKind.i64.wrap (i4 - 1))).bind fun r_25=>
 bif (!(!r_25)) then
 bif decide (0≤e_1.parent)&&decide (e_1.parent<((x2003).length:Int)) then
 (x2003[(e_1.parent).toNat]?).bind fun e_26=>
 bif decide (e_26≥4) then
 some false
 else
 bif decide (0≤e_1.parent)&&decide (e_1.parent<((x2003).length:Int)) then
 (x2003[(e_1.parent).toNat]?).bind fun e_27=>
 bif decide (0≤i4)&&decide (i4<((x2003).length:Int)) then
 (x2003[(i4).toNat]?).bind fun e_28=>
 ai.l0 bar k n (IntKind.i64.wrap (i4+1)) t1 ((x2003).set ((i4).toNat) (IntKind.i64.wrap (e_27+1)))
 else
 none
 else
 none
 else
 none
 else
 some false
 else
 some false
 else
 bif (e_1.kind==4) then
 bif decide (((r_3).length:Int)<1) then
 some false
 else
 bif (i4==0) then
 ai.l0 bar k n (IntKind.i64.wrap (i4+1)) t1 x2003
 else
 (aZ.f bar k e_1.parent 0 (IntKind.i64.wrap (i4 - 1))).bind fun r_29=>
 bif (!(!r_29)) then
 bif decide (0≤e_1.parent)&&decide (e_1.parent<((x2003).length:Int)) then
 (x2003[(e_1.parent).toNat]?).bind fun e_30=>
 bif decide (e_30≥4) then
 some false
 else
 bif decide (0≤e_1.parent)&&decide (e_1.parent<((x2003).length:Int)) then
 (x2003[(e_1.parent).toNat]?).bind fun e_31=>
 bif decide (0≤i4)&&decide (i4<((x2003).length:Int)) then
 (x2003[(i4).toNat]?).bind fun e_32=>
 ai.l0 bar k n (IntKind.i64.wrap (i4+1)) t1 ((x2003).set ((i4).toNat) (IntKind.i64.wrap (e_31+1)))
 else
 none
 else
 none
 else
 none
 else
 some false
 else
 bif (i4==0) then
 ai.l0 bar k n (IntKind.i64.wrap (i4+1)) t1 x2003
 else
 (aZ.f bar k e_1.parent 0 (IntKind.i64.wrap (i4 - 1))).bind fun r_33=>
 bif (!(!r_33)) then
 bif decide (0≤e_1.parent)&&decide (e_1.parent<((x2003).length:Int)) then
 (x2003[(e_1.parent).toNat]?).bind fun e_34=>
 bif decide (e_34≥4) then
 some false
 else
 bif decide (0≤e_1.parent)&&decide (e_1.parent<((x2003).length:Int)) then
 (x2003[(e_1.parent).toNat]?).bind fun e_35=>
 bif decide (0≤i4)&&decide (i4<((x2003).length:Int)) then
 (x2003[(i4).toNat]?).bind fun e_36=>
 ai.l0 bar k n (IntKind.i64.wrap (i4+1)) t1 ((x2003).set ((i4).toNat) (IntKind.i64.wrap (e_35+1)))
 else
 none
 else
 none
 else
 none
 else
 some false
 else
 some true:=by kernel_rfl
theorem ae.f_eq (bar:aU)(k:Nat)(a0:List UInt8):ae.f bar (k+1) a0=
 bif (!(decide (((a0).length:Int)>65536))) then
 (ap.f bar k a0 0 4).bind fun r_1=>
 bif (r_1 != ((a0).length:Int)) then
 some (0,([]:List (List UInt8)),700)
 else
 (rd a0 0).bind fun b_2=>
 bif ((b_2.toNat:Int)==110) then
 some ((-1),([]:List (List UInt8)),0)
 else
 bif ((b_2.toNat:Int)==105) then
 bif decide (0≤IntKind.i64.wrap (((a0).length:Int) - 1))&&decide (IntKind.i64.wrap (((a0).length:Int) - 1)≤(((a0).length:Nat):Int)) then
 bif decide (0≤1)&&decide (1≤(((IntKind.i64.wrap (((a0).length:Int) - 1)).toNat:Nat):Int)) then
 some (0,([List.drop 1 (List.take ((IntKind.i64.wrap (((a0).length:Int) - 1)).toNat) a0)]:List (List UInt8)),0)
 else
 none
 else
 none
 else
 bif ((b_2.toNat:Int)==116) then
 bif ((b_2.toNat:Int)==116) then
 some (1,([a0]:List (List UInt8)),0)
 else
 bif ((b_2.toNat:Int)==115) then
 (aC.f bar k a0 0 58).bind fun r_3=>
 bif decide (0≤IntKind.i64.wrap (r_3+1))&&decide (IntKind.i64.wrap (r_3+1)≤(((a0).length:Nat):Int)) then
 some (2,([List.drop ((IntKind.i64.wrap (r_3+1)).toNat) (List.take ((a0).length) a0)]:List (List UInt8)),0)
 else
 none
 else
 bar _ (ae.j13 bar k a0)
 else
 bif ((b_2.toNat:Int)==102) then
 some (1,([a0]:List (List UInt8)),0)
 else
 bif ((b_2.toNat:Int)==115) then
 (aC.f bar k a0 0 58).bind fun r_4=>
 bif decide (0≤IntKind.i64.wrap (r_4+1))&&decide (IntKind.i64.wrap (r_4+1)≤(((a0).length:Nat):Int)) then
 some (2,([List.drop ((IntKind.i64.wrap (r_4+1)).toNat) (List.take ((a0).length) a0)]:List (List UInt8)),0)
 else
 none
 else
 bar _ (ae.j13 bar k a0)
 else
 some (0,([]:List (List UInt8)),700):=by kernel_rfl
theorem ae.j13_eq (bar:aU)(k:Nat)(v0:List UInt8):ae.j13 bar k v0=
 ae.l1 bar k k v0 1 ([]:List (List UInt8)):=by kernel_rfl
theorem ae.l1_eq (bar:aU)(k:Nat)(n:Nat)(v0:List UInt8)(at_6:Int)(x2005:List (List UInt8)):ae.l1 bar k (n+1) v0 at_6 x2005=
 bif decide (at_6<(IntKind.i64.wrap (((v0).length:Int) - 1))) then
 (ap.f bar k v0 at_6 4).bind fun r_1=>
 bif decide (0≤r_1)&&decide (r_1≤(((v0).length:Nat):Int)) then
 bif decide (0≤at_6)&&decide (at_6≤(((r_1).toNat:Nat):Int)) then
 bif decide (((x2005).length+(([List.drop ((at_6).toNat) (List.take ((r_1).toNat) v0)]:List (List UInt8))).length)*16≤140737488355328) then
 ae.l1 bar k n v0 r_1 (x2005++([List.drop ((at_6).toNat) (List.take ((r_1).toNat) v0)]:List (List UInt8)))
 else
 none
 else
 none
 else
 none
 else
 (rd v0 0).bind fun b_2=>
 bif ((b_2.toNat:Int)==91) then
 some (3,x2005,0)
 else
 some (4,x2005,0):=by kernel_rfl
theorem cI.f_eq (bar:aU)(k:Nat)(a0:List aI)(a1:Int):cI.f bar (k+1) a0 a1=
 (bP.f bar k a0 a1).bind fun r_1=>
 bif (!r_1) then
 some (([]:List Int),500)
 else
 (aR.f bar k a0 a1).bind fun r_2=>
 some (r_2,0):=by kernel_rfl
theorem cE.f_eq (bar:aU)(k:Nat)(a0:Int):cE.f bar (k+1) a0=
 bif (a0 != 3) then
 some (a0 != 4)
 else
 some false:=by kernel_rfl
theorem aQ.f_eq (bar:aU)(k:Nat)(a0:List (List UInt8)):aQ.f bar (k+1) a0=
 aQ.l0 bar k k a0 true 0 ([]:List Bool):=by kernel_rfl
theorem aQ.l0_eq (bar:aU)(k:Nat)(n:Nat)(vs0:List (List UInt8))(all4:Bool)(i5:Int)(x2003:List Bool):aQ.l0 bar k (n+1) vs0 all4 i5 x2003=
 bif decide (i5<((vs0).length:Int)) then
 (rd vs0 i5).bind fun e_1=>
 bif decide (((x2003).length+(([(e_1 != ([110]:List UInt8))]:List Bool)).length)*1≤140737488355328) then
 bif all4 then
 (rd vs0 i5).bind fun e_2=>
 aQ.l0 bar k n vs0 (e_2 != ([110]:List UInt8)) (IntKind.i64.wrap (i5+1)) (x2003++([(e_1 != ([110]:List UInt8))]:List Bool))
 else
 aQ.l0 bar k n vs0 false (IntKind.i64.wrap (i5+1)) (x2003++([(e_1 != ([110]:List UInt8))]:List Bool))
 else
 none
 else
 bif all4 then
 some ([]:List UInt8)
 else
 (aF.f bar k x2003).bind fun r_3=>
 some r_3:=by kernel_rfl
theorem am.f_eq (bar:aU)(k:Nat)(a0:List UInt8):am.f bar (k+1) a0=
 am.l0 bar k k a0 0 0:=by kernel_rfl
theorem am.l0_eq (bar:aU)(k:Nat)(n:Nat)(s0:List UInt8)(x4:Int)(i5:Int):am.l0 bar k (n+1) s0 x4 i5=
 bif decide (i5<((s0).length:Int)) then
 bif decide (((s0).length:Int)<21) then
 (rd s0 i5).bind fun b_1=>
 bif ((b_1.toNat:Int)==45) then
 bif (i5==0) then
 am.l0 bar k n s0 x4 (IntKind.i64.wrap (i5+1))
 else
 (rd s0 i5).bind fun b_2=>
 bif (!(decide ((b_2.toNat:Int)<48))) then
 (rd s0 i5).bind fun b_3=>
 bif decide ((b_3.toNat:Int)>57) then
 some (0,false)
 else
 (rd s0 0).bind fun b_4=>
 bif ((b_4.toNat:Int)==45) then
 (rd s0 i5).bind fun b_5=>
 am.l0 bar k n s0 (IntKind.i64.wrap ((IntKind.i64.wrap (10*x4)) - (IntKind.i64.wrap (IntKind.u8.wrap ((b_5.toNat:Int) - 48))))) (IntKind.i64.wrap (i5+1))
 else
 (rd s0 i5).bind fun b_6=>
 am.l0 bar k n s0 (IntKind.i64.wrap ((IntKind.i64.wrap (10*x4))+(IntKind.i64.wrap (IntKind.u8.wrap ((b_6.toNat:Int) - 48))))) (IntKind.i64.wrap (i5+1))
 else
 some (0,false)
 else
 (rd s0 i5).bind fun b_7=>
 bif (!(decide ((b_7.toNat:Int)<48))) then
 (rd s0 i5).bind fun b_8=>
 bif decide ((b_8.toNat:Int)>57) then
 some (0,false)
 else
 (rd s0 0).bind fun b_9=>
 bif ((b_9.toNat:Int)==45) then
 (rd s0 i5).bind fun b_10=>
 am.l0 bar k n s0 (IntKind.i64.wrap ((IntKind.i64.wrap (10*x4)) - (IntKind.i64.wrap (IntKind.u8.wrap ((b_10.toNat:Int) - 48))))) (IntKind.i64.wrap (i5+1))
 else
 (rd s0 i5).bind fun b_11=>
 am.l0 bar k n s0 (IntKind.i64.wrap ((IntKind.i64.wrap (10*x4))+(IntKind.i64.wrap (IntKind.u8.wrap ((b_11.toNat:Int) - 48))))) (IntKind.i64.wrap (i5+1))
 else
 some (0,false)
 else
 (aH.f bar k x4).bind fun r_12=>
 some (x4,(r_12==s0))
 else
 (aH.f bar k x4).bind fun r_13=>
 some (x4,(r_13==s0)):=by kernel_rfl
end Go.Proofs.YtjkokaockhecnaaGreatDoorA
