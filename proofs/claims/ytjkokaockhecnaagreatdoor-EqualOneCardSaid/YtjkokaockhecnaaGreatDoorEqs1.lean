/- Each function and each loop of the program answers as its equation says; no condition. -/
import Derived.Test.YtjkokaockhecnaaGreatDoorFns
namespace Go.Proofs.YtjkokaockhecnaaGreatDoorA
open Go
set_option linter.unusedVariables false
theorem a6.f_eq (bar:aU)(k:Nat)(a0:List (List UInt8)):a6.f bar (k+1) a0=
 a6.l0 bar k k a0 ([]:List UInt8) 0:=by kernel_rfl
theorem a6.l0_eq (bar:aU)(k:Nat)(n:Nat)(vs0:List (List UInt8))(s3:List UInt8)(i4:Int):a6.l0 bar k (n+1) vs0 s3 i4=
 bif decide (i4<((vs0).length:Int)) then
 (rd vs0 i4).bind fun e_1=>
 bif decide ((s3).length+(e_1).length≤9223372036854775807) then
 a6.l0 bar k n vs0 (s3++e_1) (IntKind.i64.wrap (i4+1))
 else
 none
 else
 some s3:=by kernel_rfl
theorem aS.f_eq (bar:aU)(k:Nat)(a0:List aI)(a1:Int):aS.f bar (k+1) a0 a1=
 (rd a0 a1).bind fun e_1=>
 bif e_1.null then
 some ([110]:List UInt8)
 else
 (rd a0 a1).bind fun e_2=>
 bif (e_2.kind==0) then
 some ([105,48,59]:List UInt8)
 else
 bif (e_2.kind==1) then
 some ([102]:List UInt8)
 else
 bif (e_2.kind==2) then
 some ([115,48,58]:List UInt8)
 else
 bif (e_2.kind==3) then
 some ([91,93]:List UInt8)
 else
 (cI.f bar k a0 a1).bind fun r_3=>
 aS.l1 bar k k 0 a0 r_3.1 ([]:List (List UInt8)):=by kernel_rfl
theorem aS.l1_eq (bar:aU)(k:Nat)(n:Nat)(i8:Int)(t2:List aI)(x2005:List Int)(x2007:List (List UInt8)):aS.l1 bar k (n+1) i8 t2 x2005 x2007=
 bif decide (i8<((x2005).length:Int)) then
 bif decide (0≤i8)&&decide (i8<((x2005).length:Int)) then
 (x2005[(i8).toNat]?).bind fun e_1=>
 (aS.f bar k t2 e_1).bind fun r_2=>
 bif decide (((x2007).length+(([r_2]:List (List UInt8))).length)*16≤140737488355328) then
 aS.l1 bar k n (IntKind.i64.wrap (i8+1)) t2 x2005 (x2007++([r_2]:List (List UInt8)))
 else
 none
 else
 none
 else
 (dn.f bar k x2007).bind fun r_3=>
 some r_3:=by kernel_rfl
theorem aF.f_eq (bar:aU)(k:Nat)(a0:List Bool):aF.f bar (k+1) a0=
 (cK.f bar k ((a0).length:Int)).bind fun r_1=>
 bif (r_1==r_1)&&(decide (0≤r_1)&&decide (r_1*1≤140737488355328)) then
 aF.l0 bar k k a0 0 (List.replicate (r_1).toNat (0:Int):List Int)
 else
 none:=by kernel_rfl
theorem aF.l0_eq (bar:aU)(k:Nat)(n:Nat)(xs0:List Bool)(i4:Int)(x2003:List Int):aF.l0 bar k (n+1) xs0 i4 x2003=
 bif decide (i4<((xs0).length:Int)) then
 (rd xs0 i4).bind fun e_1=>
 bif e_1 then
 bif decide (0≤IntKind.i64.wrap (Int.tdiv i4 8))&&decide (IntKind.i64.wrap (Int.tdiv i4 8)<((x2003).length:Int)) then
 (x2003[(IntKind.i64.wrap (Int.tdiv i4 8)).toNat]?).bind fun e_2=>
 bif decide (Int.tmod i4 8<0) then
 none
 else
 bif decide (0≤IntKind.i64.wrap (Int.tdiv i4 8))&&decide (IntKind.i64.wrap (Int.tdiv i4 8)<((x2003).length:Int)) then
 (x2003[(IntKind.i64.wrap (Int.tdiv i4 8)).toNat]?).bind fun e_3=>
 aF.l0 bar k n xs0 (IntKind.i64.wrap (i4+1)) ((x2003).set ((IntKind.i64.wrap (Int.tdiv i4 8)).toNat) (cM .or .u8 e_2 (IntKind.u8.wrap (1*2 ^ (min (Int.tmod i4 8).toNat IntKind.u8.bits)))))
 else
 none
 else
 none
 else
 aF.l0 bar k n xs0 (IntKind.i64.wrap (i4+1)) x2003
 else
 some (aD x2003):=by kernel_rfl
theorem dD.f_eq (bar:aU)(k:Nat)(a0:List aI)(a1:Int)(a2:aO):dD.f bar (k+1) a0 a1 a2=
 (f6.f bar k a0 a1).bind fun r_1=>
 bif (!(!r_1)) then
 (rd a0 a1).bind fun e_2=>
 (eQ.f bar k e_2 a2).bind fun r_3=>
 bif (!r_3) then
 some false
 else
 bif (a2.layout==0) then
 (bU.f bar k a0 a1 a2).bind fun r_4=>
 some r_4
 else
 bif (a2.layout==1) then
 (ce.f bar k a0 a1 a2).bind fun r_5=>
 some r_5
 else
 bif (a2.layout==2) then
 (cR.f bar k a0 a1 a2).bind fun r_6=>
 some r_6
 else
 some false
 else
 some false:=by kernel_rfl
theorem bh.f_eq (bar:aU)(k:Nat)(a0:List aI)(a1:Int)(a2:aO)(a3:Int):bh.f bar (k+1) a0 a1 a2 a3=
 (cp.f bar k a0 a1 a2 (IntKind.i64.wrap (a2.offset+a3))).bind fun r_1=>
 some r_1:=by kernel_rfl
theorem cK.f_eq (bar:aU)(k:Nat)(a0:Int):cK.f bar (k+1) a0=
 some (IntKind.i64.wrap (Int.tdiv (IntKind.i64.wrap (a0+7)) 8)):=by kernel_rfl
theorem aZ.f_eq (bar:aU)(k:Nat)(a0:Int)(a1:Int)(a2:Int):aZ.f bar (k+1) a0 a1 a2=
 bif decide (a0≥a1) then
 some (decide (a0≤a2))
 else
 some false:=by kernel_rfl
theorem aR.f_eq (bar:aU)(k:Nat)(a0:List aI)(a1:Int):aR.f bar (k+1) a0 a1=
 aR.l0 bar k k a1 1 a0 ([]:List Int):=by kernel_rfl
theorem aR.l0_eq (bar:aU)(k:Nat)(n:Nat)(at_1:Int)(i6:Int)(t2:List aI)(x2005:List Int):aR.l0 bar k (n+1) at_1 i6 t2 x2005=
 bif decide (i6<((t2).length:Int)) then
 (rd t2 i6).bind fun e_1=>
 bif (e_1.parent==at_1) then
 bif decide (((x2005).length+(([i6]:List Int)).length)*8≤140737488355328) then
 aR.l0 bar k n at_1 (IntKind.i64.wrap (i6+1)) t2 (x2005++([i6]:List Int))
 else
 none
 else
 aR.l0 bar k n at_1 (IntKind.i64.wrap (i6+1)) t2 x2005
 else
 some x2005:=by kernel_rfl
theorem ap.f_eq (bar:aU)(k:Nat)(a0:List UInt8)(a1:Int)(a2:Int):ap.f bar (k+1) a0 a1 a2=
 bif decide (a1≥((a0).length:Int)) then
 some (-1)
 else
 (rd a0 a1).bind fun b_1=>
 bif ((b_1.toNat:Int)==110) then
 bif ((b_1.toNat:Int)==110) then
 some (IntKind.i64.wrap (a1+1))
 else
 bif ((b_1.toNat:Int)==105) then
 (aC.f bar k a0 a1 59).bind fun r_2=>
 bif decide (r_2<0) then
 some (-1)
 else
 bif decide (0≤r_2)&&decide (r_2≤(((a0).length:Nat):Int)) then
 bif decide (0≤IntKind.i64.wrap (a1+1))&&decide (IntKind.i64.wrap (a1+1)≤(((r_2).toNat:Nat):Int)) then
 (am.f bar k (List.drop ((IntKind.i64.wrap (a1+1)).toNat) (List.take ((r_2).toNat) a0))).bind fun r_3=>
 bif (!r_3.2) then
 some (-1)
 else
 some (IntKind.i64.wrap (r_2+1))
 else
 none
 else
 none
 else
 bif ((b_1.toNat:Int)==115) then
 (aC.f bar k a0 a1 58).bind fun r_4=>
 bif decide (r_4<0) then
 some (-1)
 else
 bif decide (0≤r_4)&&decide (r_4≤(((a0).length:Nat):Int)) then
 bif decide (0≤IntKind.i64.wrap (a1+1))&&decide (IntKind.i64.wrap (a1+1)≤(((r_4).toNat:Nat):Int)) then
 (am.f bar k (List.drop ((IntKind.i64.wrap (a1+1)).toNat) (List.take ((r_4).toNat) a0))).bind fun r_5=>
 bif (!(!r_5.2)) then
 bif (!(decide (r_5.1<0))) then
 bif decide (r_5.1>(IntKind.i64.wrap ((IntKind.i64.wrap (((a0).length:Int) - r_4)) - 1))) then
 some (-1)
 else
 some (IntKind.i64.wrap ((IntKind.i64.wrap (r_4+1))+r_5.1))
 else
 some (-1)
 else
 some (-1)
 else
 none
 else
 none
 else
 bif ((b_1.toNat:Int)==91) then
 bif ((b_1.toNat:Int)==91) then
 (rd a0 a1).bind fun b_6=>
 ap.l1 bar k k a0 (IntKind.i64.wrap (a1+1)) a2 (IntKind.u8.wrap ((b_6.toNat:Int)+2))
 else
 some (-1)
 else
 bif ((b_1.toNat:Int)==123) then
 (rd a0 a1).bind fun b_7=>
 ap.l1 bar k k a0 (IntKind.i64.wrap (a1+1)) a2 (IntKind.u8.wrap ((b_7.toNat:Int)+2))
 else
 some (-1)
 else
 bif ((b_1.toNat:Int)==116) then
 bif ((b_1.toNat:Int)==116) then
 some (IntKind.i64.wrap (a1+1))
 else
 bif ((b_1.toNat:Int)==105) then
 (aC.f bar k a0 a1 59).bind fun r_8=>
 bif decide (r_8<0) then
 some (-1)
 else
 bif decide (0≤r_8)&&decide (r_8≤(((a0).length:Nat):Int)) then
 bif decide (0≤IntKind.i64.wrap (a1+1))&&decide (IntKind.i64.wrap (a1+1)≤(((r_8).toNat:Nat):Int)) then
 (am.f bar k (List.drop ((IntKind.i64.wrap (a1+1)).toNat) (List.take ((r_8).toNat) a0))).bind fun r_9=>
 bif (!r_9.2) then
 some (-1)
 else
 some (IntKind.i64.wrap (r_8+1))
 else
 none
 else
 none
 else
 bif ((b_1.toNat:Int)==115) then
 (aC.f bar k a0 a1 58).bind fun r_10=>
 bif decide (r_10<0) then
 some (-1)
 else
 bif decide (0≤r_10)&&decide (r_10≤(((a0).length:Nat):Int)) then
 bif decide (0≤IntKind.i64.wrap (a1+1))&&decide (IntKind.i64.wrap (a1+1)≤(((r_10).toNat:Nat):Int)) then
 (am.f bar k (List.drop ((IntKind.i64.wrap (a1+1)).toNat) (List.take ((r_10).toNat) a0))).bind fun r_11=>
 bif (!(!r_11.2)) then
 bif (!(decide (r_11.1<0))) then
 bif decide (r_11.1>(IntKind.i64.wrap ((IntKind.i64.wrap (((a0).length:Int) - r_10)) - 1))) then
 some (-1)
 else
 some (IntKind.i64.wrap ((IntKind.i64.wrap (r_10+1))+r_11.1))
 else
 some (-1)
 else
 some (-1)
 else
 none
 else
 none
 else
 bif ((b_1.toNat:Int)==91) then
 bif ((b_1.toNat:Int)==91) then
 (rd a0 a1).bind fun b_12=>
 ap.l1 bar k k a0 (IntKind.i64.wrap (a1+1)) a2 (IntKind.u8.wrap ((b_12.toNat:Int)+2))
 else
 some (-1)
 else
 bif ((b_1.toNat:Int)==123) then
 (rd a0 a1).bind fun b_13=>
 ap.l1 bar k k a0 (IntKind.i64.wrap (a1+1)) a2 (IntKind.u8.wrap ((b_13.toNat:Int)+2))
 else
 some (-1)
 else
 bif ((b_1.toNat:Int)==102) then
 some (IntKind.i64.wrap (a1+1))
 else
 bif ((b_1.toNat:Int)==105) then
 (aC.f bar k a0 a1 59).bind fun r_14=>
 bif decide (r_14<0) then
 some (-1)
 else
 bif decide (0≤r_14)&&decide (r_14≤(((a0).length:Nat):Int)) then
 bif decide (0≤IntKind.i64.wrap (a1+1))&&decide (IntKind.i64.wrap (a1+1)≤(((r_14).toNat:Nat):Int)) then
 (am.f bar k (List.drop ((IntKind.i64.wrap (a1+1)).toNat) (List.take ((r_14).toNat) a0))).bind fun r_15=>
 bif (!r_15.2) then
 some (-1)
 else
 some (IntKind.i64.wrap (r_14+1))
 else
 none
 else
 none
 else
 bif ((b_1.toNat:Int)==115) then
 (aC.f bar k a0 a1 58).bind fun r_16=>
 bif decide (r_16<0) then
 some (-1)
 else
 bif decide (0≤r_16)&&decide (r_16≤(((a0).length:Nat):Int)) then
 bif decide (0≤IntKind.i64.wrap (a1+1))&&decide (IntKind.i64.wrap (a1+1)≤(((r_16).toNat:Nat):Int)) then
 (am.f bar k (List.drop ((IntKind.i64.wrap (a1+1)).toNat) (List.take ((r_16).toNat) a0))).bind fun r_17=>
 bif (!(!r_17.2)) then
 bif (!(decide (r_17.1<0))) then
 bif decide (r_17.1>(IntKind.i64.wrap ((IntKind.i64.wrap (((a0).length:Int) - r_16)) - 1))) then
 some (-1)
 else
 some (IntKind.i64.wrap ((IntKind.i64.wrap (r_16+1))+r_17.1))
 else
 some (-1)
 else
 some (-1)
 else
 none
 else
 none
 else
 bif ((b_1.toNat:Int)==91) then
 bif ((b_1.toNat:Int)==91) then
 (rd a0 a1).bind fun b_18=>
 ap.l1 bar k k a0 (IntKind.i64.wrap (a1+1)) a2 (IntKind.u8.wrap ((b_18.toNat:Int)+2))
 else
 some (-1)
 else
 bif ((b_1.toNat:Int)==123) then
 (rd a0 a1).bind fun b_19=>
 ap.l1 bar k k a0 (IntKind.i64.wrap (a1+1)) a2 (IntKind.u8.wrap ((b_19.toNat:Int)+2))
 else
 some (-1):=by kernel_rfl
theorem ap.l1_eq (bar:aU)(k:Nat)(n:Nat)(s0:List UInt8)(at_1:Int)(deep2:Int)(stop13:Int):ap.l1 bar k (n+1) s0 at_1 deep2 stop13=
 bif decide (deep2>0) then
 bif decide (at_1<((s0).length:Int)) then
 (rd s0 at_1).bind fun b_1=>
 bif ((b_1.toNat:Int) != stop13) then
 (ap.f bar k s0 at_1 (IntKind.i64.wrap (deep2 - 1))).bind fun r_2=>
 bif decide (r_2<0) then
 some (-1)
 else
 ap.l1 bar k n s0 r_2 deep2 stop13
 else
 bif decide (at_1<((s0).length:Int)) then
 (rd s0 at_1).bind fun b_3=>
 bif ((b_3.toNat:Int)==stop13) then
 some (IntKind.i64.wrap (at_1+1))
 else
 some (-1)
 else
 some (-1)
 else
 bif decide (at_1<((s0).length:Int)) then
 (rd s0 at_1).bind fun b_4=>
 bif ((b_4.toNat:Int)==stop13) then
 some (IntKind.i64.wrap (at_1+1))
 else
 some (-1)
 else
 some (-1)
 else
 bif decide (at_1<((s0).length:Int)) then
 (rd s0 at_1).bind fun b_5=>
 bif ((b_5.toNat:Int)==stop13) then
 some (IntKind.i64.wrap (at_1+1))
 else
 some (-1)
 else
 some (-1):=by kernel_rfl
theorem aC.f_eq (bar:aU)(k:Nat)(a0:List UInt8)(a1:Int)(a2:Int):aC.f bar (k+1) a0 a1 a2=
 aC.l0 bar k k a0 a1 a2 a1:=by kernel_rfl
theorem aC.l0_eq (bar:aU)(k:Nat)(n:Nat)(s0:List UInt8)(at_1:Int)(sign2:Int)(i7:Int):aC.l0 bar k (n+1) s0 at_1 sign2 i7=
 bif decide (i7<((s0).length:Int)) then
 bif decide (i7<(IntKind.i64.wrap (at_1+22))) then
 (rd s0 i7).bind fun b_1=>
 bif ((b_1.toNat:Int)==sign2) then
 some i7
 else
 aC.l0 bar k n s0 at_1 sign2 (IntKind.i64.wrap (i7+1))
 else
 some (-1)
 else
 some (-1):=by kernel_rfl
theorem dn.f_eq (bar:aU)(k:Nat)(a0:List (List UInt8)):dn.f bar (k+1) a0=
 (a6.f bar k a0).bind fun r_1=>
 bif decide ((([123]:List UInt8)).length+(r_1).length≤9223372036854775807) then
 bif decide ((([123]:List UInt8)++r_1).length+(([125]:List UInt8)).length≤9223372036854775807) then
 some ((([123]:List UInt8)++r_1)++([125]:List UInt8))
 else
 none
 else
 none:=by kernel_rfl
theorem f6.f_eq (bar:aU)(k:Nat)(a0:List aI)(a1:Int):f6.f bar (k+1) a0 a1=
 (a7.f bar k a0).bind fun r_1=>
 bif r_1 then
 bif decide (a1≥0) then
 some (decide (a1<((a0).length:Int)))
 else
 some false
 else
 some false:=by kernel_rfl
theorem eQ.f_eq (bar:aU)(k:Nat)(a0:aI)(a1:aO):eQ.f bar (k+1) a0 a1=
 bif (!(decide (a1.offset<0))) then
 bif (!(decide (a1.length<0))) then
 bif (!(decide (a1.offset>64))) then
 bif decide (a1.length>(IntKind.i64.wrap (64 - a1.offset))) then
 some false
 else
 bif decide ((bif decide (((a1.data).length:Int)>(bif decide (((a1.ends).length:Int)>((a1.valid).length:Int)) then ((a1.ends).length:Int) else ((a1.valid).length:Int))) then ((a1.data).length:Int) else (bif decide (((a1.ends).length:Int)>((a1.valid).length:Int)) then ((a1.ends).length:Int) else ((a1.valid).length:Int)))>4096) then
 some false
 else
 bif (!(a1.valid==([]:List UInt8))) then
 bif a0.null then
 (gd.f bar k (IntKind.i64.wrap (a1.offset+a1.length))).bind fun r_1=>
 some (decide (((a1.valid).length:Int)≥r_1))
 else
 some false
 else
 some true
 else
 some false
 else
 some false
 else
 some false:=by kernel_rfl
theorem bU.f_eq (bar:aU)(k:Nat)(a0:List aI)(a1:Int)(a2:aO):bU.f bar (k+1) a0 a1 a2=
 (gb.f bar k a0 a1).bind fun r_1=>
 bif (((a2.kids).length:Int) != ((r_1.1).length:Int)) then
 some false
 else
 bU.l0 bar k k a0 a1 a2.layout a2.offset a2.length a2.valid a2.ends a2.data a2.kids ((r_1.1).length:Int) 0 (IntKind.i64.wrap (a2.offset+a2.length)) r_1.1:=by kernel_rfl
theorem bU.l0_eq (bar:aU)(k:Nat)(n:Nat)(t0:List aI)(at_1:Int)(a2:Int)(a2_1:Int)(a2_2:Int)(a2_3:List UInt8)(a2_4:List UInt8)(a2_5:List UInt8)(a2_6:List aO)(x39:Int)(x40:Int)(rows7:Int)(x2038:List Int):bU.l0 bar k (n+1) t0 at_1 a2 a2_1 a2_2 a2_3 a2_4 a2_5 a2_6 x39 x40 rows7 x2038=
 bif decide (x40<x39) then
 bif decide (0≤x40)&&decide (x40<((x2038).length:Int)) then
 (x2038[(x40).toNat]?).bind fun e_1=>
 (rd a2_6 x40).bind fun e_2=>
 (dD.f bar k t0 e_1 e_2).bind fun r_3=>
 bif (!r_3) then
 some false
 else
 bU.l0 bar k n t0 at_1 a2 a2_1 a2_2 a2_3 a2_4 a2_5 a2_6 x39 (IntKind.i64.wrap (x40+1)) rows7 x2038
 else
 none
 else
 (rd t0 at_1).bind fun e_4=>
 bif (e_4.kind==0) then
 bif (a2_4==([]:List UInt8)) then
 some (decide (((a2_5).length:Int)≥(IntKind.i64.wrap (8*rows7))))
 else
 some false
 else
 bif (e_4.kind==1) then
 bif (a2_4==([]:List UInt8)) then
 (gd.f bar k rows7).bind fun r_5=>
 some (decide (((a2_5).length:Int)≥r_5))
 else
 some false
 else
 bif (e_4.kind==2) then
 (bc.f bar k a2_4 rows7 ((a2_5).length:Int) a2_1 16).bind fun r_6=>
 some r_6
 else
 bif (e_4.kind==3) then
 bif (a2_5==([]:List UInt8)) then
 (rd a2_6 0).bind fun e_7=>
 (bc.f bar k a2_4 rows7 e_7.length 0 64).bind fun r_8=>
 some r_8
 else
 some false
 else
 bif (a2_4==([]:List UInt8)) then
 bif (a2_5==([]:List UInt8)) then
 (aA.f bar k a2_6 rows7).bind fun r_9=>
 some (!r_9)
 else
 some false
 else
 some false:=by kernel_rfl
theorem ce.f_eq (bar:aU)(k:Nat)(a0:List aI)(a1:Int)(a2:aO):ce.f bar (k+1) a0 a1 a2=
 (gV.f bar k a0 a1 a2).bind fun r_1=>
 bif (!(!r_1.2)) then
 (r_1.1).bind fun p_2=>
 bif (!(p_2.valid != ([]:List UInt8))) then
 bif decide (((a2.data).length:Int)<(IntKind.i64.wrap (4*(IntKind.i64.wrap (a2.offset+a2.length))))) then
 some false
 else
 ce.l0 bar k k a2.layout a2.offset a2.length a2.valid a2.ends a2.data a2.kids r_1.1 a2.offset
 else
 some false
 else
 some false:=by kernel_rfl
theorem ce.l0_eq (bar:aU)(k:Nat)(n:Nat)(a2:Int)(a2_1:Int)(a2_2:Int)(a2_3:List UInt8)(a2_4:List UInt8)(a2_5:List UInt8)(a2_6:List aO)(kid7:Option aO)(row9:Int):ce.l0 bar k (n+1) a2 a2_1 a2_2 a2_3 a2_4 a2_5 a2_6 kid7 row9=
 bif decide (row9<(IntKind.i64.wrap (a2_1+a2_2))) then
 (bN.f bar k a2_5 row9).bind fun r_1=>
 (fc.f bar k (aO.mk a2 a2_1 a2_2 a2_3 a2_4 a2_5 a2_6) row9).bind fun r_2=>
 bif r_2 then
 bif (!(!r_1.2)) then
 (kid7).bind fun p_3=>
 bif decide (r_1.1≥p_3.length) then
 some false
 else
 ce.l0 bar k n a2 a2_1 a2_2 a2_3 a2_4 a2_5 a2_6 kid7 (IntKind.i64.wrap (row9+1))
 else
 some false
 else
 ce.l0 bar k n a2 a2_1 a2_2 a2_3 a2_4 a2_5 a2_6 kid7 (IntKind.i64.wrap (row9+1))
 else
 some true:=by kernel_rfl
theorem cR.f_eq (bar:aU)(k:Nat)(a0:List aI)(a1:Int)(a2:aO):cR.f bar (k+1) a0 a1 a2=
 (gV.f bar k a0 a1 a2).bind fun r_1=>
 bif (!(!r_1.2)) then
 bif (!(a2.valid != ([]:List UInt8))) then
 (r_1.1).bind fun p_2=>
 bif (((a2.data).length:Int) != (IntKind.i64.wrap (4*p_2.length))) then
 some false
 else
 (r_1.1).bind fun p_3=>
 cR.l0 bar k k a2.layout a2.offset a2.length a2.valid a2.ends a2.data a2.kids 0 p_3.length 0
 else
 some false
 else
 some false:=by kernel_rfl
theorem cR.l0_eq (bar:aU)(k:Nat)(n:Nat)(a2:Int)(a2_1:Int)(a2_2:Int)(a2_3:List UInt8)(a2_4:List UInt8)(a2_5:List UInt8)(a2_6:List aO)(last9:Int)(x45:Int)(x46:Int):cR.l0 bar k (n+1) a2 a2_1 a2_2 a2_3 a2_4 a2_5 a2_6 last9 x45 x46=
 bif decide (x46<x45) then
 (bN.f bar k a2_5 x46).bind fun r_1=>
 bif (!(!r_1.2)) then
 bif decide (r_1.1≤last9) then
 some false
 else
 cR.l0 bar k n a2 a2_1 a2_2 a2_3 a2_4 a2_5 a2_6 r_1.1 x45 (IntKind.i64.wrap (x46+1))
 else
 some false
 else
 some (decide (last9≥(IntKind.i64.wrap (a2_1+a2_2)))):=by kernel_rfl
theorem cp.f_eq (bar:aU)(k:Nat)(a0:List aI)(a1:Int)(a2:aO)(a3:Int):cp.f bar (k+1) a0 a1 a2 a3=
 (fc.f bar k a2 a3).bind fun r_1=>
 bif (!r_1) then
 (hZ.f bar k).bind fun r_2=>
 some r_2
 else
 bif (a2.layout==1) then
 (bN.f bar k a2.data a3).bind fun r_3=>
 (rd a2.kids 0).bind fun e_4=>
 (bh.f bar k a0 a1 e_4 r_3.1).bind fun r_5=>
 some r_5
 else
 bif (a2.layout==2) then
 (rd a2.kids 0).bind fun e_6=>
 (dX.f bar k a2 a3).bind fun r_7=>
 (bh.f bar k a0 a1 e_6 r_7).bind fun r_8=>
 some r_8
 else
 (ay.f bar k a0 a1 a2 a3).bind fun r_9=>
 some r_9:=by kernel_rfl
theorem a7.f_eq (bar:aU)(k:Nat)(a0:List aI):a7.f bar (k+1) a0=
 bif (!(((a0).length:Int)==0)) then
 bif decide (((a0).length:Int)>8) then
 some false
 else
 a7.l0 bar k k a0 ((a0).length:Int) 0
 else
 some false:=by kernel_rfl
theorem a7.l0_eq (bar:aU)(k:Nat)(n:Nat)(x19:List aI)(x20:Int)(x21:Int):a7.l0 bar k (n+1) x19 x20 x21=
 bif decide (x21<x20) then
 (rd x19 x21).bind fun e_1=>
 bif (!(decide (e_1.kind<0))) then
 bif (!(decide (e_1.kind>4))) then
 (fK.f bar k x19 x21).bind fun r_2=>
 bif (!r_2) then
 some false
 else
 a7.l0 bar k n x19 x20 (IntKind.i64.wrap (x21+1))
 else
 some false
 else
 some false
 else
 a7.l2 bar k k x19 ((x19).length:Int) 0:=by kernel_rfl
theorem a7.l2_eq (bar:aU)(k:Nat)(n:Nat)(x41:List aI)(x42:Int)(x43:Int):a7.l2 bar k (n+1) x41 x42 x43=
 bif decide (x43<x42) then
 (rd x41 x43).bind fun e_1=>
 (bE.f bar k x41 x43).bind fun r_2=>
 bif (e_1.kind==3) then
 bif (!(((r_2).length:Int) != 1)) then
 bif (e_1.kind==4) then
 bif (!(((r_2).length:Int)==0)) then
 (cf.f bar k x41 x43).bind fun r_3=>
 bif decide (((r_3).length:Int)>5) then
 some false
 else
 a7.l2 bar k n x41 x42 (IntKind.i64.wrap (x43+1))
 else
 some false
 else
 (cf.f bar k x41 x43).bind fun r_4=>
 bif decide (((r_4).length:Int)>5) then
 some false
 else
 a7.l2 bar k n x41 x42 (IntKind.i64.wrap (x43+1))
 else
 some false
 else
 bif (e_1.kind==4) then
 bif (!(((r_2).length:Int)==0)) then
 (cf.f bar k x41 x43).bind fun r_5=>
 bif decide (((r_5).length:Int)>5) then
 some false
 else
 a7.l2 bar k n x41 x42 (IntKind.i64.wrap (x43+1))
 else
 some false
 else
 (cf.f bar k x41 x43).bind fun r_6=>
 bif decide (((r_6).length:Int)>5) then
 some false
 else
 a7.l2 bar k n x41 x42 (IntKind.i64.wrap (x43+1))
 else
 some true:=by kernel_rfl
theorem gd.f_eq (bar:aU)(k:Nat)(a0:Int):gd.f bar (k+1) a0=
 some (IntKind.i64.wrap (Int.tdiv (IntKind.i64.wrap (a0+7)) 8)):=by kernel_rfl
theorem gb.f_eq (bar:aU)(k:Nat)(a0:List aI)(a1:Int):gb.f bar (k+1) a0 a1=
 (f6.f bar k a0 a1).bind fun r_1=>
 bif (!r_1) then
 some (([]:List Int),500)
 else
 (bE.f bar k a0 a1).bind fun r_2=>
 some (r_2,0):=by kernel_rfl
theorem bc.f_eq (bar:aU)(k:Nat)(a0:List UInt8)(a1:Int)(a2:Int)(a3:Int)(a4:Int):bc.f bar (k+1) a0 a1 a2 a3 a4=
 bc.l0 bar k k a0 a2 a3 a4 0 (IntKind.i64.wrap (a1+1)) 0:=by kernel_rfl
theorem bc.l0_eq (bar:aU)(k:Nat)(n:Nat)(s0:List UInt8)(most2:Int)(from_3:Int)(apart4:Int)(last11:Int)(x16:Int)(x17:Int):bc.l0 bar k (n+1) s0 most2 from_3 apart4 last11 x16 x17=
 bif decide (x17<x16) then
 (bN.f bar k s0 x17).bind fun r_1=>
 bif (!(!r_1.2)) then
 bif (!(decide (r_1.1>most2))) then
 bif decide (x17>0) then
 bif (!(decide (r_1.1<last11))) then
 bif decide (x17>from_3) then
 bif decide ((IntKind.i64.wrap (r_1.1 - last11))>apart4) then
 some false
 else
 bc.l0 bar k n s0 most2 from_3 apart4 r_1.1 x16 (IntKind.i64.wrap (x17+1))
 else
 bc.l0 bar k n s0 most2 from_3 apart4 r_1.1 x16 (IntKind.i64.wrap (x17+1))
 else
 some false
 else
 bc.l0 bar k n s0 most2 from_3 apart4 r_1.1 x16 (IntKind.i64.wrap (x17+1))
 else
 some false
 else
 some false
 else
 some true:=by kernel_rfl
theorem aA.f_eq (bar:aU)(k:Nat)(a0:List aO)(a1_0:Int):aA.f bar (k+1) a0 a1_0=
 (ac.f bar k a0 a1_0).bind fun r_1=>
 some (decide (r_1≥0)):=by kernel_rfl
theorem gV.f_eq (bar:aU)(k:Nat)(a0:List aI)(a1:Int)(a2:aO):gV.f bar (k+1) a0 a1 a2=
 (rd a0 a1).bind fun e_1=>
 (fh.f bar k e_1.kind).bind fun r_2=>
 bif (!r_2) then
 bif (!(a2.ends != ([]:List UInt8))) then
 bif (((a2.kids).length:Int) != 1) then
 some ((none:Option aO),false)
 else
 (rd a2.kids 0).bind fun e_3=>
 bif (e_3.layout==0) then
 (dD.f bar k a0 a1 e_3).bind fun r_4=>
 some (some (aO.mk e_3.layout e_3.offset e_3.length e_3.valid e_3.ends e_3.data e_3.kids),r_4)
 else
 some (some (aO.mk e_3.layout e_3.offset e_3.length e_3.valid e_3.ends e_3.data e_3.kids),false)
 else
 some ((none:Option aO),false)
 else
 some ((none:Option aO),false):=by kernel_rfl
theorem bN.f_eq (bar:aU)(k:Nat)(a0:List UInt8)(a1:Int):bN.f bar (k+1) a0 a1=
 (ny.f bar k a0 (IntKind.i64.wrap (4*a1)) 4).bind fun r_1=>
 some (r_1.1,(r_1.2==0)):=by kernel_rfl
theorem fc.f_eq (bar:aU)(k:Nat)(a0:aO)(a1:Int):fc.f bar (k+1) a0 a1=
 bif (!(a0.valid==([]:List UInt8))) then
 (lS.f bar k a0.valid a1).bind fun r_1=>
 some r_1
 else
 some true:=by kernel_rfl
theorem hZ.f_eq (bar:aU)(k:Nat):hZ.f bar (k+1)=
 some ([110]:List UInt8):=by kernel_rfl
theorem dX.f_eq (bar:aU)(k:Nat)(a0:aO)(a1:Int):dX.f bar (k+1) a0 a1=
 dX.l0 bar k k a0.layout a0.offset a0.length a0.valid a0.ends a0.data a0.kids a1 0:=by kernel_rfl
theorem dX.l0_eq (bar:aU)(k:Nat)(n:Nat)(a0:Int)(a0_1:Int)(a0_2:Int)(a0_3:List UInt8)(a0_4:List UInt8)(a0_5:List UInt8)(a0_6:List aO)(row1:Int)(i5:Int):dX.l0 bar k (n+1) a0 a0_1 a0_2 a0_3 a0_4 a0_5 a0_6 row1 i5=
 (bN.f bar k a0_5 i5).bind fun r_1=>
 bif decide (r_1.1>row1) then
 some i5
 else
 dX.l0 bar k n a0 a0_1 a0_2 a0_3 a0_4 a0_5 a0_6 row1 (IntKind.i64.wrap (i5+1)):=by kernel_rfl
theorem ay.f_eq (bar:aU)(k:Nat)(a0:List aI)(a1:Int)(a2:aO)(a3:Int):ay.f bar (k+1) a0 a1 a2 a3=
 (rd a0 a1).bind fun e_1=>
 bif (e_1.kind==0) then
 bif decide (0≤IntKind.i64.wrap (8*(IntKind.i64.wrap (a3+1))))&&decide (IntKind.i64.wrap (8*(IntKind.i64.wrap (a3+1)))≤(((a2.data).length:Nat):Int)) then
 bif decide (0≤IntKind.i64.wrap (8*a3))&&decide (IntKind.i64.wrap (8*a3)≤(((IntKind.i64.wrap (8*(IntKind.i64.wrap (a3+1)))).toNat:Nat):Int)) then
 (eF.f bar k (List.drop ((IntKind.i64.wrap (8*a3)).toNat) (List.take ((IntKind.i64.wrap (8*(IntKind.i64.wrap (a3+1)))).toNat) a2.data))).bind fun r_2=>
 (js.f bar k r_2).bind fun r_3=>
 some r_3
 else
 none
 else
 none
 else
 bif (e_1.kind==1) then
 (lS.f bar k a2.data a3).bind fun r_4=>
 (io.f bar k r_4).bind fun r_5=>
 some r_5
 else
 (gb.f bar k a0 a1).bind fun r_6=>
 (bN.f bar k a2.ends a3).bind fun r_7=>
 (bN.f bar k a2.ends (IntKind.i64.wrap (a3+1))).bind fun r_8=>
 (rd a0 a1).bind fun e_9=>
 bif (e_9.kind==2) then
 bif decide (0≤r_8.1)&&decide (r_8.1≤(((a2.data).length:Nat):Int)) then
 bif decide (0≤r_7.1)&&decide (r_7.1≤(((r_8.1).toNat:Nat):Int)) then
 (gq.f bar k (List.drop ((r_7.1).toNat) (List.take ((r_8.1).toNat) a2.data))).bind fun r_10=>
 some r_10
 else
 none
 else
 none
 else
 bif (e_9.kind==3) then
 ay.l2 bar k k a2.layout a2.offset a2.length a2.valid a2.ends a2.data a2.kids r_8.1 r_7.1 a0 r_6.1 ([]:List (List UInt8))
 else
 ay.l4 bar k k a2.layout a2.offset a2.length a2.valid a2.ends a2.data a2.kids a3 ((r_6.1).length:Int) 0 a0 ([]:List (List UInt8)) r_6.1:=by kernel_rfl
theorem ay.l2_eq (bar:aU)(k:Nat)(n:Nat)(a2:Int)(a2_1:Int)(a2_2:Int)(a2_3:List UInt8)(a2_4:List UInt8)(a2_5:List UInt8)(a2_6:List aO)(to13:Int)(i16:Int)(r4:List aI)(x2009:List Int)(x2015:List (List UInt8)):ay.l2 bar k (n+1) a2 a2_1 a2_2 a2_3 a2_4 a2_5 a2_6 to13 i16 r4 x2009 x2015=
 bif decide (i16<to13) then
 bif decide (0≤0)&&decide (0<((x2009).length:Int)) then
 (x2009[0]?).bind fun e_1=>
 (rd a2_6 0).bind fun e_2=>
 (bh.f bar k r4 e_1 e_2 i16).bind fun r_3=>
 bif decide (((x2015).length+(([r_3]:List (List UInt8))).length)*16≤140737488355328) then
 ay.l2 bar k n a2 a2_1 a2_2 a2_3 a2_4 a2_5 a2_6 to13 (IntKind.i64.wrap (i16+1)) r4 x2009 (x2015++([r_3]:List (List UInt8)))
 else
 none
 else
 none
 else
 (g8.f bar k x2015).bind fun r_4=>
 some r_4:=by kernel_rfl
theorem ay.l4_eq (bar:aU)(k:Nat)(n:Nat)(a2:Int)(a2_1:Int)(a2_2:Int)(a2_3:List UInt8)(a2_4:List UInt8)(a2_5:List UInt8)(a2_6:List aO)(row3:Int)(x117:Int)(x118:Int)(r4:List aI)(x2015:List (List UInt8))(x2116:List Int):ay.l4 bar k (n+1) a2 a2_1 a2_2 a2_3 a2_4 a2_5 a2_6 row3 x117 x118 r4 x2015 x2116=
 bif decide (x118<x117) then
 bif decide (0≤x118)&&decide (x118<((x2116).length:Int)) then
 (x2116[(x118).toNat]?).bind fun e_1=>
 (rd a2_6 x118).bind fun e_2=>
 (bh.f bar k r4 e_1 e_2 row3).bind fun r_3=>
 bif decide (((x2015).length+(([r_3]:List (List UInt8))).length)*16≤140737488355328) then
 ay.l4 bar k n a2 a2_1 a2_2 a2_3 a2_4 a2_5 a2_6 row3 x117 (IntKind.i64.wrap (x118+1)) r4 (x2015++([r_3]:List (List UInt8))) x2116
 else
 none
 else
 none
 else
 (fQ.f bar k x2015).bind fun r_4=>
 some r_4:=by kernel_rfl
theorem cf.f_eq (bar:aU)(k:Nat)(a0:List aI)(a1:Int):cf.f bar (k+1) a0 a1=
 cf.l0 bar k k a0 a1 ([]:List Int):=by kernel_rfl
theorem cf.l0_eq (bar:aU)(k:Nat)(n:Nat)(t0:List aI)(at_1:Int)(x2005:List Int):cf.l0 bar k (n+1) t0 at_1 x2005=
 bif decide (at_1≥0) then
 bif decide (((x2005).length+(([at_1]:List Int)).length)*8≤140737488355328) then
 (rd t0 at_1).bind fun e_1=>
 cf.l0 bar k n t0 e_1.parent (x2005++([at_1]:List Int))
 else
 none
 else
 some x2005:=by kernel_rfl
theorem bE.f_eq (bar:aU)(k:Nat)(a0:List aI)(a1:Int):bE.f bar (k+1) a0 a1=
 bE.l0 bar k k a1 a0 ((a0).length:Int) 0 ([]:List Int):=by kernel_rfl
theorem bE.l0_eq (bar:aU)(k:Nat)(n:Nat)(at_1:Int)(x11:List aI)(x12:Int)(x13:Int)(x2005:List Int):bE.l0 bar k (n+1) at_1 x11 x12 x13 x2005=
 bif decide (x13<x12) then
 (rd x11 x13).bind fun e_1=>
 bif decide (x13>0) then
 bif (e_1.parent==at_1) then
 bif decide (((x2005).length+(([x13]:List Int)).length)*8≤140737488355328) then
 bE.l0 bar k n at_1 x11 x12 (IntKind.i64.wrap (x13+1)) (x2005++([x13]:List Int))
 else
 none
 else
 bE.l0 bar k n at_1 x11 x12 (IntKind.i64.wrap (x13+1)) x2005
 else
 bE.l0 bar k n at_1 x11 x12 (IntKind.i64.wrap (x13+1)) x2005
 else
 some x2005:=by kernel_rfl
theorem fK.f_eq (bar:aU)(k:Nat)(a0:List aI)(a1:Int):fK.f bar (k+1) a0 a1=
 (rd a0 a1).bind fun e_1=>
 bif (a1==0) then
 some (e_1.parent==(-1))
 else
 bif decide (e_1.parent≥0) then
 bif decide (e_1.parent<a1) then
 (rd a0 e_1.parent).bind fun e_2=>
 (fh.f bar k e_2.kind).bind fun r_3=>
 some r_3
 else
 some false
 else
 some false:=by kernel_rfl
theorem ac.f_eq (bar:aU)(k:Nat)(a0:List aO)(a1_0:Int):ac.f bar (k+1) a0 a1_0=
 ac.l0 bar k k a0 a1_0 ((a0).length:Int) 0:=by kernel_rfl
theorem ac.l0_eq (bar:aU)(k:Nat)(n:Nat)(s0:List aO)(f1:Int)(x7:Int)(x8:Int):ac.l0 bar k (n+1) s0 f1 x7 x8=
 bif decide (x8<x7) then
 (rd s0 x8).bind fun e_1=>
 (eJ.f bar k e_1 f1).bind fun r_2=>
 bif r_2 then
 some x8
 else
 ac.l0 bar k n s0 f1 x7 (IntKind.i64.wrap (x8+1))
 else
 some (-1):=by kernel_rfl
theorem fh.f_eq (bar:aU)(k:Nat)(a0:Int):fh.f bar (k+1) a0=
 bif (!(a0==3)) then
 some (a0==4)
 else
 some true:=by kernel_rfl
theorem ny.f_eq (bar:aU)(k:Nat)(a0:List UInt8)(a1:Int)(a2:Int):ny.f bar (k+1) a0 a1 a2=
 bif (a2 != 4) then
 bif (!(a2 != 8)) then
 bif (!(decide (a1<0))) then
 bif (!(decide (a1>((a0).length:Int)))) then
 bif decide ((IntKind.i64.wrap (((a0).length:Int) - a1))<a2) then
 some (0,300)
 else
 bif decide (0≤IntKind.i64.wrap (a1+a2))&&decide (IntKind.i64.wrap (a1+a2)≤(((a0).length:Nat):Int)) then
 bif decide (0≤a1)&&decide (a1≤(((IntKind.i64.wrap (a1+a2)).toNat:Nat):Int)) then
 (eF.f bar k (List.drop ((a1).toNat) (List.take ((IntKind.i64.wrap (a1+a2)).toNat) a0))).bind fun r_1=>
 bif (a2==4) then
 (j3.f bar k r_1).bind fun r_2=>
 bif (!r_2) then
 some (0,300)
 else
 some (r_1,0)
 else
 some (r_1,0)
 else
 none
 else
 none
 else
 some (0,300)
 else
 some (0,300)
 else
 some (0,300)
 else
 bif (!(decide (a1<0))) then
 bif (!(decide (a1>((a0).length:Int)))) then
 bif decide ((IntKind.i64.wrap (((a0).length:Int) - a1))<a2) then
 some (0,300)
 else
 bif decide (0≤IntKind.i64.wrap (a1+a2))&&decide (IntKind.i64.wrap (a1+a2)≤(((a0).length:Nat):Int)) then
 bif decide (0≤a1)&&decide (a1≤(((IntKind.i64.wrap (a1+a2)).toNat:Nat):Int)) then
 (eF.f bar k (List.drop ((a1).toNat) (List.take ((IntKind.i64.wrap (a1+a2)).toNat) a0))).bind fun r_3=>
 bif (a2==4) then
 (j3.f bar k r_3).bind fun r_4=>
 bif (!r_4) then
 some (0,300)
 else
 some (r_3,0)
 else
 some (r_3,0)
 else
 none
 else
 none
 else
 some (0,300)
 else
 some (0,300):=by kernel_rfl
theorem lS.f_eq (bar:aU)(k:Nat)(a0:List UInt8)(a1:Int):lS.f bar (k+1) a0 a1=
 (rd a0 (IntKind.i64.wrap (Int.tdiv a1 8))).bind fun b_1=>
 bif decide (Int.tmod a1 8<0) then
 none
 else
 some ((cM .and .u8 (Int.fdiv (b_1.toNat:Int) (2 ^ (min (Int.tmod a1 8).toNat IntKind.u8.bits))) 1)==1):=by kernel_rfl
theorem eF.f_eq (bar:aU)(k:Nat)(a0:List UInt8):eF.f bar (k+1) a0=
 eF.l0 bar k k a0 0 ((a0).length:Int) 0:=by kernel_rfl
theorem eF.l0_eq (bar:aU)(k:Nat)(n:Nat)(s0:List UInt8)(out3:Int)(x6:Int)(x7:Int):eF.l0 bar k (n+1) s0 out3 x6 x7=
 bif decide (x7<x6) then
 (rd s0 x7).bind fun b_1=>
 bif decide (IntKind.i64.wrap (8*x7)<0) then
 none
 else
 eF.l0 bar k n s0 (cM .or .u64 out3 (IntKind.u64.wrap ((IntKind.u64.wrap (b_1.toNat:Int))*2 ^ (min (IntKind.i64.wrap (8*x7)).toNat IntKind.u64.bits)))) x6 (IntKind.i64.wrap (x7+1))
 else
 some (IntKind.i64.wrap out3):=by kernel_rfl
theorem js.f_eq (bar:aU)(k:Nat)(a0:Int):js.f bar (k+1) a0=
 (strconv_Itoa.f bar k a0).bind fun r_1=>
 bif decide ((([105]:List UInt8)).length+(r_1).length≤9223372036854775807) then
 bif decide ((([105]:List UInt8)++r_1).length+(([59]:List UInt8)).length≤9223372036854775807) then
 some ((([105]:List UInt8)++r_1)++([59]:List UInt8))
 else
 none
 else
 none:=by kernel_rfl
theorem io.f_eq (bar:aU)(k:Nat)(a0:Bool):io.f bar (k+1) a0=
 bif a0 then
 some ([116]:List UInt8)
 else
 some ([102]:List UInt8):=by kernel_rfl
theorem gq.f_eq (bar:aU)(k:Nat)(a0:List UInt8):gq.f bar (k+1) a0=
 (strconv_Itoa.f bar k ((a0).length:Int)).bind fun r_1=>
 bif decide ((([115]:List UInt8)).length+(r_1).length≤9223372036854775807) then
 bif decide ((([115]:List UInt8)++r_1).length+(([58]:List UInt8)).length≤9223372036854775807) then
 bif decide (((([115]:List UInt8)++r_1)++([58]:List UInt8)).length+(a0).length≤9223372036854775807) then
 some (((([115]:List UInt8)++r_1)++([58]:List UInt8))++a0)
 else
 none
 else
 none
 else
 none:=by kernel_rfl
theorem g8.f_eq (bar:aU)(k:Nat)(a0:List (List UInt8)):g8.f bar (k+1) a0=
 (strings_Join.f bar k a0 ([]:List UInt8)).bind fun r_1=>
 bif decide ((([91]:List UInt8)).length+(r_1).length≤9223372036854775807) then
 bif decide ((([91]:List UInt8)++r_1).length+(([93]:List UInt8)).length≤9223372036854775807) then
 some ((([91]:List UInt8)++r_1)++([93]:List UInt8))
 else
 none
 else
 none:=by kernel_rfl
theorem fQ.f_eq (bar:aU)(k:Nat)(a0:List (List UInt8)):fQ.f bar (k+1) a0=
 (strings_Join.f bar k a0 ([]:List UInt8)).bind fun r_1=>
 bif decide ((([123]:List UInt8)).length+(r_1).length≤9223372036854775807) then
 bif decide ((([123]:List UInt8)++r_1).length+(([125]:List UInt8)).length≤9223372036854775807) then
 some ((([123]:List UInt8)++r_1)++([125]:List UInt8))
 else
 none
 else
 none:=by kernel_rfl
theorem eJ.f_eq (bar:aU)(k:Nat)(a0:aO)(a1:Int):eJ.f bar (k+1) a0 a1=
 some (decide (a0.length<a1)):=by kernel_rfl
theorem j3.f_eq (bar:aU)(k:Nat)(a0:Int):j3.f bar (k+1) a0=
 bif decide (a0≥0) then
 some (decide (a0≤2147483647))
 else
 some false:=by kernel_rfl
theorem strconv_Itoa.f_eq (bar:aU)(k:Nat)(a0:Int):strconv_Itoa.f bar (k+1) a0=
 nf a0:=by kernel_rfl
theorem strings_Join.f_eq (bar:aU)(k:Nat)(a0:List (List UInt8))(a1:List UInt8):strings_Join.f bar (k+1) a0 a1=
 nv a0 a1:=by kernel_rfl
end Go.Proofs.YtjkokaockhecnaaGreatDoorA
