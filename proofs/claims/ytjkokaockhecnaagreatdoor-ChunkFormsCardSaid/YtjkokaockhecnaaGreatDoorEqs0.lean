/- Each function and each loop of the program answers as its equation says; no condition. -/
import Derived.Test.YtjkokaockhecnaaGreatDoorFns
namespace Go.Proofs.YtjkokaockhecnaaGreatDoorA
open Go
set_option linter.unusedVariables false
theorem dt.f_eq (bar:aF)(k:Nat)(a0:Int)(a1:Int):dt.f bar (k+1) a0 a1=
 (dU.f bar k).bind fun r_1=>
 bif (!r_1) then
 some false
 else
 (aA.f bar k ([(aL.mk 3 (-1) false),(aL.mk 0 0 true)]:List aL) 1 (Col.mk ([0,1,0]:List Int) ([2,1,0]:List Int) ([([105,53,59]:List UInt8)]:List (List UInt8)))).bind fun r_2=>
 bif decide (0≤0)&&decide (0<((([0,1,0]:List Int)).length:Int)) then
 (([0,1,0]:List Int)[0]?).bind fun e_3=>
 (aA.f bar k ([(aL.mk 3 (-1) false),(aL.mk 0 0 true)]:List aL) 1 (Col.mk ((([0,1,0]:List Int)).set 0 1) ([2,1,0]:List Int) ([([105,53,59]:List UInt8)]:List (List UInt8)))).bind fun r_4=>
 (aA.f bar k ([(aL.mk 3 (-1) false),(aL.mk 0 0 true)]:List aL) 1 (Col.mk ([]:List Int) ([]:List Int) ([]:List (List UInt8)))).bind fun r_5=>
 bif (!(r_2.2 != 0)) then
 bif (!(r_4.2 != 0)) then
 bif (r_5.2 != 0) then
 some false
 else
 (aK.f bar k ([(aL.mk 3 (-1) false),(aL.mk 0 0 true)]:List aL) 1 (Col.mk ((([0,1,0]:List Int)).set 0 1) ([2,1,0]:List Int) ([([105,53,59]:List UInt8)]:List (List UInt8))) 2).bind fun r_6=>
 bif decide (0≤0)&&decide (0<(((([0,1,0]:List Int)).set 0 1).length:Int)) then
 (((([0,1,0]:List Int)).set 0 1)[0]?).bind fun e_7=>
 (aK.f bar k ([(aL.mk 3 (-1) false),(aL.mk 0 0 true)]:List aL) 1 (Col.mk (((([0,1,0]:List Int)).set 0 1).set 0 0) ([2,1,0]:List Int) ([([105,53,59]:List UInt8)]:List (List UInt8))) (IntKind.i64.wrap (1 - (IntKind.i64.wrap (1+(aH .and .i64 a1 1023)))))).bind fun r_8=>
 (aK.f bar k ([(aL.mk 3 (-1) false),(aL.mk 0 0 true)]:List aL) 0 (Col.mk (((([0,1,0]:List Int)).set 0 1).set 0 0) ([2,1,0]:List Int) ([([105,53,59]:List UInt8)]:List (List UInt8))) 2).bind fun r_9=>
 bif decide (0≤1)&&decide (1≤(((r_2.1).length:Nat):Int)) then
 bif decide (0≤IntKind.i64.wrap (Int.tmod (IntKind.u64.wrap a0) 6))&&decide (IntKind.i64.wrap (Int.tmod (IntKind.u64.wrap a0) 6)<((([([r_4.1]:List (List UInt8)),([r_5.1]:List (List UInt8)),([r_2.1,([]:List UInt8)]:List (List UInt8)),([r_2.1,List.drop 1 (List.take ((r_2.1).length) r_2.1)]:List (List UInt8)),([r_2.1,r_4.1]:List (List UInt8)),([r_5.1,r_2.1]:List (List UInt8))]:List (List (List UInt8)))).length:Int)) then
 (([([r_4.1]:List (List UInt8)),([r_5.1]:List (List UInt8)),([r_2.1,([]:List UInt8)]:List (List UInt8)),([r_2.1,List.drop 1 (List.take ((r_2.1).length) r_2.1)]:List (List UInt8)),([r_2.1,r_4.1]:List (List UInt8)),([r_5.1,r_2.1]:List (List UInt8))]:List (List (List UInt8)))[(IntKind.i64.wrap (Int.tmod (IntKind.u64.wrap a0) 6)).toNat]?).bind fun e_10=>
 (az.f bar k ([(aL.mk 3 (-1) false),(aL.mk 0 0 true)]:List aL) 1 e_10).bind fun r_11=>
 (az.f bar k ([(aL.mk 3 (-1) false),(aL.mk 0 0 true)]:List aL) (IntKind.i64.wrap (1+(IntKind.i64.wrap (1+(aH .and .i64 a1 1023))))) ([]:List (List UInt8))).bind fun r_12=>
 (az.f bar k ([(aL.mk 3 (-1) false),(aL.mk 0 0 true)]:List aL) 0 ([]:List (List UInt8))).bind fun r_13=>
 (az.f bar k ([(aL.mk 3 (-1) false),(aL.mk 0 0 true)]:List aL) 1 ([r_2.1,r_2.1]:List (List UInt8))).bind fun r_14=>
 (bp.f bar k r_6.2).bind fun r_15=>
 bif (r_15==2300) then
 (bp.f bar k r_8.2).bind fun r_16=>
 bif (r_16==2300) then
 (bp.f bar k r_9.2).bind fun r_17=>
 bif (r_17==2300) then
 (bp.f bar k r_11.2).bind fun r_18=>
 bif (r_18==2300) then
 (bp.f bar k r_12.2).bind fun r_19=>
 bif (r_19==2300) then
 (bp.f bar k r_13.2).bind fun r_20=>
 bif (r_20==2300) then
 (bp.f bar k r_14.2).bind fun r_21=>
 bif (r_21==0) then
 some (((r_14.1.1).length:Int)==6)
 else
 some false
 else
 some false
 else
 some false
 else
 some false
 else
 some false
 else
 some false
 else
 some false
 else
 none
 else
 none
 else
 none
 else
 some false
 else
 some false
 else
 none:=by kernel_rfl
theorem bp.f_eq (bar:aF)(k:Nat)(a0:Int):bp.f bar (k+1) a0=
 some a0:=by kernel_rfl
theorem aA.f_eq (bar:aF)(k:Nat)(a0:List aL)(a1:Int)(a2:Col):aA.f bar (k+1) a0 a1 a2=
 (aw.f bar k a0 a1 a2).bind fun r_1=>
 bif (!r_1) then
 some (([]:List UInt8),2200)
 else
 (aC.f bar k a0 a1).bind fun r_2=>
 (eR.f bar k r_2.1).bind fun r_3=>
 (ab.f bar k a2.reps r_3).bind fun r_4=>
 (eR.f bar k r_2.2.1).bind fun r_5=>
 (ab.f bar k a2.defs r_5).bind fun r_6=>
 (aT.f bar k ((a2.reps).length:Int) 4).bind fun r_7=>
 (aT.f bar k ((r_4.1).length:Int) 4).bind fun r_8=>
 bif decide ((r_7).length+(r_8).length≤9223372036854775807) then
 (aT.f bar k ((r_6.1).length:Int) 4).bind fun r_9=>
 bif decide ((r_7++r_8).length+(r_9).length≤9223372036854775807) then
 bif decide (((r_7++r_8)++r_9).length+(r_4.1).length≤9223372036854775807) then
 bif decide ((((r_7++r_8)++r_9)++r_4.1).length+(r_6.1).length≤9223372036854775807) then
 aA.l0 bar k k ((((r_7++r_8)++r_9)++r_4.1)++r_6.1) 0 a2.reps a2.defs a2.values
 else
 none
 else
 none
 else
 none
 else
 none:=by kernel_rfl
theorem aA.l0_eq (bar:aF)(k:Nat)(n:Nat)(s15:List UInt8)(i16:Int)(c5:List Int)(c5_1:List Int)(c5_2:List (List UInt8)):aA.l0 bar k (n+1) s15 i16 c5 c5_1 c5_2=
 bif decide (i16<((c5_2).length:Int)) then
 (rd c5_2 i16).bind fun e_1=>
 (cQ.f bar k e_1).bind fun r_2=>
 bif decide ((s15).length+(r_2).length≤9223372036854775807) then
 aA.l0 bar k n (s15++r_2) (IntKind.i64.wrap (i16+1)) c5 c5_1 c5_2
 else
 none
 else
 (aJ.f bar k s15).bind fun r_3=>
 (aT.f bar k r_3 4).bind fun r_4=>
 bif decide ((r_4).length+(s15).length≤9223372036854775807) then
 some (r_4++s15,0)
 else
 none:=by kernel_rfl
theorem aK.f_eq (bar:aF)(k:Nat)(a0:List aL)(a1:Int)(a2:Col)(a3:Int):aK.f bar (k+1) a0 a1 a2 a3=
 (dq.f bar k a0 a1 a2).bind fun r_1=>
 bif (!(!r_1)) then
 bif (!(decide (a3<1))) then
 bif decide (((a2.reps).length:Int)>0) then
 (rd a2.reps 0).bind fun e_2=>
 bif (e_2 != 0) then
 some (([]:List (List UInt8)),2300)
 else
 (aZ.f bar k a0 a1).bind fun r_3=>
 aK.l0 bar k k a1 a3 r_3.2.1 a0 a2.reps a2.defs a2.values ([]:List (List UInt8))
 else
 (aZ.f bar k a0 a1).bind fun r_4=>
 aK.l0 bar k k a1 a3 r_4.2.1 a0 a2.reps a2.defs a2.values ([]:List (List UInt8))
 else
 some (([]:List (List UInt8)),2300)
 else
 some (([]:List (List UInt8)),2300):=by kernel_rfl
theorem aK.l0_eq (bar:aF)(k:Nat)(n:Nat)(leaf1:Int)(limit3:Int)(def_11:Int)(t4:List aL)(c6:List Int)(c6_1:List Int)(c6_2:List (List UInt8))(x2013:List (List UInt8)):aK.l0 bar k (n+1) leaf1 limit3 def_11 t4 c6 c6_1 c6_2 x2013=
 bif decide (((c6).length:Int)>0) then
 (bT.f bar k (Col.mk c6 c6_1 c6_2) limit3 def_11).bind fun r_1=>
 bif decide (0≤r_1.1)&&decide (r_1.1≤(((c6).length:Nat):Int)) then
 bif decide (0≤r_1.1)&&decide (r_1.1≤(((c6_1).length:Nat):Int)) then
 bif decide (0≤r_1.2)&&decide (r_1.2≤(((c6_2).length:Nat):Int)) then
 (bM.f bar k t4 leaf1 (Col.mk (List.drop 0 (List.take ((r_1.1).toNat) c6)) (List.drop 0 (List.take ((r_1.1).toNat) c6_1)) (List.drop 0 (List.take ((r_1.2).toNat) c6_2)))).bind fun r_2=>
 bif decide (((x2013).length+(([r_2.1]:List (List UInt8))).length)*16≤140737488355328) then
 bif decide (0≤r_1.1)&&decide (r_1.1≤(((c6).length:Nat):Int)) then
 bif decide (0≤r_1.1)&&decide (r_1.1≤(((c6_1).length:Nat):Int)) then
 bif decide (0≤r_1.2)&&decide (r_1.2≤(((c6_2).length:Nat):Int)) then
 aK.l0 bar k n leaf1 limit3 def_11 t4 (List.drop ((r_1.1).toNat) (List.take ((c6).length) c6)) (List.drop ((r_1.1).toNat) (List.take ((c6_1).length) c6_1)) (List.drop ((r_1.2).toNat) (List.take ((c6_2).length) c6_2)) (x2013++([r_2.1]:List (List UInt8)))
 else
 none
 else
 none
 else
 none
 else
 none
 else
 none
 else
 none
 else
 none
 else
 some (x2013,0):=by kernel_rfl
theorem az.f_eq (bar:aF)(k:Nat)(a0:List aL)(a1:Int)(a2:List (List UInt8)):az.f bar (k+1) a0 a1 a2=
 (eD.f bar k a0 a1).bind fun r_1=>
 az.l0 bar k k a1 r_1 a2 ((a2).length:Int) 0 a0 ([]:List Int) ([]:List Int) ([]:List (List UInt8)):=by kernel_rfl
theorem az.l0_eq (bar:aF)(k:Nat)(n:Nat)(leaf1:Int)(is9:Bool)(x17:List (List UInt8))(x18:Int)(x19:Int)(t3:List aL)(out8:List Int)(out8_1:List Int)(out8_2:List (List UInt8)):az.l0 bar k (n+1) leaf1 is9 x17 x18 x19 t3 out8 out8_1 out8_2=
 bif decide (x19<x18) then
 (rd x17 x19).bind fun e_1=>
 (bR.f bar k t3 leaf1 e_1).bind fun r_2=>
 bif (!(r_2.2 != 0)) then
 bif (!(((r_2.1.1).length:Int)==0)) then
 bif decide (0≤0)&&decide (0<((r_2.1.1).length:Int)) then
 (r_2.1.1[0]?).bind fun e_3=>
 bif (!(e_3 != 0)) then
 bif decide ((IntKind.i64.wrap (((out8).length:Int)+((r_2.1.1).length:Int)))>4096) then
 some ((([]:List Int),([]:List Int),([]:List (List UInt8))),2300)
 else
 bif decide (((out8).length+(r_2.1.1).length)*8≤140737488355328) then
 bif decide (((out8_1).length+(r_2.1.2.1).length)*8≤140737488355328) then
 bif decide (((out8_2).length+(r_2.1.2.2).length)*16≤140737488355328) then
 az.l0 bar k n leaf1 is9 x17 x18 (IntKind.i64.wrap (x19+1)) t3 (out8++r_2.1.1) (out8_1++r_2.1.2.1) (out8_2++r_2.1.2.2)
 else
 none
 else
 none
 else
 none
 else
 some ((([]:List Int),([]:List Int),([]:List (List UInt8))),2300)
 else
 none
 else
 some ((([]:List Int),([]:List Int),([]:List (List UInt8))),2300)
 else
 some ((([]:List Int),([]:List Int),([]:List (List UInt8))),2300)
 else
 bif (!is9) then
 some ((([]:List Int),([]:List Int),([]:List (List UInt8))),2300)
 else
 some ((out8,out8_1,out8_2),0):=by kernel_rfl
theorem dU.f_eq (bar:aF)(k:Nat):dU.f bar (k+1)=
 (cf.f bar k).bind fun r_1=>
 (aK.f bar k r_1 0 (Col.mk ([0,0,0]:List Int) ([1,0,1]:List Int) ([([105,53,59]:List UInt8),([105,54,59]:List UInt8)]:List (List UInt8))) 2).bind fun r_2=>
 (cf.f bar k).bind fun r_3=>
 (az.f bar k r_3 0 r_2.1).bind fun r_4=>
 (cf.f bar k).bind fun r_5=>
 (aK.f bar k r_5 0 (Col.mk ([0,0,0]:List Int) ([1,0,1]:List Int) ([([105,53,59]:List UInt8),([105,54,59]:List UInt8)]:List (List UInt8))) 0).bind fun r_6=>
 (cf.f bar k).bind fun r_7=>
 (az.f bar k r_7 0 ([([]:List UInt8)]:List (List UInt8))).bind fun r_8=>
 (cf.f bar k).bind fun r_9=>
 (az.f bar k r_9 0 ([]:List (List UInt8))).bind fun r_10=>
 bif (((r_2.1).length:Int)==2) then
 (bp.f bar k r_2.2).bind fun r_11=>
 bif (r_11==0) then
 (bL.f bar k (Col.mk ([0,0,0]:List Int) ([1,0,1]:List Int) ([([105,53,59]:List UInt8),([105,54,59]:List UInt8)]:List (List UInt8))) (Col.mk r_4.1.1 r_4.1.2.1 r_4.1.2.2)).bind fun r_12=>
 bif r_12 then
 (bp.f bar k r_4.2).bind fun r_13=>
 bif (r_13==0) then
 (bp.f bar k r_6.2).bind fun r_14=>
 bif (r_14==2300) then
 (bp.f bar k r_8.2).bind fun r_15=>
 bif (r_15==2300) then
 (bL.f bar k (Col.mk r_10.1.1 r_10.1.2.1 r_10.1.2.2) (Col.mk ([]:List Int) ([]:List Int) ([]:List (List UInt8)))).bind fun r_16=>
 bif r_16 then
 (bp.f bar k r_10.2).bind fun r_17=>
 some (r_17==0)
 else
 some false
 else
 some false
 else
 some false
 else
 some false
 else
 some false
 else
 some false
 else
 some false:=by kernel_rfl
theorem aJ.f_eq (bar:aF)(k:Nat)(a0:List UInt8):aJ.f bar (k+1) a0=
 aJ.l0 bar k k a0 4294967295 0:=by kernel_rfl
theorem aJ.l0_eq (bar:aF)(k:Nat)(n:Nat)(s0:List UInt8)(x3:Int)(i4:Int):aJ.l0 bar k (n+1) s0 x3 i4=
 bif decide (i4<((s0).length:Int)) then
 (rd s0 i4).bind fun b_1=>
 aJ.l2 bar k n k s0 (aH .xor .u32 x3 (IntKind.u32.wrap (b_1.toNat:Int))) i4 0
 else
 some (IntKind.i64.wrap (aH .xor .u32 (IntKind.u32.max) x3)):=by kernel_rfl
theorem aJ.l2_eq (bar:aF)(k:Nat)(m1:Nat)(n:Nat)(s0:List UInt8)(x3:Int)(i4:Int)(j5:Int):aJ.l2 bar k m1 (n+1) s0 x3 i4 j5=
 bif decide (j5<8) then
 bif ((aH .and .u32 x3 1)==1) then
 aJ.l2 bar k m1 n s0 (aH .xor .u32 (Int.fdiv x3 (2 ^ (min 1 IntKind.u32.bits))) 3988292384) i4 (IntKind.i64.wrap (j5+1))
 else
 aJ.l2 bar k m1 n s0 (Int.fdiv x3 (2 ^ (min 1 IntKind.u32.bits))) i4 (IntKind.i64.wrap (j5+1))
 else
 aJ.l0 bar k m1 s0 x3 (IntKind.i64.wrap (i4+1)):=by kernel_rfl
theorem aw.f_eq (bar:aF)(k:Nat)(a0:List aL)(a1:Int)(a2:Col):aw.f bar (k+1) a0 a1 a2=
 (dn.f bar k a0 a1).bind fun r_1=>
 bif (!(!r_1)) then
 bif (!(((a2.reps).length:Int) != ((a2.defs).length:Int))) then
 bif decide (((a2.reps).length:Int)>4096) then
 some false
 else
 (aC.f bar k a0 a1).bind fun r_2=>
 aw.l0 bar k k a1 r_2.1 r_2.2.1 0 0 a0 a2.reps a2.defs a2.values
 else
 some false
 else
 some false:=by kernel_rfl
theorem aw.l0_eq (bar:aF)(k:Nat)(n:Nat)(leaf1:Int)(rep7:Int)(def_8:Int)(k_10:Int)(i11:Int)(t3:List aL)(c5:List Int)(c5_1:List Int)(c5_2:List (List UInt8)):aw.l0 bar k (n+1) leaf1 rep7 def_8 k_10 i11 t3 c5 c5_1 c5_2=
 bif decide (i11<((c5).length:Int)) then
 (rd c5 i11).bind fun e_1=>
 bif (!(decide (e_1<0))) then
 (rd c5 i11).bind fun e_2=>
 bif (!(decide (e_2>rep7))) then
 (rd c5_1 i11).bind fun e_3=>
 bif (!(decide (e_3<0))) then
 (rd c5_1 i11).bind fun e_4=>
 bif decide (e_4>def_8) then
 some false
 else
 (rd c5_1 i11).bind fun e_5=>
 bif (e_5==def_8) then
 aw.l0 bar k n leaf1 rep7 def_8 (IntKind.i64.wrap (k_10+1)) (IntKind.i64.wrap (i11+1)) t3 c5 c5_1 c5_2
 else
 aw.l0 bar k n leaf1 rep7 def_8 k_10 (IntKind.i64.wrap (i11+1)) t3 c5 c5_1 c5_2
 else
 some false
 else
 some false
 else
 some false
 else
 aw.l2 bar k k leaf1 k_10 0 t3 c5 c5_1 c5_2:=by kernel_rfl
theorem aw.l2_eq (bar:aF)(k:Nat)(n:Nat)(leaf1:Int)(k_10:Int)(i12:Int)(t3:List aL)(c5:List Int)(c5_1:List Int)(c5_2:List (List UInt8)):aw.l2 bar k (n+1) leaf1 k_10 i12 t3 c5 c5_1 c5_2=
 bif decide (i12<((c5_2).length:Int)) then
 (rd c5_2 i12).bind fun e_1=>
 bif (!(e_1==([110]:List UInt8))) then
 (rd c5_2 i12).bind fun e_2=>
 (ac.f bar k t3 leaf1 e_2).bind fun r_3=>
 bif (!r_3) then
 some false
 else
 aw.l2 bar k n leaf1 k_10 (IntKind.i64.wrap (i12+1)) t3 c5 c5_1 c5_2
 else
 some false
 else
 some (k_10==((c5_2).length:Int)):=by kernel_rfl
theorem aC.f_eq (bar:aF)(k:Nat)(a0:List aL)(a1:Int):aC.f bar (k+1) a0 a1=
 (bW.f bar k a0 a1).bind fun r_1=>
 bif (!r_1) then
 some (0,0,500)
 else
 aC.l0 bar k k a1 0 0 a0:=by kernel_rfl
theorem aC.l0_eq (bar:aF)(k:Nat)(n:Nat)(at_1:Int)(rep7:Int)(def_8:Int)(t2:List aL):aC.l0 bar k (n+1) at_1 rep7 def_8 t2=
 bif decide (at_1≥0) then
 (rd t2 at_1).bind fun e_1=>
 bif (e_1.kind==3) then
 bar _ (aC.j8 bar k n at_1 (IntKind.i64.wrap (rep7+1)) (IntKind.i64.wrap (def_8+1)) t2)
 else
 bar _ (aC.j8 bar k n at_1 rep7 def_8 t2)
 else
 some (rep7,def_8,0):=by kernel_rfl
theorem aC.j8_eq (bar:aF)(k:Nat)(m1:Nat)(at_1:Int)(rep7:Int)(def_8:Int)(t2:List aL):aC.j8 bar k m1 at_1 rep7 def_8 t2=
 (rd t2 at_1).bind fun e_1=>
 bif e_1.null then
 (rd t2 at_1).bind fun e_2=>
 aC.l0 bar k m1 e_2.parent rep7 (IntKind.i64.wrap (def_8+1)) t2
 else
 (rd t2 at_1).bind fun e_3=>
 aC.l0 bar k m1 e_3.parent rep7 def_8 t2:=by kernel_rfl
theorem ab.f_eq (bar:aF)(k:Nat)(a0:List Int)(a1:Int):ab.f bar (k+1) a0 a1=
 bif (!(decide (a1<0))) then
 bif (!(decide (a1>16))) then
 bif decide (((a0).length:Int)>4096) then
 some (([]:List UInt8),2100)
 else
 ab.l0 bar k k a0 a1 0
 else
 some (([]:List UInt8),2100)
 else
 some (([]:List UInt8),2100):=by kernel_rfl
theorem ab.l0_eq (bar:aF)(k:Nat)(n:Nat)(xs0:List Int)(width1:Int)(i6:Int):ab.l0 bar k (n+1) xs0 width1 i6=
 bif decide (i6<((xs0).length:Int)) then
 (rd xs0 i6).bind fun e_1=>
 bif (!(decide (e_1<0))) then
 (rd xs0 i6).bind fun e_2=>
 bif decide (width1<0) then
 none
 else
 bif decide (e_2≥(IntKind.i64.wrap (1*2 ^ (min (width1).toNat IntKind.i64.bits)))) then
 some (([]:List UInt8),2100)
 else
 ab.l0 bar k n xs0 width1 (IntKind.i64.wrap (i6+1))
 else
 some (([]:List UInt8),2100)
 else
 ab.l2 bar k k xs0 width1 ([]:List UInt8) 0:=by kernel_rfl
theorem ab.l2_eq (bar:aF)(k:Nat)(n:Nat)(xs0:List Int)(width1:Int)(s7:List UInt8)(at_8:Int):ab.l2 bar k (n+1) xs0 width1 s7 at_8=
 bif decide (at_8<((xs0).length:Int)) then
 (bi.f bar k xs0 at_8).bind fun r_1=>
 bif decide (r_1≥8) then
 (aR.f bar k (IntKind.i64.wrap (2*r_1))).bind fun r_2=>
 bif decide ((s7).length+(r_2.1).length≤9223372036854775807) then
 (rd xs0 at_8).bind fun e_3=>
 (b7.f bar k width1).bind fun r_4=>
 (aT.f bar k e_3 r_4).bind fun r_5=>
 bif decide ((s7++r_2.1).length+(r_5).length≤9223372036854775807) then
 ab.l2 bar k n xs0 width1 ((s7++r_2.1)++r_5) (IntKind.i64.wrap (at_8+r_1))
 else
 none
 else
 none
 else
 ab.l4 bar k n k xs0 width1 s7 at_8 (bif decide (((xs0).length:Int)<(IntKind.i64.wrap (at_8+8))) then ((xs0).length:Int) else IntKind.i64.wrap (at_8+8))
 else
 some (s7,0):=by kernel_rfl
theorem ab.l4_eq (bar:aF)(k:Nat)(m1:Nat)(n:Nat)(xs0:List Int)(width1:Int)(s7:List UInt8)(at_8:Int)(to12:Int):ab.l4 bar k m1 (n+1) xs0 width1 s7 at_8 to12=
 bif decide (to12<((xs0).length:Int)) then
 (bi.f bar k xs0 to12).bind fun r_1=>
 bif decide (r_1<8) then
 ab.l4 bar k m1 n xs0 width1 s7 at_8 (bif decide (((xs0).length:Int)<(IntKind.i64.wrap (to12+8))) then ((xs0).length:Int) else IntKind.i64.wrap (to12+8))
 else
 (aR.f bar k (IntKind.i64.wrap ((IntKind.i64.wrap (2*(IntKind.i64.wrap (Int.tdiv (IntKind.i64.wrap ((IntKind.i64.wrap (to12 - at_8))+7)) 8))))+1))).bind fun r_2=>
 bif decide ((s7).length+(r_2.1).length≤9223372036854775807) then
 bif decide (0≤to12)&&decide (to12≤(((xs0).length:Nat):Int)) then
 bif decide (0≤at_8)&&decide (at_8≤(((to12).toNat:Nat):Int)) then
 (aE.f bar k (List.drop ((at_8).toNat) (List.take ((to12).toNat) xs0)) width1).bind fun r_3=>
 bif decide ((s7++r_2.1).length+(r_3).length≤9223372036854775807) then
 ab.l2 bar k m1 xs0 width1 ((s7++r_2.1)++r_3) to12
 else
 none
 else
 none
 else
 none
 else
 none
 else
 (aR.f bar k (IntKind.i64.wrap ((IntKind.i64.wrap (2*(IntKind.i64.wrap (Int.tdiv (IntKind.i64.wrap ((IntKind.i64.wrap (to12 - at_8))+7)) 8))))+1))).bind fun r_4=>
 bif decide ((s7).length+(r_4.1).length≤9223372036854775807) then
 bif decide (0≤to12)&&decide (to12≤(((xs0).length:Nat):Int)) then
 bif decide (0≤at_8)&&decide (at_8≤(((to12).toNat:Nat):Int)) then
 (aE.f bar k (List.drop ((at_8).toNat) (List.take ((to12).toNat) xs0)) width1).bind fun r_5=>
 bif decide ((s7++r_4.1).length+(r_5).length≤9223372036854775807) then
 ab.l2 bar k m1 xs0 width1 ((s7++r_4.1)++r_5) to12
 else
 none
 else
 none
 else
 none
 else
 none:=by kernel_rfl
theorem cQ.f_eq (bar:aF)(k:Nat)(a0:List UInt8):cQ.f bar (k+1) a0=
 (af.f bar k a0).bind fun r_1=>
 bif (r_1.1==0) then
 (dj.f bar k a0).bind fun r_2=>
 some r_2
 else
 bif (a0==([116]:List UInt8)) then
 some ([1]:List UInt8)
 else
 bif (a0==([102]:List UInt8)) then
 some ([0]:List UInt8)
 else
 bif decide (0≤0)&&decide (0<((r_1.2.1).length:Int)) then
 (r_1.2.1[0]?).bind fun e_3=>
 (aT.f bar k ((e_3).length:Int) 4).bind fun r_4=>
 bif decide (0≤0)&&decide (0<((r_1.2.1).length:Int)) then
 (r_1.2.1[0]?).bind fun e_5=>
 bif decide ((r_4).length+(e_5).length≤9223372036854775807) then
 some (r_4++e_5)
 else
 none
 else
 none
 else
 none:=by kernel_rfl
theorem bM.f_eq (bar:aF)(k:Nat)(a0:List aL)(a1:Int)(a2:Col):bM.f bar (k+1) a0 a1 a2=
 (dq.f bar k a0 a1 a2).bind fun r_1=>
 bif (!r_1) then
 some (([]:List UInt8),2200)
 else
 (aZ.f bar k a0 a1).bind fun r_2=>
 (fK.f bar k a2.reps r_2.1).bind fun r_3=>
 (fK.f bar k a2.defs r_2.2.1).bind fun r_4=>
 bM.l0 bar k k r_3 r_4 ((([((a2.reps).length:Int),((r_3).length:Int),((r_4).length:Int)]:List Int)).length:Int) 0 a2.reps a2.defs a2.values ([]:List Int) ([((a2.reps).length:Int),((r_3).length:Int),((r_4).length:Int)]:List Int):=by kernel_rfl
theorem bM.l0_eq (bar:aF)(k:Nat)(n:Nat)(reps11:List UInt8)(defs12:List UInt8)(x46:Int)(x47:Int)(c5:List Int)(c5_1:List Int)(c5_2:List (List UInt8))(body13:List Int)(x2045:List Int):bM.l0 bar k (n+1) reps11 defs12 x46 x47 c5 c5_1 c5_2 body13 x2045=
 bif decide (x47<x46) then
 bif decide (0≤x47)&&decide (x47<((x2045).length:Int)) then
 (x2045[(x47).toNat]?).bind fun e_1=>
 (dD.f bar k e_1 4).bind fun r_2=>
 bif decide ((body13).length+(r_2).length≤140737488355328) then
 bM.l0 bar k n reps11 defs12 x46 (IntKind.i64.wrap (x47+1)) c5 c5_1 c5_2 (body13++bz r_2) x2045
 else
 none
 else
 none
 else
 bif decide ((reps11).length+(defs12).length≤9223372036854775807) then
 bif decide ((body13).length+(reps11++defs12).length≤140737488355328) then
 bM.l2 bar k k c5_2 ((c5_2).length:Int) 0 (body13++bz (reps11++defs12))
 else
 none
 else
 none:=by kernel_rfl
theorem bM.l2_eq (bar:aF)(k:Nat)(n:Nat)(x60:List (List UInt8))(x61:Int)(x62:Int)(body13:List Int):bM.l2 bar k (n+1) x60 x61 x62 body13=
 bif decide (x62<x61) then
 (rd x60 x62).bind fun e_1=>
 (gC.f bar k e_1).bind fun r_2=>
 bif decide ((body13).length+(r_2).length≤140737488355328) then
 bM.l2 bar k n x60 x61 (IntKind.i64.wrap (x62+1)) (body13++bz r_2)
 else
 none
 else
 (cK.f bar k (ae body13)).bind fun r_3=>
 (dD.f bar k r_3 4).bind fun r_4=>
 bif decide ((r_4).length+(ae body13).length≤9223372036854775807) then
 some (r_4++(ae body13),0)
 else
 none:=by kernel_rfl
theorem dq.f_eq (bar:aF)(k:Nat)(a0:List aL)(a1:Int)(a2:Col):dq.f bar (k+1) a0 a1 a2=
 (aZ.f bar k a0 a1).bind fun r_1=>
 (eD.f bar k a0 a1).bind fun r_2=>
 bif (!(!r_2)) then
 bif (!(((a2.reps).length:Int) != ((a2.defs).length:Int))) then
 bif (!(decide (((a2.reps).length:Int)>4096))) then
 (cq.f bar k a2.reps r_1.1).bind fun r_3=>
 bif (!(!r_3)) then
 (cq.f bar k a2.defs r_1.2.1).bind fun r_4=>
 bif (!r_4) then
 some false
 else
 dq.l0 bar k k a1 r_1.2.1 a2.values ((a2.values).length:Int) 0 a0 a2.reps a2.defs
 else
 some false
 else
 some false
 else
 some false
 else
 some false:=by kernel_rfl
theorem dq.l0_eq (bar:aF)(k:Nat)(n:Nat)(leaf1:Int)(def_8:Int)(x53:List (List UInt8))(x54:Int)(x55:Int)(t3:List aL)(c5:List Int)(c5_1:List Int):dq.l0 bar k (n+1) leaf1 def_8 x53 x54 x55 t3 c5 c5_1=
 bif decide (x55<x54) then
 (rd x53 x55).bind fun e_1=>
 (kB.f bar k).bind fun r_2=>
 bif (!(e_1==r_2)) then
 (cL.f bar k t3 leaf1 e_1).bind fun r_3=>
 bif (!r_3) then
 some false
 else
 dq.l0 bar k n leaf1 def_8 x53 x54 (IntKind.i64.wrap (x55+1)) t3 c5 c5_1
 else
 some false
 else
 (ck.f bar k c5_1 def_8).bind fun r_4=>
 some (((x53).length:Int)==r_4):=by kernel_rfl
theorem aZ.f_eq (bar:aF)(k:Nat)(a0:List aL)(a1:Int):aZ.f bar (k+1) a0 a1=
 (eX.f bar k a0 a1).bind fun r_1=>
 bif (!r_1) then
 some (0,0,500)
 else
 (cA.f bar k a0 a1).bind fun r_2=>
 aZ.l0 bar k k 0 0 ((r_2).length:Int) 0 a0 r_2:=by kernel_rfl
theorem aZ.l0_eq (bar:aF)(k:Nat)(n:Nat)(rep7:Int)(def_8:Int)(x17:Int)(x18:Int)(t2:List aL)(x2016:List Int):aZ.l0 bar k (n+1) rep7 def_8 x17 x18 t2 x2016=
 bif decide (x18<x17) then
 bif decide (0≤x18)&&decide (x18<((x2016).length:Int)) then
 (x2016[(x18).toNat]?).bind fun e_1=>
 (rd t2 e_1).bind fun e_2=>
 bif (e_2.kind==3) then
 (rd t2 e_1).bind fun e_3=>
 bif e_3.null then
 aZ.l0 bar k n (IntKind.i64.wrap (rep7+1)) (IntKind.i64.wrap ((IntKind.i64.wrap (def_8+1))+1)) x17 (IntKind.i64.wrap (x18+1)) t2 x2016
 else
 aZ.l0 bar k n (IntKind.i64.wrap (rep7+1)) (IntKind.i64.wrap (def_8+1)) x17 (IntKind.i64.wrap (x18+1)) t2 x2016
 else
 (rd t2 e_1).bind fun e_4=>
 bif e_4.null then
 aZ.l0 bar k n rep7 (IntKind.i64.wrap (def_8+1)) x17 (IntKind.i64.wrap (x18+1)) t2 x2016
 else
 aZ.l0 bar k n rep7 def_8 x17 (IntKind.i64.wrap (x18+1)) t2 x2016
 else
 none
 else
 some (rep7,def_8,0):=by kernel_rfl
theorem bT.f_eq (bar:aF)(k:Nat)(a0:Col)(a1:Int)(a2:Int):bT.f bar (k+1) a0 a1 a2=
 bT.l0 bar k k a0.reps a0.defs a0.values a1 a2 0 0 ((a0.reps).length:Int) 0:=by kernel_rfl
theorem bT.l0_eq (bar:aF)(k:Nat)(n:Nat)(c0:List Int)(c0_1:List Int)(c0_2:List (List UInt8))(records1:Int)(def_2:Int)(seen8:Int)(values9:Int)(x16:Int)(x17:Int):bT.l0 bar k (n+1) c0 c0_1 c0_2 records1 def_2 seen8 values9 x16 x17=
 bif decide (x17<x16) then
 (rd c0 x17).bind fun e_1=>
 bif (e_1==0) then
 bif (seen8==records1) then
 some (x17,values9)
 else
 bar _ (bT.j9 bar k n c0 c0_1 c0_2 records1 def_2 (IntKind.i64.wrap (seen8+1)) values9 x17 x16)
 else
 bar _ (bT.j9 bar k n c0 c0_1 c0_2 records1 def_2 seen8 values9 x17 x16)
 else
 some (((c0).length:Int),values9):=by kernel_rfl
theorem bT.j9_eq (bar:aF)(k:Nat)(m1:Nat)(c0:List Int)(c0_1:List Int)(c0_2:List (List UInt8))(records1:Int)(def_2:Int)(seen8:Int)(values9:Int)(i10:Int)(x16:Int):bT.j9 bar k m1 c0 c0_1 c0_2 records1 def_2 seen8 values9 i10 x16=
 (rd c0_1 i10).bind fun e_1=>
 bif (e_1==def_2) then
 bT.l0 bar k m1 c0 c0_1 c0_2 records1 def_2 seen8 (IntKind.i64.wrap (values9+1)) x16 (IntKind.i64.wrap (i10+1))
 else
 bT.l0 bar k m1 c0 c0_1 c0_2 records1 def_2 seen8 values9 x16 (IntKind.i64.wrap (i10+1)):=by kernel_rfl
theorem bR.f_eq (bar:aF)(k:Nat)(a0:List aL)(a1:Int)(a2:List UInt8):bR.f bar (k+1) a0 a1 a2=
 (eD.f bar k a0 a1).bind fun r_1=>
 bif (!(!r_1)) then
 bif decide (((a2).length:Int)<4) then
 some ((([]:List Int),([]:List Int),([]:List (List UInt8))),2200)
 else
 bif decide (0≤4)&&decide (4≤(((a2).length:Nat):Int)) then
 (eH.f bar k (List.drop 0 (List.take 4 a2))).bind fun r_2=>
 bif decide (0≤4)&&decide (4≤(((a2).length:Nat):Int)) then
 (cK.f bar k (List.drop 4 (List.take ((a2).length) a2))).bind fun r_3=>
 bif (r_2 != r_3) then
 some ((([]:List Int),([]:List Int),([]:List (List UInt8))),2201)
 else
 (aZ.f bar k a0 a1).bind fun r_4=>
 bif decide (0≤4)&&decide (4≤(((a2).length:Nat):Int)) then
 (b9.f bar k (List.drop 4 (List.take ((a2).length) a2)) false).bind fun r_5=>
 (b9.f bar k r_5.2.1 r_5.2.2).bind fun r_6=>
 (b9.f bar k r_6.2.1 r_6.2.2).bind fun r_7=>
 (bJ.f bar k r_7.2.1 r_7.2.2 r_6.1).bind fun r_8=>
 (fo.f bar k (IntKind.u64.wrap r_4.1)).bind fun r_9=>
 (bg.f bar k r_8.1 r_9 r_5.1).bind fun r_10=>
 (bJ.f bar k r_8.2.1 r_8.2.2 r_7.1).bind fun r_11=>
 (fo.f bar k (IntKind.u64.wrap r_4.2.1)).bind fun r_12=>
 (bg.f bar k r_11.1 r_12 r_5.1).bind fun r_13=>
 (ck.f bar k r_13.1 r_4.2.1).bind fun r_14=>
 bR.l0 bar k k a1 a2 r_10.2 r_13.2 r_14 0 a0 r_10.1 r_13.1 ([]:List (List UInt8)) r_11.2.1 r_11.2.2
 else
 none
 else
 none
 else
 none
 else
 some ((([]:List Int),([]:List Int),([]:List (List UInt8))),2200):=by kernel_rfl
theorem bR.l0_eq (bar:aF)(k:Nat)(n:Nat)(leaf1:Int)(s2:List UInt8)(e16:Int)(f17:Int)(x82:Int)(x83:Int)(t3:List aL)(out15:List Int)(out15_1:List Int)(out15_2:List (List UInt8))(x48:List UInt8)(x48_1:Bool):bR.l0 bar k (n+1) leaf1 s2 e16 f17 x82 x83 t3 out15 out15_1 out15_2 x48 x48_1=
 bif decide (x83<x82) then
 bif (!x48_1) then
 (rd t3 leaf1).bind fun e_1=>
 (em.f bar k x48 x48_1 e_1.kind).bind fun r_2=>
 bif decide (((out15_2).length+(([r_2.1]:List (List UInt8))).length)*16≤140737488355328) then
 bR.l0 bar k n leaf1 s2 e16 f17 x82 (IntKind.i64.wrap (x83+1)) t3 out15 out15_1 (out15_2++([r_2.1]:List (List UInt8))) r_2.2.1 r_2.2.2
 else
 none
 else
 bR.l0 bar k n leaf1 s2 e16 f17 x82 (IntKind.i64.wrap (x83+1)) t3 out15 out15_1 out15_2 x48 x48_1
 else
 (bM.f bar k t3 leaf1 (Col.mk out15 out15_1 out15_2)).bind fun r_3=>
 bif (!x48_1) then
 bif (!(e16 != 0)) then
 bif (!(f17 != 0)) then
 bif (!(r_3.2 != 0)) then
 bif (r_3.1 != s2) then
 some ((([]:List Int),([]:List Int),([]:List (List UInt8))),2200)
 else
 some ((out15,out15_1,out15_2),0)
 else
 some ((([]:List Int),([]:List Int),([]:List (List UInt8))),2200)
 else
 some ((([]:List Int),([]:List Int),([]:List (List UInt8))),2200)
 else
 some ((([]:List Int),([]:List Int),([]:List (List UInt8))),2200)
 else
 some ((([]:List Int),([]:List Int),([]:List (List UInt8))),2200):=by kernel_rfl
theorem eD.f_eq (bar:aF)(k:Nat)(a0:List aL)(a1:Int):eD.f bar (k+1) a0 a1=
 (eX.f bar k a0 a1).bind fun r_1=>
 bif r_1 then
 (rd a0 a1).bind fun e_2=>
 (fY.f bar k e_2.kind).bind fun r_3=>
 some (!r_3)
 else
 some false:=by kernel_rfl
theorem bL.f_eq (bar:aF)(k:Nat)(a0:Col)(a1:Col):bL.f bar (k+1) a0 a1=
 (aP.f bar k a0.reps a1.reps).bind fun r_1=>
 bif r_1 then
 (aP.f bar k a0.defs a1.defs).bind fun r_2=>
 bif r_2 then
 (aU.f bar k a0.values a1.values).bind fun r_3=>
 some r_3
 else
 some false
 else
 some false:=by kernel_rfl
theorem cf.f_eq (bar:aF)(k:Nat):cf.f bar (k+1)=
 some ([(aL.mk 0 (-1) true)]:List aL):=by kernel_rfl
theorem ac.f_eq (bar:aF)(k:Nat)(a0:List aL)(a1:Int)(a2:List UInt8):ac.f bar (k+1) a0 a1 a2=
 (bW.f bar k a0 a1).bind fun r_1=>
 bif (!r_1) then
 some false
 else
 (rd a0 a1).bind fun e_2=>
 (af.f bar k a2).bind fun r_3=>
 bif (r_3.2.2 != 0) then
 some false
 else
 bif decide (r_3.1<0) then
 some e_2.null
 else
 (dM.f bar k a0 a1).bind fun r_4=>
 bif (!(r_3.1 != e_2.kind)) then
 bif (r_3.1==2) then
 bif decide (0≤0)&&decide (0<((r_3.2.1).length:Int)) then
 (r_3.2.1[0]?).bind fun e_5=>
 bif (!(decide (((e_5).length:Int)>16))) then
 bif (r_3.1==3) then
 bif (!(decide (((r_3.2.1).length:Int)>64))) then
 bif (r_3.1==4) then
 bif (((r_3.2.1).length:Int) != ((r_4.1).length:Int)) then
 some false
 else
 ac.l0 bar k k r_3.1 0 a0 r_3.2.1 r_4.1
 else
 ac.l0 bar k k r_3.1 0 a0 r_3.2.1 r_4.1
 else
 some false
 else
 bif (r_3.1==4) then
 bif (((r_3.2.1).length:Int) != ((r_4.1).length:Int)) then
 some false
 else
 ac.l0 bar k k r_3.1 0 a0 r_3.2.1 r_4.1
 else
 ac.l0 bar k k r_3.1 0 a0 r_3.2.1 r_4.1
 else
 some false
 else
 none
 else
 bif (r_3.1==3) then
 bif (!(decide (((r_3.2.1).length:Int)>64))) then
 bif (r_3.1==4) then
 bif (((r_3.2.1).length:Int) != ((r_4.1).length:Int)) then
 some false
 else
 ac.l0 bar k k r_3.1 0 a0 r_3.2.1 r_4.1
 else
 ac.l0 bar k k r_3.1 0 a0 r_3.2.1 r_4.1
 else
 some false
 else
 bif (r_3.1==4) then
 bif (((r_3.2.1).length:Int) != ((r_4.1).length:Int)) then
 some false
 else
 ac.l0 bar k k r_3.1 0 a0 r_3.2.1 r_4.1
 else
 ac.l0 bar k k r_3.1 0 a0 r_3.2.1 r_4.1
 else
 some false:=by kernel_rfl
theorem ac.l0_eq (bar:aF)(k:Nat)(n:Nat)(kind8:Int)(i13:Int)(t3:List aL)(x2009:List (List UInt8))(x2011:List Int):ac.l0 bar k (n+1) kind8 i13 t3 x2009 x2011=
 bif decide (i13<((x2009).length:Int)) then
 (cV.f bar k kind8).bind fun r_1=>
 bif (!r_1) then
 bif decide (0≤0)&&decide (0<((x2011).length:Int)) then
 (x2011[0]?).bind fun e_2=>
 bif (kind8==4) then
 bif decide (0≤i13)&&decide (i13<((x2011).length:Int)) then
 (x2011[(i13).toNat]?).bind fun e_3=>
 bif decide (0≤i13)&&decide (i13<((x2009).length:Int)) then
 (x2009[(i13).toNat]?).bind fun e_4=>
 (ac.f bar k t3 e_3 e_4).bind fun r_5=>
 bif (!r_5) then
 some false
 else
 ac.l0 bar k n kind8 (IntKind.i64.wrap (i13+1)) t3 x2009 x2011
 else
 none
 else
 none
 else
 bif decide (0≤i13)&&decide (i13<((x2009).length:Int)) then
 (x2009[(i13).toNat]?).bind fun e_6=>
 (ac.f bar k t3 e_2 e_6).bind fun r_7=>
 bif (!r_7) then
 some false
 else
 ac.l0 bar k n kind8 (IntKind.i64.wrap (i13+1)) t3 x2009 x2011
 else
 none
 else
 none
 else
 some true
 else
 some true:=by kernel_rfl
theorem dn.f_eq (bar:aF)(k:Nat)(a0:List aL)(a1:Int):dn.f bar (k+1) a0 a1=
 (bW.f bar k a0 a1).bind fun r_1=>
 bif r_1 then
 (rd a0 a1).bind fun e_2=>
 (cV.f bar k e_2.kind).bind fun r_3=>
 some r_3
 else
 some false:=by kernel_rfl
theorem bW.f_eq (bar:aF)(k:Nat)(a0:List aL)(a1:Int):bW.f bar (k+1) a0 a1=
 (ai.f bar k a0).bind fun r_1=>
 bif r_1 then
 bif decide (a1≥0) then
 some (decide (a1<((a0).length:Int)))
 else
 some false
 else
 some false:=by kernel_rfl
theorem bi.f_eq (bar:aF)(k:Nat)(a0:List Int)(a1:Int):bi.f bar (k+1) a0 a1=
 bi.l0 bar k k a0 a1 1:=by kernel_rfl
theorem bi.l0_eq (bar:aF)(k:Nat)(n:Nat)(xs0:List Int)(at_1:Int)(k_5:Int):bi.l0 bar k (n+1) xs0 at_1 k_5=
 bif decide ((IntKind.i64.wrap (at_1+k_5))<((xs0).length:Int)) then
 (rd xs0 (IntKind.i64.wrap (at_1+k_5))).bind fun e_1=>
 (rd xs0 at_1).bind fun e_2=>
 bif (e_1==e_2) then
 bi.l0 bar k n xs0 at_1 (IntKind.i64.wrap (k_5+1))
 else
 some k_5
 else
 some k_5:=by kernel_rfl
theorem aR.f_eq (bar:aF)(k:Nat)(a0:Int):aR.f bar (k+1) a0=
 (fq.f bar k a0).bind fun r_1=>
 bif (!r_1) then
 some (([]:List UInt8),300)
 else
 aR.l0 bar k k a0 ([]:List Int):=by kernel_rfl
theorem aR.l0_eq (bar:aF)(k:Nat)(n:Nat)(x0:Int)(x2004:List Int):aR.l0 bar k (n+1) x0 x2004=
 bif decide (x0>127) then
 bif decide (((x2004).length+(([IntKind.u8.wrap (aH .or .i64 (aH .and .i64 x0 127) 128)]:List Int)).length)*1≤140737488355328) then
 aR.l0 bar k n (Int.fdiv x0 (2 ^ (min 7 IntKind.i64.bits))) (x2004++([IntKind.u8.wrap (aH .or .i64 (aH .and .i64 x0 127) 128)]:List Int))
 else
 none
 else
 bif decide (((x2004).length+(([IntKind.u8.wrap x0]:List Int)).length)*1≤140737488355328) then
 some (ae (x2004++([IntKind.u8.wrap x0]:List Int)),0)
 else
 none:=by kernel_rfl
theorem b7.f_eq (bar:aF)(k:Nat)(a0:Int):b7.f bar (k+1) a0=
 some (IntKind.i64.wrap (Int.tdiv (IntKind.i64.wrap (a0+7)) 8)):=by kernel_rfl
theorem aE.f_eq (bar:aF)(k:Nat)(a0:List Int)(a1:Int):aE.f bar (k+1) a0 a1=
 aE.l0 bar k k a0 a1 0 ([]:List Bool):=by kernel_rfl
theorem aE.l0_eq (bar:aF)(k:Nat)(n:Nat)(xs0:List Int)(width1:Int)(i6:Int)(x2005:List Bool):aE.l0 bar k (n+1) xs0 width1 i6 x2005=
 bif decide (i6<(IntKind.i64.wrap ((IntKind.i64.wrap (Int.tdiv (IntKind.i64.wrap (((xs0).length:Int)+7)) 8))*8))) then
 aE.l2 bar k n k xs0 width1 i6 0 x2005
 else
 (aQ.f bar k x2005).bind fun r_1=>
 some r_1:=by kernel_rfl
theorem aE.l2_eq (bar:aF)(k:Nat)(m1:Nat)(n:Nat)(xs0:List Int)(width1:Int)(i6:Int)(j7:Int)(x2005:List Bool):aE.l2 bar k m1 (n+1) xs0 width1 i6 j7 x2005=
 bif decide (j7<width1) then
 bif decide (i6<((xs0).length:Int)) then
 (rd xs0 i6).bind fun e_1=>
 bif decide (j7<0) then
 none
 else
 bif decide (((x2005).length+(([((aH .and .i64 (Int.fdiv e_1 (2 ^ (min (j7).toNat IntKind.i64.bits))) 1)==1)]:List Bool)).length)*1≤140737488355328) then
 aE.l2 bar k m1 n xs0 width1 i6 (IntKind.i64.wrap (j7+1)) (x2005++([((aH .and .i64 (Int.fdiv e_1 (2 ^ (min (j7).toNat IntKind.i64.bits))) 1)==1)]:List Bool))
 else
 none
 else
 bif decide (((x2005).length+(([false]:List Bool)).length)*1≤140737488355328) then
 aE.l2 bar k m1 n xs0 width1 i6 (IntKind.i64.wrap (j7+1)) (x2005++([false]:List Bool))
 else
 none
 else
 aE.l0 bar k m1 xs0 width1 (IntKind.i64.wrap (i6+1)) x2005:=by kernel_rfl
theorem af.f_eq (bar:aF)(k:Nat)(a0:List UInt8):af.f bar (k+1) a0=
 bif (!(decide (((a0).length:Int)>65536))) then
 (ah.f bar k a0 0 4).bind fun r_1=>
 bif (r_1 != ((a0).length:Int)) then
 some (0,([]:List (List UInt8)),700)
 else
 (rd a0 0).bind fun b_2=>
 bif ((b_2.toNat:Int)==110) then
 some ((-1),([]:List (List UInt8)),0)
 else
 bif ((b_2.toNat:Int)==105) then
 bif decide (0≤IntKind.i64.wrap (((a0).length:Int) - 1))&&decide (IntKind.i64.wrap (((a0).length:Int) - 1)≤(((a0).length:Nat):Int)) then
 bif decide (0≤1)&&decide (1≤(((IntKind.i64.wrap (((a0).length:Int) - 1)).toNat:Nat):Int)) then
 some (0,([List.drop 1 (List.take ((IntKind.i64.wrap (((a0).length:Int) - 1)).toNat) a0)]:List (List UInt8)),0)
 else
 none
 else
 none
 else
 bif ((b_2.toNat:Int)==116) then
 bif ((b_2.toNat:Int)==116) then
 some (1,([a0]:List (List UInt8)),0)
 else
 bif ((b_2.toNat:Int)==115) then
 (aI.f bar k a0 0 58).bind fun r_3=>
 bif decide (0≤IntKind.i64.wrap (r_3+1))&&decide (IntKind.i64.wrap (r_3+1)≤(((a0).length:Nat):Int)) then
 some (2,([List.drop ((IntKind.i64.wrap (r_3+1)).toNat) (List.take ((a0).length) a0)]:List (List UInt8)),0)
 else
 none
 else
 bar _ (af.j13 bar k a0)
 else
 bif ((b_2.toNat:Int)==102) then
 some (1,([a0]:List (List UInt8)),0)
 else
 bif ((b_2.toNat:Int)==115) then
 (aI.f bar k a0 0 58).bind fun r_4=>
 bif decide (0≤IntKind.i64.wrap (r_4+1))&&decide (IntKind.i64.wrap (r_4+1)≤(((a0).length:Nat):Int)) then
 some (2,([List.drop ((IntKind.i64.wrap (r_4+1)).toNat) (List.take ((a0).length) a0)]:List (List UInt8)),0)
 else
 none
 else
 bar _ (af.j13 bar k a0)
 else
 some (0,([]:List (List UInt8)),700):=by kernel_rfl
theorem af.j13_eq (bar:aF)(k:Nat)(v0:List UInt8):af.j13 bar k v0=
 af.l1 bar k k v0 1 ([]:List (List UInt8)):=by kernel_rfl
theorem af.l1_eq (bar:aF)(k:Nat)(n:Nat)(v0:List UInt8)(at_6:Int)(x2005:List (List UInt8)):af.l1 bar k (n+1) v0 at_6 x2005=
 bif decide (at_6<(IntKind.i64.wrap (((v0).length:Int) - 1))) then
 (ah.f bar k v0 at_6 4).bind fun r_1=>
 bif decide (0≤r_1)&&decide (r_1≤(((v0).length:Nat):Int)) then
 bif decide (0≤at_6)&&decide (at_6≤(((r_1).toNat:Nat):Int)) then
 bif decide (((x2005).length+(([List.drop ((at_6).toNat) (List.take ((r_1).toNat) v0)]:List (List UInt8))).length)*16≤140737488355328) then
 af.l1 bar k n v0 r_1 (x2005++([List.drop ((at_6).toNat) (List.take ((r_1).toNat) v0)]:List (List UInt8)))
 else
 none
 else
 none
 else
 none
 else
 (rd v0 0).bind fun b_2=>
 bif ((b_2.toNat:Int)==91) then
 some (3,x2005,0)
 else
 some (4,x2005,0):=by kernel_rfl
theorem dj.f_eq (bar:aF)(k:Nat)(a0:List UInt8):dj.f bar (k+1) a0=
 (bI.f bar k ([(aL.mk 0 (-1) false)]:List aL) 0 ([a0]:List (List UInt8))).bind fun r_1=>
 some r_1.1.data:=by kernel_rfl
theorem fK.f_eq (bar:aF)(k:Nat)(a0:List Int)(a1:Int):fK.f bar (k+1) a0 a1=
 (fo.f bar k (IntKind.u64.wrap a1)).bind fun r_1=>
 (bV.f bar k a0 r_1).bind fun r_2=>
 some r_2.1:=by kernel_rfl
theorem gC.f_eq (bar:aF)(k:Nat)(a0:List UInt8):gC.f bar (k+1) a0=
 (dz.f bar k a0).bind fun r_1=>
 bif (r_1.1==0) then
 bif decide (0≤0)&&decide (0<((r_1.2.1).length:Int)) then
 (r_1.2.1[0]?).bind fun e_2=>
 (dN.f bar k e_2).bind fun r_3=>
 (dD.f bar k r_3.1 8).bind fun r_4=>
 some r_4
 else
 none
 else
 bif (r_1.1==1) then
 bif decide (0≤0)&&decide (0<((r_1.2.1).length:Int)) then
 (r_1.2.1[0]?).bind fun e_5=>
 (rd e_5 0).bind fun b_6=>
 (ck.f bar k ([IntKind.i64.wrap (b_6.toNat:Int)]:List Int) 116).bind fun r_7=>
 (dD.f bar k r_7 1).bind fun r_8=>
 some r_8
 else
 none
 else
 bif decide (0≤0)&&decide (0<((r_1.2.1).length:Int)) then
 (r_1.2.1[0]?).bind fun e_9=>
 (dD.f bar k ((e_9).length:Int) 4).bind fun r_10=>
 bif decide (0≤0)&&decide (0<((r_1.2.1).length:Int)) then
 (r_1.2.1[0]?).bind fun e_11=>
 bif decide ((r_10).length+(e_11).length≤9223372036854775807) then
 some (r_10++e_11)
 else
 none
 else
 none
 else
 none:=by kernel_rfl
theorem cK.f_eq (bar:aF)(k:Nat)(a0:List UInt8):cK.f bar (k+1) a0=
 cK.l0 bar k k a0 4294967295 ((a0).length:Int) 0:=by kernel_rfl
theorem cK.l0_eq (bar:aF)(k:Nat)(n:Nat)(s0:List UInt8)(sum3:Int)(x7:Int)(x8:Int):cK.l0 bar k (n+1) s0 sum3 x7 x8=
 bif decide (x8<x7) then
 (rd s0 x8).bind fun b_1=>
 cK.l2 bar k n k s0 (aH .xor .u32 sum3 (IntKind.u32.wrap (b_1.toNat:Int))) x7 x8 0
 else
 some (IntKind.i64.wrap (aH .xor .u32 sum3 4294967295)):=by kernel_rfl
theorem cK.l2_eq (bar:aF)(k:Nat)(m1:Nat)(n:Nat)(s0:List UInt8)(sum3:Int)(x7:Int)(x8:Int)(x17:Int):cK.l2 bar k m1 (n+1) s0 sum3 x7 x8 x17=
 bif decide (x17<8) then
 cK.l2 bar k m1 n s0 (aH .xor .u32 (Int.fdiv sum3 (2 ^ (min 1 IntKind.u32.bits))) (IntKind.u32.wrap (3988292384*(aH .and .u32 sum3 1)))) x7 x8 (IntKind.i64.wrap (x17+1))
 else
 cK.l0 bar k m1 s0 sum3 x7 (IntKind.i64.wrap (x8+1)):=by kernel_rfl
theorem ck.f_eq (bar:aF)(k:Nat)(a0:List Int)(a1:Int):ck.f bar (k+1) a0 a1=
 ck.l0 bar k k a1 0 a0 ((a0).length:Int) 0:=by kernel_rfl
theorem ck.l0_eq (bar:aF)(k:Nat)(n:Nat)(one1:Int)(out5:Int)(x8:List Int)(x9:Int)(x10:Int):ck.l0 bar k (n+1) one1 out5 x8 x9 x10=
 bif decide (x10<x9) then
 (rd x8 x10).bind fun e_1=>
 bif (e_1==one1) then
 ck.l0 bar k n one1 (IntKind.i64.wrap (out5+1)) x8 x9 (IntKind.i64.wrap (x10+1))
 else
 ck.l0 bar k n one1 out5 x8 x9 (IntKind.i64.wrap (x10+1))
 else
 some out5:=by kernel_rfl
theorem cq.f_eq (bar:aF)(k:Nat)(a0:List Int)(a1:Int):cq.f bar (k+1) a0 a1=
 cq.l0 bar k k a1 a0 ((a0).length:Int) 0:=by kernel_rfl
theorem cq.l0_eq (bar:aF)(k:Nat)(n:Nat)(most1:Int)(x7:List Int)(x8:Int)(x9:Int):cq.l0 bar k (n+1) most1 x7 x8 x9=
 bif decide (x9<x8) then
 (rd x7 x9).bind fun e_1=>
 bif (!(decide (e_1<0))) then
 bif decide (e_1>most1) then
 some false
 else
 cq.l0 bar k n most1 x7 x8 (IntKind.i64.wrap (x9+1))
 else
 some false
 else
 some true:=by kernel_rfl
theorem kB.f_eq (bar:aF)(k:Nat):kB.f bar (k+1)=
 some ([110]:List UInt8):=by kernel_rfl
theorem cL.f_eq (bar:aF)(k:Nat)(a0:List aL)(a1:Int)(a2:List UInt8):cL.f bar (k+1) a0 a1 a2=
 (eX.f bar k a0 a1).bind fun r_1=>
 bif (!r_1) then
 some false
 else
 (dz.f bar k a2).bind fun r_2=>
 (rd a0 a1).bind fun e_3=>
 bif (!(r_2.2.2 != 0)) then
 bif (r_2.1==(-1)) then
 bif (r_2.2.2==0) then
 some e_3.null
 else
 some false
 else
 (jc.f bar k a0 a1).bind fun r_4=>
 bif (r_2.1 != e_3.kind) then
 some false
 else
 bif (r_2.1==2) then
 bif decide (0≤0)&&decide (0<((r_2.2.1).length:Int)) then
 (r_2.2.1[0]?).bind fun e_5=>
 some (decide (((e_5).length:Int)≤16))
 else
 none
 else
 bif (r_2.1==4) then
 (fZ.f bar k r_4.1 r_2.2.1 a0).bind fun r_6=>
 some r_6
 else
 cL.l1 bar k k r_2.2.1 r_2.1 ((r_2.2.1).length:Int) 0 a0 r_4.1
 else
 bif (r_2.2.2==0) then
 some e_3.null
 else
 some false:=by kernel_rfl
theorem cL.l1_eq (bar:aF)(k:Nat)(n:Nat)(x70:List (List UInt8))(kind7:Int)(x71:Int)(x72:Int)(t3:List aL)(x2011:List Int):cL.l1 bar k (n+1) x70 kind7 x71 x72 t3 x2011=
 bif decide (x72<x71) then
 (rd x70 x72).bind fun e_1=>
 bif (kind7==3) then
 bif decide (0≤0)&&decide (0<((x2011).length:Int)) then
 (x2011[0]?).bind fun e_2=>
 (vt.f bar k e_2 e_1 t3).bind fun r_3=>
 bif (!r_3) then
 some false
 else
 cL.l1 bar k n x70 kind7 x71 (IntKind.i64.wrap (x72+1)) t3 x2011
 else
 none
 else
 cL.l1 bar k n x70 kind7 x71 (IntKind.i64.wrap (x72+1)) t3 x2011
 else
 some (decide (((x70).length:Int)≤64)):=by kernel_rfl
theorem eX.f_eq (bar:aF)(k:Nat)(a0:List aL)(a1:Int):eX.f bar (k+1) a0 a1=
 (bK.f bar k a0).bind fun r_1=>
 bif r_1 then
 bif decide (a1≥0) then
 some (decide (a1<((a0).length:Int)))
 else
 some false
 else
 some false:=by kernel_rfl
theorem cA.f_eq (bar:aF)(k:Nat)(a0:List aL)(a1:Int):cA.f bar (k+1) a0 a1=
 cA.l0 bar k k a0 a1 ([]:List Int):=by kernel_rfl
theorem cA.l0_eq (bar:aF)(k:Nat)(n:Nat)(t0:List aL)(at_1:Int)(x2005:List Int):cA.l0 bar k (n+1) t0 at_1 x2005=
 bif decide (at_1≥0) then
 bif decide (((x2005).length+(([at_1]:List Int)).length)*8≤140737488355328) then
 (rd t0 at_1).bind fun e_1=>
 cA.l0 bar k n t0 e_1.parent (x2005++([at_1]:List Int))
 else
 none
 else
 some x2005:=by kernel_rfl
theorem eH.f_eq (bar:aF)(k:Nat)(a0:List UInt8):eH.f bar (k+1) a0=
 eH.l0 bar k k a0 0 ((a0).length:Int) 0:=by kernel_rfl
theorem eH.l0_eq (bar:aF)(k:Nat)(n:Nat)(s0:List UInt8)(out3:Int)(x6:Int)(x7:Int):eH.l0 bar k (n+1) s0 out3 x6 x7=
 bif decide (x7<x6) then
 (rd s0 x7).bind fun b_1=>
 bif decide (IntKind.i64.wrap (8*x7)<0) then
 none
 else
 eH.l0 bar k n s0 (aH .or .u64 out3 (IntKind.u64.wrap ((IntKind.u64.wrap (b_1.toNat:Int))*2 ^ (min (IntKind.i64.wrap (8*x7)).toNat IntKind.u64.bits)))) x6 (IntKind.i64.wrap (x7+1))
 else
 some (IntKind.i64.wrap out3):=by kernel_rfl
theorem b9.f_eq (bar:aF)(k:Nat)(a0_0:List UInt8)(a0_1:Bool):b9.f bar (k+1) a0_0 a0_1=
 (nW.f bar k a0_0 0 4).bind fun r_1=>
 bif (!a0_1) then
 (bJ.f bar k a0_0 (r_1.2 != 0) 4).bind fun r_2=>
 some (r_1.1,(r_2.2.1,r_2.2.2))
 else
 (bJ.f bar k a0_0 true 4).bind fun r_3=>
 some (r_1.1,(r_3.2.1,r_3.2.2)):=by kernel_rfl
theorem bg.f_eq (bar:aF)(k:Nat)(a0:List UInt8)(a1:Int)(a2:Int):bg.f bar (k+1) a0 a1 a2=
 bif (!(decide (a1<0))) then
 bif (!(decide (a1>16))) then
 bif (!(decide (a2<0))) then
 bif decide (a2>4096) then
 some (([]:List Int),2100)
 else
 bg.l0 bar k k a0 a1 a2 a0 a1 ([]:List Int) false
 else
 some (([]:List Int),2100)
 else
 some (([]:List Int),2100)
 else
 some (([]:List Int),2100):=by kernel_rfl
theorem bg.l0_eq (bar:aF)(k:Nat)(n:Nat)(s0:List UInt8)(width1:Int)(count2:Int)(x32:List UInt8)(x32_1:Int)(x32_2:List Int)(x32_3:Bool):bg.l0 bar k (n+1) s0 width1 count2 x32 x32_1 x32_2 x32_3=
 bif (!x32_3) then
 bif decide (((x32_2).length:Int)<count2) then
 (db.f bar k x32 0).bind fun r_1=>
 bif decide (0≤r_1.2.1)&&decide (r_1.2.1≤(((x32).length:Nat):Int)) then
 bif ((Int.tmod r_1.1 2)==0) then
 (ek.f bar k (List.drop ((r_1.2.1).toNat) (List.take ((x32).length) x32)) x32_1 x32_2 (r_1.2.2 != 0) (IntKind.i64.wrap (Int.tdiv r_1.1 2)) (IntKind.i64.wrap (count2 - ((x32_2).length:Int)))).bind fun r_2=>
 bar _ (bg.j12 bar k n s0 width1 count2 r_1.1 r_2.1 r_2.2.1 r_2.2.2.1 r_2.2.2.2)
 else
 (am.f bar k (List.drop ((r_1.2.1).toNat) (List.take ((x32).length) x32)) x32_1 x32_2 (r_1.2.2 != 0) (IntKind.i64.wrap (Int.tdiv r_1.1 2)) (IntKind.i64.wrap (count2 - ((x32_2).length:Int)))).bind fun r_3=>
 bar _ (bg.j12 bar k n s0 width1 count2 r_1.1 r_3.1 r_3.2.1 r_3.2.2.1 r_3.2.2.2)
 else
 none
 else
 (bV.f bar k x32_2 width1).bind fun r_4=>
 bif (!x32_3) then
 bif (!(r_4.2 != 0)) then
 bif (!(r_4.1 != s0)) then
 bif (((x32_2).length:Int) != count2) then
 some (([]:List Int),2100)
 else
 some (x32_2,0)
 else
 some (([]:List Int),2100)
 else
 some (([]:List Int),2100)
 else
 some (([]:List Int),2100)
 else
 (bV.f bar k x32_2 width1).bind fun r_5=>
 bif (!x32_3) then
 bif (!(r_5.2 != 0)) then
 bif (!(r_5.1 != s0)) then
 bif (((x32_2).length:Int) != count2) then
 some (([]:List Int),2100)
 else
 some (x32_2,0)
 else
 some (([]:List Int),2100)
 else
 some (([]:List Int),2100)
 else
 some (([]:List Int),2100):=by kernel_rfl
theorem bg.j12_eq (bar:aF)(k:Nat)(m1:Nat)(s0:List UInt8)(width1:Int)(count2:Int)(head9:Int)(x32:List UInt8)(x32_1:Int)(x32_2:List Int)(x32_3:Bool):bg.j12 bar k m1 s0 width1 count2 head9 x32 x32_1 x32_2 x32_3=
 bif (!x32_3) then
 bg.l0 bar k m1 s0 width1 count2 x32 x32_1 x32_2 (decide (head9<2))
 else
 bg.l0 bar k m1 s0 width1 count2 x32 x32_1 x32_2 true:=by kernel_rfl
theorem bJ.f_eq (bar:aF)(k:Nat)(a0_0:List UInt8)(a0_1:Bool)(a1:Int):bJ.f bar (k+1) a0_0 a0_1 a1=
 bif (!a0_1) then
 bif (!(decide (a1<0))) then
 bif decide (a1>((a0_0).length:Int)) then
 some (([]:List UInt8),(a0_0,true))
 else
 bif decide (0≤a1)&&decide (a1≤(((a0_0).length:Nat):Int)) then
 bif decide (0≤a1)&&decide (a1≤(((a0_0).length:Nat):Int)) then
 some (List.drop 0 (List.take ((a1).toNat) a0_0),(List.drop ((a1).toNat) (List.take ((a0_0).length) a0_0),a0_1))
 else
 none
 else
 none
 else
 some (([]:List UInt8),(a0_0,true))
 else
 some (([]:List UInt8),(a0_0,true)):=by kernel_rfl
theorem em.f_eq (bar:aF)(k:Nat)(a0_0:List UInt8)(a0_1:Bool)(a1:Int):em.f bar (k+1) a0_0 a0_1 a1=
 bif (a1==0) then
 (bJ.f bar k a0_0 a0_1 8).bind fun r_1=>
 (eH.f bar k r_1.1).bind fun r_2=>
 (kc.f bar k r_2).bind fun r_3=>
 some (r_3,(r_1.2.1,r_1.2.2))
 else
 bif (a1==1) then
 (bJ.f bar k a0_0 a0_1 1).bind fun r_4=>
 (eH.f bar k r_4.1).bind fun r_5=>
 (iL.f bar k (r_5==1)).bind fun r_6=>
 some (r_6,(r_4.2.1,r_4.2.2))
 else
 (fD.f bar k a0_0 a0_1).bind fun r_7=>
 (ic.f bar k r_7.1).bind fun r_8=>
 some (r_8,(r_7.2.1,r_7.2.2)):=by kernel_rfl
theorem fY.f_eq (bar:aF)(k:Nat)(a0:Int):fY.f bar (k+1) a0=
 bif (!(a0==3)) then
 some (a0==4)
 else
 some true:=by kernel_rfl
theorem aU.f_eq (bar:aF)(k:Nat)(a0:List (List UInt8))(a1:List (List UInt8)):aU.f bar (k+1) a0 a1=
 bif (((a0).length:Int) != ((a1).length:Int)) then
 some false
 else
 aU.l0 bar k k a0 a1 0:=by kernel_rfl
end Go.Proofs.YtjkokaockhecnaaGreatDoorA
