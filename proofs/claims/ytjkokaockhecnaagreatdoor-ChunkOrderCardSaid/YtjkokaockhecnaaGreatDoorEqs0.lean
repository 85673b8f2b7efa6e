/- Each function and each loop of the program answers as its equation says; no condition. -/
import Derived.Test.YtjkokaockhecnaaGreatDoorFns
namespace Go.Proofs.YtjkokaockhecnaaGreatDoorA
open Go
set_option linter.unusedVariables false
theorem ck.f_eq (bar:aD)(k:Nat)(a0:List bg)(a1:Int)(a2:Col)(a3:Col)(a4:Int):ck.f bar (k+1) a0 a1 a2 a3 a4=
 (cD.f bar k).bind fun r_1=>
 bif (!r_1) then
 some false
 else
 (aC.f bar k a0 a1 a2 (IntKind.i64.wrap (1+(ax .and .i64 a4 15)))).bind fun r_2=>
 (aC.f bar k a0 a1 a3 (IntKind.i64.wrap (1+(ax .and .i64 a4 15)))).bind fun r_3=>
 (aZ.f bar k r_2.2).bind fun r_4=>
 bif (!(r_4 != 0)) then
 (aZ.f bar k r_3.2).bind fun r_5=>
 bif (!(r_5 != 0)) then
 bif decide ((IntKind.i64.wrap (((a2.reps).length:Int)+((a3.reps).length:Int)))>4096) then
 some true
 else
 bif decide (((([]:List (List UInt8))).length+(r_2.1).length)*16≤140737488355328) then
 bif decide (((([]:List (List UInt8))++r_2.1).length+(r_3.1).length)*16≤140737488355328) then
 (aI.f bar k a0 a1 ((([]:List (List UInt8))++r_2.1)++r_3.1)).bind fun r_6=>
 (bY.f bar k a2).bind fun r_7=>
 bif decide (((r_7.1).length+(a3.reps).length)*8≤140737488355328) then
 bif decide (((r_7.2.1).length+(a3.defs).length)*8≤140737488355328) then
 bif decide (((r_7.2.2).length+(a3.values).length)*16≤140737488355328) then
 (aZ.f bar k r_6.2).bind fun r_8=>
 bif (r_8==0) then
 (aM.f bar k (Col.mk r_6.1.1 r_6.1.2.1 r_6.1.2.2) (Col.mk (r_7.1++a3.reps) (r_7.2.1++a3.defs) (r_7.2.2++a3.values))).bind fun r_9=>
 some r_9
 else
 some false
 else
 none
 else
 none
 else
 none
 else
 none
 else
 none
 else
 some true
 else
 some true:=by kernel_rfl
theorem aZ.f_eq (bar:aD)(k:Nat)(a0:Int):aZ.f bar (k+1) a0=
 some a0:=by kernel_rfl
theorem bY.f_eq (bar:aD)(k:Nat)(a0:Col):bY.f bar (k+1) a0=
 bif decide ((a0.reps).length*8≤140737488355328) then
 bif decide ((a0.defs).length*8≤140737488355328) then
 bif decide ((a0.values).length*16≤140737488355328) then
 some (a0.reps,a0.defs,a0.values)
 else
 none
 else
 none
 else
 none:=by kernel_rfl
theorem aM.f_eq (bar:aD)(k:Nat)(a0:Col)(a1:Col):aM.f bar (k+1) a0 a1=
 (au.f bar k a0.reps a1.reps).bind fun r_1=>
 bif r_1 then
 (au.f bar k a0.defs a1.defs).bind fun r_2=>
 bif r_2 then
 (aw.f bar k a0.values a1.values).bind fun r_3=>
 some r_3
 else
 some false
 else
 some false:=by kernel_rfl
theorem aC.f_eq (bar:aD)(k:Nat)(a0:List bg)(a1:Int)(a2:Col)(a3:Int):aC.f bar (k+1) a0 a1 a2 a3=
 (cw.f bar k a0 a1 a2).bind fun r_1=>
 bif (!(!r_1)) then
 bif (!(decide (a3<1))) then
 bif decide (((a2.reps).length:Int)>0) then
 (rd a2.reps 0).bind fun e_2=>
 bif (e_2 != 0) then
 some (([]:List (List UInt8)),2300)
 else
 (aA.f bar k a0 a1).bind fun r_3=>
 aC.l0 bar k k a1 a3 r_3.2.1 a0 a2.reps a2.defs a2.values ([]:List (List UInt8))
 else
 (aA.f bar k a0 a1).bind fun r_4=>
 aC.l0 bar k k a1 a3 r_4.2.1 a0 a2.reps a2.defs a2.values ([]:List (List UInt8))
 else
 some (([]:List (List UInt8)),2300)
 else
 some (([]:List (List UInt8)),2300):=by kernel_rfl
theorem aC.l0_eq (bar:aD)(k:Nat)(n:Nat)(leaf1:Int)(limit3:Int)(def_11:Int)(t4:List bg)(c6:List Int)(c6_1:List Int)(c6_2:List (List UInt8))(x2013:List (List UInt8)):aC.l0 bar k (n+1) leaf1 limit3 def_11 t4 c6 c6_1 c6_2 x2013=
 bif decide (((c6).length:Int)>0) then
 (aW.f bar k (Col.mk c6 c6_1 c6_2) limit3 def_11).bind fun r_1=>
 bif decide (0≤r_1.1)&&decide (r_1.1≤(((c6).length:Nat):Int)) then
 bif decide (0≤r_1.1)&&decide (r_1.1≤(((c6_1).length:Nat):Int)) then
 bif decide (0≤r_1.2)&&decide (r_1.2≤(((c6_2).length:Nat):Int)) then
 (aV.f bar k t4 leaf1 (Col.mk (List.drop 0 (List.take ((r_1.1).toNat) c6)) (List.drop 0 (List.take ((r_1.1).toNat) c6_1)) (List.drop 0 (List.take ((r_1.2).toNat) c6_2)))).bind fun r_2=>
 bif decide (((x2013).length+(([r_2.1]:List (List UInt8))).length)*16≤140737488355328) then
 bif decide (0≤r_1.1)&&decide (r_1.1≤(((c6).length:Nat):Int)) then
 bif decide (0≤r_1.1)&&decide (r_1.1≤(((c6_1).length:Nat):Int)) then
 bif decide (0≤r_1.2)&&decide (r_1.2≤(((c6_2).length:Nat):Int)) then
 aC.l0 bar k n leaf1 limit3 def_11 t4 (List.drop ((r_1.1).toNat) (List.take ((c6).length) c6)) (List.drop ((r_1.1).toNat) (List.take ((c6_1).length) c6_1)) (List.drop ((r_1.2).toNat) (List.take ((c6_2).length) c6_2)) (x2013++([r_2.1]:List (List UInt8)))
 else
 none
 else
 none
 else
 none
 else
 none
 else
 none
 else
 none
 else
 none
 else
 some (x2013,0):=by kernel_rfl
theorem aI.f_eq (bar:aD)(k:Nat)(a0:List bg)(a1:Int)(a2:List (List UInt8)):aI.f bar (k+1) a0 a1 a2=
 (dI.f bar k a0 a1).bind fun r_1=>
 aI.l0 bar k k a1 r_1 a2 ((a2).length:Int) 0 a0 ([]:List Int) ([]:List Int) ([]:List (List UInt8)):=by kernel_rfl
theorem aI.l0_eq (bar:aD)(k:Nat)(n:Nat)(leaf1:Int)(is9:Bool)(x17:List (List UInt8))(x18:Int)(x19:Int)(t3:List bg)(out8:List Int)(out8_1:List Int)(out8_2:List (List UInt8)):aI.l0 bar k (n+1) leaf1 is9 x17 x18 x19 t3 out8 out8_1 out8_2=
 bif decide (x19<x18) then
 (rd x17 x19).bind fun e_1=>
 (bX.f bar k t3 leaf1 e_1).bind fun r_2=>
 bif (!(r_2.2 != 0)) then
 bif (!(((r_2.1.1).length:Int)==0)) then
 bif decide (0≤0)&&decide (0<((r_2.1.1).length:Int)) then
 (r_2.1.1[0]?).bind fun e_3=>
 bif (!(e_3 != 0)) then
 bif decide ((IntKind.i64.wrap (((out8).length:Int)+((r_2.1.1).length:Int)))>4096) then
 some ((([]:List Int),([]:List Int),([]:List (List UInt8))),2300)
 else
 bif decide (((out8).length+(r_2.1.1).length)*8≤140737488355328) then
 bif decide (((out8_1).length+(r_2.1.2.1).length)*8≤140737488355328) then
 bif decide (((out8_2).length+(r_2.1.2.2).length)*16≤140737488355328) then
 aI.l0 bar k n leaf1 is9 x17 x18 (IntKind.i64.wrap (x19+1)) t3 (out8++r_2.1.1) (out8_1++r_2.1.2.1) (out8_2++r_2.1.2.2)
 else
 none
 else
 none
 else
 none
 else
 some ((([]:List Int),([]:List Int),([]:List (List UInt8))),2300)
 else
 none
 else
 some ((([]:List Int),([]:List Int),([]:List (List UInt8))),2300)
 else
 some ((([]:List Int),([]:List Int),([]:List (List UInt8))),2300)
 else
 bif (!is9) then
 some ((([]:List Int),([]:List Int),([]:List (List UInt8))),2300)
 else
 some ((out8,out8_1,out8_2),0):=by kernel_rfl
theorem cD.f_eq (bar:aD)(k:Nat):cD.f bar (k+1)=
 (bm.f bar k).bind fun r_1=>
 (aC.f bar k r_1 0 (Col.mk ([0,0,0]:List Int) ([1,0,1]:List Int) ([([105,53,59]:List UInt8),([105,54,59]:List UInt8)]:List (List UInt8))) 2).bind fun r_2=>
 (bm.f bar k).bind fun r_3=>
 (aI.f bar k r_3 0 r_2.1).bind fun r_4=>
 (bm.f bar k).bind fun r_5=>
 (aC.f bar k r_5 0 (Col.mk ([0,0,0]:List Int) ([1,0,1]:List Int) ([([105,53,59]:List UInt8),([105,54,59]:List UInt8)]:List (List UInt8))) 0).bind fun r_6=>
 (bm.f bar k).bind fun r_7=>
 (aI.f bar k r_7 0 ([([]:List UInt8)]:List (List UInt8))).bind fun r_8=>
 (bm.f bar k).bind fun r_9=>
 (aI.f bar k r_9 0 ([]:List (List UInt8))).bind fun r_10=>
 bif (((r_2.1).length:Int)==2) then
 (aZ.f bar k r_2.2).bind fun r_11=>
 bif (r_11==0) then
 (aM.f bar k (Col.mk ([0,0,0]:List Int) ([1,0,1]:List Int) ([([105,53,59]:List UInt8),([105,54,59]:List UInt8)]:List (List UInt8))) (Col.mk r_4.1.1 r_4.1.2.1 r_4.1.2.2)).bind fun r_12=>
 bif r_12 then
 (aZ.f bar k r_4.2).bind fun r_13=>
 bif (r_13==0) then
 (aZ.f bar k r_6.2).bind fun r_14=>
 bif (r_14==2300) then
 (aZ.f bar k r_8.2).bind fun r_15=>
 bif (r_15==2300) then
 (aM.f bar k (Col.mk r_10.1.1 r_10.1.2.1 r_10.1.2.2) (Col.mk ([]:List Int) ([]:List Int) ([]:List (List UInt8)))).bind fun r_16=>
 bif r_16 then
 (aZ.f bar k r_10.2).bind fun r_17=>
 some (r_17==0)
 else
 some false
 else
 some false
 else
 some false
 else
 some false
 else
 some false
 else
 some false
 else
 some false:=by kernel_rfl
theorem aw.f_eq (bar:aD)(k:Nat)(a0:List (List UInt8))(a1:List (List UInt8)):aw.f bar (k+1) a0 a1=
 bif (((a0).length:Int) != ((a1).length:Int)) then
 some false
 else
 aw.l0 bar k k a0 a1 0:=by kernel_rfl
theorem aw.l0_eq (bar:aD)(k:Nat)(n:Nat)(a0:List (List UInt8))(b1:List (List UInt8))(i5:Int):aw.l0 bar k (n+1) a0 b1 i5=
 bif decide (i5<((a0).length:Int)) then
 (rd a0 i5).bind fun e_1=>
 (rd b1 i5).bind fun e_2=>
 bif (e_1 != e_2) then
 some false
 else
 aw.l0 bar k n a0 b1 (IntKind.i64.wrap (i5+1))
 else
 some true:=by kernel_rfl
theorem au.f_eq (bar:aD)(k:Nat)(a0:List Int)(a1:List Int):au.f bar (k+1) a0 a1=
 bif (((a0).length:Int) != ((a1).length:Int)) then
 some false
 else
 au.l0 bar k k a0 a1 0:=by kernel_rfl
theorem au.l0_eq (bar:aD)(k:Nat)(n:Nat)(a0:List Int)(b1:List Int)(i5:Int):au.l0 bar k (n+1) a0 b1 i5=
 bif decide (i5<((a0).length:Int)) then
 (rd a0 i5).bind fun e_1=>
 (rd b1 i5).bind fun e_2=>
 bif (e_1 != e_2) then
 some false
 else
 au.l0 bar k n a0 b1 (IntKind.i64.wrap (i5+1))
 else
 some true:=by kernel_rfl
theorem aV.f_eq (bar:aD)(k:Nat)(a0:List bg)(a1:Int)(a2:Col):aV.f bar (k+1) a0 a1 a2=
 (cw.f bar k a0 a1 a2).bind fun r_1=>
 bif (!r_1) then
 some (([]:List UInt8),2200)
 else
 (aA.f bar k a0 a1).bind fun r_2=>
 (ez.f bar k a2.reps r_2.1).bind fun r_3=>
 (ez.f bar k a2.defs r_2.2.1).bind fun r_4=>
 aV.l0 bar k k r_3 r_4 ((([((a2.reps).length:Int),((r_3).length:Int),((r_4).length:Int)]:List Int)).length:Int) 0 a2.reps a2.defs a2.values ([]:List Int) ([((a2.reps).length:Int),((r_3).length:Int),((r_4).length:Int)]:List Int):=by kernel_rfl
theorem aV.l0_eq (bar:aD)(k:Nat)(n:Nat)(reps11:List UInt8)(defs12:List UInt8)(x46:Int)(x47:Int)(c5:List Int)(c5_1:List Int)(c5_2:List (List UInt8))(body13:List Int)(x2045:List Int):aV.l0 bar k (n+1) reps11 defs12 x46 x47 c5 c5_1 c5_2 body13 x2045=
 bif decide (x47<x46) then
 bif decide (0≤x47)&&decide (x47<((x2045).length:Int)) then
 (x2045[(x47).toNat]?).bind fun e_1=>
 (cu.f bar k e_1 4).bind fun r_2=>
 bif decide ((body13).length+(r_2).length≤140737488355328) then
 aV.l0 bar k n reps11 defs12 x46 (IntKind.i64.wrap (x47+1)) c5 c5_1 c5_2 (body13++aH r_2) x2045
 else
 none
 else
 none
 else
 bif decide ((reps11).length+(defs12).length≤9223372036854775807) then
 bif decide ((body13).length+(reps11++defs12).length≤140737488355328) then
 aV.l2 bar k k c5_2 ((c5_2).length:Int) 0 (body13++aH (reps11++defs12))
 else
 none
 else
 none:=by kernel_rfl
theorem aV.l2_eq (bar:aD)(k:Nat)(n:Nat)(x60:List (List UInt8))(x61:Int)(x62:Int)(body13:List Int):aV.l2 bar k (n+1) x60 x61 x62 body13=
 bif decide (x62<x61) then
 (rd x60 x62).bind fun e_1=>
 (fk.f bar k e_1).bind fun r_2=>
 bif decide ((body13).length+(r_2).length≤140737488355328) then
 aV.l2 bar k n x60 x61 (IntKind.i64.wrap (x62+1)) (body13++aH r_2)
 else
 none
 else
 (bU.f bar k (ab body13)).bind fun r_3=>
 (cu.f bar k r_3 4).bind fun r_4=>
 bif decide ((r_4).length+(ab body13).length≤9223372036854775807) then
 some (r_4++(ab body13),0)
 else
 none:=by kernel_rfl
theorem cw.f_eq (bar:aD)(k:Nat)(a0:List bg)(a1:Int)(a2:Col):cw.f bar (k+1) a0 a1 a2=
 (aA.f bar k a0 a1).bind fun r_1=>
 (dI.f bar k a0 a1).bind fun r_2=>
 bif (!(!r_2)) then
 bif (!(((a2.reps).length:Int) != ((a2.defs).length:Int))) then
 bif (!(decide (((a2.reps).length:Int)>4096))) then
 (bA.f bar k a2.reps r_1.1).bind fun r_3=>
 bif (!(!r_3)) then
 (bA.f bar k a2.defs r_1.2.1).bind fun r_4=>
 bif (!r_4) then
 some false
 else
 cw.l0 bar k k a1 r_1.2.1 a2.values ((a2.values).length:Int) 0 a0 a2.reps a2.defs
 else
 some false
 else
 some false
 else
 some false
 else
 some false:=by kernel_rfl
theorem cw.l0_eq (bar:aD)(k:Nat)(n:Nat)(leaf1:Int)(def_8:Int)(x53:List (List UInt8))(x54:Int)(x55:Int)(t3:List bg)(c5:List Int)(c5_1:List Int):cw.l0 bar k (n+1) leaf1 def_8 x53 x54 x55 t3 c5 c5_1=
 bif decide (x55<x54) then
 (rd x53 x55).bind fun e_1=>
 (iO.f bar k).bind fun r_2=>
 bif (!(e_1==r_2)) then
 (bR.f bar k t3 leaf1 e_1).bind fun r_3=>
 bif (!r_3) then
 some false
 else
 cw.l0 bar k n leaf1 def_8 x53 x54 (IntKind.i64.wrap (x55+1)) t3 c5 c5_1
 else
 some false
 else
 (bu.f bar k c5_1 def_8).bind fun r_4=>
 some (((x53).length:Int)==r_4):=by kernel_rfl
theorem aA.f_eq (bar:aD)(k:Nat)(a0:List bg)(a1:Int):aA.f bar (k+1) a0 a1=
 (dJ.f bar k a0 a1).bind fun r_1=>
 bif (!r_1) then
 some (0,0,500)
 else
 (bI.f bar k a0 a1).bind fun r_2=>
 aA.l0 bar k k 0 0 ((r_2).length:Int) 0 a0 r_2:=by kernel_rfl
theorem aA.l0_eq (bar:aD)(k:Nat)(n:Nat)(rep7:Int)(def_8:Int)(x17:Int)(x18:Int)(t2:List bg)(x2016:List Int):aA.l0 bar k (n+1) rep7 def_8 x17 x18 t2 x2016=
 bif decide (x18<x17) then
 bif decide (0≤x18)&&decide (x18<((x2016).length:Int)) then
 (x2016[(x18).toNat]?).bind fun e_1=>
 (rd t2 e_1).bind fun e_2=>
 bif (e_2.kind==3) then
 (rd t2 e_1).bind fun e_3=>
 bif e_3.null then
 aA.l0 bar k n (IntKind.i64.wrap (rep7+1)) (IntKind.i64.wrap ((IntKind.i64.wrap (def_8+1))+1)) x17 (IntKind.i64.wrap (x18+1)) t2 x2016
 else
 aA.l0 bar k n (IntKind.i64.wrap (rep7+1)) (IntKind.i64.wrap (def_8+1)) x17 (IntKind.i64.wrap (x18+1)) t2 x2016
 else
 (rd t2 e_1).bind fun e_4=>
 bif e_4.null then
 aA.l0 bar k n rep7 (IntKind.i64.wrap (def_8+1)) x17 (IntKind.i64.wrap (x18+1)) t2 x2016
 else
 aA.l0 bar k n rep7 def_8 x17 (IntKind.i64.wrap (x18+1)) t2 x2016
 else
 none
 else
 some (rep7,def_8,0):=by kernel_rfl
theorem aW.f_eq (bar:aD)(k:Nat)(a0:Col)(a1:Int)(a2:Int):aW.f bar (k+1) a0 a1 a2=
 aW.l0 bar k k a0.reps a0.defs a0.values a1 a2 0 0 ((a0.reps).length:Int) 0:=by kernel_rfl
theorem aW.l0_eq (bar:aD)(k:Nat)(n:Nat)(c0:List Int)(c0_1:List Int)(c0_2:List (List UInt8))(records1:Int)(def_2:Int)(seen8:Int)(values9:Int)(x16:Int)(x17:Int):aW.l0 bar k (n+1) c0 c0_1 c0_2 records1 def_2 seen8 values9 x16 x17=
 bif decide (x17<x16) then
 (rd c0 x17).bind fun e_1=>
 bif (e_1==0) then
 bif (seen8==records1) then
 some (x17,values9)
 else
 bar _ (aW.j9 bar k n c0 c0_1 c0_2 records1 def_2 (IntKind.i64.wrap (seen8+1)) values9 x17 x16)
 else
 bar _ (aW.j9 bar k n c0 c0_1 c0_2 records1 def_2 seen8 values9 x17 x16)
 else
 some (((c0).length:Int),values9):=by kernel_rfl
theorem aW.j9_eq (bar:aD)(k:Nat)(m1:Nat)(c0:List Int)(c0_1:List Int)(c0_2:List (List UInt8))(records1:Int)(def_2:Int)(seen8:Int)(values9:Int)(i10:Int)(x16:Int):aW.j9 bar k m1 c0 c0_1 c0_2 records1 def_2 seen8 values9 i10 x16=
 (rd c0_1 i10).bind fun e_1=>
 bif (e_1==def_2) then
 aW.l0 bar k m1 c0 c0_1 c0_2 records1 def_2 seen8 (IntKind.i64.wrap (values9+1)) x16 (IntKind.i64.wrap (i10+1))
 else
 aW.l0 bar k m1 c0 c0_1 c0_2 records1 def_2 seen8 values9 x16 (IntKind.i64.wrap (i10+1)):=by kernel_rfl
theorem bX.f_eq (bar:aD)(k:Nat)(a0:List bg)(a1:Int)(a2:List UInt8):bX.f bar (k+1) a0 a1 a2=
 (dI.f bar k a0 a1).bind fun r_1=>
 bif (!(!r_1)) then
 bif decide (((a2).length:Int)<4) then
 some ((([]:List Int),([]:List Int),([]:List (List UInt8))),2200)
 else
 bif decide (0≤4)&&decide (4≤(((a2).length:Nat):Int)) then
 (dq.f bar k (List.drop 0 (List.take 4 a2))).bind fun r_2=>
 bif decide (0≤4)&&decide (4≤(((a2).length:Nat):Int)) then
 (bU.f bar k (List.drop 4 (List.take ((a2).length) a2))).bind fun r_3=>
 bif (r_2 != r_3) then
 some ((([]:List Int),([]:List Int),([]:List (List UInt8))),2201)
 else
 (aA.f bar k a0 a1).bind fun r_4=>
 bif decide (0≤4)&&decide (4≤(((a2).length:Nat):Int)) then
 (bc.f bar k (List.drop 4 (List.take ((a2).length) a2)) false).bind fun r_5=>
 (bc.f bar k r_5.2.1 r_5.2.2).bind fun r_6=>
 (bc.f bar k r_6.2.1 r_6.2.2).bind fun r_7=>
 (aP.f bar k r_7.2.1 r_7.2.2 r_6.1).bind fun r_8=>
 (dY.f bar k (IntKind.u64.wrap r_4.1)).bind fun r_9=>
 (aF.f bar k r_8.1 r_9 r_5.1).bind fun r_10=>
 (aP.f bar k r_8.2.1 r_8.2.2 r_7.1).bind fun r_11=>
 (dY.f bar k (IntKind.u64.wrap r_4.2.1)).bind fun r_12=>
 (aF.f bar k r_11.1 r_12 r_5.1).bind fun r_13=>
 (bu.f bar k r_13.1 r_4.2.1).bind fun r_14=>
 bX.l0 bar k k a1 a2 r_10.2 r_13.2 r_14 0 a0 r_10.1 r_13.1 ([]:List (List UInt8)) r_11.2.1 r_11.2.2
 else
 none
 else
 none
 else
 none
 else
 some ((([]:List Int),([]:List Int),([]:List (List UInt8))),2200):=by kernel_rfl
theorem bX.l0_eq (bar:aD)(k:Nat)(n:Nat)(leaf1:Int)(s2:List UInt8)(e16:Int)(f17:Int)(x82:Int)(x83:Int)(t3:List bg)(out15:List Int)(out15_1:List Int)(out15_2:List (List UInt8))(x48:List UInt8)(x48_1:Bool):bX.l0 bar k (n+1) leaf1 s2 e16 f17 x82 x83 t3 out15 out15_1 out15_2 x48 x48_1=
 bif decide (x83<x82) then
 bif (!x48_1) then
 (rd t3 leaf1).bind fun e_1=>
 (cX.f bar k x48 x48_1 e_1.kind).bind fun r_2=>
 bif decide (((out15_2).length+(([r_2.1]:List (List UInt8))).length)*16≤140737488355328) then
 bX.l0 bar k n leaf1 s2 e16 f17 x82 (IntKind.i64.wrap (x83+1)) t3 out15 out15_1 (out15_2++([r_2.1]:List (List UInt8))) r_2.2.1 r_2.2.2
 else
 none
 else
 bX.l0 bar k n leaf1 s2 e16 f17 x82 (IntKind.i64.wrap (x83+1)) t3 out15 out15_1 out15_2 x48 x48_1
 else
 (aV.f bar k t3 leaf1 (Col.mk out15 out15_1 out15_2)).bind fun r_3=>
 bif (!x48_1) then
 bif (!(e16 != 0)) then
 bif (!(f17 != 0)) then
 bif (!(r_3.2 != 0)) then
 bif (r_3.1 != s2) then
 some ((([]:List Int),([]:List Int),([]:List (List UInt8))),2200)
 else
 some ((out15,out15_1,out15_2),0)
 else
 some ((([]:List Int),([]:List Int),([]:List (List UInt8))),2200)
 else
 some ((([]:List Int),([]:List Int),([]:List (List UInt8))),2200)
 else
 some ((([]:List Int),([]:List Int),([]:List (List UInt8))),2200)
 else
 some ((([]:List Int),([]:List Int),([]:List (List UInt8))),2200):=by kernel_rfl
theorem dI.f_eq (bar:aD)(k:Nat)(a0:List bg)(a1:Int):dI.f bar (k+1) a0 a1=
 (dJ.f bar k a0 a1).bind fun r_1=>
 bif r_1 then
 (rd a0 a1).bind fun e_2=>
 (en.f bar k e_2.kind).bind fun r_3=>
 some (!r_3)
 else
 some false:=by kernel_rfl
theorem bm.f_eq (bar:aD)(k:Nat):bm.f bar (k+1)=
 some ([(bg.mk 0 (-1) true)]:List bg):=by kernel_rfl
theorem ez.f_eq (bar:aD)(k:Nat)(a0:List Int)(a1:Int):ez.f bar (k+1) a0 a1=
 (dY.f bar k (IntKind.u64.wrap a1)).bind fun r_1=>
 (aX.f bar k a0 r_1).bind fun r_2=>
 some r_2.1:=by kernel_rfl
theorem fk.f_eq (bar:aD)(k:Nat)(a0:List UInt8):fk.f bar (k+1) a0=
 (cn.f bar k a0).bind fun r_1=>
 bif (r_1.1==0) then
 bif decide (0≤0)&&decide (0<((r_1.2.1).length:Int)) then
 (r_1.2.1[0]?).bind fun e_2=>
 (cL.f bar k e_2).bind fun r_3=>
 (cu.f bar k r_3.1 8).bind fun r_4=>
 some r_4
 else
 none
 else
 bif (r_1.1==1) then
 bif decide (0≤0)&&decide (0<((r_1.2.1).length:Int)) then
 (r_1.2.1[0]?).bind fun e_5=>
 (rd e_5 0).bind fun b_6=>
 (bu.f bar k ([IntKind.i64.wrap (b_6.toNat:Int)]:List Int) 116).bind fun r_7=>
 (cu.f bar k r_7 1).bind fun r_8=>
 some r_8
 else
 none
 else
 bif decide (0≤0)&&decide (0<((r_1.2.1).length:Int)) then
 (r_1.2.1[0]?).bind fun e_9=>
 (cu.f bar k ((e_9).length:Int) 4).bind fun r_10=>
 bif decide (0≤0)&&decide (0<((r_1.2.1).length:Int)) then
 (r_1.2.1[0]?).bind fun e_11=>
 bif decide ((r_10).length+(e_11).length≤9223372036854775807) then
 some (r_10++e_11)
 else
 none
 else
 none
 else
 none:=by kernel_rfl
theorem bU.f_eq (bar:aD)(k:Nat)(a0:List UInt8):bU.f bar (k+1) a0=
 bU.l0 bar k k a0 4294967295 ((a0).length:Int) 0:=by kernel_rfl
theorem bU.l0_eq (bar:aD)(k:Nat)(n:Nat)(s0:List UInt8)(sum3:Int)(x7:Int)(x8:Int):bU.l0 bar k (n+1) s0 sum3 x7 x8=
 bif decide (x8<x7) then
 (rd s0 x8).bind fun b_1=>
 bU.l2 bar k n k s0 (ax .xor .u32 sum3 (IntKind.u32.wrap (b_1.toNat:Int))) x7 x8 0
 else
 some (IntKind.i64.wrap (ax .xor .u32 sum3 4294967295)):=by kernel_rfl
theorem bU.l2_eq (bar:aD)(k:Nat)(m1:Nat)(n:Nat)(s0:List UInt8)(sum3:Int)(x7:Int)(x8:Int)(x17:Int):bU.l2 bar k m1 (n+1) s0 sum3 x7 x8 x17=
 bif decide (x17<8) then
 bU.l2 bar k m1 n s0 (ax .xor .u32 (Int.fdiv sum3 (2 ^ (min 1 IntKind.u32.bits))) (IntKind.u32.wrap (3988292384*(ax .and .u32 sum3 1)))) x7 x8 (IntKind.i64.wrap (x17+1))
 else
 bU.l0 bar k m1 s0 sum3 x7 (IntKind.i64.wrap (x8+1)):=by kernel_rfl
theorem bu.f_eq (bar:aD)(k:Nat)(a0:List Int)(a1:Int):bu.f bar (k+1) a0 a1=
 bu.l0 bar k k a1 0 a0 ((a0).length:Int) 0:=by kernel_rfl
theorem bu.l0_eq (bar:aD)(k:Nat)(n:Nat)(one1:Int)(out5:Int)(x8:List Int)(x9:Int)(x10:Int):bu.l0 bar k (n+1) one1 out5 x8 x9 x10=
 bif decide (x10<x9) then
 (rd x8 x10).bind fun e_1=>
 bif (e_1==one1) then
 bu.l0 bar k n one1 (IntKind.i64.wrap (out5+1)) x8 x9 (IntKind.i64.wrap (x10+1))
 else
 bu.l0 bar k n one1 out5 x8 x9 (IntKind.i64.wrap (x10+1))
 else
 some out5:=by kernel_rfl
theorem bA.f_eq (bar:aD)(k:Nat)(a0:List Int)(a1:Int):bA.f bar (k+1) a0 a1=
 bA.l0 bar k k a1 a0 ((a0).length:Int) 0:=by kernel_rfl
theorem bA.l0_eq (bar:aD)(k:Nat)(n:Nat)(most1:Int)(x7:List Int)(x8:Int)(x9:Int):bA.l0 bar k (n+1) most1 x7 x8 x9=
 bif decide (x9<x8) then
 (rd x7 x9).bind fun e_1=>
 bif (!(decide (e_1<0))) then
 bif decide (e_1>most1) then
 some false
 else
 bA.l0 bar k n most1 x7 x8 (IntKind.i64.wrap (x9+1))
 else
 some false
 else
 some true:=by kernel_rfl
theorem iO.f_eq (bar:aD)(k:Nat):iO.f bar (k+1)=
 some ([110]:List UInt8):=by kernel_rfl
theorem bR.f_eq (bar:aD)(k:Nat)(a0:List bg)(a1:Int)(a2:List UInt8):bR.f bar (k+1) a0 a1 a2=
 (dJ.f bar k a0 a1).bind fun r_1=>
 bif (!r_1) then
 some false
 else
 (cn.f bar k a2).bind fun r_2=>
 (rd a0 a1).bind fun e_3=>
 bif (!(r_2.2.2 != 0)) then
 bif (r_2.1==(-1)) then
 bif (r_2.2.2==0) then
 some e_3.null
 else
 some false
 else
 (gw.f bar k a0 a1).bind fun r_4=>
 bif (r_2.1 != e_3.kind) then
 some false
 else
 bif (r_2.1==2) then
 bif decide (0≤0)&&decide (0<((r_2.2.1).length:Int)) then
 (r_2.2.1[0]?).bind fun e_5=>
 some (decide (((e_5).length:Int)≤16))
 else
 none
 else
 bif (r_2.1==4) then
 (eG.f bar k r_4.1 r_2.2.1 a0).bind fun r_6=>
 some r_6
 else
 bR.l1 bar k k r_2.2.1 r_2.1 ((r_2.2.1).length:Int) 0 a0 r_4.1
 else
 bif (r_2.2.2==0) then
 some e_3.null
 else
 some false:=by kernel_rfl
theorem bR.l1_eq (bar:aD)(k:Nat)(n:Nat)(x70:List (List UInt8))(kind7:Int)(x71:Int)(x72:Int)(t3:List bg)(x2011:List Int):bR.l1 bar k (n+1) x70 kind7 x71 x72 t3 x2011=
 bif decide (x72<x71) then
 (rd x70 x72).bind fun e_1=>
 bif (kind7==3) then
 bif decide (0≤0)&&decide (0<((x2011).length:Int)) then
 (x2011[0]?).bind fun e_2=>
 (sL.f bar k e_2 e_1 t3).bind fun r_3=>
 bif (!r_3) then
 some false
 else
 bR.l1 bar k n x70 kind7 x71 (IntKind.i64.wrap (x72+1)) t3 x2011
 else
 none
 else
 bR.l1 bar k n x70 kind7 x71 (IntKind.i64.wrap (x72+1)) t3 x2011
 else
 some (decide (((x70).length:Int)≤64)):=by kernel_rfl
theorem dJ.f_eq (bar:aD)(k:Nat)(a0:List bg)(a1:Int):dJ.f bar (k+1) a0 a1=
 (aR.f bar k a0).bind fun r_1=>
 bif r_1 then
 bif decide (a1≥0) then
 some (decide (a1<((a0).length:Int)))
 else
 some false
 else
 some false:=by kernel_rfl
theorem bI.f_eq (bar:aD)(k:Nat)(a0:List bg)(a1:Int):bI.f bar (k+1) a0 a1=
 bI.l0 bar k k a0 a1 ([]:List Int):=by kernel_rfl
theorem bI.l0_eq (bar:aD)(k:Nat)(n:Nat)(t0:List bg)(at_1:Int)(x2005:List Int):bI.l0 bar k (n+1) t0 at_1 x2005=
 bif decide (at_1≥0) then
 bif decide (((x2005).length+(([at_1]:List Int)).length)*8≤140737488355328) then
 (rd t0 at_1).bind fun e_1=>
 bI.l0 bar k n t0 e_1.parent (x2005++([at_1]:List Int))
 else
 none
 else
 some x2005:=by kernel_rfl
theorem dq.f_eq (bar:aD)(k:Nat)(a0:List UInt8):dq.f bar (k+1) a0=
 dq.l0 bar k k a0 0 ((a0).length:Int) 0:=by kernel_rfl
theorem dq.l0_eq (bar:aD)(k:Nat)(n:Nat)(s0:List UInt8)(out3:Int)(x6:Int)(x7:Int):dq.l0 bar k (n+1) s0 out3 x6 x7=
 bif decide (x7<x6) then
 (rd s0 x7).bind fun b_1=>
 bif decide (IntKind.i64.wrap (8*x7)<0) then
 none
 else
 dq.l0 bar k n s0 (ax .or .u64 out3 (IntKind.u64.wrap ((IntKind.u64.wrap (b_1.toNat:Int))*2 ^ (min (IntKind.i64.wrap (8*x7)).toNat IntKind.u64.bits)))) x6 (IntKind.i64.wrap (x7+1))
 else
 some (IntKind.i64.wrap out3):=by kernel_rfl
theorem bc.f_eq (bar:aD)(k:Nat)(a0_0:List UInt8)(a0_1:Bool):bc.f bar (k+1) a0_0 a0_1=
 (md.f bar k a0_0 0 4).bind fun r_1=>
 bif (!a0_1) then
 (aP.f bar k a0_0 (r_1.2 != 0) 4).bind fun r_2=>
 some (r_1.1,(r_2.2.1,r_2.2.2))
 else
 (aP.f bar k a0_0 true 4).bind fun r_3=>
 some (r_1.1,(r_3.2.1,r_3.2.2)):=by kernel_rfl
theorem aF.f_eq (bar:aD)(k:Nat)(a0:List UInt8)(a1:Int)(a2:Int):aF.f bar (k+1) a0 a1 a2=
 bif (!(decide (a1<0))) then
 bif (!(decide (a1>16))) then
 bif (!(decide (a2<0))) then
 bif decide (a2>4096) then
 some (([]:List Int),2100)
 else
 aF.l0 bar k k a0 a1 a2 a0 a1 ([]:List Int) false
 else
 some (([]:List Int),2100)
 else
 some (([]:List Int),2100)
 else
 some (([]:List Int),2100):=by kernel_rfl
theorem aF.l0_eq (bar:aD)(k:Nat)(n:Nat)(s0:List UInt8)(width1:Int)(count2:Int)(x32:List UInt8)(x32_1:Int)(x32_2:List Int)(x32_3:Bool):aF.l0 bar k (n+1) s0 width1 count2 x32 x32_1 x32_2 x32_3=
 bif (!x32_3) then
 bif decide (((x32_2).length:Int)<count2) then
 (bZ.f bar k x32 0).bind fun r_1=>
 bif decide (0≤r_1.2.1)&&decide (r_1.2.1≤(((x32).length:Nat):Int)) then
 bif ((Int.tmod r_1.1 2)==0) then
 (dd.f bar k (List.drop ((r_1.2.1).toNat) (List.take ((x32).length) x32)) x32_1 x32_2 (r_1.2.2 != 0) (IntKind.i64.wrap (Int.tdiv r_1.1 2)) (IntKind.i64.wrap (count2 - ((x32_2).length:Int)))).bind fun r_2=>
 bar _ (aF.j12 bar k n s0 width1 count2 r_1.1 r_2.1 r_2.2.1 r_2.2.2.1 r_2.2.2.2)
 else
 (ae.f bar k (List.drop ((r_1.2.1).toNat) (List.take ((x32).length) x32)) x32_1 x32_2 (r_1.2.2 != 0) (IntKind.i64.wrap (Int.tdiv r_1.1 2)) (IntKind.i64.wrap (count2 - ((x32_2).length:Int)))).bind fun r_3=>
 bar _ (aF.j12 bar k n s0 width1 count2 r_1.1 r_3.1 r_3.2.1 r_3.2.2.1 r_3.2.2.2)
 else
 none
 else
 (aX.f bar k x32_2 width1).bind fun r_4=>
 bif (!x32_3) then
 bif (!(r_4.2 != 0)) then
 bif (!(r_4.1 != s0)) then
 bif (((x32_2).length:Int) != count2) then
 some (([]:List Int),2100)
 else
 some (x32_2,0)
 else
 some (([]:List Int),2100)
 else
 some (([]:List Int),2100)
 else
 some (([]:List Int),2100)
 else
 (aX.f bar k x32_2 width1).bind fun r_5=>
 bif (!x32_3) then
 bif (!(r_5.2 != 0)) then
 bif (!(r_5.1 != s0)) then
 bif (((x32_2).length:Int) != count2) then
 some (([]:List Int),2100)
 else
 some (x32_2,0)
 else
 some (([]:List Int),2100)
 else
 some (([]:List Int),2100)
 else
 some (([]:List Int),2100):=by kernel_rfl
theorem aF.j12_eq (bar:aD)(k:Nat)(m1:Nat)(s0:List UInt8)(width1:Int)(count2:Int)(head9:Int)(x32:List UInt8)(x32_1:Int)(x32_2:List Int)(x32_3:Bool):aF.j12 bar k m1 s0 width1 count2 head9 x32 x32_1 x32_2 x32_3=
 bif (!x32_3) then
 aF.l0 bar k m1 s0 width1 count2 x32 x32_1 x32_2 (decide (head9<2))
 else
 aF.l0 bar k m1 s0 width1 count2 x32 x32_1 x32_2 true:=by kernel_rfl
theorem aP.f_eq (bar:aD)(k:Nat)(a0_0:List UInt8)(a0_1:Bool)(a1:Int):aP.f bar (k+1) a0_0 a0_1 a1=
 bif (!a0_1) then
 bif (!(decide (a1<0))) then
 bif decide (a1>((a0_0).length:Int)) then
 some (([]:List UInt8),(a0_0,true))
 else
 bif decide (0≤a1)&&decide (a1≤(((a0_0).length:Nat):Int)) then
 bif decide (0≤a1)&&decide (a1≤(((a0_0).length:Nat):Int)) then
 some (List.drop 0 (List.take ((a1).toNat) a0_0),(List.drop ((a1).toNat) (List.take ((a0_0).length) a0_0),a0_1))
 else
 none
 else
 none
 else
 some (([]:List UInt8),(a0_0,true))
 else
 some (([]:List UInt8),(a0_0,true)):=by kernel_rfl
theorem cX.f_eq (bar:aD)(k:Nat)(a0_0:List UInt8)(a0_1:Bool)(a1:Int):cX.f bar (k+1) a0_0 a0_1 a1=
 bif (a1==0) then
 (aP.f bar k a0_0 a0_1 8).bind fun r_1=>
 (dq.f bar k r_1.1).bind fun r_2=>
 (ix.f bar k r_2).bind fun r_3=>
 some (r_3,(r_1.2.1,r_1.2.2))
 else
 bif (a1==1) then
 (aP.f bar k a0_0 a0_1 1).bind fun r_4=>
 (dq.f bar k r_4.1).bind fun r_5=>
 (gn.f bar k (r_5==1)).bind fun r_6=>
 some (r_6,(r_4.2.1,r_4.2.2))
 else
 (ei.f bar k a0_0 a0_1).bind fun r_7=>
 (fF.f bar k r_7.1).bind fun r_8=>
 some (r_8,(r_7.2.1,r_7.2.2)):=by kernel_rfl
theorem en.f_eq (bar:aD)(k:Nat)(a0:Int):en.f bar (k+1) a0=
 bif (!(a0==3)) then
 some (a0==4)
 else
 some true:=by kernel_rfl
theorem aX.f_eq (bar:aD)(k:Nat)(a0:List Int)(a1:Int):aX.f bar (k+1) a0 a1=
 (em.f bar k a0 a1).bind fun r_1=>
 bif (!r_1) then
 some (([]:List UInt8),2100)
 else
 aX.l0 bar k k a0 a1 ([]:List Int):=by kernel_rfl
theorem aX.l0_eq (bar:aD)(k:Nat)(n:Nat)(xs0:List Int)(width1:Int)(out6:List Int):aX.l0 bar k (n+1) xs0 width1 out6=
 bif decide (((xs0).length:Int)>0) then
 (a8.f bar k xs0).bind fun r_1=>
 bif decide (r_1≥8) then
 (bD.f bar k (IntKind.i64.wrap (2*r_1))).bind fun r_2=>
 (rd xs0 0).bind fun e_3=>
 (dH.f bar k width1).bind fun r_4=>
 (cu.f bar k e_3 r_4).bind fun r_5=>
 bif decide ((r_2.1).length+(r_5).length≤9223372036854775807) then
 bif decide ((out6).length+(r_2.1++r_5).length≤140737488355328) then
 bif decide (0≤r_1)&&decide (r_1≤(((xs0).length:Nat):Int)) then
 aX.l0 bar k n (List.drop ((r_1).toNat) (List.take ((xs0).length) xs0)) width1 (out6++aH (r_2.1++r_5))
 else
 none
 else
 none
 else
 none
 else
 (a7.f bar k xs0).bind fun r_6=>
 (bD.f bar k (IntKind.i64.wrap ((IntKind.i64.wrap (2*(IntKind.i64.wrap (Int.tdiv (IntKind.i64.wrap ((IntKind.i64.wrap (r_6+8)) - 1)) 8))))+1))).bind fun r_7=>
 bif decide (0≤r_6)&&decide (r_6≤(((xs0).length:Nat):Int)) then
 (aJ.f bar k (List.drop 0 (List.take ((r_6).toNat) xs0)) width1).bind fun r_8=>
 bif decide ((r_7.1).length+(r_8).length≤9223372036854775807) then
 bif decide ((out6).length+(r_7.1++r_8).length≤140737488355328) then
 bif decide (0≤r_6)&&decide (r_6≤(((xs0).length:Nat):Int)) then
 aX.l0 bar k n (List.drop ((r_6).toNat) (List.take ((xs0).length) xs0)) width1 (out6++aH (r_7.1++r_8))
 else
 none
 else
 none
 else
 none
 else
 none
 else
 some (ab out6,0):=by kernel_rfl
theorem cn.f_eq (bar:aD)(k:Nat)(a0:List UInt8):cn.f bar (k+1) a0=
 bif decide (((a0).length:Int)>65536) then
 some (0,([]:List (List UInt8)),700)
 else
 (aK.f bar k a0 false 0).bind fun r_1=>
 bif (!r_1.2.2) then
 bif (r_1.2.1 != ([]:List UInt8)) then
 some (0,([]:List (List UInt8)),700)
 else
 some (r_1.1.1,r_1.1.2,0)
 else
 some (0,([]:List (List UInt8)),700):=by kernel_rfl
theorem cL.f_eq (bar:aD)(k:Nat)(a0:List UInt8):cL.f bar (k+1) a0=
 kz a0:=by kernel_rfl
theorem gw.f_eq (bar:aD)(k:Nat)(a0:List bg)(a1:Int):gw.f bar (k+1) a0 a1=
 (dJ.f bar k a0 a1).bind fun r_1=>
 bif (!r_1) then
 some (([]:List Int),500)
 else
 (bz.f bar k a0 a1).bind fun r_2=>
 some (r_2,0):=by kernel_rfl
theorem aR.f_eq (bar:aD)(k:Nat)(a0:List bg):aR.f bar (k+1) a0=
 bif (!(((a0).length:Int)==0)) then
 bif decide (((a0).length:Int)>8) then
 some false
 else
 aR.l0 bar k k a0 ((a0).length:Int) 0
 else
 some false:=by kernel_rfl
theorem aR.l0_eq (bar:aD)(k:Nat)(n:Nat)(x19:List bg)(x20:Int)(x21:Int):aR.l0 bar k (n+1) x19 x20 x21=
 bif decide (x21<x20) then
 (rd x19 x21).bind fun e_1=>
 bif (!(decide (e_1.kind<0))) then
 bif (!(decide (e_1.kind>4))) then
 (eO.f bar k x19 x21).bind fun r_2=>
 bif (!r_2) then
 some false
 else
 aR.l0 bar k n x19 x20 (IntKind.i64.wrap (x21+1))
 else
 some false
 else
 some false
 else
 aR.l2 bar k k x19 ((x19).length:Int) 0:=by kernel_rfl
theorem aR.l2_eq (bar:aD)(k:Nat)(n:Nat)(x41:List bg)(x42:Int)(x43:Int):aR.l2 bar k (n+1) x41 x42 x43=
 bif decide (x43<x42) then
 (rd x41 x43).bind fun e_1=>
 (bz.f bar k x41 x43).bind fun r_2=>
 bif (e_1.kind==3) then
 bif (!(((r_2).length:Int) != 1)) then
 bif (e_1.kind==4) then
 bif (!(((r_2).length:Int)==0)) then
 (bI.f bar k x41 x43).bind fun r_3=>
 bif decide (((r_3).length:Int)>5) then
 some false
 else
 aR.l2 bar k n x41 x42 (IntKind.i64.wrap (x43+1))
 else
 some false
 else
 (bI.f bar k x41 x43).bind fun r_4=>
 bif decide (((r_4).length:Int)>5) then
 some false
 else
 aR.l2 bar k n x41 x42 (IntKind.i64.wrap (x43+1))
 else
 some false
 else
 bif (e_1.kind==4) then
 bif (!(((r_2).length:Int)==0)) then
 (bI.f bar k x41 x43).bind fun r_5=>
 bif decide (((r_5).length:Int)>5) then
 some false
 else
 aR.l2 bar k n x41 x42 (IntKind.i64.wrap (x43+1))
 else
 some false
 else
 (bI.f bar k x41 x43).bind fun r_6=>
 bif decide (((r_6).length:Int)>5) then
 some false
 else
 aR.l2 bar k n x41 x42 (IntKind.i64.wrap (x43+1))
 else
 some true:=by kernel_rfl
theorem md.f_eq (bar:aD)(k:Nat)(a0:List UInt8)(a1:Int)(a2:Int):md.f bar (k+1) a0 a1 a2=
 bif (a2 != 4) then
 bif (!(a2 != 8)) then
 bif (!(decide (a1<0))) then
 bif (!(decide (a1>((a0).length:Int)))) then
 bif decide ((IntKind.i64.wrap (((a0).length:Int) - a1))<a2) then
 some (0,300)
 else
 bif decide (0≤IntKind.i64.wrap (a1+a2))&&decide (IntKind.i64.wrap (a1+a2)≤(((a0).length:Nat):Int)) then
 bif decide (0≤a1)&&decide (a1≤(((IntKind.i64.wrap (a1+a2)).toNat:Nat):Int)) then
 (dq.f bar k (List.drop ((a1).toNat) (List.take ((IntKind.i64.wrap (a1+a2)).toNat) a0))).bind fun r_1=>
 bif (a2==4) then
 (hY.f bar k r_1).bind fun r_2=>
 bif (!r_2) then
 some (0,300)
 else
 some (r_1,0)
 else
 some (r_1,0)
 else
 none
 else
 none
 else
 some (0,300)
 else
 some (0,300)
 else
 some (0,300)
 else
 bif (!(decide (a1<0))) then
 bif (!(decide (a1>((a0).length:Int)))) then
 bif decide ((IntKind.i64.wrap (((a0).length:Int) - a1))<a2) then
 some (0,300)
 else
 bif decide (0≤IntKind.i64.wrap (a1+a2))&&decide (IntKind.i64.wrap (a1+a2)≤(((a0).length:Nat):Int)) then
 bif decide (0≤a1)&&decide (a1≤(((IntKind.i64.wrap (a1+a2)).toNat:Nat):Int)) then
 (dq.f bar k (List.drop ((a1).toNat) (List.take ((IntKind.i64.wrap (a1+a2)).toNat) a0))).bind fun r_3=>
 bif (a2==4) then
 (hY.f bar k r_3).bind fun r_4=>
 bif (!r_4) then
 some (0,300)
 else
 some (r_3,0)
 else
 some (r_3,0)
 else
 none
 else
 none
 else
 some (0,300)
 else
 some (0,300):=by kernel_rfl
theorem bZ.f_eq (bar:aD)(k:Nat)(a0:List UInt8)(a1:Int):bZ.f bar (k+1) a0 a1=
 bif (!(decide (a1<0))) then
 bif decide (a1>((a0).length:Int)) then
 some (0,0,300)
 else
 bZ.l0 bar k k a0 a1 0 0
 else
 some (0,0,300):=by kernel_rfl
theorem bZ.l0_eq (bar:aD)(k:Nat)(n:Nat)(s0:List UInt8)(at_1:Int)(x7:Int)(i8:Int):bZ.l0 bar k (n+1) s0 at_1 x7 i8=
 bif decide (i8<5) then
 bif decide ((IntKind.i64.wrap (at_1+i8))<((s0).length:Int)) then
 (rd s0 (IntKind.i64.wrap (at_1+i8))).bind fun b_1=>
 bif decide (IntKind.i64.wrap (7*i8)<0) then
 none
 else
 bif decide ((b_1.toNat:Int)≥128) then
 bZ.l0 bar k n s0 at_1 (ax .or .i64 x7 (IntKind.i64.wrap ((IntKind.i64.wrap (Int.tmod (b_1.toNat:Int) 128))*2 ^ (min (IntKind.i64.wrap (7*i8)).toNat IntKind.i64.bits)))) (IntKind.i64.wrap (i8+1))
 else
 (bD.f bar k (ax .or .i64 x7 (IntKind.i64.wrap ((IntKind.i64.wrap (Int.tmod (b_1.toNat:Int) 128))*2 ^ (min (IntKind.i64.wrap (7*i8)).toNat IntKind.i64.bits))))).bind fun r_2=>
 bif (!(r_2.2 != 0)) then
 bif decide (0≤IntKind.i64.wrap ((IntKind.i64.wrap (at_1+i8))+1))&&decide (IntKind.i64.wrap ((IntKind.i64.wrap (at_1+i8))+1)≤(((s0).length:Nat):Int)) then
 bif decide (0≤at_1)&&decide (at_1≤(((IntKind.i64.wrap ((IntKind.i64.wrap (at_1+i8))+1)).toNat:Nat):Int)) then
 bif (r_2.1 != (List.drop ((at_1).toNat) (List.take ((IntKind.i64.wrap ((IntKind.i64.wrap (at_1+i8))+1)).toNat) s0))) then
 some (0,0,300)
 else
 some (ax .or .i64 x7 (IntKind.i64.wrap ((IntKind.i64.wrap (Int.tmod (b_1.toNat:Int) 128))*2 ^ (min (IntKind.i64.wrap (7*i8)).toNat IntKind.i64.bits))),IntKind.i64.wrap ((IntKind.i64.wrap (at_1+i8))+1),0)
 else
 none
 else
 none
 else
 some (0,0,300)
 else
 some (0,0,300)
 else
 some (0,0,300):=by kernel_rfl
theorem dd.f_eq (bar:aD)(k:Nat)(a0_0:List UInt8)(a0_1:Int)(a0_2:List Int)(a0_3:Bool)(a1:Int)(a2:Int):dd.f bar (k+1) a0_0 a0_1 a0_2 a0_3 a1 a2=
 (dH.f bar k a0_1).bind fun r_1=>
 (bj.f bar k a0_0 a0_1 a0_2 a0_3 r_1).bind fun r_2=>
 (dq.f bar k r_2.1).bind fun r_3=>
 bif (!r_2.2.2.2.2) then
 bif (!(decide (a1>a2))) then
 (ah.f bar k ([r_3]:List Int) a1).bind fun r_4=>
 bif decide (((r_2.2.2.2.1).length+(r_4).length)*8≤140737488355328) then
 some (r_2.2.1,r_2.2.2.1,r_2.2.2.2.1++r_4,decide (a1>a2))
 else
 none
 else
 some (r_2.2.1,r_2.2.2.1,r_2.2.2.2.1,decide (a1>a2))
 else
 some (r_2.2.1,r_2.2.2.1,r_2.2.2.2.1,true):=by kernel_rfl
theorem ae.f_eq (bar:aD)(k:Nat)(a0_0:List UInt8)(a0_1:Int)(a0_2:List Int)(a0_3:Bool)(a1:Int)(a2:Int):ae.f bar (k+1) a0_0 a0_1 a0_2 a0_3 a1 a2=
 bif decide (a1>(IntKind.i64.wrap (Int.tdiv (IntKind.i64.wrap ((IntKind.i64.wrap (a2+8)) - 1)) 8))) then
 some (a0_0,a0_1,a0_2,true)
 else
 (bj.f bar k a0_0 a0_1 a0_2 a0_3 (IntKind.i64.wrap (a1*a0_1))).bind fun r_1=>
 ae.l0 bar k k r_1.1 (bif decide (a2<(IntKind.i64.wrap (a1*8))) then a2 else IntKind.i64.wrap (a1*8)) 0 r_1.2.1 r_1.2.2.1 r_1.2.2.2.1 r_1.2.2.2.2:=by kernel_rfl
theorem ae.l0_eq (bar:aD)(k:Nat)(n:Nat)(s6:List UInt8)(x30:Int)(x31:Int)(x1000:List UInt8)(x1000_1:Int)(x1000_2:List Int)(x1000_3:Bool):ae.l0 bar k (n+1) s6 x30 x31 x1000 x1000_1 x1000_2 x1000_3=
 bif decide (x31<x30) then
 ae.l2 bar k n k s6 x31 0 x30 x1000_1 0 x1000 x1000_2 x1000_3
 else
 some (x1000,x1000_1,x1000_2,x1000_3):=by kernel_rfl
theorem ae.l2_eq (bar:aD)(k:Nat)(m1:Nat)(n:Nat)(s6:List UInt8)(i7:Int)(x8:Int)(x30:Int)(x37:Int)(x38:Int)(x1000:List UInt8)(x1000_1:List Int)(x1000_2:Bool):ae.l2 bar k m1 (n+1) s6 i7 x8 x30 x37 x38 x1000 x1000_1 x1000_2=
 bif decide (x38<x37) then
 bif (!x1000_2) then
 (lV.f bar k s6 (IntKind.i64.wrap ((IntKind.i64.wrap (i7*x37))+x38))).bind fun r_1=>
 bif r_1 then
 bif decide (x38<0) then
 none
 else
 ae.l2 bar k m1 n s6 i7 (ax .or .i64 x8 (IntKind.i64.wrap (1*2 ^ (min (x38).toNat IntKind.i64.bits)))) x30 x37 (IntKind.i64.wrap (x38+1)) x1000 x1000_1 x1000_2
 else
 ae.l2 bar k m1 n s6 i7 x8 x30 x37 (IntKind.i64.wrap (x38+1)) x1000 x1000_1 x1000_2
 else
 ae.l2 bar k m1 n s6 i7 x8 x30 x37 (IntKind.i64.wrap (x38+1)) x1000 x1000_1 x1000_2
 else
 bif decide (((x1000_1).length+(([x8]:List Int)).length)*8≤140737488355328) then
 ae.l0 bar k m1 s6 x30 (IntKind.i64.wrap (i7+1)) x1000 x37 (x1000_1++([x8]:List Int)) x1000_2
 else
 none:=by kernel_rfl
theorem ix.f_eq (bar:aD)(k:Nat)(a0:Int):ix.f bar (k+1) a0=
 (strconv_Itoa.f bar k a0).bind fun r_1=>
 bif decide ((([105]:List UInt8)).length+(r_1).length≤9223372036854775807) then
 bif decide ((([105]:List UInt8)++r_1).length+(([59]:List UInt8)).length≤9223372036854775807) then
 some ((([105]:List UInt8)++r_1)++([59]:List UInt8))
 else
 none
 else
 none:=by kernel_rfl
theorem gn.f_eq (bar:aD)(k:Nat)(a0:Bool):gn.f bar (k+1) a0=
 bif a0 then
 some ([116]:List UInt8)
 else
 some ([102]:List UInt8):=by kernel_rfl
theorem fF.f_eq (bar:aD)(k:Nat)(a0:List UInt8):fF.f bar (k+1) a0=
 (strconv_Itoa.f bar k ((a0).length:Int)).bind fun r_1=>
 bif decide ((([115]:List UInt8)).length+(r_1).length≤9223372036854775807) then
 bif decide ((([115]:List UInt8)++r_1).length+(([58]:List UInt8)).length≤9223372036854775807) then
 bif decide (((([115]:List UInt8)++r_1)++([58]:List UInt8)).length+(a0).length≤9223372036854775807) then
 some (((([115]:List UInt8)++r_1)++([58]:List UInt8))++a0)
 else
 none
 else
 none
 else
 none:=by kernel_rfl
theorem ei.f_eq (bar:aD)(k:Nat)(a0_0:List UInt8)(a0_1:Bool):ei.f bar (k+1) a0_0 a0_1=
 (bc.f bar k a0_0 a0_1).bind fun r_1=>
 (aP.f bar k r_1.2.1 r_1.2.2 r_1.1).bind fun r_2=>
 some (r_2.1,(r_2.2.1,r_2.2.2)):=by kernel_rfl
theorem em.f_eq (bar:aD)(k:Nat)(a0:List Int)(a1:Int):em.f bar (k+1) a0 a1=
 bif decide (a1≥0) then
 bif decide (a1≤16) then
 bif decide (((a0).length:Int)≤4096) then
 (aN.f bar k a0 a1).bind fun r_1=>
 some (!r_1)
 else
 some false
 else
 some false
 else
 some false:=by kernel_rfl
theorem a8.f_eq (bar:aD)(k:Nat)(a0:List Int):a8.f bar (k+1) a0=
 a8.l0 bar k k a0 ((a0).length:Int) 0:=by kernel_rfl
theorem a8.l0_eq (bar:aD)(k:Nat)(n:Nat)(xs0:List Int)(x6:Int)(x7:Int):a8.l0 bar k (n+1) xs0 x6 x7=
 bif decide (x7<x6) then
 (rd xs0 x7).bind fun e_1=>
 (rd xs0 0).bind fun e_2=>
 bif (e_1 != e_2) then
 some x7
 else
 a8.l0 bar k n xs0 x6 (IntKind.i64.wrap (x7+1))
 else
 some ((xs0).length:Int):=by kernel_rfl
theorem bD.f_eq (bar:aD)(k:Nat)(a0:Int):bD.f bar (k+1) a0=
 (hY.f bar k a0).bind fun r_1=>
 bif (!r_1) then
 some (([]:List UInt8),300)
 else
 bD.l0 bar k k a0 ([]:List Int):=by kernel_rfl
theorem bD.l0_eq (bar:aD)(k:Nat)(n:Nat)(x0:Int)(x2004:List Int):bD.l0 bar k (n+1) x0 x2004=
 bif decide (x0≥128) then
 bif decide (((x2004).length+(([ax .or .u8 (IntKind.u8.wrap x0) 128]:List Int)).length)*1≤140737488355328) then
 bD.l0 bar k n (Int.fdiv x0 (2 ^ (min 7 IntKind.i64.bits))) (x2004++([ax .or .u8 (IntKind.u8.wrap x0) 128]:List Int))
 else
 none
 else
 bif decide (((x2004).length+(([IntKind.u8.wrap x0]:List Int)).length)*1≤140737488355328) then
 some (ab (x2004++([IntKind.u8.wrap x0]:List Int)),0)
 else
 none:=by kernel_rfl
theorem dH.f_eq (bar:aD)(k:Nat)(a0:Int):dH.f bar (k+1) a0=
 some (IntKind.i64.wrap (Int.tdiv (IntKind.i64.wrap (a0+7)) 8)):=by kernel_rfl
theorem a7.f_eq (bar:aD)(k:Nat)(a0:List Int):a7.f bar (k+1) a0=
 a7.l0 bar k k a0 0:=by kernel_rfl
theorem a7.l0_eq (bar:aD)(k:Nat)(n:Nat)(xs0:List Int)(at_3:Int):a7.l0 bar k (n+1) xs0 at_3=
 bif decide (at_3<((xs0).length:Int)) then
 bif decide (0≤at_3)&&decide (at_3≤(((xs0).length:Nat):Int)) then
 (a8.f bar k (List.drop ((at_3).toNat) (List.take ((xs0).length) xs0))).bind fun r_1=>
 bif decide (r_1≥8) then
 some at_3
 else
 a7.l0 bar k n xs0 (IntKind.i64.wrap (at_3+8))
 else
 none
 else
 some ((xs0).length:Int):=by kernel_rfl
theorem aJ.f_eq (bar:aD)(k:Nat)(a0:List Int)(a1:Int):aJ.f bar (k+1) a0 a1=
 bif (IntKind.i64.wrap ((IntKind.i64.wrap ((IntKind.i64.wrap (Int.tdiv (IntKind.i64.wrap ((IntKind.i64.wrap (((a0).length:Int)+8)) - 1)) 8))*8))*a1)==IntKind.i64.wrap ((IntKind.i64.wrap ((IntKind.i64.wrap (Int.tdiv (IntKind.i64.wrap ((IntKind.i64.wrap (((a0).length:Int)+8)) - 1)) 8))*8))*a1))&&(decide (0≤IntKind.i64.wrap ((IntKind.i64.wrap ((IntKind.i64.wrap (Int.tdiv (IntKind.i64.wrap ((IntKind.i64.wrap (((a0).length:Int)+8)) - 1)) 8))*8))*a1))&&decide ((IntKind.i64.wrap ((IntKind.i64.wrap ((IntKind.i64.wrap (Int.tdiv (IntKind.i64.wrap ((IntKind.i64.wrap (((a0).length:Int)+8)) - 1)) 8))*8))*a1))*1≤140737488355328)) then
 aJ.l0 bar k k a1 a0 ((a0).length:Int) 0 (List.replicate (IntKind.i64.wrap ((IntKind.i64.wrap ((IntKind.i64.wrap (Int.tdiv (IntKind.i64.wrap ((IntKind.i64.wrap (((a0).length:Int)+8)) - 1)) 8))*8))*a1)).toNat (false:Bool):List Bool)
 else
 none:=by kernel_rfl
theorem aJ.l0_eq (bar:aD)(k:Nat)(n:Nat)(width1:Int)(x18:List Int)(x19:Int)(x20:Int)(x2005:List Bool):aJ.l0 bar k (n+1) width1 x18 x19 x20 x2005=
 bif decide (x20<x19) then
 (rd x18 x20).bind fun e_1=>
 aJ.l2 bar k n k width1 x20 e_1 x18 x19 0 x2005
 else
 (dD.f bar k x2005).bind fun r_2=>
 some r_2:=by kernel_rfl
theorem aJ.l2_eq (bar:aD)(k:Nat)(m1:Nat)(n:Nat)(width1:Int)(i6:Int)(x7:Int)(x18:List Int)(x19:Int)(x26:Int)(x2005:List Bool):aJ.l2 bar k m1 (n+1) width1 i6 x7 x18 x19 x26 x2005=
 bif decide (x26<width1) then
 bif decide (x26<0) then
 none
 else
 bif decide (0≤IntKind.i64.wrap ((IntKind.i64.wrap (i6*width1))+x26))&&decide (IntKind.i64.wrap ((IntKind.i64.wrap (i6*width1))+x26)<((x2005).length:Int)) then
 (x2005[(IntKind.i64.wrap ((IntKind.i64.wrap (i6*width1))+x26)).toNat]?).bind fun e_1=>
 aJ.l2 bar k m1 n width1 i6 x7 x18 x19 (IntKind.i64.wrap (x26+1)) ((x2005).set ((IntKind.i64.wrap ((IntKind.i64.wrap (i6*width1))+x26)).toNat) ((ax .and .i64 (Int.fdiv x7 (2 ^ (min (x26).toNat IntKind.i64.bits))) 1)==1))
 else
 none
 else
 aJ.l0 bar k m1 width1 x18 x19 (IntKind.i64.wrap (i6+1)) x2005:=by kernel_rfl
theorem aK.f_eq (bar:aD)(k:Nat)(a0_0:List UInt8)(a0_1:Bool)(a1:Int):aK.f bar (k+1) a0_0 a0_1 a1=
 bif decide (a1>4) then
 (aU.f bar k a0_0 a0_1).bind fun r_1=>
 some ((r_1.1.1,r_1.1.2),(r_1.2.1,r_1.2.2))
 else
 (bn.f bar k a0_0 a0_1).bind fun r_2=>
 bif (r_2.1==110) then
 some (((-1),([]:List (List UInt8))),(r_2.2.1,r_2.2.2))
 else
 bif (r_2.1==105) then
 (aL.f bar k r_2.2.1 r_2.2.2 ([59]:List UInt8)).bind fun r_3=>
 some ((0,([r_3.1.2]:List (List UInt8))),(r_3.2.1,r_3.2.2))
 else
 bif (r_2.1==116) then
 bif (r_2.1==116) then
 some ((1,([ab ([r_2.1]:List Int)]:List (List UInt8))),(r_2.2.1,r_2.2.2))
 else
 bif (r_2.1==115) then
 (aL.f bar k r_2.2.1 r_2.2.2 ([58]:List UInt8)).bind fun r_4=>
 (bP.f bar k r_4.2.1 r_4.2.2 r_4.1.1).bind fun r_5=>
 some ((2,([r_5.1]:List (List UInt8))),(r_5.2.1,r_5.2.2))
 else
 bif (r_2.1==91) then
 (am.f bar k r_2.2.1 r_2.2.2 93 (IntKind.i64.wrap (a1+1))).bind fun r_6=>
 some ((3,r_6.1),(r_6.2.1,r_6.2.2))
 else
 bif (r_2.1==123) then
 (am.f bar k r_2.2.1 r_2.2.2 125 (IntKind.i64.wrap (a1+1))).bind fun r_7=>
 some ((4,r_7.1),(r_7.2.1,r_7.2.2))
 else
 (aU.f bar k r_2.2.1 r_2.2.2).bind fun r_8=>
 some ((r_8.1.1,r_8.1.2),(r_8.2.1,r_8.2.2))
 else
 bif (r_2.1==102) then
 some ((1,([ab ([r_2.1]:List Int)]:List (List UInt8))),(r_2.2.1,r_2.2.2))
 else
 bif (r_2.1==115) then
 (aL.f bar k r_2.2.1 r_2.2.2 ([58]:List UInt8)).bind fun r_9=>
 (bP.f bar k r_9.2.1 r_9.2.2 r_9.1.1).bind fun r_10=>
 some ((2,([r_10.1]:List (List UInt8))),(r_10.2.1,r_10.2.2))
 else
 bif (r_2.1==91) then
 (am.f bar k r_2.2.1 r_2.2.2 93 (IntKind.i64.wrap (a1+1))).bind fun r_11=>
 some ((3,r_11.1),(r_11.2.1,r_11.2.2))
 else
 bif (r_2.1==123) then
 (am.f bar k r_2.2.1 r_2.2.2 125 (IntKind.i64.wrap (a1+1))).bind fun r_12=>
 some ((4,r_12.1),(r_12.2.1,r_12.2.2))
 else
 (aU.f bar k r_2.2.1 r_2.2.2).bind fun r_13=>
 some ((r_13.1.1,r_13.1.2),(r_13.2.1,r_13.2.2)):=by kernel_rfl
theorem bz.f_eq (bar:aD)(k:Nat)(a0:List bg)(a1:Int):bz.f bar (k+1) a0 a1=
 bz.l0 bar k k a1 a0 ((a0).length:Int) 0 ([]:List Int):=by kernel_rfl
theorem bz.l0_eq (bar:aD)(k:Nat)(n:Nat)(at_1:Int)(x11:List bg)(x12:Int)(x13:Int)(x2005:List Int):bz.l0 bar k (n+1) at_1 x11 x12 x13 x2005=
 bif decide (x13<x12) then
 (rd x11 x13).bind fun e_1=>
 bif decide (x13>0) then
 bif (e_1.parent==at_1) then
 bif decide (((x2005).length+(([x13]:List Int)).length)*8≤140737488355328) then
 bz.l0 bar k n at_1 x11 x12 (IntKind.i64.wrap (x13+1)) (x2005++([x13]:List Int))
 else
 none
 else
 bz.l0 bar k n at_1 x11 x12 (IntKind.i64.wrap (x13+1)) x2005
 else
 bz.l0 bar k n at_1 x11 x12 (IntKind.i64.wrap (x13+1)) x2005
 else
 some x2005:=by kernel_rfl
end Go.Proofs.YtjkokaockhecnaaGreatDoorA
