/- Each function and each loop of the program answers as its equation says; no condition. -/
import Derived.Test.YtjkokaockhecnaaGreatDoorFns
namespace Go.Proofs.YtjkokaockhecnaaGreatDoorA
open Go
set_option linter.unusedVariables false
theorem cv.f_eq (bar:aD)(k:Nat)(a0:List Int)(a1:Int):cv.f bar (k+1) a0 a1=
 cv.l0 bar k k a1 a0 ((a0).length:Int) 0:=by kernel_rfl
theorem cv.l0_eq (bar:aD)(k:Nat)(n:Nat)(most1:Int)(x7:List Int)(x8:Int)(x9:Int):cv.l0 bar k (n+1) most1 x7 x8 x9=
 bif decide (x9<x8) then
 (rd x7 x9).bind fun e_1=>
 bif (!(decide (e_1<0))) then
 bif decide (e_1>most1) then
 some false
 else
 cv.l0 bar k n most1 x7 x8 (IntKind.i64.wrap (x9+1))
 else
 some false
 else
 some true:=by kernel_rfl
theorem kY.f_eq (bar:aD)(k:Nat):kY.f bar (k+1)=
 some ([110]:List UInt8):=by kernel_rfl
theorem cY.f_eq (bar:aD)(k:Nat)(a0:List bc)(a1:Int)(a2:List UInt8):cY.f bar (k+1) a0 a1 a2=
 (fx.f bar k a0 a1).bind fun r_1=>
 bif (!r_1) then
 some false
 else
 (dD.f bar k a2).bind fun r_2=>
 (rd a0 a1).bind fun e_3=>
 bif (!(r_2.2.2 != 0)) then
 bif (r_2.1==(-1)) then
 bif (r_2.2.2==0) then
 some e_3.null
 else
 some false
 else
 (jm.f bar k a0 a1).bind fun r_4=>
 bif (r_2.1 != e_3.kind) then
 some false
 else
 bif (r_2.1==2) then
 bif decide (0≤0)&&decide (0<((r_2.2.1).length:Int)) then
 (r_2.2.1[0]?).bind fun e_5=>
 some (decide (((e_5).length:Int)≤16))
 else
 none
 else
 bif (r_2.1==4) then
 (gz.f bar k r_4.1 r_2.2.1 a0).bind fun r_6=>
 some r_6
 else
 cY.l1 bar k k r_2.2.1 r_2.1 ((r_2.2.1).length:Int) 0 a0 r_4.1
 else
 bif (r_2.2.2==0) then
 some e_3.null
 else
 some false:=by kernel_rfl
theorem cY.l1_eq (bar:aD)(k:Nat)(n:Nat)(x70:List (List UInt8))(kind7:Int)(x71:Int)(x72:Int)(t3:List bc)(x2011:List Int):cY.l1 bar k (n+1) x70 kind7 x71 x72 t3 x2011=
 bif decide (x72<x71) then
 (rd x70 x72).bind fun e_1=>
 bif (kind7==3) then
 bif decide (0≤0)&&decide (0<((x2011).length:Int)) then
 (x2011[0]?).bind fun e_2=>
 (xR.f bar k e_2 e_1 t3).bind fun r_3=>
 bif (!r_3) then
 some false
 else
 cY.l1 bar k n x70 kind7 x71 (IntKind.i64.wrap (x72+1)) t3 x2011
 else
 none
 else
 cY.l1 bar k n x70 kind7 x71 (IntKind.i64.wrap (x72+1)) t3 x2011
 else
 some (decide (((x70).length:Int)≤64)):=by kernel_rfl
theorem fx.f_eq (bar:aD)(k:Nat)(a0:List bc)(a1:Int):fx.f bar (k+1) a0 a1=
 (bQ.f bar k a0).bind fun r_1=>
 bif r_1 then
 bif decide (a1≥0) then
 some (decide (a1<((a0).length:Int)))
 else
 some false
 else
 some false:=by kernel_rfl
theorem cJ.f_eq (bar:aD)(k:Nat)(a0:List bc)(a1:Int):cJ.f bar (k+1) a0 a1=
 cJ.l0 bar k k a0 a1 ([]:List Int):=by kernel_rfl
theorem cJ.l0_eq (bar:aD)(k:Nat)(n:Nat)(t0:List bc)(at_1:Int)(x2005:List Int):cJ.l0 bar k (n+1) t0 at_1 x2005=
 bif decide (at_1≥0) then
 bif decide (((x2005).length+(([at_1]:List Int)).length)*8≤140737488355328) then
 (rd t0 at_1).bind fun e_1=>
 cJ.l0 bar k n t0 e_1.parent (x2005++([at_1]:List Int))
 else
 none
 else
 some x2005:=by kernel_rfl
theorem bZ.f_eq (bar:aD)(k:Nat)(a0:List Int)(a1:Int):bZ.f bar (k+1) a0 a1=
 (gf.f bar k a0 a1).bind fun r_1=>
 bif (!r_1) then
 some (([]:List UInt8),2100)
 else
 bZ.l0 bar k k a0 a1 ([]:List Int):=by kernel_rfl
theorem bZ.l0_eq (bar:aD)(k:Nat)(n:Nat)(xs0:List Int)(width1:Int)(out6:List Int):bZ.l0 bar k (n+1) xs0 width1 out6=
 bif decide (((xs0).length:Int)>0) then
 (cb.f bar k xs0).bind fun r_1=>
 bif decide (r_1≥8) then
 (cD.f bar k (IntKind.i64.wrap (2*r_1))).bind fun r_2=>
 (rd xs0 0).bind fun e_3=>
 (fp.f bar k width1).bind fun r_4=>
 (dM.f bar k e_3 r_4).bind fun r_5=>
 bif decide ((r_2.1).length+(r_5).length≤9223372036854775807) then
 bif decide ((out6).length+(r_2.1++r_5).length≤140737488355328) then
 bif decide (0≤r_1)&&decide (r_1≤(((xs0).length:Nat):Int)) then
 bZ.l0 bar k n (List.drop ((r_1).toNat) (List.take ((xs0).length) xs0)) width1 (out6++bE (r_2.1++r_5))
 else
 none
 else
 none
 else
 none
 else
 (ca.f bar k xs0).bind fun r_6=>
 (cD.f bar k (IntKind.i64.wrap ((IntKind.i64.wrap (2*(IntKind.i64.wrap (Int.tdiv (IntKind.i64.wrap ((IntKind.i64.wrap (r_6+8)) - 1)) 8))))+1))).bind fun r_7=>
 bif decide (0≤r_6)&&decide (r_6≤(((xs0).length:Nat):Int)) then
 (bG.f bar k (List.drop 0 (List.take ((r_6).toNat) xs0)) width1).bind fun r_8=>
 bif decide ((r_7.1).length+(r_8).length≤9223372036854775807) then
 bif decide ((out6).length+(r_7.1++r_8).length≤140737488355328) then
 bif decide (0≤r_6)&&decide (r_6≤(((xs0).length:Nat):Int)) then
 bZ.l0 bar k n (List.drop ((r_6).toNat) (List.take ((xs0).length) xs0)) width1 (out6++bE (r_7.1++r_8))
 else
 none
 else
 none
 else
 none
 else
 none
 else
 some (ag out6,0):=by kernel_rfl
theorem dD.f_eq (bar:aD)(k:Nat)(a0:List UInt8):dD.f bar (k+1) a0=
 bif decide (((a0).length:Int)>65536) then
 some (0,([]:List (List UInt8)),700)
 else
 (bJ.f bar k a0 false 0).bind fun r_1=>
 bif (!r_1.2.2) then
 bif (r_1.2.1 != ([]:List UInt8)) then
 some (0,([]:List (List UInt8)),700)
 else
 some (r_1.1.1,r_1.1.2,0)
 else
 some (0,([]:List (List UInt8)),700):=by kernel_rfl
theorem dZ.f_eq (bar:aD)(k:Nat)(a0:List UInt8):dZ.f bar (k+1) a0=
 nv a0:=by kernel_rfl
theorem af.f_eq (bar:aD)(k:Nat)(a0:List bc)(a1:Int)(a2:List UInt8):af.f bar (k+1) a0 a1 a2=
 (b6.f bar k a0 a1).bind fun r_1=>
 bif (!r_1) then
 some false
 else
 (rd a0 a1).bind fun e_2=>
 (ah.f bar k a2).bind fun r_3=>
 bif (r_3.2.2 != 0) then
 some false
 else
 bif decide (r_3.1<0) then
 some e_2.null
 else
 (dU.f bar k a0 a1).bind fun r_4=>
 bif (!(r_3.1 != e_2.kind)) then
 bif (r_3.1==2) then
 bif decide (0≤0)&&decide (0<((r_3.2.1).length:Int)) then
 (r_3.2.1[0]?).bind fun e_5=>
 bif (!(decide (((e_5).length:Int)>16))) then
 bif (r_3.1==3) then
 bif (!(decide (((r_3.2.1).length:Int)>64))) then
 bif (r_3.1==4) then
 bif (((r_3.2.1).length:Int) != ((r_4.1).length:Int)) then
 some false
 else
 af.l0 bar k k r_3.1 0 a0 r_3.2.1 r_4.1
 else
 af.l0 bar k k r_3.1 0 a0 r_3.2.1 r_4.1
 else
 some false
 else
 bif (r_3.1==4) then
 bif (((r_3.2.1).length:Int) != ((r_4.1).length:Int)) then
 some false
 else
 af.l0 bar k k r_3.1 0 a0 r_3.2.1 r_4.1
 else
 af.l0 bar k k r_3.1 0 a0 r_3.2.1 r_4.1
 else
 some false
 else
 none
 else
 bif (r_3.1==3) then
 bif (!(decide (((r_3.2.1).length:Int)>64))) then
 bif (r_3.1==4) then
 bif (((r_3.2.1).length:Int) != ((r_4.1).length:Int)) then
 some false
 else
 af.l0 bar k k r_3.1 0 a0 r_3.2.1 r_4.1
 else
 af.l0 bar k k r_3.1 0 a0 r_3.2.1 r_4.1
 else
 some false
 else
 bif (r_3.1==4) then
 bif (((r_3.2.1).length:Int) != ((r_4.1).length:Int)) then
 some false
 else
 af.l0 bar k k r_3.1 0 a0 r_3.2.1 r_4.1
 else
 af.l0 bar k k r_3.1 0 a0 r_3.2.1 r_4.1
 else
 some false:=by kernel_rfl
theorem af.l0_eq (bar:aD)(k:Nat)(n:Nat)(kind8:Int)(i13:Int)(t3:List bc)(x2009:List (List UInt8))(x2011:List Int):af.l0 bar k (n+1) kind8 i13 t3 x2009 x2011=
 bif decide (i13<((x2009).length:Int)) then
 (cX.f bar k kind8).bind fun r_1=>
 bif (!r_1) then
 bif decide (0≤0)&&decide (0<((x2011).length:Int)) then
 (x2011[0]?).bind fun e_2=>
 bif (kind8==4) then
 bif decide (0≤i13)&&decide (i13<((x2011).length:Int)) then
 (x2011[(i13).toNat]?).bind fun e_3=>
 bif decide (0≤i13)&&decide (i13<((x2009).length:Int)) then
 (x2009[(i13).toNat]?).bind fun e_4=>
 (af.f bar k t3 e_3 e_4).bind fun r_5=>
 bif (!r_5) then
 some false
 else
 af.l0 bar k n kind8 (IntKind.i64.wrap (i13+1)) t3 x2009 x2011
 else
 none
 else
 none
 else
 bif decide (0≤i13)&&decide (i13<((x2009).length:Int)) then
 (x2009[(i13).toNat]?).bind fun e_6=>
 (af.f bar k t3 e_2 e_6).bind fun r_7=>
 bif (!r_7) then
 some false
 else
 af.l0 bar k n kind8 (IntKind.i64.wrap (i13+1)) t3 x2009 x2011
 else
 none
 else
 none
 else
 some true
 else
 some true:=by kernel_rfl
theorem b6.f_eq (bar:aD)(k:Nat)(a0:List bc)(a1:Int):b6.f bar (k+1) a0 a1=
 (aj.f bar k a0).bind fun r_1=>
 bif r_1 then
 bif decide (a1≥0) then
 some (decide (a1<((a0).length:Int)))
 else
 some false
 else
 some false:=by kernel_rfl
theorem bC.f_eq (bar:aD)(k:Nat)(a0:List Int)(a1:Int):bC.f bar (k+1) a0 a1=
 bC.l0 bar k k a0 a1 1:=by kernel_rfl
theorem bC.l0_eq (bar:aD)(k:Nat)(n:Nat)(xs0:List Int)(at_1:Int)(k_5:Int):bC.l0 bar k (n+1) xs0 at_1 k_5=
 bif decide ((IntKind.i64.wrap (at_1+k_5))<((xs0).length:Int)) then
 (rd xs0 (IntKind.i64.wrap (at_1+k_5))).bind fun e_1=>
 (rd xs0 at_1).bind fun e_2=>
 bif (e_1==e_2) then
 bC.l0 bar k n xs0 at_1 (IntKind.i64.wrap (k_5+1))
 else
 some k_5
 else
 some k_5:=by kernel_rfl
theorem aQ.f_eq (bar:aD)(k:Nat)(a0:Int):aQ.f bar (k+1) a0=
 (dE.f bar k a0).bind fun r_1=>
 bif (!r_1) then
 some (([]:List UInt8),300)
 else
 aQ.l0 bar k k a0 ([]:List Int):=by kernel_rfl
theorem aQ.l0_eq (bar:aD)(k:Nat)(n:Nat)(x0:Int)(x2004:List Int):aQ.l0 bar k (n+1) x0 x2004=
 bif decide (x0>127) then
 bif decide (((x2004).length+(([IntKind.u8.wrap (aB .or .i64 (aB .and .i64 x0 127) 128)]:List Int)).length)*1≤140737488355328) then
 aQ.l0 bar k n (Int.fdiv x0 (2 ^ (min 7 IntKind.i64.bits))) (x2004++([IntKind.u8.wrap (aB .or .i64 (aB .and .i64 x0 127) 128)]:List Int))
 else
 none
 else
 bif decide (((x2004).length+(([IntKind.u8.wrap x0]:List Int)).length)*1≤140737488355328) then
 some (ag (x2004++([IntKind.u8.wrap x0]:List Int)),0)
 else
 none:=by kernel_rfl
theorem bT.f_eq (bar:aD)(k:Nat)(a0:Int):bT.f bar (k+1) a0=
 some (IntKind.i64.wrap (Int.tdiv (IntKind.i64.wrap (a0+7)) 8)):=by kernel_rfl
theorem aH.f_eq (bar:aD)(k:Nat)(a0:List Int)(a1:Int):aH.f bar (k+1) a0 a1=
 aH.l0 bar k k a0 a1 0 ([]:List Bool):=by kernel_rfl
theorem aH.l0_eq (bar:aD)(k:Nat)(n:Nat)(xs0:List Int)(width1:Int)(i6:Int)(x2005:List Bool):aH.l0 bar k (n+1) xs0 width1 i6 x2005=
 bif decide (i6<(IntKind.i64.wrap ((IntKind.i64.wrap (Int.tdiv (IntKind.i64.wrap (((xs0).length:Int)+7)) 8))*8))) then
 aH.l2 bar k n k xs0 width1 i6 0 x2005
 else
 (aU.f bar k x2005).bind fun r_1=>
 some r_1:=by kernel_rfl
theorem aH.l2_eq (bar:aD)(k:Nat)(m1:Nat)(n:Nat)(xs0:List Int)(width1:Int)(i6:Int)(j7:Int)(x2005:List Bool):aH.l2 bar k m1 (n+1) xs0 width1 i6 j7 x2005=
 bif decide (j7<width1) then
 bif decide (i6<((xs0).length:Int)) then
 (rd xs0 i6).bind fun e_1=>
 bif decide (j7<0) then
 none
 else
 bif decide (((x2005).length+(([((aB .and .i64 (Int.fdiv e_1 (2 ^ (min (j7).toNat IntKind.i64.bits))) 1)==1)]:List Bool)).length)*1≤140737488355328) then
 aH.l2 bar k m1 n xs0 width1 i6 (IntKind.i64.wrap (j7+1)) (x2005++([((aB .and .i64 (Int.fdiv e_1 (2 ^ (min (j7).toNat IntKind.i64.bits))) 1)==1)]:List Bool))
 else
 none
 else
 bif decide (((x2005).length+(([false]:List Bool)).length)*1≤140737488355328) then
 aH.l2 bar k m1 n xs0 width1 i6 (IntKind.i64.wrap (j7+1)) (x2005++([false]:List Bool))
 else
 none
 else
 aH.l0 bar k m1 xs0 width1 (IntKind.i64.wrap (i6+1)) x2005:=by kernel_rfl
theorem ah.f_eq (bar:aD)(k:Nat)(a0:List UInt8):ah.f bar (k+1) a0=
 bif (!(decide (((a0).length:Int)>65536))) then
 (ai.f bar k a0 0 4).bind fun r_1=>
 bif (r_1 != ((a0).length:Int)) then
 some (0,([]:List (List UInt8)),700)
 else
 (rd a0 0).bind fun b_2=>
 bif ((b_2.toNat:Int)==110) then
 some ((-1),([]:List (List UInt8)),0)
 else
 bif ((b_2.toNat:Int)==105) then
 bif decide (0≤IntKind.i64.wrap (((a0).length:Int) - 1))&&decide (IntKind.i64.wrap (((a0).length:Int) - 1)≤(((a0).length:Nat):Int)) then
 bif decide (0≤1)&&decide (1≤(((IntKind.i64.wrap (((a0).length:Int) - 1)).toNat:Nat):Int)) then
 some (0,([List.drop 1 (List.take ((IntKind.i64.wrap (((a0).length:Int) - 1)).toNat) a0)]:List (List UInt8)),0)
 else
 none
 else
 none
 else
 bif ((b_2.toNat:Int)==116) then
 bif ((b_2.toNat:Int)==116) then
 some (1,([a0]:List (List UInt8)),0)
 else
 bif ((b_2.toNat:Int)==115) then
 (aI.f bar k a0 0 58).bind fun r_3=>
 bif decide (0≤IntKind.i64.wrap (r_3+1))&&decide (IntKind.i64.wrap (r_3+1)≤(((a0).length:Nat):Int)) then
 some (2,([List.drop ((IntKind.i64.wrap (r_3+1)).toNat) (List.take ((a0).length) a0)]:List (List UInt8)),0)
 else
 none
 else
 bar _ (ah.j13 bar k a0)
 else
 bif ((b_2.toNat:Int)==102) then
 some (1,([a0]:List (List UInt8)),0)
 else
 bif ((b_2.toNat:Int)==115) then
 (aI.f bar k a0 0 58).bind fun r_4=>
 bif decide (0≤IntKind.i64.wrap (r_4+1))&&decide (IntKind.i64.wrap (r_4+1)≤(((a0).length:Nat):Int)) then
 some (2,([List.drop ((IntKind.i64.wrap (r_4+1)).toNat) (List.take ((a0).length) a0)]:List (List UInt8)),0)
 else
 none
 else
 bar _ (ah.j13 bar k a0)
 else
 some (0,([]:List (List UInt8)),700):=by kernel_rfl
theorem ah.j13_eq (bar:aD)(k:Nat)(v0:List UInt8):ah.j13 bar k v0=
 ah.l1 bar k k v0 1 ([]:List (List UInt8)):=by kernel_rfl
theorem ah.l1_eq (bar:aD)(k:Nat)(n:Nat)(v0:List UInt8)(at_6:Int)(x2005:List (List UInt8)):ah.l1 bar k (n+1) v0 at_6 x2005=
 bif decide (at_6<(IntKind.i64.wrap (((v0).length:Int) - 1))) then
 (ai.f bar k v0 at_6 4).bind fun r_1=>
 bif decide (0≤r_1)&&decide (r_1≤(((v0).length:Nat):Int)) then
 bif decide (0≤at_6)&&decide (at_6≤(((r_1).toNat:Nat):Int)) then
 bif decide (((x2005).length+(([List.drop ((at_6).toNat) (List.take ((r_1).toNat) v0)]:List (List UInt8))).length)*16≤140737488355328) then
 ah.l1 bar k n v0 r_1 (x2005++([List.drop ((at_6).toNat) (List.take ((r_1).toNat) v0)]:List (List UInt8)))
 else
 none
 else
 none
 else
 none
 else
 (rd v0 0).bind fun b_2=>
 bif ((b_2.toNat:Int)==91) then
 some (3,x2005,0)
 else
 some (4,x2005,0):=by kernel_rfl
theorem dn.f_eq (bar:aD)(k:Nat)(a0:List UInt8):dn.f bar (k+1) a0=
 (bN.f bar k ([(bc.mk 0 (-1) false)]:List bc) 0 ([a0]:List (List UInt8))).bind fun r_1=>
 some r_1.1.data:=by kernel_rfl
theorem gy.f_eq (bar:aD)(k:Nat)(a0:Int):gy.f bar (k+1) a0=
 bif (!(a0==3)) then
 some (a0==4)
 else
 some true:=by kernel_rfl
theorem qh.f_eq (bar:aD)(k:Nat)(a0:List UInt8)(a1:Int)(a2:Int):qh.f bar (k+1) a0 a1 a2=
 bif (a2 != 4) then
 bif (!(a2 != 8)) then
 bif (!(decide (a1<0))) then
 bif (!(decide (a1>((a0).length:Int)))) then
 bif decide ((IntKind.i64.wrap (((a0).length:Int) - a1))<a2) then
 some (0,300)
 else
 bif decide (0≤IntKind.i64.wrap (a1+a2))&&decide (IntKind.i64.wrap (a1+a2)≤(((a0).length:Nat):Int)) then
 bif decide (0≤a1)&&decide (a1≤(((IntKind.i64.wrap (a1+a2)).toNat:Nat):Int)) then
 (eQ.f bar k (List.drop ((a1).toNat) (List.take ((IntKind.i64.wrap (a1+a2)).toNat) a0))).bind fun r_1=>
 bif (a2==4) then
 (ka.f bar k r_1).bind fun r_2=>
 bif (!r_2) then
 some (0,300)
 else
 some (r_1,0)
 else
 some (r_1,0)
 else
 none
 else
 none
 else
 some (0,300)
 else
 some (0,300)
 else
 some (0,300)
 else
 bif (!(decide (a1<0))) then
 bif (!(decide (a1>((a0).length:Int)))) then
 bif decide ((IntKind.i64.wrap (((a0).length:Int) - a1))<a2) then
 some (0,300)
 else
 bif decide (0≤IntKind.i64.wrap (a1+a2))&&decide (IntKind.i64.wrap (a1+a2)≤(((a0).length:Nat):Int)) then
 bif decide (0≤a1)&&decide (a1≤(((IntKind.i64.wrap (a1+a2)).toNat:Nat):Int)) then
 (eQ.f bar k (List.drop ((a1).toNat) (List.take ((IntKind.i64.wrap (a1+a2)).toNat) a0))).bind fun r_3=>
 bif (a2==4) then
 (ka.f bar k r_3).bind fun r_4=>
 bif (!r_4) then
 some (0,300)
 else
 some (r_3,0)
 else
 some (r_3,0)
 else
 none
 else
 none
 else
 some (0,300)
 else
 some (0,300):=by kernel_rfl
theorem di.f_eq (bar:aD)(k:Nat)(a0:List UInt8)(a1:Int):di.f bar (k+1) a0 a1=
 bif (!(decide (a1<0))) then
 bif decide (a1>((a0).length:Int)) then
 some (0,0,300)
 else
 di.l0 bar k k a0 a1 0 0
 else
 some (0,0,300):=by kernel_rfl
theorem di.l0_eq (bar:aD)(k:Nat)(n:Nat)(s0:List UInt8)(at_1:Int)(x7:Int)(i8:Int):di.l0 bar k (n+1) s0 at_1 x7 i8=
 bif decide (i8<5) then
 bif decide ((IntKind.i64.wrap (at_1+i8))<((s0).length:Int)) then
 (rd s0 (IntKind.i64.wrap (at_1+i8))).bind fun b_1=>
 bif decide (IntKind.i64.wrap (7*i8)<0) then
 none
 else
 bif decide ((b_1.toNat:Int)≥128) then
 di.l0 bar k n s0 at_1 (aB .or .i64 x7 (IntKind.i64.wrap ((IntKind.i64.wrap (Int.tmod (b_1.toNat:Int) 128))*2 ^ (min (IntKind.i64.wrap (7*i8)).toNat IntKind.i64.bits)))) (IntKind.i64.wrap (i8+1))
 else
 (cD.f bar k (aB .or .i64 x7 (IntKind.i64.wrap ((IntKind.i64.wrap (Int.tmod (b_1.toNat:Int) 128))*2 ^ (min (IntKind.i64.wrap (7*i8)).toNat IntKind.i64.bits))))).bind fun r_2=>
 bif (!(r_2.2 != 0)) then
 bif decide (0≤IntKind.i64.wrap ((IntKind.i64.wrap (at_1+i8))+1))&&decide (IntKind.i64.wrap ((IntKind.i64.wrap (at_1+i8))+1)≤(((s0).length:Nat):Int)) then
 bif decide (0≤at_1)&&decide (at_1≤(((IntKind.i64.wrap ((IntKind.i64.wrap (at_1+i8))+1)).toNat:Nat):Int)) then
 bif (r_2.1 != (List.drop ((at_1).toNat) (List.take ((IntKind.i64.wrap ((IntKind.i64.wrap (at_1+i8))+1)).toNat) s0))) then
 some (0,0,300)
 else
 some (aB .or .i64 x7 (IntKind.i64.wrap ((IntKind.i64.wrap (Int.tmod (b_1.toNat:Int) 128))*2 ^ (min (IntKind.i64.wrap (7*i8)).toNat IntKind.i64.bits))),IntKind.i64.wrap ((IntKind.i64.wrap (at_1+i8))+1),0)
 else
 none
 else
 none
 else
 some (0,0,300)
 else
 some (0,0,300)
 else
 some (0,0,300):=by kernel_rfl
theorem eA.f_eq (bar:aD)(k:Nat)(a0_0:List UInt8)(a0_1:Int)(a0_2:List Int)(a0_3:Bool)(a1:Int)(a2:Int):eA.f bar (k+1) a0_0 a0_1 a0_2 a0_3 a1 a2=
 (fp.f bar k a0_1).bind fun r_1=>
 (cg.f bar k a0_0 a0_1 a0_2 a0_3 r_1).bind fun r_2=>
 (eQ.f bar k r_2.1).bind fun r_3=>
 bif (!r_2.2.2.2.2) then
 bif (!(decide (a1>a2))) then
 (az.f bar k ([r_3]:List Int) a1).bind fun r_4=>
 bif decide (((r_2.2.2.2.1).length+(r_4).length)*8≤140737488355328) then
 some (r_2.2.1,r_2.2.2.1,r_2.2.2.2.1++r_4,decide (a1>a2))
 else
 none
 else
 some (r_2.2.1,r_2.2.2.1,r_2.2.2.2.1,decide (a1>a2))
 else
 some (r_2.2.1,r_2.2.2.1,r_2.2.2.2.1,true):=by kernel_rfl
theorem ap.f_eq (bar:aD)(k:Nat)(a0_0:List UInt8)(a0_1:Int)(a0_2:List Int)(a0_3:Bool)(a1:Int)(a2:Int):ap.f bar (k+1) a0_0 a0_1 a0_2 a0_3 a1 a2=
 bif decide (a1>(IntKind.i64.wrap (Int.tdiv (IntKind.i64.wrap ((IntKind.i64.wrap (a2+8)) - 1)) 8))) then
 some (a0_0,a0_1,a0_2,true)
 else
 (cg.f bar k a0_0 a0_1 a0_2 a0_3 (IntKind.i64.wrap (a1*a0_1))).bind fun r_1=>
 ap.l0 bar k k r_1.1 (bif decide (a2<(IntKind.i64.wrap (a1*8))) then a2 else IntKind.i64.wrap (a1*8)) 0 r_1.2.1 r_1.2.2.1 r_1.2.2.2.1 r_1.2.2.2.2:=by kernel_rfl
theorem ap.l0_eq (bar:aD)(k:Nat)(n:Nat)(s6:List UInt8)(x30:Int)(x31:Int)(x1000:List UInt8)(x1000_1:Int)(x1000_2:List Int)(x1000_3:Bool):ap.l0 bar k (n+1) s6 x30 x31 x1000 x1000_1 x1000_2 x1000_3=
 bif decide (x31<x30) then
 ap.l2 bar k n k s6 x31 0 x30 x1000_1 0 x1000 x1000_2 x1000_3
 else
 some (x1000,x1000_1,x1000_2,x1000_3):=by kernel_rfl
theorem ap.l2_eq (bar:aD)(k:Nat)(m1:Nat)(n:Nat)(s6:List UInt8)(i7:Int)(x8:Int)(x30:Int)(x37:Int)(x38:Int)(x1000:List UInt8)(x1000_1:List Int)(x1000_2:Bool):ap.l2 bar k m1 (n+1) s6 i7 x8 x30 x37 x38 x1000 x1000_1 x1000_2=
 bif decide (x38<x37) then
 bif (!x1000_2) then
 (pN.f bar k s6 (IntKind.i64.wrap ((IntKind.i64.wrap (i7*x37))+x38))).bind fun r_1=>
 bif r_1 then
 bif decide (x38<0) then
 none
 else
 ap.l2 bar k m1 n s6 i7 (aB .or .i64 x8 (IntKind.i64.wrap (1*2 ^ (min (x38).toNat IntKind.i64.bits)))) x30 x37 (IntKind.i64.wrap (x38+1)) x1000 x1000_1 x1000_2
 else
 ap.l2 bar k m1 n s6 i7 x8 x30 x37 (IntKind.i64.wrap (x38+1)) x1000 x1000_1 x1000_2
 else
 ap.l2 bar k m1 n s6 i7 x8 x30 x37 (IntKind.i64.wrap (x38+1)) x1000 x1000_1 x1000_2
 else
 bif decide (((x1000_1).length+(([x8]:List Int)).length)*8≤140737488355328) then
 ap.l0 bar k m1 s6 x30 (IntKind.i64.wrap (i7+1)) x1000 x37 (x1000_1++([x8]:List Int)) x1000_2
 else
 none:=by kernel_rfl
theorem kD.f_eq (bar:aD)(k:Nat)(a0:Int):kD.f bar (k+1) a0=
 (strconv_Itoa.f bar k a0).bind fun r_1=>
 bif decide ((([105]:List UInt8)).length+(r_1).length≤9223372036854775807) then
 bif decide ((([105]:List UInt8)++r_1).length+(([59]:List UInt8)).length≤9223372036854775807) then
 some ((([105]:List UInt8)++r_1)++([59]:List UInt8))
 else
 none
 else
 none:=by kernel_rfl
theorem jq.f_eq (bar:aD)(k:Nat)(a0:Bool):jq.f bar (k+1) a0=
 bif a0 then
 some ([116]:List UInt8)
 else
 some ([102]:List UInt8):=by kernel_rfl
theorem gi.f_eq (bar:aD)(k:Nat)(a0:List UInt8):gi.f bar (k+1) a0=
 (strconv_Itoa.f bar k ((a0).length:Int)).bind fun r_1=>
 bif decide ((([115]:List UInt8)).length+(r_1).length≤9223372036854775807) then
 bif decide ((([115]:List UInt8)++r_1).length+(([58]:List UInt8)).length≤9223372036854775807) then
 bif decide (((([115]:List UInt8)++r_1)++([58]:List UInt8)).length+(a0).length≤9223372036854775807) then
 some (((([115]:List UInt8)++r_1)++([58]:List UInt8))++a0)
 else
 none
 else
 none
 else
 none:=by kernel_rfl
theorem eY.f_eq (bar:aD)(k:Nat)(a0_0:List UInt8)(a0_1:Bool):eY.f bar (k+1) a0_0 a0_1=
 (bW.f bar k a0_0 a0_1).bind fun r_1=>
 (bp.f bar k r_1.2.1 r_1.2.2 r_1.1).bind fun r_2=>
 some (r_2.1,(r_2.2.1,r_2.2.2)):=by kernel_rfl
theorem cX.f_eq (bar:aD)(k:Nat)(a0:Int):cX.f bar (k+1) a0=
 bif (a0 != 3) then
 some (a0 != 4)
 else
 some false:=by kernel_rfl
theorem bh.f_eq (bar:aD)(k:Nat)(a0:List UInt8):bh.f bar (k+1) a0=
 bh.l0 bar k k a0 0 (IntKind.i64.wrap (((a0).length:Int) - 1)):=by kernel_rfl
theorem bh.l0_eq (bar:aD)(k:Nat)(n:Nat)(s0:List UInt8)(x3:Int)(i4:Int):bh.l0 bar k (n+1) s0 x3 i4=
 bif decide (i4≥0) then
 (rd s0 i4).bind fun b_1=>
 bh.l0 bar k n s0 (aB .or .u64 (IntKind.u64.wrap (x3*2 ^ (min 8 IntKind.u64.bits))) (IntKind.u64.wrap (b_1.toNat:Int))) (IntKind.i64.wrap (i4 - 1))
 else
 some (IntKind.i64.wrap x3):=by kernel_rfl
theorem dE.f_eq (bar:aD)(k:Nat)(a0:Int):dE.f bar (k+1) a0=
 (bB.f bar k a0 0 2147483647).bind fun r_1=>
 some r_1:=by kernel_rfl
theorem bb.f_eq (bar:aD)(k:Nat)(a0:List UInt8)(a1:Int):bb.f bar (k+1) a0 a1=
 bb.l0 bar k k a0 a1 0 a1:=by kernel_rfl
theorem bb.l0_eq (bar:aD)(k:Nat)(n:Nat)(s0:List UInt8)(at_1:Int)(x7:Int)(i8:Int):bb.l0 bar k (n+1) s0 at_1 x7 i8=
 bif decide (i8≥0) then
 bif decide (i8<((s0).length:Int)) then
 bif decide (i8<(IntKind.i64.wrap (at_1+5))) then
 (rd s0 i8).bind fun b_1=>
 bif decide (IntKind.i64.wrap (7*(IntKind.i64.wrap (i8 - at_1)))<0) then
 none
 else
 (rd s0 i8).bind fun b_2=>
 bif decide ((b_2.toNat:Int)<128) then
 (aQ.f bar k (aB .or .i64 x7 (IntKind.i64.wrap ((IntKind.i64.wrap (aB .and .u8 (b_1.toNat:Int) 127))*2 ^ (min (IntKind.i64.wrap (7*(IntKind.i64.wrap (i8 - at_1)))).toNat IntKind.i64.bits))))).bind fun r_3=>
 bif (!(r_3.2 != 0)) then
 bif decide (0≤IntKind.i64.wrap (i8+1))&&decide (IntKind.i64.wrap (i8+1)≤(((s0).length:Nat):Int)) then
 bif decide (0≤at_1)&&decide (at_1≤(((IntKind.i64.wrap (i8+1)).toNat:Nat):Int)) then
 bif (r_3.1 != (List.drop ((at_1).toNat) (List.take ((IntKind.i64.wrap (i8+1)).toNat) s0))) then
 some (0,0,300)
 else
 some (aB .or .i64 x7 (IntKind.i64.wrap ((IntKind.i64.wrap (aB .and .u8 (b_1.toNat:Int) 127))*2 ^ (min (IntKind.i64.wrap (7*(IntKind.i64.wrap (i8 - at_1)))).toNat IntKind.i64.bits))),IntKind.i64.wrap (i8+1),0)
 else
 none
 else
 none
 else
 some (0,0,300)
 else
 bb.l0 bar k n s0 at_1 (aB .or .i64 x7 (IntKind.i64.wrap ((IntKind.i64.wrap (aB .and .u8 (b_1.toNat:Int) 127))*2 ^ (min (IntKind.i64.wrap (7*(IntKind.i64.wrap (i8 - at_1)))).toNat IntKind.i64.bits)))) (IntKind.i64.wrap (i8+1))
 else
 some (0,0,300)
 else
 some (0,0,300)
 else
 some (0,0,300):=by kernel_rfl
theorem eB.f_eq (bar:aD)(k:Nat)(a0:List UInt8)(a1:Int):eB.f bar (k+1) a0 a1=
 (rd a0 (IntKind.i64.wrap (Int.tdiv a1 8))).bind fun b_1=>
 bif decide (Int.tmod a1 8<0) then
 none
 else
 some ((aB .and .u8 (Int.fdiv (b_1.toNat:Int) (2 ^ (min (Int.tmod a1 8).toNat IntKind.u8.bits))) 1)==1):=by kernel_rfl
theorem fu.f_eq (bar:aD)(k:Nat)(a0:Int):fu.f bar (k+1) a0=
 (aW.f bar k a0).bind fun r_1=>
 bif decide ((([105]:List UInt8)).length+(r_1).length≤9223372036854775807) then
 bif decide ((([105]:List UInt8)++r_1).length+(([59]:List UInt8)).length≤9223372036854775807) then
 some ((([105]:List UInt8)++r_1)++([59]:List UInt8))
 else
 none
 else
 none:=by kernel_rfl
theorem eZ.f_eq (bar:aD)(k:Nat)(a0:Bool):eZ.f bar (k+1) a0=
 bif a0 then
 some ([116]:List UInt8)
 else
 some ([102]:List UInt8):=by kernel_rfl
theorem eC.f_eq (bar:aD)(k:Nat)(a0:List UInt8):eC.f bar (k+1) a0=
 (aC.f bar k ((a0).length:Int)).bind fun r_1=>
 bif decide ((([115]:List UInt8)).length+(r_1).length≤9223372036854775807) then
 bif decide ((([115]:List UInt8)++r_1).length+(([58]:List UInt8)).length≤9223372036854775807) then
 bif decide (((([115]:List UInt8)++r_1)++([58]:List UInt8)).length+(a0).length≤9223372036854775807) then
 some (((([115]:List UInt8)++r_1)++([58]:List UInt8))++a0)
 else
 none
 else
 none
 else
 none:=by kernel_rfl
theorem bB.f_eq (bar:aD)(k:Nat)(a0:Int)(a1:Int)(a2:Int):bB.f bar (k+1) a0 a1 a2=
 bif decide (a0≥a1) then
 some (decide (a0≤a2))
 else
 some false:=by kernel_rfl
theorem bA.f_eq (bar:aD)(k:Nat)(a0:List bc)(a1:Int):bA.f bar (k+1) a0 a1=
 bA.l0 bar k k a1 1 a0 ([]:List Int):=by kernel_rfl
theorem bA.l0_eq (bar:aD)(k:Nat)(n:Nat)(at_1:Int)(i6:Int)(t2:List bc)(x2005:List Int):bA.l0 bar k (n+1) at_1 i6 t2 x2005=
 bif decide (i6<((t2).length:Int)) then
 (rd t2 i6).bind fun e_1=>
 bif (e_1.parent==at_1) then
 bif decide (((x2005).length+(([i6]:List Int)).length)*8≤140737488355328) then
 bA.l0 bar k n at_1 (IntKind.i64.wrap (i6+1)) t2 (x2005++([i6]:List Int))
 else
 none
 else
 bA.l0 bar k n at_1 (IntKind.i64.wrap (i6+1)) t2 x2005
 else
 some x2005:=by kernel_rfl
theorem jm.f_eq (bar:aD)(k:Nat)(a0:List bc)(a1:Int):jm.f bar (k+1) a0 a1=
 (fx.f bar k a0 a1).bind fun r_1=>
 bif (!r_1) then
 some (([]:List Int),500)
 else
 (cq.f bar k a0 a1).bind fun r_2=>
 some (r_2,0):=by kernel_rfl
theorem bQ.f_eq (bar:aD)(k:Nat)(a0:List bc):bQ.f bar (k+1) a0=
 bif (!(((a0).length:Int)==0)) then
 bif decide (((a0).length:Int)>8) then
 some false
 else
 bQ.l0 bar k k a0 ((a0).length:Int) 0
 else
 some false:=by kernel_rfl
theorem bQ.l0_eq (bar:aD)(k:Nat)(n:Nat)(x19:List bc)(x20:Int)(x21:Int):bQ.l0 bar k (n+1) x19 x20 x21=
 bif decide (x21<x20) then
 (rd x19 x21).bind fun e_1=>
 bif (!(decide (e_1.kind<0))) then
 bif (!(decide (e_1.kind>4))) then
 (gJ.f bar k x19 x21).bind fun r_2=>
 bif (!r_2) then
 some false
 else
 bQ.l0 bar k n x19 x20 (IntKind.i64.wrap (x21+1))
 else
 some false
 else
 some false
 else
 bQ.l2 bar k k x19 ((x19).length:Int) 0:=by kernel_rfl
theorem bQ.l2_eq (bar:aD)(k:Nat)(n:Nat)(x41:List bc)(x42:Int)(x43:Int):bQ.l2 bar k (n+1) x41 x42 x43=
 bif decide (x43<x42) then
 (rd x41 x43).bind fun e_1=>
 (cq.f bar k x41 x43).bind fun r_2=>
 bif (e_1.kind==3) then
 bif (!(((r_2).length:Int) != 1)) then
 bif (e_1.kind==4) then
 bif (!(((r_2).length:Int)==0)) then
 (cJ.f bar k x41 x43).bind fun r_3=>
 bif decide (((r_3).length:Int)>5) then
 some false
 else
 bQ.l2 bar k n x41 x42 (IntKind.i64.wrap (x43+1))
 else
 some false
 else
 (cJ.f bar k x41 x43).bind fun r_4=>
 bif decide (((r_4).length:Int)>5) then
 some false
 else
 bQ.l2 bar k n x41 x42 (IntKind.i64.wrap (x43+1))
 else
 some false
 else
 bif (e_1.kind==4) then
 bif (!(((r_2).length:Int)==0)) then
 (cJ.f bar k x41 x43).bind fun r_5=>
 bif decide (((r_5).length:Int)>5) then
 some false
 else
 bQ.l2 bar k n x41 x42 (IntKind.i64.wrap (x43+1))
 else
 some false
 else
 (cJ.f bar k x41 x43).bind fun r_6=>
 bif decide (((r_6).length:Int)>5) then
 some false
 else
 bQ.l2 bar k n x41 x42 (IntKind.i64.wrap (x43+1))
 else
 some true:=by kernel_rfl
theorem gf.f_eq (bar:aD)(k:Nat)(a0:List Int)(a1:Int):gf.f bar (k+1) a0 a1=
 bif decide (a1≥0) then
 bif decide (a1≤16) then
 bif decide (((a0).length:Int)≤4096) then
 (bL.f bar k a0 a1).bind fun r_1=>
 some (!r_1)
 else
 some false
 else
 some false
 else
 some false:=by kernel_rfl
theorem cb.f_eq (bar:aD)(k:Nat)(a0:List Int):cb.f bar (k+1) a0=
 cb.l0 bar k k a0 ((a0).length:Int) 0:=by kernel_rfl
theorem cb.l0_eq (bar:aD)(k:Nat)(n:Nat)(xs0:List Int)(x6:Int)(x7:Int):cb.l0 bar k (n+1) xs0 x6 x7=
 bif decide (x7<x6) then
 (rd xs0 x7).bind fun e_1=>
 (rd xs0 0).bind fun e_2=>
 bif (e_1 != e_2) then
 some x7
 else
 cb.l0 bar k n xs0 x6 (IntKind.i64.wrap (x7+1))
 else
 some ((xs0).length:Int):=by kernel_rfl
theorem cD.f_eq (bar:aD)(k:Nat)(a0:Int):cD.f bar (k+1) a0=
 (ka.f bar k a0).bind fun r_1=>
 bif (!r_1) then
 some (([]:List UInt8),300)
 else
 cD.l0 bar k k a0 ([]:List Int):=by kernel_rfl
theorem cD.l0_eq (bar:aD)(k:Nat)(n:Nat)(x0:Int)(x2004:List Int):cD.l0 bar k (n+1) x0 x2004=
 bif decide (x0≥128) then
 bif decide (((x2004).length+(([aB .or .u8 (IntKind.u8.wrap x0) 128]:List Int)).length)*1≤140737488355328) then
 cD.l0 bar k n (Int.fdiv x0 (2 ^ (min 7 IntKind.i64.bits))) (x2004++([aB .or .u8 (IntKind.u8.wrap x0) 128]:List Int))
 else
 none
 else
 bif decide (((x2004).length+(([IntKind.u8.wrap x0]:List Int)).length)*1≤140737488355328) then
 some (ag (x2004++([IntKind.u8.wrap x0]:List Int)),0)
 else
 none:=by kernel_rfl
theorem fp.f_eq (bar:aD)(k:Nat)(a0:Int):fp.f bar (k+1) a0=
 some (IntKind.i64.wrap (Int.tdiv (IntKind.i64.wrap (a0+7)) 8)):=by kernel_rfl
theorem ca.f_eq (bar:aD)(k:Nat)(a0:List Int):ca.f bar (k+1) a0=
 ca.l0 bar k k a0 0:=by kernel_rfl
theorem ca.l0_eq (bar:aD)(k:Nat)(n:Nat)(xs0:List Int)(at_3:Int):ca.l0 bar k (n+1) xs0 at_3=
 bif decide (at_3<((xs0).length:Int)) then
 bif decide (0≤at_3)&&decide (at_3≤(((xs0).length:Nat):Int)) then
 (cb.f bar k (List.drop ((at_3).toNat) (List.take ((xs0).length) xs0))).bind fun r_1=>
 bif decide (r_1≥8) then
 some at_3
 else
 ca.l0 bar k n xs0 (IntKind.i64.wrap (at_3+8))
 else
 none
 else
 some ((xs0).length:Int):=by kernel_rfl
theorem bG.f_eq (bar:aD)(k:Nat)(a0:List Int)(a1:Int):bG.f bar (k+1) a0 a1=
 bif (IntKind.i64.wrap ((IntKind.i64.wrap ((IntKind.i64.wrap (Int.tdiv (IntKind.i64.wrap ((IntKind.i64.wrap (((a0).length:Int)+8)) - 1)) 8))*8))*a1)==IntKind.i64.wrap ((IntKind.i64.wrap ((IntKind.i64.wrap (Int.tdiv (IntKind.i64.wrap ((IntKind.i64.wrap (((a0).length:Int)+8)) - 1)) 8))*8))*a1))&&(decide (0≤IntKind.i64.wrap ((IntKind.i64.wrap ((IntKind.i64.wrap (Int.tdiv (IntKind.i64.wrap ((IntKind.i64.wrap (((a0).length:Int)+8)) - 1)) 8))*8))*a1))&&decide ((IntKind.i64.wrap ((IntKind.i64.wrap ((IntKind.i64.wrap (Int.tdiv (IntKind.i64.wrap ((IntKind.i64.wrap (((a0).length:Int)+8)) - 1)) 8))*8))*a1))*1≤140737488355328)) then
 bG.l0 bar k k a1 a0 ((a0).length:Int) 0 (List.replicate (IntKind.i64.wrap ((IntKind.i64.wrap ((IntKind.i64.wrap (Int.tdiv (IntKind.i64.wrap ((IntKind.i64.wrap (((a0).length:Int)+8)) - 1)) 8))*8))*a1)).toNat (false:Bool):List Bool)
 else
 none:=by kernel_rfl
theorem bG.l0_eq (bar:aD)(k:Nat)(n:Nat)(width1:Int)(x18:List Int)(x19:Int)(x20:Int)(x2005:List Bool):bG.l0 bar k (n+1) width1 x18 x19 x20 x2005=
 bif decide (x20<x19) then
 (rd x18 x20).bind fun e_1=>
 bG.l2 bar k n k width1 x20 e_1 x18 x19 0 x2005
 else
 (fl.f bar k x2005).bind fun r_2=>
 some r_2:=by kernel_rfl
theorem bG.l2_eq (bar:aD)(k:Nat)(m1:Nat)(n:Nat)(width1:Int)(i6:Int)(x7:Int)(x18:List Int)(x19:Int)(x26:Int)(x2005:List Bool):bG.l2 bar k m1 (n+1) width1 i6 x7 x18 x19 x26 x2005=
 bif decide (x26<width1) then
 bif decide (x26<0) then
 none
 else
 bif decide (0≤IntKind.i64.wrap ((IntKind.i64.wrap (i6*width1))+x26))&&decide (IntKind.i64.wrap ((IntKind.i64.wrap (i6*width1))+x26)<((x2005).length:Int)) then
 (x2005[(IntKind.i64.wrap ((IntKind.i64.wrap (i6*width1))+x26)).toNat]?).bind fun e_1=>
 bG.l2 bar k m1 n width1 i6 x7 x18 x19 (IntKind.i64.wrap (x26+1)) ((x2005).set ((IntKind.i64.wrap ((IntKind.i64.wrap (i6*width1))+x26)).toNat) ((aB .and .i64 (Int.fdiv x7 (2 ^ (min (x26).toNat IntKind.i64.bits))) 1)==1))
 else
 none
 else
 bG.l0 bar k m1 width1 x18 x19 (IntKind.i64.wrap (i6+1)) x2005:=by kernel_rfl
theorem bJ.f_eq (bar:aD)(k:Nat)(a0_0:List UInt8)(a0_1:Bool)(a1:Int):bJ.f bar (k+1) a0_0 a0_1 a1=
 bif decide (a1>4) then
 (bU.f bar k a0_0 a0_1).bind fun r_1=>
 some ((r_1.1.1,r_1.1.2),(r_1.2.1,r_1.2.2))
 else
 (cm.f bar k a0_0 a0_1).bind fun r_2=>
 bif (r_2.1==110) then
 some (((-1),([]:List (List UInt8))),(r_2.2.1,r_2.2.2))
 else
 bif (r_2.1==105) then
 (bK.f bar k r_2.2.1 r_2.2.2 ([59]:List UInt8)).bind fun r_3=>
 some ((0,([r_3.1.2]:List (List UInt8))),(r_3.2.1,r_3.2.2))
 else
 bif (r_2.1==116) then
 bif (r_2.1==116) then
 some ((1,([ag ([r_2.1]:List Int)]:List (List UInt8))),(r_2.2.1,r_2.2.2))
 else
 bif (r_2.1==115) then
 (bK.f bar k r_2.2.1 r_2.2.2 ([58]:List UInt8)).bind fun r_4=>
 (cV.f bar k r_4.2.1 r_4.2.2 r_4.1.1).bind fun r_5=>
 some ((2,([r_5.1]:List (List UInt8))),(r_5.2.1,r_5.2.2))
 else
 bif (r_2.1==91) then
 (aN.f bar k r_2.2.1 r_2.2.2 93 (IntKind.i64.wrap (a1+1))).bind fun r_6=>
 some ((3,r_6.1),(r_6.2.1,r_6.2.2))
 else
 bif (r_2.1==123) then
 (aN.f bar k r_2.2.1 r_2.2.2 125 (IntKind.i64.wrap (a1+1))).bind fun r_7=>
 some ((4,r_7.1),(r_7.2.1,r_7.2.2))
 else
 (bU.f bar k r_2.2.1 r_2.2.2).bind fun r_8=>
 some ((r_8.1.1,r_8.1.2),(r_8.2.1,r_8.2.2))
 else
 bif (r_2.1==102) then
 some ((1,([ag ([r_2.1]:List Int)]:List (List UInt8))),(r_2.2.1,r_2.2.2))
 else
 bif (r_2.1==115) then
 (bK.f bar k r_2.2.1 r_2.2.2 ([58]:List UInt8)).bind fun r_9=>
 (cV.f bar k r_9.2.1 r_9.2.2 r_9.1.1).bind fun r_10=>
 some ((2,([r_10.1]:List (List UInt8))),(r_10.2.1,r_10.2.2))
 else
 bif (r_2.1==91) then
 (aN.f bar k r_2.2.1 r_2.2.2 93 (IntKind.i64.wrap (a1+1))).bind fun r_11=>
 some ((3,r_11.1),(r_11.2.1,r_11.2.2))
 else
 bif (r_2.1==123) then
 (aN.f bar k r_2.2.1 r_2.2.2 125 (IntKind.i64.wrap (a1+1))).bind fun r_12=>
 some ((4,r_12.1),(r_12.2.1,r_12.2.2))
 else
 (bU.f bar k r_2.2.1 r_2.2.2).bind fun r_13=>
 some ((r_13.1.1,r_13.1.2),(r_13.2.1,r_13.2.2)):=by kernel_rfl
theorem dU.f_eq (bar:aD)(k:Nat)(a0:List bc)(a1:Int):dU.f bar (k+1) a0 a1=
 (b6.f bar k a0 a1).bind fun r_1=>
 bif (!r_1) then
 some (([]:List Int),500)
 else
 (bA.f bar k a0 a1).bind fun r_2=>
 some (r_2,0):=by kernel_rfl
theorem aU.f_eq (bar:aD)(k:Nat)(a0:List Bool):aU.f bar (k+1) a0=
 (bT.f bar k ((a0).length:Int)).bind fun r_1=>
 bif (r_1==r_1)&&(decide (0≤r_1)&&decide (r_1*1≤140737488355328)) then
 aU.l0 bar k k a0 0 (List.replicate (r_1).toNat (0:Int):List Int)
 else
 none:=by kernel_rfl
theorem aU.l0_eq (bar:aD)(k:Nat)(n:Nat)(xs0:List Bool)(i4:Int)(x2003:List Int):aU.l0 bar k (n+1) xs0 i4 x2003=
 bif decide (i4<((xs0).length:Int)) then
 (rd xs0 i4).bind fun e_1=>
 bif e_1 then
 bif decide (0≤IntKind.i64.wrap (Int.tdiv i4 8))&&decide (IntKind.i64.wrap (Int.tdiv i4 8)<((x2003).length:Int)) then
 (x2003[(IntKind.i64.wrap (Int.tdiv i4 8)).toNat]?).bind fun e_2=>
 bif decide (Int.tmod i4 8<0) then
 none
 else
 bif decide (0≤IntKind.i64.wrap (Int.tdiv i4 8))&&decide (IntKind.i64.wrap (Int.tdiv i4 8)<((x2003).length:Int)) then
 (x2003[(IntKind.i64.wrap (Int.tdiv i4 8)).toNat]?).bind fun e_3=>
 aU.l0 bar k n xs0 (IntKind.i64.wrap (i4+1)) ((x2003).set ((IntKind.i64.wrap (Int.tdiv i4 8)).toNat) (aB .or .u8 e_2 (IntKind.u8.wrap (1*2 ^ (min (Int.tmod i4 8).toNat IntKind.u8.bits)))))
 else
 none
 else
 none
 else
 aU.l0 bar k n xs0 (IntKind.i64.wrap (i4+1)) x2003
 else
 some (ag x2003):=by kernel_rfl
theorem ai.f_eq (bar:aD)(k:Nat)(a0:List UInt8)(a1:Int)(a2:Int):ai.f bar (k+1) a0 a1 a2=
 bif decide (a1≥((a0).length:Int)) then
 some (-1)
 else
 (rd a0 a1).bind fun b_1=>
 bif ((b_1.toNat:Int)==110) then
 bif ((b_1.toNat:Int)==110) then
 some (IntKind.i64.wrap (a1+1))
 else
 bif ((b_1.toNat:Int)==105) then
 (aI.f bar k a0 a1 59).bind fun r_2=>
 bif decide (r_2<0) then
 some (-1)
 else
 bif decide (0≤r_2)&&decide (r_2≤(((a0).length:Nat):Int)) then
 bif decide (0≤IntKind.i64.wrap (a1+1))&&decide (IntKind.i64.wrap (a1+1)≤(((r_2).toNat:Nat):Int)) then
 (ak.f bar k (List.drop ((IntKind.i64.wrap (a1+1)).toNat) (List.take ((r_2).toNat) a0))).bind fun r_3=>
 bif (!r_3.2) then
 some (-1)
 else
 some (IntKind.i64.wrap (r_2+1))
 else
 none
 else
 none
 else
 bif ((b_1.toNat:Int)==115) then
 (aI.f bar k a0 a1 58).bind fun r_4=>
 bif decide (r_4<0) then
 some (-1)
 else
 bif decide (0≤r_4)&&decide (r_4≤(((a0).length:Nat):Int)) then
 bif decide (0≤IntKind.i64.wrap (a1+1))&&decide (IntKind.i64.wrap (a1+1)≤(((r_4).toNat:Nat):Int)) then
 (ak.f bar k (List.drop ((IntKind.i64.wrap (a1+1)).toNat) (List.take ((r_4).toNat) a0))).bind fun r_5=>
 bif (!(!r_5.2)) then
 bif (!(decide (r_5.1<0))) then
 bif decide (r_5.1>(IntKind.i64.wrap ((IntKind.i64.wrap (((a0).length:Int) - r_4)) - 1))) then
 some (-1)
 else
 some (IntKind.i64.wrap ((IntKind.i64.wrap (r_4+1))+r_5.1))
 else
 some (-1)
 else
 some (-1)
 else
 none
 else
 none
 else
 bif ((b_1.toNat:Int)==91) then
 bif ((b_1.toNat:Int)==91) then
 (rd a0 a1).bind fun b_6=>
 ai.l1 bar k k a0 (IntKind.i64.wrap (a1+1)) a2 (IntKind.u8.wrap ((b_6.toNat:Int)+2))
 else
 some (-1)
 else
 bif ((b_1.toNat:Int)==123) then
 (rd a0 a1).bind fun b_7=>
 ai.l1 bar k k a0 (IntKind.i64.wrap (a1+1)) a2 (IntKind.u8.wrap ((b_7.toNat:Int)+2))
 else
 some (-1)
 else
 bif ((b_1.toNat:Int)==116) then
 bif ((b_1.toNat:Int)==116) then
 some (IntKind.i64.wrap (a1+1))
 else
 bif ((b_1.toNat:Int)==105) then
 (aI.f bar k a0 a1 59).bind fun r_8=>
 bif decide (r_8<0) then
 some (-1)
 else
 bif decide (0≤r_8)&&decide (r_8≤(((a0).length:Nat):Int)) then
 bif decide (0≤IntKind.i64.wrap (a1+1))&&decide (IntKind.i64.wrap (a1+1)≤(((r_8).toNat:Nat):Int)) then
 (ak.f bar k (List.drop ((IntKind.i64.wrap (a1+1)).toNat) (List.take ((r_8).toNat) a0))).bind fun r_9=>
 bif (!r_9.2) then
 some (-1)
 else
 some (IntKind.i64.wrap (r_8+1))
 else
 none
 else
 none
 else
 bif ((b_1.toNat:Int)==115) then
 (aI.f bar k a0 a1 58).bind fun r_10=>
 bif decide (r_10<0) then
 some (-1)
 else
 bif decide (0≤r_10)&&decide (r_10≤(((a0).length:Nat):Int)) then
 bif decide (0≤IntKind.i64.wrap (a1+1))&&decide (IntKind.i64.wrap (a1+1)≤(((r_10).toNat:Nat):Int)) then
 (ak.f bar k (List.drop ((IntKind.i64.wrap (a1+1)).toNat) (List.take ((r_10).toNat) a0))).bind fun r_11=>
 bif (!(!r_11.2)) then
 bif (!(decide (r_11.1<0))) then
 bif decide (r_11.1>(IntKind.i64.wrap ((IntKind.i64.wrap (((a0).length:Int) - r_10)) - 1))) then
 some (-1)
 else
 some (IntKind.i64.wrap ((IntKind.i64.wrap (r_10+1))+r_11.1))
 else
 some (-1)
 else
 some (-1)
 else
 none
 else
 none
 else
 bif ((b_1.toNat:Int)==91) then
 bif ((b_1.toNat:Int)==91) then
 (rd a0 a1).bind fun b_12=>
 ai.l1 bar k k a0 (IntKind.i64.wrap (a1+1)) a2 (IntKind.u8.wrap ((b_12.toNat:Int)+2))
 else
 some (-1)
 else
 bif ((b_1.toNat:Int)==123) then
 (rd a0 a1).bind fun b_13=>
 ai.l1 bar k k a0 (IntKind.i64.wrap (a1+1)) a2 (IntKind.u8.wrap ((b_13.toNat:Int)+2))
 else
 some (-1)
 else
 bif ((b_1.toNat:Int)==102) then
 some (IntKind.i64.wrap (a1+1))
 else
 bif ((b_1.toNat:Int)==105) then
 (aI.f bar k a0 a1 59).bind fun r_14=>
 bif decide (r_14<0) then
 some (-1)
 else
 bif decide (0≤r_14)&&decide (r_14≤(((a0).length:Nat):Int)) then
 bif decide (0≤IntKind.i64.wrap (a1+1))&&decide (IntKind.i64.wrap (a1+1)≤(((r_14).toNat:Nat):Int)) then
 (ak.f bar k (List.drop ((IntKind.i64.wrap (a1+1)).toNat) (List.take ((r_14).toNat) a0))).bind fun r_15=>
 bif (!r_15.2) then
 some (-1)
 else
 some (IntKind.i64.wrap (r_14+1))
 else
 none
 else
 none
 else
 bif ((b_1.toNat:Int)==115) then
 (aI.f bar k a0 a1 58).bind fun r_16=>
 bif decide (r_16<0) then
 some (-1)
 else
 bif decide (0≤r_16)&&decide (r_16≤(((a0).length:Nat):Int)) then
 bif decide (0≤IntKind.i64.wrap (a1+1))&&decide (IntKind.i64.wrap (a1+1)≤(((r_16).toNat:Nat):Int)) then
 (ak.f bar k (List.drop ((IntKind.i64.wrap (a1+1)).toNat) (List.take ((r_16).toNat) a0))).bind fun r_17=>
 bif (!(!r_17.2)) then
 bif (!(decide (r_17.1<0))) then
 bif decide (r_17.1>(IntKind.i64.wrap ((IntKind.i64.wrap (((a0).length:Int) - r_16)) - 1))) then
 some (-1)
 else
 some (IntKind.i64.wrap ((IntKind.i64.wrap (r_16+1))+r_17.1))
 else
 some (-1)
 else
 some (-1)
 else
 none
 else
 none
 else
 bif ((b_1.toNat:Int)==91) then
 bif ((b_1.toNat:Int)==91) then
 (rd a0 a1).bind fun b_18=>
 ai.l1 bar k k a0 (IntKind.i64.wrap (a1+1)) a2 (IntKind.u8.wrap ((b_18.toNat:Int)+2))
 else
 some (-1)
 else
 bif ((b_1.toNat:Int)==123) then
 (rd a0 a1).bind fun b_19=>
 ai.l1 bar k k a0 (IntKind.i64.wrap (a1+1)) a2 (IntKind.u8.wrap ((b_19.toNat:Int)+2))
 else
 some (-1):=by kernel_rfl
theorem ai.l1_eq (bar:aD)(k:Nat)(n:Nat)(s0:List UInt8)(at_1:Int)(deep2:Int)(stop13:Int):ai.l1 bar k (n+1) s0 at_1 deep2 stop13=
 bif decide (deep2>0) then
 bif decide (at_1<((s0).length:Int)) then
 (rd s0 at_1).bind fun b_1=>
 bif ((b_1.toNat:Int) != stop13) then
 (ai.f bar k s0 at_1 (IntKind.i64.wrap (deep2 - 1))).bind fun r_2=>
 bif decide (r_2<0) then
 some (-1)
 else
 ai.l1 bar k n s0 r_2 deep2 stop13
 else
 bif decide (at_1<((s0).length:Int)) then
 (rd s0 at_1).bind fun b_3=>
 bif ((b_3.toNat:Int)==stop13) then
 some (IntKind.i64.wrap (at_1+1))
 else
 some (-1)
 else
 some (-1)
 else
 bif decide (at_1<((s0).length:Int)) then
 (rd s0 at_1).bind fun b_4=>
 bif ((b_4.toNat:Int)==stop13) then
 some (IntKind.i64.wrap (at_1+1))
 else
 some (-1)
 else
 some (-1)
 else
 bif decide (at_1<((s0).length:Int)) then
 (rd s0 at_1).bind fun b_5=>
 bif ((b_5.toNat:Int)==stop13) then
 some (IntKind.i64.wrap (at_1+1))
 else
 some (-1)
 else
 some (-1):=by kernel_rfl
theorem aI.f_eq (bar:aD)(k:Nat)(a0:List UInt8)(a1:Int)(a2:Int):aI.f bar (k+1) a0 a1 a2=
 aI.l0 bar k k a0 a1 a2 a1:=by kernel_rfl
theorem aI.l0_eq (bar:aD)(k:Nat)(n:Nat)(s0:List UInt8)(at_1:Int)(sign2:Int)(i7:Int):aI.l0 bar k (n+1) s0 at_1 sign2 i7=
 bif decide (i7<((s0).length:Int)) then
 bif decide (i7<(IntKind.i64.wrap (at_1+22))) then
 (rd s0 i7).bind fun b_1=>
 bif ((b_1.toNat:Int)==sign2) then
 some i7
 else
 aI.l0 bar k n s0 at_1 sign2 (IntKind.i64.wrap (i7+1))
 else
 some (-1)
 else
 some (-1):=by kernel_rfl
theorem bN.f_eq (bar:aD)(k:Nat)(a0:List bc)(a1:Int)(a2:List (List UInt8)):bN.f bar (k+1) a0 a1 a2=
 (b6.f bar k a0 a1).bind fun r_1=>
 bif (!r_1) then
 some ((hZ.mk 0 0 0 [] [] [] ([]:List hZ)),1000)
 else
 bN.l0 bar k k a1 a2 0 a0:=by kernel_rfl
theorem bN.l0_eq (bar:aD)(k:Nat)(n:Nat)(at_1:Int)(vs2:List (List UInt8))(i8:Int)(t3:List bc):bN.l0 bar k (n+1) at_1 vs2 i8 t3=
 bif decide (i8<((vs2).length:Int)) then
 (rd vs2 i8).bind fun e_1=>
 (af.f bar k t3 at_1 e_1).bind fun r_2=>
 bif (!r_2) then
 some ((hZ.mk 0 0 0 [] [] [] ([]:List hZ)),1000)
 else
 bN.l0 bar k n at_1 vs2 (IntKind.i64.wrap (i8+1)) t3
 else
 (au.f bar k t3 at_1 vs2).bind fun r_3=>
 bif (!r_3.2) then
 some ((hZ.mk 0 0 0 [] [] [] ([]:List hZ)),1001)
 else
 some ((hZ.mk r_3.1.layout r_3.1.offset r_3.1.length r_3.1.valid r_3.1.ends r_3.1.data r_3.1.kids),0):=by kernel_rfl
theorem ka.f_eq (bar:aD)(k:Nat)(a0:Int):ka.f bar (k+1) a0=
 bif decide (a0≥0) then
 some (decide (a0≤2147483647))
 else
 some false:=by kernel_rfl
theorem cg.f_eq (bar:aD)(k:Nat)(a0_0:List UInt8)(a0_1:Int)(a0_2:List Int)(a0_3:Bool)(a1:Int):cg.f bar (k+1) a0_0 a0_1 a0_2 a0_3 a1=
 bif (!a0_3) then
 bif decide (a1>((a0_0).length:Int)) then
 some (([]:List UInt8),(a0_0,a0_1,a0_2,true))
 else
 bif decide (0≤a1)&&decide (a1≤(((a0_0).length:Nat):Int)) then
 bif decide (0≤a1)&&decide (a1≤(((a0_0).length:Nat):Int)) then
 some (List.drop 0 (List.take ((a1).toNat) a0_0),(List.drop ((a1).toNat) (List.take ((a0_0).length) a0_0),a0_1,a0_2,a0_3))
 else
 none
 else
 none
 else
 some (([]:List UInt8),(a0_0,a0_1,a0_2,true)):=by kernel_rfl
theorem az.f_eq (bar:aD)(k:Nat)(a0:List Int)(a1:Int):az.f bar (k+1) a0 a1=
 bif decide (a1<0) then
 none
 else
 bar _ (az.j3 bar k a0 a1):=by kernel_rfl
theorem az.j3_eq (bar:aD)(k:Nat)(x0:List Int)(count1:Int):az.j3 bar k x0 count1=
 (fU.f bar k (IntKind.u64.wrap ((x0).length:Int)) (IntKind.u64.wrap count1)).bind fun r_1=>
 bif (!(decide (r_1.1>0))) then
 bif decide (r_1.2>9223372036854775807) then
 none
 else
 bar _ (az.j6 bar k x0 r_1.2)
 else
 none:=by kernel_rfl
theorem az.j6_eq (bar:aD)(k:Nat)(x0:List Int)(lo6:Int):az.j6 bar k x0 lo6=
 bif (IntKind.i64.wrap lo6==IntKind.i64.wrap lo6)&&(decide (0≤IntKind.i64.wrap lo6)&&decide ((IntKind.i64.wrap lo6)*8≤140737488355328)) then
 bif Nat.ble (0+((List.replicate (IntKind.i64.wrap lo6).toNat (0:Int):List Int)).length) ((List.replicate (IntKind.i64.wrap lo6).toNat (0:Int):List Int)).length then
 az.l0 bar k k ((min (x0).length (((List.replicate (IntKind.i64.wrap lo6).toNat (0:Int):List Int)).length):Nat):Int) (List.take 0 (List.replicate (IntKind.i64.wrap lo6).toNat (0:Int):List Int)++List.take (((List.replicate (IntKind.i64.wrap lo6).toNat (0:Int):List Int)).length) x0++List.drop (0+(min (x0).length (((List.replicate (IntKind.i64.wrap lo6).toNat (0:Int):List Int)).length))) (List.replicate (IntKind.i64.wrap lo6).toNat (0:Int):List Int))
 else
 none
 else
 none:=by kernel_rfl
theorem az.l0_eq (bar:aD)(k:Nat)(n:Nat)(n_8:Int)(x2007:List Int):az.l0 bar k (n+1) n_8 x2007=
 bif decide (n_8<((x2007).length:Int)) then
 bif decide (0≤n_8)&&decide (n_8≤(((x2007).length:Nat):Int)) then
 bif decide (0≤n_8)&&decide (n_8≤(((x2007).length:Nat):Int)) then
 bif Nat.ble ((n_8).toNat+(((x2007).length) - ((n_8).toNat))) (x2007).length then
 (bif Nat.ble (0+(n_8).toNat) (x2007).length then some (List.take ((n_8).toNat) (List.drop 0 x2007)) else none).bind fun ys_1=>
 az.l0 bar k n (IntKind.i64.wrap (n_8+((min (ys_1).length (((x2007).length) - ((n_8).toNat)):Nat):Int))) (List.take ((n_8).toNat) x2007++List.take (((x2007).length) - ((n_8).toNat)) ys_1++List.drop (((n_8).toNat)+(min (ys_1).length (((x2007).length) - ((n_8).toNat)))) x2007)
 else
 none
 else
 none
 else
 none
 else
 some x2007:=by kernel_rfl
end Go.Proofs.YtjkokaockhecnaaGreatDoorA
