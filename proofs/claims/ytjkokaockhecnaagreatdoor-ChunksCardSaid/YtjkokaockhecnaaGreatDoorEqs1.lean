/- Each function and each loop of the program answers as its equation says; no condition. -/
import Derived.Test.YtjkokaockhecnaaGreatDoorFns
namespace Go.Proofs.YtjkokaockhecnaaGreatDoorA
open Go
set_option linter.unusedVariables false
theorem cM.f_eq (bar:aC)(k:Nat)(a0:List UInt8)(a1:Int)(a2:Int):cM.f bar (k+1) a0 a1 a2=
 bif (a2 != 4) then
 bif (!(a2 != 8)) then
 bif (!(decide (a1<0))) then
 bif decide (a1>(IntKind.i64.wrap (((a0).length:Int) - a2))) then
 some (0,300)
 else
 bif decide (0≤IntKind.i64.wrap (a1+a2))&&decide (IntKind.i64.wrap (a1+a2)≤(((a0).length:Nat):Int)) then
 bif decide (0≤a1)&&decide (a1≤(((IntKind.i64.wrap (a1+a2)).toNat:Nat):Int)) then
 (bB.f bar k (List.drop ((a1).toNat) (List.take ((IntKind.i64.wrap (a1+a2)).toNat) a0))).bind fun r_1=>
 bif (a2==4) then
 (dW.f bar k r_1).bind fun r_2=>
 bif (!r_2) then
 some (0,300)
 else
 some (r_1,0)
 else
 some (r_1,0)
 else
 none
 else
 none
 else
 some (0,300)
 else
 some (0,300)
 else
 bif (!(decide (a1<0))) then
 bif decide (a1>(IntKind.i64.wrap (((a0).length:Int) - a2))) then
 some (0,300)
 else
 bif decide (0≤IntKind.i64.wrap (a1+a2))&&decide (IntKind.i64.wrap (a1+a2)≤(((a0).length:Nat):Int)) then
 bif decide (0≤a1)&&decide (a1≤(((IntKind.i64.wrap (a1+a2)).toNat:Nat):Int)) then
 (bB.f bar k (List.drop ((a1).toNat) (List.take ((IntKind.i64.wrap (a1+a2)).toNat) a0))).bind fun r_3=>
 bif (a2==4) then
 (dW.f bar k r_3).bind fun r_4=>
 bif (!r_4) then
 some (0,300)
 else
 some (r_3,0)
 else
 some (r_3,0)
 else
 none
 else
 none
 else
 some (0,300):=by kernel_rfl
theorem aa.f_eq (bar:aC)(k:Nat)(a0:List UInt8)(a1:Int)(a2:Int):aa.f bar (k+1) a0 a1 a2=
 bif (!(decide (a1<0))) then
 bif (!(decide (a1>16))) then
 bif (!(decide (a2<0))) then
 bif decide (a2>4096) then
 some (([]:List Int),2100)
 else
 aa.l0 bar k k a0 a1 a2 0 ([]:List Int)
 else
 some (([]:List Int),2100)
 else
 some (([]:List Int),2100)
 else
 some (([]:List Int),2100):=by kernel_rfl
theorem aa.l0_eq (bar:aC)(k:Nat)(n:Nat)(s0:List UInt8)(width1:Int)(count2:Int)(at_9:Int)(x2008:List Int):aa.l0 bar k (n+1) s0 width1 count2 at_9 x2008=
 bif decide (at_9<((s0).length:Int)) then
 bif decide (((x2008).length:Int)<count2) then
 (bh.f bar k s0 at_9).bind fun r_1=>
 bif (r_1.2.2 != 0) then
 some (([]:List Int),2100)
 else
 (bZ.f bar k width1).bind fun r_2=>
 bif ((aE .and .i64 r_1.1 1)==1) then
 bar _ (aa.j13 bar k n s0 width1 count2 r_1.1 r_1.2.1 (IntKind.i64.wrap (8*(IntKind.i64.wrap (Int.tdiv r_1.1 2)))) (IntKind.i64.wrap ((IntKind.i64.wrap (Int.tdiv r_1.1 2))*width1)) x2008)
 else
 bar _ (aa.j13 bar k n s0 width1 count2 r_1.1 r_1.2.1 (IntKind.i64.wrap (Int.tdiv r_1.1 2)) r_2 x2008)
 else
 (ae.f bar k x2008 width1).bind fun r_3=>
 bif (!(r_3.2 != 0)) then
 bif (!(r_3.1 != s0)) then
 bif (((x2008).length:Int) != count2) then
 some (([]:List Int),2100)
 else
 some (x2008,0)
 else
 some (([]:List Int),2100)
 else
 some (([]:List Int),2100)
 else
 (ae.f bar k x2008 width1).bind fun r_4=>
 bif (!(r_4.2 != 0)) then
 bif (!(r_4.1 != s0)) then
 bif (((x2008).length:Int) != count2) then
 some (([]:List Int),2100)
 else
 some (x2008,0)
 else
 some (([]:List Int),2100)
 else
 some (([]:List Int),2100):=by kernel_rfl
theorem aa.j13_eq (bar:aC)(k:Nat)(m1:Nat)(s0:List UInt8)(width1:Int)(count2:Int)(head10:Int)(to11:Int)(k_13:Int)(size14:Int)(x2008:List Int):aa.j13 bar k m1 s0 width1 count2 head10 to11 k_13 size14 x2008=
 bif (!(decide (k_13>4104))) then
 bif decide (size14>(IntKind.i64.wrap (((s0).length:Int) - to11))) then
 some (([]:List Int),2100)
 else
 aa.l2 bar k m1 k s0 width1 count2 head10 to11 k_13 size14 0 x2008
 else
 some (([]:List Int),2100):=by kernel_rfl
theorem aa.l2_eq (bar:aC)(k:Nat)(m1:Nat)(n:Nat)(s0:List UInt8)(width1:Int)(count2:Int)(head10:Int)(to11:Int)(k_13:Int)(size14:Int)(i15:Int)(x2008:List Int):aa.l2 bar k m1 (n+1) s0 width1 count2 head10 to11 k_13 size14 i15 x2008=
 bif decide (i15<k_13) then
 bif decide (((x2008).length:Int)<count2) then
 bif ((aE .and .i64 head10 1)==0) then
 bif decide (0≤IntKind.i64.wrap (to11+size14))&&decide (IntKind.i64.wrap (to11+size14)≤(((s0).length:Nat):Int)) then
 bif decide (0≤to11)&&decide (to11≤(((IntKind.i64.wrap (to11+size14)).toNat:Nat):Int)) then
 (bB.f bar k (List.drop ((to11).toNat) (List.take ((IntKind.i64.wrap (to11+size14)).toNat) s0))).bind fun r_1=>
 bar _ (aa.j21 bar k m1 n s0 width1 count2 head10 to11 k_13 size14 i15 r_1 x2008)
 else
 none
 else
 none
 else
 bar _ (aa.j21 bar k m1 n s0 width1 count2 head10 to11 k_13 size14 i15 0 x2008)
 else
 aa.l0 bar k m1 s0 width1 count2 (IntKind.i64.wrap (to11+size14)) x2008
 else
 aa.l0 bar k m1 s0 width1 count2 (IntKind.i64.wrap (to11+size14)) x2008:=by kernel_rfl
theorem aa.j21_eq (bar:aC)(k:Nat)(m1:Nat)(m2:Nat)(s0:List UInt8)(width1:Int)(count2:Int)(head10:Int)(to11:Int)(k_13:Int)(size14:Int)(i15:Int)(x16:Int)(x2008:List Int):aa.j21 bar k m1 m2 s0 width1 count2 head10 to11 k_13 size14 i15 x16 x2008=
 aa.l4 bar k m1 m2 k s0 width1 count2 head10 to11 k_13 size14 i15 x16 0 x2008:=by kernel_rfl
theorem aa.l4_eq (bar:aC)(k:Nat)(m1:Nat)(m2:Nat)(n:Nat)(s0:List UInt8)(width1:Int)(count2:Int)(head10:Int)(to11:Int)(k_13:Int)(size14:Int)(i15:Int)(x16:Int)(j17:Int)(x2008:List Int):aa.l4 bar k m1 m2 (n+1) s0 width1 count2 head10 to11 k_13 size14 i15 x16 j17 x2008=
 bif decide (j17<width1) then
 bif ((aE .and .i64 head10 1)==1) then
 bif decide (0≤IntKind.i64.wrap (to11+size14))&&decide (IntKind.i64.wrap (to11+size14)≤(((s0).length:Nat):Int)) then
 bif decide (0≤to11)&&decide (to11≤(((IntKind.i64.wrap (to11+size14)).toNat:Nat):Int)) then
 (eS.f bar k (List.drop ((to11).toNat) (List.take ((IntKind.i64.wrap (to11+size14)).toNat) s0)) (IntKind.i64.wrap ((IntKind.i64.wrap (i15*width1))+j17))).bind fun r_1=>
 bif r_1 then
 bif decide (j17<0) then
 none
 else
 aa.l4 bar k m1 m2 n s0 width1 count2 head10 to11 k_13 size14 i15 (aE .or .i64 x16 (IntKind.i64.wrap (1*2 ^ (min (j17).toNat IntKind.i64.bits)))) (IntKind.i64.wrap (j17+1)) x2008
 else
 aa.l4 bar k m1 m2 n s0 width1 count2 head10 to11 k_13 size14 i15 x16 (IntKind.i64.wrap (j17+1)) x2008
 else
 none
 else
 none
 else
 bif decide (((x2008).length+(([x16]:List Int)).length)*8≤140737488355328) then
 aa.l2 bar k m1 m2 s0 width1 count2 head10 to11 k_13 size14 (IntKind.i64.wrap (i15+1)) (x2008++([x16]:List Int))
 else
 none
 else
 bif decide (((x2008).length+(([x16]:List Int)).length)*8≤140737488355328) then
 aa.l2 bar k m1 m2 s0 width1 count2 head10 to11 k_13 size14 (IntKind.i64.wrap (i15+1)) (x2008++([x16]:List Int))
 else
 none:=by kernel_rfl
theorem ac.f_eq (bar:aC)(k:Nat)(a0:Int)(a1:List UInt8)(a2:Int):ac.f bar (k+1) a0 a1 a2=
 ac.l0 bar k k a0 a1 a2 0 0 ([]:List (List UInt8)):=by kernel_rfl
theorem ac.l0_eq (bar:aC)(k:Nat)(n:Nat)(kind0:Int)(s1:List UInt8)(count2:Int)(at_9:Int)(i10:Int)(x2008:List (List UInt8)):ac.l0 bar k (n+1) kind0 s1 count2 at_9 i10 x2008=
 bif decide (i10<count2) then
 bif (kind0==0) then
 bar _ (ac.j9 bar k n kind0 s1 count2 at_9 i10 8 x2008)
 else
 bar _ (ac.j9 bar k n kind0 s1 count2 at_9 i10 1 x2008)
 else
 some (x2008,(at_9==((s1).length:Int))):=by kernel_rfl
theorem ac.j9_eq (bar:aC)(k:Nat)(m1:Nat)(kind0:Int)(s1:List UInt8)(count2:Int)(at_9:Int)(i10:Int)(size11:Int)(x2008:List (List UInt8)):ac.j9 bar k m1 kind0 s1 count2 at_9 i10 size11 x2008=
 bif (kind0==2) then
 (cM.f bar k s1 at_9 4).bind fun r_1=>
 bif (r_1.2 != 0) then
 some (([]:List (List UInt8)),false)
 else
 bar _ (ac.j15 bar k m1 kind0 s1 count2 (IntKind.i64.wrap (at_9+4)) i10 r_1.1 x2008)
 else
 bar _ (ac.j15 bar k m1 kind0 s1 count2 at_9 i10 size11 x2008):=by kernel_rfl
theorem ac.j15_eq (bar:aC)(k:Nat)(m1:Nat)(kind0:Int)(s1:List UInt8)(count2:Int)(at_9:Int)(i10:Int)(size11:Int)(x2008:List (List UInt8)):ac.j15 bar k m1 kind0 s1 count2 at_9 i10 size11 x2008=
 bif decide (size11>(IntKind.i64.wrap (((s1).length:Int) - at_9))) then
 some (([]:List (List UInt8)),false)
 else
 bif decide (0≤IntKind.i64.wrap (at_9+size11))&&decide (IntKind.i64.wrap (at_9+size11)≤(((s1).length:Nat):Int)) then
 bif decide (0≤at_9)&&decide (at_9≤(((IntKind.i64.wrap (at_9+size11)).toNat:Nat):Int)) then
 bif (kind0==0) then
 (bB.f bar k (List.drop ((at_9).toNat) (List.take ((IntKind.i64.wrap (at_9+size11)).toNat) s1))).bind fun r_1=>
 (f6.f bar k r_1).bind fun r_2=>
 bif decide (((x2008).length+(([r_2]:List (List UInt8))).length)*16≤140737488355328) then
 ac.l0 bar k m1 kind0 s1 count2 (IntKind.i64.wrap (at_9+size11)) (IntKind.i64.wrap (i10+1)) (x2008++([r_2]:List (List UInt8)))
 else
 none
 else
 bif (kind0==1) then
 (fA.f bar k ((List.drop ((at_9).toNat) (List.take ((IntKind.i64.wrap (at_9+size11)).toNat) s1)) != ([0]:List UInt8))).bind fun r_3=>
 bif decide (((x2008).length+(([r_3]:List (List UInt8))).length)*16≤140737488355328) then
 ac.l0 bar k m1 kind0 s1 count2 (IntKind.i64.wrap (at_9+size11)) (IntKind.i64.wrap (i10+1)) (x2008++([r_3]:List (List UInt8)))
 else
 none
 else
 (fb.f bar k (List.drop ((at_9).toNat) (List.take ((IntKind.i64.wrap (at_9+size11)).toNat) s1))).bind fun r_4=>
 bif decide (((x2008).length+(([r_4]:List (List UInt8))).length)*16≤140737488355328) then
 ac.l0 bar k m1 kind0 s1 count2 (IntKind.i64.wrap (at_9+size11)) (IntKind.i64.wrap (i10+1)) (x2008++([r_4]:List (List UInt8)))
 else
 none
 else
 none
 else
 none:=by kernel_rfl
theorem aZ.f_eq (bar:aC)(k:Nat)(a0:List Int)(a1:List Int):aZ.f bar (k+1) a0 a1=
 bif (((a0).length:Int) != ((a1).length:Int)) then
 some false
 else
 aZ.l0 bar k k a0 a1 0:=by kernel_rfl
theorem aZ.l0_eq (bar:aC)(k:Nat)(n:Nat)(a0:List Int)(b1:List Int)(i5:Int):aZ.l0 bar k (n+1) a0 b1 i5=
 bif decide (i5<((a0).length:Int)) then
 (rd a0 i5).bind fun e_1=>
 (rd b1 i5).bind fun e_2=>
 bif (e_1 != e_2) then
 some false
 else
 aZ.l0 bar k n a0 b1 (IntKind.i64.wrap (i5+1))
 else
 some true:=by kernel_rfl
theorem aU.f_eq (bar:aC)(k:Nat)(a0:List Int):aU.f bar (k+1) a0=
 aU.l0 bar k k 0 a0:=by kernel_rfl
theorem aU.l0_eq (bar:aC)(k:Nat)(n:Nat)(i2:Int)(x2000:List Int):aU.l0 bar k (n+1) i2 x2000=
 bif decide (i2<((x2000).length:Int)) then
 bif decide (0≤i2)&&decide (i2<((x2000).length:Int)) then
 (x2000[(i2).toNat]?).bind fun e_1=>
 bif decide (0≤i2)&&decide (i2<((x2000).length:Int)) then
 (x2000[(i2).toNat]?).bind fun e_2=>
 aU.l0 bar k n (IntKind.i64.wrap (i2+1)) ((x2000).set ((i2).toNat) (IntKind.i64.wrap ((-9) - e_1)))
 else
 none
 else
 none
 else
 some ():=by kernel_rfl
theorem ak.f_eq (bar:aC)(k:Nat)(a0:List aT):ak.f bar (k+1) a0=
 bif (!(decide (((a0).length:Int)<1))) then
 bif (!(decide (((a0).length:Int)>8))) then
 (rd a0 0).bind fun e_1=>
 bif (e_1.parent != (-1)) then
 some false
 else
 bif (((a0).length:Int)==((a0).length:Int))&&(decide (0≤((a0).length:Int))&&decide (((a0).length:Int)*8≤140737488355328)) then
 ak.l0 bar k k 0 a0 (List.replicate (((a0).length:Int)).toNat (0:Int):List Int)
 else
 none
 else
 some false
 else
 some false:=by kernel_rfl
theorem ak.l0_eq (bar:aC)(k:Nat)(n:Nat)(i4:Int)(t1:List aT)(x2003:List Int):ak.l0 bar k (n+1) i4 t1 x2003=
 bif decide (i4<((t1).length:Int)) then
 (rd t1 i4).bind fun e_1=>
 (bI.f bar k e_1.kind 0 4).bind fun r_2=>
 bif (!r_2) then
 some false
 else
 (bH.f bar k t1 i4).bind fun r_3=>
 (dh.f bar k e_1.kind).bind fun r_4=>
 bif r_4 then
 bif (!(decide (((r_3).length:Int)>0))) then
 bif (e_1.kind==3) then
 bif (!(((r_3).length:Int) != 1)) then
 bif (e_1.kind==4) then
 bif decide (((r_3).length:Int)<1) then
 some false
 else
 bif (i4==0) then
 ak.l0 bar k n (IntKind.i64.wrap (i4+1)) t1 x2003
 else
 (bI.f bar k e_1.parent 0 (IntKind.i64.wrap (i4 - 1))).bind fun r_5=>
 bif (!(!r_5)) then
 bif decide (0≤e_1.parent)&&decide (e_1.parent<((x2003).length:Int)) then
 (x2003[(e_1.parent).toNat]?).bind fun e_6=>
 bif decide (e_6≥4) then
 some false
 else
 bif decide (0≤e_1.parent)&&decide (e_1.parent<((x2003).length:Int)) then
 (x2003[(e_1.parent).toNat]?).bind fun e_7=>
 bif decide (0≤i4)&&decide (i4<((x2003).length:Int)) then
 (x2003[(i4).toNat]?).bind fun e_8=>
 ak.l0 bar k n (IntKind.i64.wrap (i4+1)) t1 ((x2003).set ((i4).toNat) (IntKind.i64.wrap (e_7+1)))
 else
 none
 else
 none
 else
 none
 else
 some false
 else
 bif (i4==0) then
 ak.l0 bar k n (IntKind.i64.wrap (i4+1)) t1 x2003
 else
 (bI.f bar k e_1.parent 0 (IntKind.i64.wrap (i4 - 1))).bind fun r_9=>
 bif (!(!r_9)) then
 bif decide (0≤e_1.parent)&&decide (e_1.parent<((x2003).length:Int)) then
 (x2003[(e_1.parent).toNat]?).bind fun e_10=>
 bif decide (e_10≥4) then
 some false
 else
 bif decide (0≤e_1.parent)&&decide (e_1.parent<((x2003).length:Int)) then
 (x2003[(e_1.parent).toNat]?).bind fun e_11=>
 bif decide (0≤i4)&&decide (i4<((x2003).length:Int)) then
 (x2003[(i4).toNat]?).bind fun e_12=>
 ak.l0 bar k n (IntKind.i64.wrap (i4+1)) t1 ((x2003).set ((i4).toNat) (IntKind.i64.wrap (e_11+1)))
 else
 none
 else
 none
 else
 none
 else
 some false
 else
 some false
 else
 bif (e_1.kind==4) then
 bif decide (((r_3).length:Int)<1) then
 some false
 else
 bif (i4==0) then
 ak.l0 bar k n (IntKind.i64.wrap (i4+1)) t1 x2003
 else
 (bI.f bar k e_1.parent 0 (IntKind.i64.wrap (i4 - 1))).bind fun r_13=>
 bif (!(!r_13)) then
 bif decide (0≤e_1.parent)&&decide (e_1.parent<((x2003).length:Int)) then
 (x2003[(e_1.parent).toNat]?).bind fun e_14=>
 bif decide (e_14≥4) then
 some false
 else
 bif decide (0≤e_1.parent)&&decide (e_1.parent<((x2003).length:Int)) then
 (x2003[(e_1.parent).toNat]?).bind fun e_15=>
 bif decide (0≤i4)&&decide (i4<((x2003).length:Int)) then
 (x2003[(i4).toNat]?).bind fun e_16=>
 ak.l0 bar k n (IntKind.i64.wrap (i4+1)) t1 ((x2003).set ((i4).toNat) (IntKind.i64.wrap (e_15+1)))
 else
 none
 else
 none
 else
 none
 else
 some false
 else
 bif (i4==0) then
 ak.l0 bar k n (IntKind.i64.wrap (i4+1)) t1 x2003
 else
 (bI.f bar k e_1.parent 0 (IntKind.i64.wrap (i4 - 1))).bind fun r_17=>
 bif (!(!r_17)) then
 bif decide (0≤e_1.parent)&&decide (e_1.parent<((x2003).length:Int)) then
 (x2003[(e_1.parent).toNat]?).bind fun e_18=>
 bif decide (e_18≥4) then
 some false
 else
 bif decide (0≤e_1.parent)&&decide (e_1.parent<((x2003).length:Int)) then
 (x2003[(e_1.parent).toNat]?).bind fun e_19=>
 bif decide (0≤i4)&&decide (i4<((x2003).length:Int)) then
 (x2003[(i4).toNat]?).bind fun e_20=>
 ak.l0 bar k n (IntKind.i64.wrap (i4+1)) t1 ((x2003).set ((i4).toNat) (IntKind.i64.wrap (e_19+1)))
 else
 none
 else
 none
 else
 none
 else
 some false
 else
 some false
 else
 bif (e_1.kind==3) then
 bif (!(((r_3).length:Int) != 1)) then
 bif (e_1.kind==4) then
 bif decide (((r_3).length:Int)<1) then
 some false
 else
 bif (i4==0) then
 ak.l0 bar k n (IntKind.i64.wrap (i4+1)) t1 x2003
 else
 (bI.f bar k e_1.parent 0 (IntKind.i64.wrap (i4 - 1))).bind fun r_21=>
 bif (!(!r_21)) then
 bif decide (0≤e_1.parent)&&decide (e_1.parent<((x2003).length:Int)) then
 (x2003[(e_1.parent).toNat]?).bind fun e_22=>
 bif decide (e_22≥4) then
 some false
 else
 bif decide (0≤e_1.parent)&&decide (e_1.parent<((x2003).length:Int)) then
 (x2003[(e_1.parent).toNat]?).bind fun e_23=>
 bif decide (0≤i4)&&decide (i4<((x2003).length:Int)) then
 (x2003[(i4).toNat]?).bind fun e_24=>
 ak.l0 bar k n (IntKind.i64.wrap (i4+1)) t1 ((x2003).set ((i4).toNat) (IntKind.i64.wrap (e_23+1)))
 else
 none
 else
 none
 else
 none
 else
 some false
 else
 bif (i4==0) then
 ak.l0 bar k n (IntKind.i64.wrap (i4+1)) t1 x2003
 else
 (bI.f bar k e_1.parent 0 (IntKind.i64.wrap (i4 - 1))).bind fun r_25=>
 bif (!(!r_25)) then
 bif decide (0≤e_1.parent)&&decide (e_1.parent<((x2003).length:Int)) then
 (x2003[(e_1.parent).toNat]?).bind fun e_26=>
 bif decide (e_26≥4) then
 some false
 else
 bif decide (0≤e_1.parent)&&decide (e_1.parent<((x2003).length:Int)) then
 (x2003[(e_1.parent).toNat]?).bind fun e_27=>
 bif decide (0≤i4)&&decide (i4<((x2003).length:Int)) then
 (x2003[(i4).toNat]?).bind fun e_28=>
 ak.l0 bar k n (IntKind.i64.wrap (i4+1)) t1 ((x2003).set ((i4).toNat) (IntKind.i64.wrap (e_27+1)))
 else
 none
 else
 none
 else
 none
 else
 some false
 else
 some false
 else
 bif (e_1.kind==4) then
 bif decide (((r_3).length:Int)<1) then
 some false
 else
 bif (i4==0) then
 ak.l0 bar k n (IntKind.i64.wrap (i4+1)) t1 x2003
 else
 (bI.f bar k e_1.parent 0 (IntKind.i64.wrap (i4 - 1))).bind fun r_29=>
 bif (!(!r_29)) then
 bif decide (0≤e_1.parent)&&decide (e_1.parent<((x2003).length:Int)) then
 (x2003[(e_1.parent).toNat]?).bind fun e_30=>
 bif decide (e_30≥4) then
 some false
 else
 bif decide (0≤e_1.parent)&&decide (e_1.parent<((x2003).length:Int)) then
 (x2003[(e_1.parent).toNat]?).bind fun e_31=>
 bif decide (0≤i4)&&decide (i4<((x2003).length:Int)) then
 (x2003[(i4).toNat]?).bind fun e_32=>
 ak.l0 bar k n (IntKind.i64.wrap (i4+1)) t1 ((x2003).set ((i4).toNat) (IntKind.i64.wrap (e_31+1)))
 else
 none
 else
 none
 else
 none
 else
 some false
 else
 bif (i4==0) then
 ak.l0 bar k n (IntKind.i64.wrap (i4+1)) t1 x2003
 else
 (bI.f bar k e_1.parent 0 (IntKind.i64.wrap (i4 - 1))).bind fun r_33=>
 bif (!(!r_33)) then
 bif decide (0≤e_1.parent)&&decide (e_1.parent<((x2003).length:Int)) then
 (x2003[(e_1.parent).toNat]?).bind fun e_34=>
 bif decide (e_34≥4) then
 some false
 else
 bif decide (0≤e_1.parent)&&decide (e_1.parent<((x2003).length:Int)) then
 (x2003[(e_1.parent).toNat]?).bind fun e_35=>
 bif decide (0≤i4)&&decide (i4<((x2003).length:Int)) then
 (x2003[(i4).toNat]?).bind fun e_36=>
 ak.l0 bar k n (IntKind.i64.wrap (i4+1)) t1 ((x2003).set ((i4).toNat) (IntKind.i64.wrap (e_35+1)))
 else
 none
 else
 none
 else
 none
 else
 some false
 else
 some true:=by kernel_rfl
theorem dJ.f_eq (bar:aC)(k:Nat)(a0:List (List UInt8)):dJ.f bar (k+1) a0=
 bif decide (((([]:List (List UInt8))).length+(a0).length)*16≤140737488355328) then
 some (([]:List (List UInt8))++a0)
 else
 none:=by kernel_rfl
theorem cd.f_eq (bar:aC)(k:Nat)(a0:Col)(a1:Int)(a2:Int):cd.f bar (k+1) a0 a1 a2=
 cd.l0 bar k k a0.reps a0.defs a0.values a1 a2 0 0 ((a0.reps).length:Int) 0:=by kernel_rfl
theorem cd.l0_eq (bar:aC)(k:Nat)(n:Nat)(c0:List Int)(c0_1:List Int)(c0_2:List (List UInt8))(records1:Int)(def_2:Int)(seen8:Int)(values9:Int)(x16:Int)(x17:Int):cd.l0 bar k (n+1) c0 c0_1 c0_2 records1 def_2 seen8 values9 x16 x17=
 bif decide (x17<x16) then
 (rd c0 x17).bind fun e_1=>
 bif (e_1==0) then
 bif (seen8==records1) then
 some (x17,values9)
 else
 bar _ (cd.j9 bar k n c0 c0_1 c0_2 records1 def_2 (IntKind.i64.wrap (seen8+1)) values9 x17 x16)
 else
 bar _ (cd.j9 bar k n c0 c0_1 c0_2 records1 def_2 seen8 values9 x17 x16)
 else
 some (((c0).length:Int),values9):=by kernel_rfl
theorem cd.j9_eq (bar:aC)(k:Nat)(m1:Nat)(c0:List Int)(c0_1:List Int)(c0_2:List (List UInt8))(records1:Int)(def_2:Int)(seen8:Int)(values9:Int)(i10:Int)(x16:Int):cd.j9 bar k m1 c0 c0_1 c0_2 records1 def_2 seen8 values9 i10 x16=
 (rd c0_1 i10).bind fun e_1=>
 bif (e_1==def_2) then
 cd.l0 bar k m1 c0 c0_1 c0_2 records1 def_2 seen8 (IntKind.i64.wrap (values9+1)) x16 (IntKind.i64.wrap (i10+1))
 else
 cd.l0 bar k m1 c0 c0_1 c0_2 records1 def_2 seen8 values9 x16 (IntKind.i64.wrap (i10+1)):=by kernel_rfl
theorem cz.f_eq (bar:aC)(k:Nat):cz.f bar (k+1)=
 some ([(aT.mk 0 (-1) true)]:List aT):=by kernel_rfl
theorem cL.f_eq (bar:aC)(k:Nat)(a0:List Int)(a1:Int):cL.f bar (k+1) a0 a1=
 cL.l0 bar k k a1 a0 ((a0).length:Int) 0:=by kernel_rfl
theorem cL.l0_eq (bar:aC)(k:Nat)(n:Nat)(most1:Int)(x7:List Int)(x8:Int)(x9:Int):cL.l0 bar k (n+1) most1 x7 x8 x9=
 bif decide (x9<x8) then
 (rd x7 x9).bind fun e_1=>
 bif (!(decide (e_1<0))) then
 bif decide (e_1>most1) then
 some false
 else
 cL.l0 bar k n most1 x7 x8 (IntKind.i64.wrap (x9+1))
 else
 some false
 else
 some true:=by kernel_rfl
theorem lJ.f_eq (bar:aC)(k:Nat):lJ.f bar (k+1)=
 some ([110]:List UInt8):=by kernel_rfl
theorem dl.f_eq (bar:aC)(k:Nat)(a0:List aT)(a1:Int)(a2:List UInt8):dl.f bar (k+1) a0 a1 a2=
 (fU.f bar k a0 a1).bind fun r_1=>
 bif (!r_1) then
 some false
 else
 (dV.f bar k a2).bind fun r_2=>
 (rd a0 a1).bind fun e_3=>
 bif (!(r_2.2.2 != 0)) then
 bif (r_2.1==(-1)) then
 bif (r_2.2.2==0) then
 some e_3.null
 else
 some false
 else
 (jT.f bar k a0 a1).bind fun r_4=>
 bif (r_2.1 != e_3.kind) then
 some false
 else
 bif (r_2.1==2) then
 bif decide (0≤0)&&decide (0<((r_2.2.1).length:Int)) then
 (r_2.2.1[0]?).bind fun e_5=>
 some (decide (((e_5).length:Int)≤16))
 else
 none
 else
 bif (r_2.1==4) then
 (ia.f bar k r_4.1 r_2.2.1 a0).bind fun r_6=>
 some r_6
 else
 dl.l1 bar k k r_2.2.1 r_2.1 ((r_2.2.1).length:Int) 0 a0 r_4.1
 else
 bif (r_2.2.2==0) then
 some e_3.null
 else
 some false:=by kernel_rfl
theorem dl.l1_eq (bar:aC)(k:Nat)(n:Nat)(x70:List (List UInt8))(kind7:Int)(x71:Int)(x72:Int)(t3:List aT)(x2011:List Int):dl.l1 bar k (n+1) x70 kind7 x71 x72 t3 x2011=
 bif decide (x72<x71) then
 (rd x70 x72).bind fun e_1=>
 bif (kind7==3) then
 bif decide (0≤0)&&decide (0<((x2011).length:Int)) then
 (x2011[0]?).bind fun e_2=>
 (yz.f bar k e_2 e_1 t3).bind fun r_3=>
 bif (!r_3) then
 some false
 else
 dl.l1 bar k n x70 kind7 x71 (IntKind.i64.wrap (x72+1)) t3 x2011
 else
 none
 else
 dl.l1 bar k n x70 kind7 x71 (IntKind.i64.wrap (x72+1)) t3 x2011
 else
 some (decide (((x70).length:Int)≤64)):=by kernel_rfl
theorem fU.f_eq (bar:aC)(k:Nat)(a0:List aT)(a1:Int):fU.f bar (k+1) a0 a1=
 (bY.f bar k a0).bind fun r_1=>
 bif r_1 then
 bif decide (a1≥0) then
 some (decide (a1<((a0).length:Int)))
 else
 some false
 else
 some false:=by kernel_rfl
theorem cR.f_eq (bar:aC)(k:Nat)(a0:List aT)(a1:Int):cR.f bar (k+1) a0 a1=
 cR.l0 bar k k a0 a1 ([]:List Int):=by kernel_rfl
theorem cR.l0_eq (bar:aC)(k:Nat)(n:Nat)(t0:List aT)(at_1:Int)(x2005:List Int):cR.l0 bar k (n+1) t0 at_1 x2005=
 bif decide (at_1≥0) then
 bif decide (((x2005).length+(([at_1]:List Int)).length)*8≤140737488355328) then
 (rd t0 at_1).bind fun e_1=>
 cR.l0 bar k n t0 e_1.parent (x2005++([at_1]:List Int))
 else
 none
 else
 some x2005:=by kernel_rfl
theorem cf.f_eq (bar:aC)(k:Nat)(a0:List Int)(a1:Int):cf.f bar (k+1) a0 a1=
 (gJ.f bar k a0 a1).bind fun r_1=>
 bif (!r_1) then
 some (([]:List UInt8),2100)
 else
 cf.l0 bar k k a0 a1 ([]:List Int):=by kernel_rfl
theorem cf.l0_eq (bar:aC)(k:Nat)(n:Nat)(xs0:List Int)(width1:Int)(out6:List Int):cf.l0 bar k (n+1) xs0 width1 out6=
 bif decide (((xs0).length:Int)>0) then
 (cp.f bar k xs0).bind fun r_1=>
 bif decide (r_1≥8) then
 (cQ.f bar k (IntKind.i64.wrap (2*r_1))).bind fun r_2=>
 (rd xs0 0).bind fun e_3=>
 (fZ.f bar k width1).bind fun r_4=>
 (dZ.f bar k e_3 r_4).bind fun r_5=>
 bif decide ((r_2.1).length+(r_5).length≤9223372036854775807) then
 bif decide ((out6).length+(r_2.1++r_5).length≤140737488355328) then
 bif decide (0≤r_1)&&decide (r_1≤(((xs0).length:Nat):Int)) then
 cf.l0 bar k n (List.drop ((r_1).toNat) (List.take ((xs0).length) xs0)) width1 (out6++bK (r_2.1++r_5))
 else
 none
 else
 none
 else
 none
 else
 (cm.f bar k xs0).bind fun r_6=>
 (cQ.f bar k (IntKind.i64.wrap ((IntKind.i64.wrap (2*(IntKind.i64.wrap (Int.tdiv (IntKind.i64.wrap ((IntKind.i64.wrap (r_6+8)) - 1)) 8))))+1))).bind fun r_7=>
 bif decide (0≤r_6)&&decide (r_6≤(((xs0).length:Nat):Int)) then
 (bL.f bar k (List.drop 0 (List.take ((r_6).toNat) xs0)) width1).bind fun r_8=>
 bif decide ((r_7.1).length+(r_8).length≤9223372036854775807) then
 bif decide ((out6).length+(r_7.1++r_8).length≤140737488355328) then
 bif decide (0≤r_6)&&decide (r_6≤(((xs0).length:Nat):Int)) then
 cf.l0 bar k n (List.drop ((r_6).toNat) (List.take ((xs0).length) xs0)) width1 (out6++bK (r_7.1++r_8))
 else
 none
 else
 none
 else
 none
 else
 none
 else
 some (ag out6,0):=by kernel_rfl
theorem dV.f_eq (bar:aC)(k:Nat)(a0:List UInt8):dV.f bar (k+1) a0=
 bif decide (((a0).length:Int)>65536) then
 some (0,([]:List (List UInt8)),700)
 else
 (bP.f bar k a0 false 0).bind fun r_1=>
 bif (!r_1.2.2) then
 bif (r_1.2.1 != ([]:List UInt8)) then
 some (0,([]:List (List UInt8)),700)
 else
 some (r_1.1.1,r_1.1.2,0)
 else
 some (0,([]:List (List UInt8)),700):=by kernel_rfl
theorem eA.f_eq (bar:aC)(k:Nat)(a0:List UInt8):eA.f bar (k+1) a0=
 nZ a0:=by kernel_rfl
theorem af.f_eq (bar:aC)(k:Nat)(a0:List aT)(a1:Int)(a2:List UInt8):af.f bar (k+1) a0 a1 a2=
 (ce.f bar k a0 a1).bind fun r_1=>
 bif (!r_1) then
 some false
 else
 (rd a0 a1).bind fun e_2=>
 (ah.f bar k a2).bind fun r_3=>
 bif (r_3.2.2 != 0) then
 some false
 else
 bif decide (r_3.1<0) then
 some e_2.null
 else
 (er.f bar k a0 a1).bind fun r_4=>
 bif (!(r_3.1 != e_2.kind)) then
 bif (r_3.1==2) then
 bif decide (0≤0)&&decide (0<((r_3.2.1).length:Int)) then
 (r_3.2.1[0]?).bind fun e_5=>
 bif (!(decide (((e_5).length:Int)>16))) then
 bif (r_3.1==3) then
 bif (!(decide (((r_3.2.1).length:Int)>64))) then
 bif (r_3.1==4) then
 bif (((r_3.2.1).length:Int) != ((r_4.1).length:Int)) then
 some false
 else
 af.l0 bar k k r_3.1 0 a0 r_3.2.1 r_4.1
 else
 af.l0 bar k k r_3.1 0 a0 r_3.2.1 r_4.1
 else
 some false
 else
 bif (r_3.1==4) then
 bif (((r_3.2.1).length:Int) != ((r_4.1).length:Int)) then
 some false
 else
 af.l0 bar k k r_3.1 0 a0 r_3.2.1 r_4.1
 else
 af.l0 bar k k r_3.1 0 a0 r_3.2.1 r_4.1
 else
 some false
 else
 none
 else
 bif (r_3.1==3) then
 bif (!(decide (((r_3.2.1).length:Int)>64))) then
 bif (r_3.1==4) then
 bif (((r_3.2.1).length:Int) != ((r_4.1).length:Int)) then
 some false
 else
 af.l0 bar k k r_3.1 0 a0 r_3.2.1 r_4.1
 else
 af.l0 bar k k r_3.1 0 a0 r_3.2.1 r_4.1
 else
 some false
 else
 bif (r_3.1==4) then
 bif (((r_3.2.1).length:Int) != ((r_4.1).length:Int)) then
 some false
 else
 af.l0 bar k k r_3.1 0 a0 r_3.2.1 r_4.1
 else
 af.l0 bar k k r_3.1 0 a0 r_3.2.1 r_4.1
 else
 some false:=by kernel_rfl
theorem af.l0_eq (bar:aC)(k:Nat)(n:Nat)(kind8:Int)(i13:Int)(t3:List aT)(x2009:List (List UInt8))(x2011:List Int):af.l0 bar k (n+1) kind8 i13 t3 x2009 x2011=
 bif decide (i13<((x2009).length:Int)) then
 (dh.f bar k kind8).bind fun r_1=>
 bif (!r_1) then
 bif decide (0≤0)&&decide (0<((x2011).length:Int)) then
 (x2011[0]?).bind fun e_2=>
 bif (kind8==4) then
 bif decide (0≤i13)&&decide (i13<((x2011).length:Int)) then
 (x2011[(i13).toNat]?).bind fun e_3=>
 bif decide (0≤i13)&&decide (i13<((x2009).length:Int)) then
 (x2009[(i13).toNat]?).bind fun e_4=>
 (af.f bar k t3 e_3 e_4).bind fun r_5=>
 bif (!r_5) then
 some false
 else
 af.l0 bar k n kind8 (IntKind.i64.wrap (i13+1)) t3 x2009 x2011
 else
 none
 else
 none
 else
 bif decide (0≤i13)&&decide (i13<((x2009).length:Int)) then
 (x2009[(i13).toNat]?).bind fun e_6=>
 (af.f bar k t3 e_2 e_6).bind fun r_7=>
 bif (!r_7) then
 some false
 else
 af.l0 bar k n kind8 (IntKind.i64.wrap (i13+1)) t3 x2009 x2011
 else
 none
 else
 none
 else
 some true
 else
 some true:=by kernel_rfl
theorem ce.f_eq (bar:aC)(k:Nat)(a0:List aT)(a1:Int):ce.f bar (k+1) a0 a1=
 (ak.f bar k a0).bind fun r_1=>
 bif r_1 then
 bif decide (a1≥0) then
 some (decide (a1<((a0).length:Int)))
 else
 some false
 else
 some false:=by kernel_rfl
theorem bG.f_eq (bar:aC)(k:Nat)(a0:List Int)(a1:Int):bG.f bar (k+1) a0 a1=
 bG.l0 bar k k a0 a1 1:=by kernel_rfl
theorem bG.l0_eq (bar:aC)(k:Nat)(n:Nat)(xs0:List Int)(at_1:Int)(k_5:Int):bG.l0 bar k (n+1) xs0 at_1 k_5=
 bif decide ((IntKind.i64.wrap (at_1+k_5))<((xs0).length:Int)) then
 (rd xs0 (IntKind.i64.wrap (at_1+k_5))).bind fun e_1=>
 (rd xs0 at_1).bind fun e_2=>
 bif (e_1==e_2) then
 bG.l0 bar k n xs0 at_1 (IntKind.i64.wrap (k_5+1))
 else
 some k_5
 else
 some k_5:=by kernel_rfl
theorem aV.f_eq (bar:aC)(k:Nat)(a0:Int):aV.f bar (k+1) a0=
 (dW.f bar k a0).bind fun r_1=>
 bif (!r_1) then
 some (([]:List UInt8),300)
 else
 aV.l0 bar k k a0 ([]:List Int):=by kernel_rfl
theorem aV.l0_eq (bar:aC)(k:Nat)(n:Nat)(x0:Int)(x2004:List Int):aV.l0 bar k (n+1) x0 x2004=
 bif decide (x0>127) then
 bif decide (((x2004).length+(([IntKind.u8.wrap (aE .or .i64 (aE .and .i64 x0 127) 128)]:List Int)).length)*1≤140737488355328) then
 aV.l0 bar k n (Int.fdiv x0 (2 ^ (min 7 IntKind.i64.bits))) (x2004++([IntKind.u8.wrap (aE .or .i64 (aE .and .i64 x0 127) 128)]:List Int))
 else
 none
 else
 bif decide (((x2004).length+(([IntKind.u8.wrap x0]:List Int)).length)*1≤140737488355328) then
 some (ag (x2004++([IntKind.u8.wrap x0]:List Int)),0)
 else
 none:=by kernel_rfl
theorem bZ.f_eq (bar:aC)(k:Nat)(a0:Int):bZ.f bar (k+1) a0=
 some (IntKind.i64.wrap (Int.tdiv (IntKind.i64.wrap (a0+7)) 8)):=by kernel_rfl
theorem aJ.f_eq (bar:aC)(k:Nat)(a0:List Int)(a1:Int):aJ.f bar (k+1) a0 a1=
 aJ.l0 bar k k a0 a1 0 ([]:List Bool):=by kernel_rfl
theorem aJ.l0_eq (bar:aC)(k:Nat)(n:Nat)(xs0:List Int)(width1:Int)(i6:Int)(x2005:List Bool):aJ.l0 bar k (n+1) xs0 width1 i6 x2005=
 bif decide (i6<(IntKind.i64.wrap ((IntKind.i64.wrap (Int.tdiv (IntKind.i64.wrap (((xs0).length:Int)+7)) 8))*8))) then
 aJ.l2 bar k n k xs0 width1 i6 0 x2005
 else
 (a7.f bar k x2005).bind fun r_1=>
 some r_1:=by kernel_rfl
theorem aJ.l2_eq (bar:aC)(k:Nat)(m1:Nat)(n:Nat)(xs0:List Int)(width1:Int)(i6:Int)(j7:Int)(x2005:List Bool):aJ.l2 bar k m1 (n+1) xs0 width1 i6 j7 x2005=
 bif decide (j7<width1) then
 bif decide (i6<((xs0).length:Int)) then
 (rd xs0 i6).bind fun e_1=>
 bif decide (j7<0) then
 none
 else
 bif decide (((x2005).length+(([((aE .and .i64 (Int.fdiv e_1 (2 ^ (min (j7).toNat IntKind.i64.bits))) 1)==1)]:List Bool)).length)*1≤140737488355328) then
 aJ.l2 bar k m1 n xs0 width1 i6 (IntKind.i64.wrap (j7+1)) (x2005++([((aE .and .i64 (Int.fdiv e_1 (2 ^ (min (j7).toNat IntKind.i64.bits))) 1)==1)]:List Bool))
 else
 none
 else
 bif decide (((x2005).length+(([false]:List Bool)).length)*1≤140737488355328) then
 aJ.l2 bar k m1 n xs0 width1 i6 (IntKind.i64.wrap (j7+1)) (x2005++([false]:List Bool))
 else
 none
 else
 aJ.l0 bar k m1 xs0 width1 (IntKind.i64.wrap (i6+1)) x2005:=by kernel_rfl
theorem ah.f_eq (bar:aC)(k:Nat)(a0:List UInt8):ah.f bar (k+1) a0=
 bif (!(decide (((a0).length:Int)>65536))) then
 (ai.f bar k a0 0 4).bind fun r_1=>
 bif (r_1 != ((a0).length:Int)) then
 some (0,([]:List (List UInt8)),700)
 else
 (rd a0 0).bind fun b_2=>
 bif ((b_2.toNat:Int)==110) then
 some ((-1),([]:List (List UInt8)),0)
 else
 bif ((b_2.toNat:Int)==105) then
 bif decide (0≤IntKind.i64.wrap (((a0).length:Int) - 1))&&decide (IntKind.i64.wrap (((a0).length:Int) - 1)≤(((a0).length:Nat):Int)) then
 bif decide (0≤1)&&decide (1≤(((IntKind.i64.wrap (((a0).length:Int) - 1)).toNat:Nat):Int)) then
 some (0,([List.drop 1 (List.take ((IntKind.i64.wrap (((a0).length:Int) - 1)).toNat) a0)]:List (List UInt8)),0)
 else
 none
 else
 none
 else
 bif ((b_2.toNat:Int)==116) then
 bif ((b_2.toNat:Int)==116) then
 some (1,([a0]:List (List UInt8)),0)
 else
 bif ((b_2.toNat:Int)==115) then
 (aK.f bar k a0 0 58).bind fun r_3=>
 bif decide (0≤IntKind.i64.wrap (r_3+1))&&decide (IntKind.i64.wrap (r_3+1)≤(((a0).length:Nat):Int)) then
 some (2,([List.drop ((IntKind.i64.wrap (r_3+1)).toNat) (List.take ((a0).length) a0)]:List (List UInt8)),0)
 else
 none
 else
 bar _ (ah.j13 bar k a0)
 else
 bif ((b_2.toNat:Int)==102) then
 some (1,([a0]:List (List UInt8)),0)
 else
 bif ((b_2.toNat:Int)==115) then
 (aK.f bar k a0 0 58).bind fun r_4=>
 bif decide (0≤IntKind.i64.wrap (r_4+1))&&decide (IntKind.i64.wrap (r_4+1)≤(((a0).length:Nat):Int)) then
 some (2,([List.drop ((IntKind.i64.wrap (r_4+1)).toNat) (List.take ((a0).length) a0)]:List (List UInt8)),0)
 else
 none
 else
 bar _ (ah.j13 bar k a0)
 else
 some (0,([]:List (List UInt8)),700):=by kernel_rfl
theorem ah.j13_eq (bar:aC)(k:Nat)(v0:List UInt8):ah.j13 bar k v0=
 ah.l1 bar k k v0 1 ([]:List (List UInt8)):=by kernel_rfl
theorem ah.l1_eq (bar:aC)(k:Nat)(n:Nat)(v0:List UInt8)(at_6:Int)(x2005:List (List UInt8)):ah.l1 bar k (n+1) v0 at_6 x2005=
 bif decide (at_6<(IntKind.i64.wrap (((v0).length:Int) - 1))) then
 (ai.f bar k v0 at_6 4).bind fun r_1=>
 bif decide (0≤r_1)&&decide (r_1≤(((v0).length:Nat):Int)) then
 bif decide (0≤at_6)&&decide (at_6≤(((r_1).toNat:Nat):Int)) then
 bif decide (((x2005).length+(([List.drop ((at_6).toNat) (List.take ((r_1).toNat) v0)]:List (List UInt8))).length)*16≤140737488355328) then
 ah.l1 bar k n v0 r_1 (x2005++([List.drop ((at_6).toNat) (List.take ((r_1).toNat) v0)]:List (List UInt8)))
 else
 none
 else
 none
 else
 none
 else
 (rd v0 0).bind fun b_2=>
 bif ((b_2.toNat:Int)==91) then
 some (3,x2005,0)
 else
 some (4,x2005,0):=by kernel_rfl
theorem dG.f_eq (bar:aC)(k:Nat)(a0:List UInt8):dG.f bar (k+1) a0=
 (bW.f bar k ([(aT.mk 0 (-1) false)]:List aT) 0 ([a0]:List (List UInt8))).bind fun r_1=>
 some r_1.1.data:=by kernel_rfl
theorem g9.f_eq (bar:aC)(k:Nat)(a0:Int):g9.f bar (k+1) a0=
 bif (!(a0==3)) then
 some (a0==4)
 else
 some true:=by kernel_rfl
theorem q8.f_eq (bar:aC)(k:Nat)(a0:List UInt8)(a1:Int)(a2:Int):q8.f bar (k+1) a0 a1 a2=
 bif (a2 != 4) then
 bif (!(a2 != 8)) then
 bif (!(decide (a1<0))) then
 bif (!(decide (a1>((a0).length:Int)))) then
 bif decide ((IntKind.i64.wrap (((a0).length:Int) - a1))<a2) then
 some (0,300)
 else
 bif decide (0≤IntKind.i64.wrap (a1+a2))&&decide (IntKind.i64.wrap (a1+a2)≤(((a0).length:Nat):Int)) then
 bif decide (0≤a1)&&decide (a1≤(((IntKind.i64.wrap (a1+a2)).toNat:Nat):Int)) then
 (fq.f bar k (List.drop ((a1).toNat) (List.take ((IntKind.i64.wrap (a1+a2)).toNat) a0))).bind fun r_1=>
 bif (a2==4) then
 (ki.f bar k r_1).bind fun r_2=>
 bif (!r_2) then
 some (0,300)
 else
 some (r_1,0)
 else
 some (r_1,0)
 else
 none
 else
 none
 else
 some (0,300)
 else
 some (0,300)
 else
 some (0,300)
 else
 bif (!(decide (a1<0))) then
 bif (!(decide (a1>((a0).length:Int)))) then
 bif decide ((IntKind.i64.wrap (((a0).length:Int) - a1))<a2) then
 some (0,300)
 else
 bif decide (0≤IntKind.i64.wrap (a1+a2))&&decide (IntKind.i64.wrap (a1+a2)≤(((a0).length:Nat):Int)) then
 bif decide (0≤a1)&&decide (a1≤(((IntKind.i64.wrap (a1+a2)).toNat:Nat):Int)) then
 (fq.f bar k (List.drop ((a1).toNat) (List.take ((IntKind.i64.wrap (a1+a2)).toNat) a0))).bind fun r_3=>
 bif (a2==4) then
 (ki.f bar k r_3).bind fun r_4=>
 bif (!r_4) then
 some (0,300)
 else
 some (r_3,0)
 else
 some (r_3,0)
 else
 none
 else
 none
 else
 some (0,300)
 else
 some (0,300):=by kernel_rfl
theorem dz.f_eq (bar:aC)(k:Nat)(a0:List UInt8)(a1:Int):dz.f bar (k+1) a0 a1=
 bif (!(decide (a1<0))) then
 bif decide (a1>((a0).length:Int)) then
 some (0,0,300)
 else
 dz.l0 bar k k a0 a1 0 0
 else
 some (0,0,300):=by kernel_rfl
theorem dz.l0_eq (bar:aC)(k:Nat)(n:Nat)(s0:List UInt8)(at_1:Int)(x7:Int)(i8:Int):dz.l0 bar k (n+1) s0 at_1 x7 i8=
 bif decide (i8<5) then
 bif decide ((IntKind.i64.wrap (at_1+i8))<((s0).length:Int)) then
 (rd s0 (IntKind.i64.wrap (at_1+i8))).bind fun b_1=>
 bif decide (IntKind.i64.wrap (7*i8)<0) then
 none
 else
 bif decide ((b_1.toNat:Int)≥128) then
 dz.l0 bar k n s0 at_1 (aE .or .i64 x7 (IntKind.i64.wrap ((IntKind.i64.wrap (Int.tmod (b_1.toNat:Int) 128))*2 ^ (min (IntKind.i64.wrap (7*i8)).toNat IntKind.i64.bits)))) (IntKind.i64.wrap (i8+1))
 else
 (cQ.f bar k (aE .or .i64 x7 (IntKind.i64.wrap ((IntKind.i64.wrap (Int.tmod (b_1.toNat:Int) 128))*2 ^ (min (IntKind.i64.wrap (7*i8)).toNat IntKind.i64.bits))))).bind fun r_2=>
 bif (!(r_2.2 != 0)) then
 bif decide (0≤IntKind.i64.wrap ((IntKind.i64.wrap (at_1+i8))+1))&&decide (IntKind.i64.wrap ((IntKind.i64.wrap (at_1+i8))+1)≤(((s0).length:Nat):Int)) then
 bif decide (0≤at_1)&&decide (at_1≤(((IntKind.i64.wrap ((IntKind.i64.wrap (at_1+i8))+1)).toNat:Nat):Int)) then
 bif (r_2.1 != (List.drop ((at_1).toNat) (List.take ((IntKind.i64.wrap ((IntKind.i64.wrap (at_1+i8))+1)).toNat) s0))) then
 some (0,0,300)
 else
 some (aE .or .i64 x7 (IntKind.i64.wrap ((IntKind.i64.wrap (Int.tmod (b_1.toNat:Int) 128))*2 ^ (min (IntKind.i64.wrap (7*i8)).toNat IntKind.i64.bits))),IntKind.i64.wrap ((IntKind.i64.wrap (at_1+i8))+1),0)
 else
 none
 else
 none
 else
 some (0,0,300)
 else
 some (0,0,300)
 else
 some (0,0,300):=by kernel_rfl
theorem fa.f_eq (bar:aC)(k:Nat)(a0_0:List UInt8)(a0_1:Int)(a0_2:List Int)(a0_3:Bool)(a1:Int)(a2:Int):fa.f bar (k+1) a0_0 a0_1 a0_2 a0_3 a1 a2=
 (fZ.f bar k a0_1).bind fun r_1=>
 (cu.f bar k a0_0 a0_1 a0_2 a0_3 r_1).bind fun r_2=>
 (fq.f bar k r_2.1).bind fun r_3=>
 bif (!r_2.2.2.2.2) then
 bif (!(decide (a1>a2))) then
 (az.f bar k ([r_3]:List Int) a1).bind fun r_4=>
 bif decide (((r_2.2.2.2.1).length+(r_4).length)*8≤140737488355328) then
 some (r_2.2.1,r_2.2.2.1,r_2.2.2.2.1++r_4,decide (a1>a2))
 else
 none
 else
 some (r_2.2.1,r_2.2.2.1,r_2.2.2.2.1,decide (a1>a2))
 else
 some (r_2.2.1,r_2.2.2.1,r_2.2.2.2.1,true):=by kernel_rfl
theorem ar.f_eq (bar:aC)(k:Nat)(a0_0:List UInt8)(a0_1:Int)(a0_2:List Int)(a0_3:Bool)(a1:Int)(a2:Int):ar.f bar (k+1) a0_0 a0_1 a0_2 a0_3 a1 a2=
 bif decide (a1>(IntKind.i64.wrap (Int.tdiv (IntKind.i64.wrap ((IntKind.i64.wrap (a2+8)) - 1)) 8))) then
 some (a0_0,a0_1,a0_2,true)
 else
 (cu.f bar k a0_0 a0_1 a0_2 a0_3 (IntKind.i64.wrap (a1*a0_1))).bind fun r_1=>
 ar.l0 bar k k r_1.1 (bif decide (a2<(IntKind.i64.wrap (a1*8))) then a2 else IntKind.i64.wrap (a1*8)) 0 r_1.2.1 r_1.2.2.1 r_1.2.2.2.1 r_1.2.2.2.2:=by kernel_rfl
theorem ar.l0_eq (bar:aC)(k:Nat)(n:Nat)(s6:List UInt8)(x30:Int)(x31:Int)(x1000:List UInt8)(x1000_1:Int)(x1000_2:List Int)(x1000_3:Bool):ar.l0 bar k (n+1) s6 x30 x31 x1000 x1000_1 x1000_2 x1000_3=
 bif decide (x31<x30) then
 ar.l2 bar k n k s6 x31 0 x30 x1000_1 0 x1000 x1000_2 x1000_3
 else
 some (x1000,x1000_1,x1000_2,x1000_3):=by kernel_rfl
theorem ar.l2_eq (bar:aC)(k:Nat)(m1:Nat)(n:Nat)(s6:List UInt8)(i7:Int)(x8:Int)(x30:Int)(x37:Int)(x38:Int)(x1000:List UInt8)(x1000_1:List Int)(x1000_2:Bool):ar.l2 bar k m1 (n+1) s6 i7 x8 x30 x37 x38 x1000 x1000_1 x1000_2=
 bif decide (x38<x37) then
 bif (!x1000_2) then
 (qk.f bar k s6 (IntKind.i64.wrap ((IntKind.i64.wrap (i7*x37))+x38))).bind fun r_1=>
 bif r_1 then
 bif decide (x38<0) then
 none
 else
 ar.l2 bar k m1 n s6 i7 (aE .or .i64 x8 (IntKind.i64.wrap (1*2 ^ (min (x38).toNat IntKind.i64.bits)))) x30 x37 (IntKind.i64.wrap (x38+1)) x1000 x1000_1 x1000_2
 else
 ar.l2 bar k m1 n s6 i7 x8 x30 x37 (IntKind.i64.wrap (x38+1)) x1000 x1000_1 x1000_2
 else
 ar.l2 bar k m1 n s6 i7 x8 x30 x37 (IntKind.i64.wrap (x38+1)) x1000 x1000_1 x1000_2
 else
 bif decide (((x1000_1).length+(([x8]:List Int)).length)*8≤140737488355328) then
 ar.l0 bar k m1 s6 x30 (IntKind.i64.wrap (i7+1)) x1000 x37 (x1000_1++([x8]:List Int)) x1000_2
 else
 none:=by kernel_rfl
theorem lu.f_eq (bar:aC)(k:Nat)(a0:Int):lu.f bar (k+1) a0=
 (strconv_Itoa.f bar k a0).bind fun r_1=>
 bif decide ((([105]:List UInt8)).length+(r_1).length≤9223372036854775807) then
 bif decide ((([105]:List UInt8)++r_1).length+(([59]:List UInt8)).length≤9223372036854775807) then
 some ((([105]:List UInt8)++r_1)++([59]:List UInt8))
 else
 none
 else
 none:=by kernel_rfl
theorem ka.f_eq (bar:aC)(k:Nat)(a0:Bool):ka.f bar (k+1) a0=
 bif a0 then
 some ([116]:List UInt8)
 else
 some ([102]:List UInt8):=by kernel_rfl
theorem h9.f_eq (bar:aC)(k:Nat)(a0:List UInt8):h9.f bar (k+1) a0=
 (strconv_Itoa.f bar k ((a0).length:Int)).bind fun r_1=>
 bif decide ((([115]:List UInt8)).length+(r_1).length≤9223372036854775807) then
 bif decide ((([115]:List UInt8)++r_1).length+(([58]:List UInt8)).length≤9223372036854775807) then
 bif decide (((([115]:List UInt8)++r_1)++([58]:List UInt8)).length+(a0).length≤9223372036854775807) then
 some (((([115]:List UInt8)++r_1)++([58]:List UInt8))++a0)
 else
 none
 else
 none
 else
 none:=by kernel_rfl
theorem fx.f_eq (bar:aC)(k:Nat)(a0_0:List UInt8)(a0_1:Bool):fx.f bar (k+1) a0_0 a0_1=
 (ca.f bar k a0_0 a0_1).bind fun r_1=>
 (bD.f bar k r_1.2.1 r_1.2.2 r_1.1).bind fun r_2=>
 some (r_2.1,(r_2.2.1,r_2.2.2)):=by kernel_rfl
theorem dh.f_eq (bar:aC)(k:Nat)(a0:Int):dh.f bar (k+1) a0=
 bif (a0 != 3) then
 some (a0 != 4)
 else
 some false:=by kernel_rfl
theorem bB.f_eq (bar:aC)(k:Nat)(a0:List UInt8):bB.f bar (k+1) a0=
 bB.l0 bar k k a0 0 (IntKind.i64.wrap (((a0).length:Int) - 1)):=by kernel_rfl
theorem bB.l0_eq (bar:aC)(k:Nat)(n:Nat)(s0:List UInt8)(x3:Int)(i4:Int):bB.l0 bar k (n+1) s0 x3 i4=
 bif decide (i4≥0) then
 (rd s0 i4).bind fun b_1=>
 bB.l0 bar k n s0 (aE .or .u64 (IntKind.u64.wrap (x3*2 ^ (min 8 IntKind.u64.bits))) (IntKind.u64.wrap (b_1.toNat:Int))) (IntKind.i64.wrap (i4 - 1))
 else
 some (IntKind.i64.wrap x3):=by kernel_rfl
theorem dW.f_eq (bar:aC)(k:Nat)(a0:Int):dW.f bar (k+1) a0=
 (bI.f bar k a0 0 2147483647).bind fun r_1=>
 some r_1:=by kernel_rfl
theorem bh.f_eq (bar:aC)(k:Nat)(a0:List UInt8)(a1:Int):bh.f bar (k+1) a0 a1=
 bh.l0 bar k k a0 a1 0 a1:=by kernel_rfl
theorem bh.l0_eq (bar:aC)(k:Nat)(n:Nat)(s0:List UInt8)(at_1:Int)(x7:Int)(i8:Int):bh.l0 bar k (n+1) s0 at_1 x7 i8=
 bif decide (i8≥0) then
 bif decide (i8<((s0).length:Int)) then
 bif decide (i8<(IntKind.i64.wrap (at_1+5))) then
 (rd s0 i8).bind fun b_1=>
 bif decide (IntKind.i64.wrap (7*(IntKind.i64.wrap (i8 - at_1)))<0) then
 none
 else
 (rd s0 i8).bind fun b_2=>
 bif decide ((b_2.toNat:Int)<128) then
 (aV.f bar k (aE .or .i64 x7 (IntKind.i64.wrap ((IntKind.i64.wrap (aE .and .u8 (b_1.toNat:Int) 127))*2 ^ (min (IntKind.i64.wrap (7*(IntKind.i64.wrap (i8 - at_1)))).toNat IntKind.i64.bits))))).bind fun r_3=>
 bif (!(r_3.2 != 0)) then
 bif decide (0≤IntKind.i64.wrap (i8+1))&&decide (IntKind.i64.wrap (i8+1)≤(((s0).length:Nat):Int)) then
 bif decide (0≤at_1)&&decide (at_1≤(((IntKind.i64.wrap (i8+1)).toNat:Nat):Int)) then
 bif (r_3.1 != (List.drop ((at_1).toNat) (List.take ((IntKind.i64.wrap (i8+1)).toNat) s0))) then
 some (0,0,300)
 else
 some (aE .or .i64 x7 (IntKind.i64.wrap ((IntKind.i64.wrap (aE .and .u8 (b_1.toNat:Int) 127))*2 ^ (min (IntKind.i64.wrap (7*(IntKind.i64.wrap (i8 - at_1)))).toNat IntKind.i64.bits))),IntKind.i64.wrap (i8+1),0)
 else
 none
 else
 none
 else
 some (0,0,300)
 else
 bh.l0 bar k n s0 at_1 (aE .or .i64 x7 (IntKind.i64.wrap ((IntKind.i64.wrap (aE .and .u8 (b_1.toNat:Int) 127))*2 ^ (min (IntKind.i64.wrap (7*(IntKind.i64.wrap (i8 - at_1)))).toNat IntKind.i64.bits)))) (IntKind.i64.wrap (i8+1))
 else
 some (0,0,300)
 else
 some (0,0,300)
 else
 some (0,0,300):=by kernel_rfl
theorem eS.f_eq (bar:aC)(k:Nat)(a0:List UInt8)(a1:Int):eS.f bar (k+1) a0 a1=
 (rd a0 (IntKind.i64.wrap (Int.tdiv a1 8))).bind fun b_1=>
 bif decide (Int.tmod a1 8<0) then
 none
 else
 some ((aE .and .u8 (Int.fdiv (b_1.toNat:Int) (2 ^ (min (Int.tmod a1 8).toNat IntKind.u8.bits))) 1)==1):=by kernel_rfl
theorem f6.f_eq (bar:aC)(k:Nat)(a0:Int):f6.f bar (k+1) a0=
 (a6.f bar k a0).bind fun r_1=>
 bif decide ((([105]:List UInt8)).length+(r_1).length≤9223372036854775807) then
 bif decide ((([105]:List UInt8)++r_1).length+(([59]:List UInt8)).length≤9223372036854775807) then
 some ((([105]:List UInt8)++r_1)++([59]:List UInt8))
 else
 none
 else
 none:=by kernel_rfl
theorem fA.f_eq (bar:aC)(k:Nat)(a0:Bool):fA.f bar (k+1) a0=
 bif a0 then
 some ([116]:List UInt8)
 else
 some ([102]:List UInt8):=by kernel_rfl
theorem fb.f_eq (bar:aC)(k:Nat)(a0:List UInt8):fb.f bar (k+1) a0=
 (aF.f bar k ((a0).length:Int)).bind fun r_1=>
 bif decide ((([115]:List UInt8)).length+(r_1).length≤9223372036854775807) then
 bif decide ((([115]:List UInt8)++r_1).length+(([58]:List UInt8)).length≤9223372036854775807) then
 bif decide (((([115]:List UInt8)++r_1)++([58]:List UInt8)).length+(a0).length≤9223372036854775807) then
 some (((([115]:List UInt8)++r_1)++([58]:List UInt8))++a0)
 else
 none
 else
 none
 else
 none:=by kernel_rfl
theorem bI.f_eq (bar:aC)(k:Nat)(a0:Int)(a1:Int)(a2:Int):bI.f bar (k+1) a0 a1 a2=
 bif decide (a0≥a1) then
 some (decide (a0≤a2))
 else
 some false:=by kernel_rfl
theorem bH.f_eq (bar:aC)(k:Nat)(a0:List aT)(a1:Int):bH.f bar (k+1) a0 a1=
 bH.l0 bar k k a1 1 a0 ([]:List Int):=by kernel_rfl
theorem bH.l0_eq (bar:aC)(k:Nat)(n:Nat)(at_1:Int)(i6:Int)(t2:List aT)(x2005:List Int):bH.l0 bar k (n+1) at_1 i6 t2 x2005=
 bif decide (i6<((t2).length:Int)) then
 (rd t2 i6).bind fun e_1=>
 bif (e_1.parent==at_1) then
 bif decide (((x2005).length+(([i6]:List Int)).length)*8≤140737488355328) then
 bH.l0 bar k n at_1 (IntKind.i64.wrap (i6+1)) t2 (x2005++([i6]:List Int))
 else
 none
 else
 bH.l0 bar k n at_1 (IntKind.i64.wrap (i6+1)) t2 x2005
 else
 some x2005:=by kernel_rfl
theorem jT.f_eq (bar:aC)(k:Nat)(a0:List aT)(a1:Int):jT.f bar (k+1) a0 a1=
 (fU.f bar k a0 a1).bind fun r_1=>
 bif (!r_1) then
 some (([]:List Int),500)
 else
 (cG.f bar k a0 a1).bind fun r_2=>
 some (r_2,0):=by kernel_rfl
end Go.Proofs.YtjkokaockhecnaaGreatDoorA
