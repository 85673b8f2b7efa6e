/- What the functions below the laws answer, in plain lists and numbers; no condition but the sizes that a machine has. -/
import Derived.Test.YtjkokaockhecnaaGreatDoorPLoop
import Derived.Laws.BitsLemmas
import Derived.KernelRfl
import Derived.Lib.ItoaNum
import Derived.Lib.Join
import Derived.Test.YtjkokaockhecnaaGreatDoorRoom
namespace Go.Proofs.YtjkokaockhecnaaGreatDoorP
open Go Go.Proofs.YtjkokaockhecnaaGreatDoorA
theorem aO.eta (a:aO):aO.mk a.layout a.offset a.length a.valid a.ends a.data a.kids=a:=by cases a;rfl
def ji:Nat→aO→Prop
 |0,_=>False
 |d+1,a=>a.kids.length≤d∧∀k∈a.kids,ji d k
theorem _root_.Go.Proofs.YtjkokaockhecnaaGreatDoorA.RoomyA.kid {a k:aO}(h:RoomyA a)(hk:k∈a.kids):RoomyA k:=fun d=>(h (d+1)).2.2.2.2.2.2 k hk
def j6 (n:Int):Int:=(n+7) / 8
theorem Cf {n:Int}(h0:0≤n)(h1:n≤1000000):IntKind.i64.wrap (Int.tdiv (IntKind.i64.wrap (n+7)) 8)=j6 n:=by
 unfold j6
 rw [bR (n+7) (by omega),Int.tdiv_eq_ediv_of_nonneg (by omega),bR _ (by omega)]
theorem mr {k:Nat}(hk:1≤k){n:Int}(h0:0≤n)(h1:n≤1000000):gd.f aV k n=some (j6 n):=by
 obtain ⟨k,rfl⟩:∃m,k=m+1:=⟨k - 1,by omega⟩
 rw [gd.f_eq,Cf h0 h1]
def CL (s:List UInt8)(i:Nat):Bool:=
 match s[i / 8]? with
 |some b=>(cM .and .u8 (Int.fdiv (b.toNat:Int) (2 ^ (min (i % 8) IntKind.u8.bits))) 1)==1
 |none=>false
theorem EK {s:List UInt8}{i:Nat}(h:i / 8<s.length)(hi:i≤1000000):
  ((rd s (IntKind.i64.wrap (Int.tdiv (i:Int) 8))).bind fun b_1=>
   bif decide (Int.tmod (i:Int) 8<0) then none else
   some ((cM .and .u8 (Int.fdiv (b_1.toNat:Int) (2 ^ (min (Int.tmod (i:Int) 8).toNat IntKind.u8.bits))) 1)==1))=some (CL s i):=by
 have e1:Int.tdiv (i:Int) 8=((i / 8:Nat):Int):=by rw [Int.tdiv_eq_ediv_of_nonneg (by omega)];omega
 have e2:Int.tmod (i:Int) 8=((i % 8:Nat):Int):=by rw [Int.tmod_eq_emod_of_nonneg (by omega)];omega
 have h3:¬(((i % 8:Nat):Int)<0):=by omega
 rw [e1,e2,bR _ (by omega),aE h,bS,decide_eq_false h3,cF,Int.toNat_natCast]
 unfold CL
 rw [List.getElem?_eq_getElem h]
theorem qE {k:Nat}(hk:1≤k){s:List UInt8}{i:Nat}(h:i / 8<s.length)(hi:i≤1000000):lS.f aV k s (i:Int)=some (CL s i):=by
 obtain ⟨k,rfl⟩:∃m,k=m+1:=⟨k - 1,by omega⟩
 rw [lS.f_eq];exact EK h hi
def eu (v:List UInt8)(i:Nat):Bool:=v==[]||CL v i
theorem kN {k:Nat}(hk:2≤k){a:aO}{i:Nat}(h:a.valid=[]∨i / 8<a.valid.length)(hi:i≤1000000):fc.f aV k a (i:Int)=some (eu a.valid i):=by
 obtain ⟨k,rfl⟩:∃m,k=m+1:=⟨k - 1,by omega⟩
 rw [fc.f_eq]
 unfold eu
 cases hv:(a.valid==[]) with
 |true=>rw [Bool.not_true,cF,Bool.true_or]
 |false=>
  rcases h with h|h
  ·rw [h] at hv;cases hv
  ·rw [Bool.not_false,cT,qE (by omega) h hi,bS,Bool.false_or]
def sN (s:List UInt8)(i:Nat):Int×Int:=get s (4*(i:Int)) 4
theorem yK {s:List UInt8}{i:Nat}(h:(sN s i).2=0):0≤(sN s i).1∧(sN s i).1≤2147483647:=by
 unfold sN get at h ⊢
 split at h
 ·rename_i h1
  rw [if_pos h1]
  split at h
  ·cases h
  ·rename_i h2
   rw [if_neg h2]
   have:may (fp (List.drop (4*(i:Int)).toNat (List.take (4*(i:Int)+4).toNat s)))=true:=by
    cases hm:may (fp (List.drop (4*(i:Int)).toNat (List.take (4*(i:Int)+4).toNat s))) with
    |true=>rfl
    |false=>exact absurd ⟨rfl,hm⟩ h2
   exact t7.1 this
 ·cases h
theorem qg {k:Nat}(hk:14≤k){s:List UInt8}(hs:s.length≤4096){i:Nat}(hi:i≤1000000):bN.f aV k s (i:Int)=some ((sN s i).1,(sN s i).2==0):=by
 obtain ⟨k,rfl⟩:∃m,k=m+1:=⟨k - 1,by omega⟩
 rw [bN.f_eq,bR _ (by omega),wn (by omega) s (by omega) _ _ (by omega),bS];rfl
theorem Dh {b c:Bool}:(bif b then some c else some false)=some (b&&c):=by cases b<;>rfl
theorem HY {b c:Bool}:(bif b then some false else some c)=some (!b&&c):=by cases b<;>rfl
def sw (s:List UInt8)(i:Nat):Bool:=(sN s i).2==0
def eN (s:List UInt8)(i:Nat):Int:=(sN s i).1
theorem nY {s:List UInt8}{i:Nat}(h:sw s i=true):0≤eN s i∧eN s i≤2147483647:=yK (by unfold sw at h;simpa using h)
theorem cq {k:Nat}(hk:14≤k){s:List UInt8}(hs:s.length≤4096){i:Nat}(hi:i≤1000000):bN.f aV k s (i:Int)=some (eN s i,sw s i):=qg hk hs hi
def nI (s:List UInt8)(most from_ apart:Int)(i:Nat):Bool:=
 sw s i&&(decide (eN s i≤most)&&(decide (i=0)||(decide (eN s (i - 1)≤eN s i)&&(decide ((i:Int)≤from_)||decide (eN s i - eN s (i - 1)≤apart)))))
def pW (s:List UInt8)(rows:Nat)(most from_ apart:Int):Bool:=(List.range (rows+1)).all (nI s most from_ apart)
def fU (s:List UInt8)(i:Nat):Int:=if i=0 then 0 else eN s (i - 1)
theorem qV (s:List UInt8)(i:Nat):fU s (i+1)=eN s i:=by simp [fU]
theorem mz {k:Nat}(hk:200≤k){s:List UInt8}(hs:s.length≤4096){rows:Nat}(hr:rows≤128)(most from_ apart:Int):
  bc.f aV k s (rows:Int) most from_ apart=some (pW s rows most from_ apart):=by
 obtain ⟨k,rfl⟩:∃m,k=m+1:=⟨k - 1,by omega⟩
 rw [bc.f_eq,bM (by omega)]
 have:=na (F:=fun n i=>bc.l0 aV k n s most from_ apart (fU s i) ((rows+1:Nat):Int) (i:Int)) (p:=nI s most from_ apart) (N:=rows+1) (E:=some true) (Z:=some false) ?_ ?_ k (by omega)
 ·refine Eq.trans this ?_
  show _=some ((List.range (rows+1)).all (nI s most from_ apart))
  cases (List.range (rows+1)).all (nI s most from_ apart)<;>rfl
 ·intro n i hi hp
  show bc.l0 aV k (n+1) s most from_ apart (fU s i) ((rows+1:Nat):Int) (i:Int)=bif nI s most from_ apart i then bc.l0 aV k n s most from_ apart (fU s (i+1)) ((rows+1:Nat):Int) ((i+1:Nat):Int) else some false
  rw [bc.l0_eq,dT (show (i:Int)<((rows+1:Nat):Int) by omega),cT,cq (by omega) hs (by omega),bS,qV,bM (by omega)]
  unfold nI
  cases ho:sw s i with
  |false=>rfl
  |true=>
   have g1:=nY ho
   simp only [Bool.not_true,Bool.not_false,cT,Bool.true_and]
   by_cases h1:eN s i≤most
   ·rw [dF (show¬eN s i>most by omega),dT h1,Bool.not_false,cT,Bool.true_and]
    by_cases h2:i=0
    ·subst h2
     rw [dF (show¬((0:Nat):Int)>0 by omega),cF];simp
    ·have hq:=hp (i - 1) (by omega)
     unfold nI at hq
     rw [Bool.and_eq_true] at hq
     have g2:=nY hq.1
     have e1:fU s i=eN s (i - 1):=by simp [fU,h2]
     rw [dT (show (i:Int)>0 by omega),cT,dF h2,Bool.false_or,e1]
     by_cases h3:eN s (i - 1)≤eN s i
     ·rw [dF (show¬eN s i<eN s (i - 1) by omega),Bool.not_false,cT,dT h3,Bool.true_and,bR _ (by omega)]
      by_cases h4:(i:Int)≤from_
      ·rw [dF (show¬(i:Int)>from_ by omega),cF,dT h4,Bool.true_or,cT]
      ·rw [dT (show (i:Int)>from_ by omega),cT,dF h4,Bool.false_or]
       by_cases h5:eN s i - eN s (i - 1)≤apart
       ·rw [dF (show¬eN s i - eN s (i - 1)>apart by omega),cF,dT h5,cT]
       ·rw [dT (show eN s i - eN s (i - 1)>apart by omega),cT,dF h5,cF]
     ·rw [dT (show eN s i<eN s (i - 1) by omega),Bool.not_true,cF,dF h3,Bool.false_and,cF]
   ·rw [dT (show eN s i>most by omega),dF h1,Bool.not_true,cF,Bool.false_and,cF]
 ·intro _ n
  show bc.l0 aV k (n+1) s most from_ apart (fU s (rows+1)) ((rows+1:Nat):Int) ((rows+1:Nat):Int)=some true
  rw [bc.l0_eq,dF (by omega),cF]
structure D8 (x:aO):Prop where
 off:-9223372036854775808≤x.offset∧x.offset≤9223372036854775807
 len:-9223372036854775808≤x.length∧x.length≤9223372036854775807
 valid:(x.valid.length:Int)≤140737488351232
 ends:(x.ends.length:Int)≤140737488351232
 data:(x.data.length:Int)≤140737488351232
 kids:x.kids.length*96≤140737488351232
theorem _root_.Go.Proofs.YtjkokaockhecnaaGreatDoorA.RoomyA.one {x:aO}(h:RoomyA x):D8 x:=let ⟨a,b,c,d,e,f,_⟩:=h 1;⟨a,b,c,d,e,f⟩
def cB (x:aO):Nat:=(x.offset+x.length).toNat
def u9 (null:Bool)(x:aO):Bool:=
 decide (0≤x.offset)&&(decide (0≤x.length)&&(decide (x.offset+x.length≤64)&&(decide (x.valid.length≤4096)&&(decide (x.ends.length≤4096)&&(decide (x.data.length≤4096)&&
  (x.valid==[]||(null&&decide (j6 (x.offset+x.length)≤(x.valid.length:Int)))))))))
structure BP (null:Bool)(x:aO):Prop where
 off:0≤x.offset
 len:0≤x.length
 rows:x.offset+x.length≤64
 valid:x.valid.length≤4096
 ends:x.ends.length≤4096
 data:x.data.length≤4096
 there:x.valid=[]∨null=true∧j6 (x.offset+x.length)≤(x.valid.length:Int)
theorem np {null:Bool}{x:aO}:u9 null x=true↔BP null x:=by
 unfold u9
 simp only [Bool.and_eq_true,Bool.or_eq_true,decide_eq_true_eq,beq_iff_eq]
 constructor
 ·rintro ⟨a,b,c,d,e,f,g⟩;exact ⟨a,b,c,d,e,f,g⟩
 ·rintro ⟨a,b,c,d,e,f,g⟩;exact ⟨a,b,c,d,e,f,g⟩
theorem BP.rowsEq {null:Bool}{x:aO}(h:BP null x):((cB x:Nat):Int)=x.offset+x.length:=by
 have:=h.off;have:=h.len;unfold cB;omega
theorem BP.rowsN_le {null:Bool}{x:aO}(h:BP null x):cB x≤64:=by
 have:=h.rowsEq;have:=h.rows;omega
theorem BP.inV {null:Bool}{x:aO}(h:BP null x){i:Nat}(hi:i<cB x):x.valid=[]∨i / 8<x.valid.length:=by
 rcases h.there with h1|⟨_,h1⟩
 ·exact .inl h1
 ·right
  rw [←h.rowsEq] at h1
  unfold j6 at h1
  omega
theorem oJ {k:Nat}(hk:2≤k)(nd:aI){x:aO}(hr:D8 x):eQ.f aV k nd x=some (u9 nd.null x):=by
 obtain ⟨k,rfl⟩:∃m,k=m+1:=⟨k - 1,by omega⟩
 obtain ⟨⟨o1,o2⟩,⟨l1,l2⟩,v1,e1,d1,k1⟩:=hr
 rw [eQ.f_eq]
 unfold u9
 by_cases h1:0≤x.offset
 ·rw [dF (show¬x.offset<0 by omega),dT h1,Bool.not_false,cT,Bool.true_and]
  by_cases h2:0≤x.length
  ·rw [dF (show¬x.length<0 by omega),dT h2,Bool.not_false,cT,Bool.true_and]
   by_cases h3:x.offset≤64
   ·rw [dF (show¬x.offset>64 by omega),Bool.not_false,cT,bR _ (by omega)]
    by_cases h4:x.offset+x.length≤64
    ·rw [dF (show¬x.length>64 - x.offset by omega),cF,dT h4,Bool.true_and]
     rw [bR (x.offset+x.length) (by omega),mr (by omega) (by omega) (by omega)]
     have hm:decide ((bif decide (((x.data).length:Int)>(bif decide (((x.ends).length:Int)>((x.valid).length:Int)) then ((x.ends).length:Int) else ((x.valid).length:Int))) then ((x.data).length:Int) else (bif decide (((x.ends).length:Int)>((x.valid).length:Int)) then ((x.ends).length:Int) else ((x.valid).length:Int)))>4096)=!(decide (x.valid.length≤4096)&&(decide (x.ends.length≤4096)&&decide (x.data.length≤4096))):=by
      by_cases a:((x.ends).length:Int)>((x.valid).length:Int)
      ·rw [dT a,cT]
       by_cases b:((x.data).length:Int)>((x.ends).length:Int)
       ·rw [dT b,cT]
        by_cases c:x.data.length≤4096
        ·rw [dF (by omega),dT (by omega),dT (by omega),dT c];rfl
        ·rw [dT (by omega),dF c];simp
       ·rw [dF b,cF]
        by_cases c:x.ends.length≤4096
        ·rw [dF (by omega),dT (by omega),dT (by omega),dT (by omega)];rfl
        ·rw [dT (by omega),dF c];simp
      ·rw [dF a,cF]
       by_cases b:((x.data).length:Int)>((x.valid).length:Int)
       ·rw [dT b,cT]
        by_cases c:x.data.length≤4096
        ·rw [dF (by omega),dT (by omega),dT (by omega),dT c];rfl
        ·rw [dT (by omega),dF c];simp
       ·rw [dF b,cF]
        by_cases c:x.valid.length≤4096
        ·rw [dF (by omega),dT (by omega),dT (by omega),dT (by omega)];rfl
        ·rw [dT (by omega),dF c];simp
     rw [hm,bS]
     have he:decide ((x.valid.length:Int)≥j6 (x.offset+x.length))=decide (j6 (x.offset+x.length)≤(x.valid.length:Int)):=rfl
     rw [he]
     generalize decide (x.valid.length≤4096)=p1
     generalize decide (x.ends.length≤4096)=p2
     generalize decide (x.data.length≤4096)=p3
     generalize (x.valid==[])=p4
     generalize nd.null=p5
     generalize decide (j6 (x.offset+x.length)≤(x.valid.length:Int))=p6
     revert p1 p2 p3 p4 p5 p6;decide
    ·rw [dT (show x.length>64 - x.offset by omega),cT,dF h4,Bool.false_and]
   ·rw [dT (show x.offset>64 by omega),Bool.not_true,cF,dF (show¬x.offset+x.length≤64 by omega),Bool.false_and]
  ·rw [dT (show x.length<0 by omega),dF h2,Bool.not_true,cF,Bool.false_and]
 ·rw [dT (show x.offset<0 by omega),dF h1,Bool.not_true,cF,Bool.false_and]
def pB (x kid:aO):Bool:=
 kid.valid==[]&&(decide (4*cB x≤x.data.length)&&
  (List.range (cB x)).all fun i=>decide ((i:Int)<x.offset)||(!eu x.valid i||(sw x.data i&&decide (eN x.data i<kid.length))))
def vg (x kid:aO):Bool:=
 x.valid==[]&&(((x.data.length:Int)==4*kid.length)&&
  ((List.range kid.length.toNat).all (fun i=>sw x.data i&&decide (fU x.data i<eN x.data i))&&decide (x.offset+x.length≤fU x.data kid.length.toNat)))
theorem sG {null:Bool}{x kid:aO}(hb:BP null x){k:Nat}(hk:100≤k)(n:Nat)(hn:65≤n):
  ce.l0 aV k n x.layout x.offset x.length x.valid x.ends x.data x.kids (some kid) x.offset=
   some ((List.range (cB x)).all fun i=>decide ((i:Int)<x.offset)||(!eu x.valid i||(sw x.data i&&decide (eN x.data i<kid.length)))):=by
 have hrw:=hb.rowsEq
 have hrl:=hb.rowsN_le
 have h0:=hb.off
 have h1:=hb.len
 -- the rows ahead of the first one are not looked at
 have key:=na (F:=fun n i=>ce.l0 aV k n x.layout x.offset x.length x.valid x.ends x.data x.kids (some kid) ((x.offset.toNat+i:Nat):Int)) (p:=fun i=>!eu x.valid (x.offset.toNat+i)||(sw x.data (x.offset.toNat+i)&&decide (eN x.data (x.offset.toNat+i)<kid.length)))
  (N:=x.length.toNat) (E:=some true) (Z:=some false) ?_ ?_ n (by omega)
 ·have e:((x.offset.toNat+0:Nat):Int)=x.offset:=by omega
  simp only [e] at key
  rw [key]
  have e2:((List.range (cB x)).all fun i=>decide ((i:Int)<x.offset)||(!eu x.valid i||(sw x.data i&&decide (eN x.data i<kid.length))))=
    (List.range x.length.toNat).all fun i=>!eu x.valid (x.offset.toNat+i)||(sw x.data (x.offset.toNat+i)&&decide (eN x.data (x.offset.toNat+i)<kid.length)):=by
   rw [Bool.eq_iff_iff,bA,bA]
   constructor
   ·intro h i hi
    have:=h (x.offset.toNat+i) (by omega)
    rw [dF (show¬((x.offset.toNat+i:Nat):Int)<x.offset by omega),Bool.false_or] at this
    exact this
   ·intro h i hi
    by_cases hlt:(i:Int)<x.offset
    ·rw [dT hlt];rfl
    ·have:=h (i - x.offset.toNat) (by omega)
     rw [show x.offset.toNat+(i - x.offset.toNat)=i by omega] at this
     rw [this,Bool.or_true]
  rw [e2]
  cases (List.range x.length.toNat).all fun i=>!eu x.valid (x.offset.toNat+i)||(sw x.data (x.offset.toNat+i)&&decide (eN x.data (x.offset.toNat+i)<kid.length))<;>rfl
 ·intro n i hi _
  have w:IntKind.i64.wrap (((x.offset.toNat+i:Nat):Int)+1)=((x.offset.toNat+(i+1):Nat):Int):=by rw [bR _ (by omega)];omega
  rw [ce.l0_eq,bR (x.offset+x.length) (by omega),dT (by omega),cT,cq (by omega) hb.data (by omega),bS,aO.eta,kN (by omega) (hb.inV (by omega)) (by omega),bS,w]
  cases eu x.valid (x.offset.toNat+i) with
  |false=>rfl
  |true=>
   cases sw x.data (x.offset.toNat+i) with
   |false=>rfl
   |true=>
    simp only [Bool.not_true,Bool.not_false,cT,Bool.true_and,Bool.false_or,bS]
    by_cases h:eN x.data (x.offset.toNat+i)<kid.length
    ·rw [dT h,dF (by omega),cT,cF]
    ·rw [dF h,dT (by omega),cT,cF]
 ·intro _ n
  rw [ce.l0_eq,bR (x.offset+x.length) (by omega),dF (by omega),cF]
theorem ux {x:aO}{m:Nat}(hm:m≤64)(ho:x.offset+x.length≤64∧0≤x.offset+x.length)(hd:x.data.length≤4096){k:Nat}(hk:100≤k)(n:Nat)(hn:65≤n):
  cR.l0 aV k n x.layout x.offset x.length x.valid x.ends x.data x.kids 0 (m:Int) 0=
   some ((List.range m).all (fun i=>sw x.data i&&decide (fU x.data i<eN x.data i))&&decide (x.offset+x.length≤fU x.data m)):=by
 have key:=na (F:=fun n i=>cR.l0 aV k n x.layout x.offset x.length x.valid x.ends x.data x.kids (fU x.data i) (m:Int) (i:Int)) (p:=fun i=>sw x.data i&&decide (fU x.data i<eN x.data i))
  (N:=m) (E:=some (decide (x.offset+x.length≤fU x.data m))) (Z:=some false) ?_ ?_ n (by omega)
 ·refine Eq.trans key ?_
  rw [Dh]
 ·intro n i hi _
  rw [cR.l0_eq,dT (by omega),cT,cq (by omega) hd (by omega),bS,qV,bM (by omega)]
  cases sw x.data i with
  |false=>rfl
  |true=>
   simp only [Bool.not_true,Bool.not_false,cT,Bool.true_and]
   by_cases h:fU x.data i<eN x.data i
   ·rw [dT h,dF (by omega),cT,cF]
   ·rw [dF h,dT (by omega),cT,cF]
 ·intro _ n
  rw [cR.l0_eq,dF (by omega),cF,bR _ (by omega)]
theorem lh {α:Type}{l:List α}{j:Nat}{d:α}(h:j<l.length):l.getD j d=l[j]:=by simp [List.getD,h]
def az (x:aO)(j:Nat):aO:=x.kids.getD j x
def c9 (t:List aI)(a:Int)(j:Nat):Int:=(ag t a).getD j 0
def hY (t:List aI)(i:Nat)(x:aO):Bool:=
 if bK t i=0 then x.ends==[]&&decide (8*cB x≤x.data.length)
 else if bK t i=1 then x.ends==[]&&decide (j6 (x.offset+x.length)≤(x.data.length:Int))
 else if bK t i=2 then pW x.ends (cB x) (x.data.length:Int) x.offset 16
 else if bK t i=3 then x.data==[]&&pW x.ends (cB x) (az x 0).length 0 64
 else x.ends==[]&&(x.data==[]&&!x.kids.any fun c=>decide (c.length<x.offset+x.length))
def fM:Nat→List aI→Int→aO→Bool
 |0,_,_,_=>false
 |f+1,t,a,x=>b9 t a&&(u9 (yj t a.toNat) x&&
   if x.layout=0 then decide (x.kids.length=(ag t a).length)&&((List.range x.kids.length).all (fun j=>fM f t (c9 t a j) (az x j))&&hY t a.toNat x)
   else !cS (bK t a.toNat)&&(x.ends==[]&&(decide (x.kids.length=1)&&((az x 0).layout==0&&(fM f t a (az x 0)&&
    if x.layout=1 then pB x (az x 0) else if x.layout=2 then vg x (az x 0) else false)))))
def je (t:List aI)(a:Int)(x:aO):Nat:=2*(t.length - a.toNat)+(if x.layout=0 then 0 else 1)
theorem nL {x:aO}{j:Nat}(h:j<x.kids.length):az x j∈x.kids:=by
 unfold az;rw [lh h];exact List.getElem_mem h
theorem fL {x:aO}{j:Nat}(h:j<x.kids.length):x.kids[j]=az x j:=by
 unfold az;rw [lh h]
theorem gm {t:List aI}{a:Int}{j:Nat}(h:j<(ag t a).length):(ag t a)[j]?=some (c9 t a j):=by
 unfold c9;rw [lh h,List.getElem?_eq_getElem h]
theorem ij {t:List aI}(hm:gQ t=true){i j:Nat}(hj:j<(ag t (i:Int)).length):∃q:Nat,c9 t (i:Int) j=(q:Int)∧i<q∧q<t.length:=by
 have hmem:c9 t (i:Int) j∈ag t (i:Int):=by unfold c9;rw [lh hj];exact List.getElem_mem hj
 obtain ⟨q,h1,_,h3,h4⟩:=jA.1 hmem
 have:=(fm hm).up h1
 exact ⟨q,h4,by omega,h1⟩
theorem jv {t:List aI}(hm:gQ t=true){i j:Nat}{x:aO}(y:aO)(hj:j<(ag t (i:Int)).length):je t (c9 t (i:Int) j) y<je t (i:Int) x:=by
 obtain ⟨q,e,h1,h2⟩:=ij hm hj
 unfold je
 rw [e,Int.toNat_natCast,Int.toNat_natCast]
 split<;>split<;>omega
theorem oD:∀(f g:Nat) (t:List aI) (a:Int) (x:aO),je t a x<f→je t a x<g→fM f t a x=fM g t a x
 |0,_,_,_,_,h,_=>absurd h (Nat.not_lt_zero _)
 |_,0,_,_,_,_,h=>absurd h (Nat.not_lt_zero _)
 |f+1,g+1,t,a,x,hf,hg=>by
  unfold fM
  cases hn:b9 t a with
  |false=>rfl
  |true=>
   obtain ⟨hm,i,hi,rfl⟩:=bC hn
   rw [Bool.true_and,Bool.true_and]
   congr 1
   by_cases hl:x.layout=0
   ·rw [if_pos hl,if_pos hl]
    by_cases hk:x.kids.length=(ag t (i:Int)).length
    ·have:((List.range x.kids.length).all fun j=>fM f t (c9 t (i:Int) j) (az x j))=((List.range x.kids.length).all fun j=>fM g t (c9 t (i:Int) j) (az x j)):=by
      rw [Bool.eq_iff_iff,bA,bA]
      have e:∀j,j<x.kids.length→fM f t (c9 t (i:Int) j) (az x j)=fM g t (c9 t (i:Int) j) (az x j):=fun j hj=>by
       have:=jv hm (x:=x) (az x j) (i:=i) (j:=j) (by omega)
       exact oD f g t _ _ (by omega) (by omega)
      exact ⟨fun h j hj=>by rw [←e j hj];exact h j hj,fun h j hj=>by rw [e j hj];exact h j hj⟩
     rw [this]
    ·rw [dF hk,Bool.false_and,Bool.false_and]
   ·rw [if_neg hl,if_neg hl]
    cases hk:(az x 0).layout==0 with
    |false=>rw [Bool.false_and];simp
    |true=>
     rw [beq_iff_eq] at hk
     have h1:je t (i:Int) (az x 0)<je t (i:Int) x:=by unfold je;rw [if_neg hl,if_pos hk];omega
     rw [oD f g t (i:Int) (az x 0) (by omega) (by omega)]
def ef (t:List aI)(a:Int)(x:aO):Bool:=fM 20 t a x
theorem oZ {t:List aI}{a:Int}(h:b9 t a=true):t.length≤8:=by have:=cw (bC h).1;omega
theorem yM {f:Nat}{t:List aI}{a:Int}{x:aO}(hf:je t a x<f):fM f t a x=ef t a x:=by
 by_cases h:je t a x<20
 ·exact oD f 20 t a x hf h
 ·cases hn:b9 t a with
  |false=>
   obtain ⟨f,rfl⟩:∃m,f=m+1:=⟨f - 1,by omega⟩
   unfold ef fM;rw [hn,Bool.false_and,Bool.false_and]
  |true=>
   have:=oZ hn
   unfold je at h
   split at h<;>omega
theorem tM {t:List aI}{a:Int}{x:aO}(h:b9 t a=true):je t a x<18:=by
 have:=oZ h
 unfold je;split<;>omega
theorem nR (t:List aI)(a:Int)(x:aO):ef t a x=(b9 t a&&(u9 (yj t a.toNat) x&&
   if x.layout=0 then decide (x.kids.length=(ag t a).length)&&((List.range x.kids.length).all (fun j=>ef t (c9 t a j) (az x j))&&hY t a.toNat x)
   else !cS (bK t a.toNat)&&(x.ends==[]&&(decide (x.kids.length=1)&&((az x 0).layout==0&&(ef t a (az x 0)&&
    if x.layout=1 then pB x (az x 0) else if x.layout=2 then vg x (az x 0) else false)))))):=by
 cases hn:b9 t a with
 |false=>unfold ef fM;rw [hn,Bool.false_and];rfl
 |true=>
  have h1:=tM (x:=x) hn
  rw [←yM (f:=21) (by omega)]
  unfold fM
  rw [hn]
  rfl
theorem AZ {k:Nat}(hk:1≤k)(x:aO)(r:Int):eJ.f aV k x r=some (decide (x.length<r)):=by
 obtain ⟨k,rfl⟩:∃m,k=m+1:=⟨k - 1,by omega⟩
 rw [eJ.f_eq]
theorem we (l:List aO)(r:Int)(hl:l.length≤1000000){k:Nat}(hk:1≤k):∀(d i:Nat),i+d=l.length→∀n,d<n→
  ∃v,ac.l0 aV k n l r (l.length:Int) (i:Int)=some v∧decide (v≥0)=(l.drop i).any fun c=>decide (c.length<r)
 |0,i,h,n,hn=>by
  obtain ⟨n,rfl⟩:∃m,n=m+1:=⟨n - 1,by omega⟩
  rw [ac.l0_eq,dF (by omega),cF,List.drop_of_length_le (by omega)]
  exact ⟨-1,rfl,rfl⟩
 |d+1,i,h,n,hn=>by
  obtain ⟨n,rfl⟩:∃m,n=m+1:=⟨n - 1,by omega⟩
  have hlt:i<l.length:=by omega
  rw [ac.l0_eq,dT (by omega),cT,aE hlt,bS,AZ hk,bS,List.drop_eq_getElem_cons hlt,List.any_cons,bM (by omega)]
  cases hc:decide ((l[i]).length<r) with
  |true=>exact ⟨(i:Int),rfl,by rw [dT (by omega)];rfl⟩
  |false=>simpa using we l r hl hk d (i+1) (by omega) n (by omega)
theorem vf {k:Nat}(l:List aO)(r:Int)(hl:l.length≤100)(hk:200≤k):aA.f aV k l r=some (l.any fun c=>decide (c.length<r)):=by
 obtain ⟨k,rfl⟩:∃m,k=m+2:=⟨k - 2,by omega⟩
 obtain ⟨v,h1,h2⟩:=we l r (by omega) (k:=k) (by omega) l.length 0 (by omega) k (by omega)
 rw [aA.f_eq,ac.f_eq]
 rw [show ((0:Nat):Int)=0 from rfl] at h1
 rw [h1,bS,h2]
 simp
theorem q9 {f:Nat}{t:List aI}(hm:gQ t=true){i:Nat}(hi:i<t.length){x:aO}(hb:BP (yj t i) x)(hx:RoomyA x){k:Nat}(hk:300≤k)
  (ih:∀j,j<(ag t (i:Int)).length→j<x.kids.length→dD.f aV k t (c9 t (i:Int) j) (az x j)=some (fM f t (c9 t (i:Int) j) (az x j)))
  (h64:∀j,j<x.kids.length→fM f t (c9 t (i:Int) j) (az x j)=true→0≤(az x j).length∧(az x j).length≤64):
  bU.f aV (k+1) t (i:Int) x=some (decide (x.kids.length=(ag t (i:Int)).length)&&((List.range x.kids.length).all (fun j=>fM f t (c9 t (i:Int) j) (az x j))&&hY t i x)):=by
 have hn:=eR hm hi
 have hkl:=cu t (i:Int) t.length
 have htl:=cw hm
 have hkb:=((cZ t).1 hm).2.2 i hi
 have hrw:=hb.rowsEq
 have hrl:=hb.rowsN_le
 rw [bU.f_eq,mq (by omega),bS]
 unfold kA
 rw [if_pos hn]
 by_cases hl:x.kids.length=(ag t (i:Int)).length
 ·have e1:(((x.kids.length:Nat):Int) != ((ag t (i:Int)).length:Int))=false:=by rw [hl];simp
  have hl8:x.kids.length≤8:=by unfold ag at hl;omega
  simp only
  rw [e1,cF,dT hl,Bool.true_and]
  have key:=na (F:=fun n j=>bU.l0 aV k n t (i:Int) x.layout x.offset x.length x.valid x.ends x.data x.kids ((ag t (i:Int)).length:Int) (j:Int) (IntKind.i64.wrap (x.offset+x.length)) (ag t (i:Int)))
   (p:=fun j=>fM f t (c9 t (i:Int) j) (az x j)) (N:=x.kids.length) (E:=some (hY t i x)) (Z:=some false) ?_ ?_ k (by omega)
  ·refine Eq.trans key ?_
   rw [Dh]
  ·intro n j hj _
   rw [bU.l0_eq,dT (by omega),cT,dT (show (0:Int)≤(j:Int) by omega)]
   simp only [Bool.and_self,cT,Int.toNat_natCast]
   rw [gm (by omega),bS,aE hj,bS,fL hj,ih j (by omega) hj,bS,bM (by omega)]
   cases fM f t (c9 t (i:Int) j) (az x j)<;>rfl
  ·intro hall n
   rw [bU.l0_eq,dF (by omega),cF,aE hi,bS,bY hi,←hrw,bR ((cB x:Nat):Int) (by omega),bR (8*((cB x:Nat):Int)) (by omega)]
   unfold hY
   by_cases k0:bK t i=0
   ·rw [k0,if_pos rfl]
    simp only [BEq.rfl,cT]
    rw [Dh]
    congr 2
    by_cases h:8*cB x≤x.data.length
    ·rw [dT h,dT (by omega)]
    ·rw [dF h,dF (by omega)]
   ·rw [if_neg k0,show (bK t i==0)=false by simpa using k0,cF]
    by_cases k1:bK t i=1
    ·rw [k1,if_pos rfl]
     simp only [BEq.rfl,cT]
     rw [mr (by omega) (by omega) (by omega),bS,Dh,hrw]
    ·rw [if_neg k1,show (bK t i==1)=false by simpa using k1,cF]
     by_cases k2:bK t i=2
     ·rw [k2,if_pos rfl]
      simp only [BEq.rfl,cT]
      rw [mz (by omega) hb.ends (by omega),bS]
     ·rw [if_neg k2,show (bK t i==2)=false by simpa using k2,cF]
      by_cases k3:bK t i=3
      ·have hk1:0<x.kids.length:=by
        have:=hkb.1
        unfold iQ at this
        rw [k3] at this
        simp at this
        omega
       rw [k3,if_pos rfl]
       simp only [BEq.rfl,cT]
       have hr0:=aE hk1
       rw [fL hk1] at hr0
       rw [show ((0:Nat):Int)=0 from rfl] at hr0
       rw [hr0,bS,mz (by omega) hb.ends (by omega),bS,Dh]
      ·rw [if_neg k3,show (bK t i==3)=false by simpa using k3,cF,vf _ _ (by omega) (by omega),bS,Dh,Dh,hrw]
 ·have e1:(((x.kids.length:Nat):Int) != ((ag t (i:Int)).length:Int))=true:=by rw [bne_iff_ne];omega
  simp only
  rw [e1,cT,dF hl,Bool.false_and]
theorem tN {f:Nat}{t:List aI}{i:Nat}(hi:i<t.length){x:aO}{k:Nat}(hk:300≤k)
  (ih:0<x.kids.length→(az x 0).layout=0→dD.f aV k t (i:Int) (az x 0)=some (fM f t (i:Int) (az x 0))):
  ∃o,gV.f aV (k+1) t (i:Int) x=some (o,!cS (bK t i)&&(x.ends==[]&&(decide (x.kids.length=1)&&((az x 0).layout==0&&fM f t (i:Int) (az x 0)))))∧
   (x.kids.length=1→cS (bK t i)=false→x.ends=[]→o=some (az x 0)):=by
 rw [gV.f_eq,aE hi,bS,bY hi,ly (by omega),bS]
 cases h1:cS (bK t i) with
 |true=>exact ⟨none,rfl,fun _ h=>by cases h⟩
 |false=>
  rw [Bool.not_false,cT]
  by_cases h2:x.ends=[]
  ·rw [show (x.ends != [])=false by rw [h2];rfl,Bool.not_false,cT,show (x.ends==[])=true by rw [h2];rfl]
   by_cases h3:x.kids.length=1
   ·have h0:0<x.kids.length:=by omega
    have hr0:=aE h0
    rw [fL h0,show ((0:Nat):Int)=0 from rfl] at hr0
    rw [show (((x.kids.length:Nat):Int) != 1)=false by rw [h3];rfl,cF,hr0,bS,aO.eta,dT h3]
    cases h4:(az x 0).layout==0 with
    |false=>exact ⟨some (az x 0),rfl,fun _ _ _=>rfl⟩
    |true=>
     rw [cT,ih h0 (by simpa using h4),bS]
     exact ⟨some (az x 0),by simp,fun _ _ _=>rfl⟩
   ·rw [show (((x.kids.length:Nat):Int) != 1)=true by rw [bne_iff_ne];omega,cT,dF h3]
    exact ⟨none,rfl,fun h=>absurd h h3⟩
  ·rw [show (x.ends != [])=true by simpa using h2,Bool.not_true,cF,show (x.ends==[])=false by simpa using h2]
   exact ⟨none,rfl,fun _ _ h=>absurd h h2⟩
theorem wj {f:Nat}{t:List aI}{a:Int}{x:aO}(h:fM f t a x=true):0≤x.length∧x.length≤64:=by
 cases f with
 |zero=>cases h
 |succ f=>
  unfold fM at h
  simp only [Bool.and_eq_true] at h
  have hb:=np.1 h.2.1
  exact ⟨hb.len,by have:=hb.off;have:=hb.rows;omega⟩
theorem kb:∀(f:Nat) (t:List aI) (a:Int) (x:aO),je t a x<f→RoomyA x→∀k,400+5*f≤k→dD.f aV k t a x=some (fM f t a x)
 |0,_,_,_,h,_,_,_=>absurd h (Nat.not_lt_zero _)
 |f+1,t,a,x,hf,hx,k,hk=>by
  obtain ⟨k,rfl⟩:∃m,k=m+3:=⟨k - 3,by omega⟩
  rw [dD.f_eq,jl (by omega),bS]
  unfold fM
  cases hn:b9 t a with
  |false=>rfl
  |true=>
   obtain ⟨hm,i,hi,rfl⟩:=bC hn
   rw [Bool.not_true,Bool.not_false,cT,aE hi,bS,oJ (by omega) _ hx.one,bS,kt hi,Int.toNat_natCast]
   cases hb:u9 (yj t i) x with
   |false=>rfl
   |true=>
    have hB:=np.1 hb
    rw [Bool.not_true,cF,Bool.true_and,Bool.true_and]
    by_cases h0:x.layout=0
    ·rw [if_pos h0,show (x.layout==0)=true by simpa using h0,cT]
     rw [q9 (f:=f) hm hi hB hx (by omega) (fun j hj hj'=>kb f t _ _ (by have:=jv hm (x:=x) (az x j) hj;omega) (hx.kid (nL hj')) _ (by omega)) (fun j _ h=>wj h)]
     rfl
    ·rw [if_neg h0,show (x.layout==0)=false by simpa using h0,cF]
     obtain ⟨o,ho,ho2⟩:=tN (f:=f) hi (x:=x) (k:=k) (by omega) (fun hk0 hl0=>kb f t _ _ (by unfold je at hf ⊢;rw [if_neg h0] at hf;rw [if_pos hl0];omega) (hx.kid (nL hk0)) _ (by omega))
     have hoff:=hB.off
     have hlen:=hB.len
     have hrows:=hB.rows
     have hrw:=hB.rowsEq
     by_cases h1:x.layout=1
     ·rw [if_pos h1,show (x.layout==1)=true by simpa using h1,cT,ce.f_eq,ho,bS]
      simp only
      generalize hg:(!cS (bK t i)&&(x.ends==[]&&(decide (x.kids.length=1)&&((az x 0).layout==0&&fM f t (i:Int) (az x 0)))))=g at*
      have e:(!cS (bK t i)&&(x.ends==[]&&(decide (x.kids.length=1)&&((az x 0).layout==0&&(fM f t (i:Int) (az x 0)&&pB x (az x 0))))))=(g&&pB x (az x 0)):=by rw [←hg];simp [Bool.and_assoc]
      rw [e]
      cases g with
      |false=>rfl
      |true=>
       simp only [Bool.and_eq_true,Bool.not_eq_true',decide_eq_true_eq,beq_iff_eq] at hg
       rw [ho2 hg.2.2.1 hg.1 hg.2.1]
       simp only [Bool.not_true,Bool.not_false,cT,bS,Bool.true_and]
       rw [sG hB (by omega) _ (by omega),bR (x.offset+x.length) (by omega),bR _ (by omega)]
       unfold pB
       have e1:((az x 0).valid != [])=!((az x 0).valid==[]):=rfl
       rw [e1,Bool.not_not]
       have e2:decide (((x.data).length:Int)<4*(x.offset+x.length))=!decide (4*cB x≤x.data.length):=by
        by_cases h:4*cB x≤x.data.length
        ·rw [dT h,dF (by omega)];rfl
        ·rw [dF h,dT (by omega)];rfl
       rw [e2,HY,Bool.not_not,Dh,bS]
     ·rw [if_neg h1,show (x.layout==1)=false by simpa using h1,cF]
      by_cases h2:x.layout=2
      ·rw [if_pos h2,show (x.layout==2)=true by simpa using h2,cT,cR.f_eq,ho,bS]
       simp only
       generalize hg:(!cS (bK t i)&&(x.ends==[]&&(decide (x.kids.length=1)&&((az x 0).layout==0&&fM f t (i:Int) (az x 0)))))=g at*
       have e:(!cS (bK t i)&&(x.ends==[]&&(decide (x.kids.length=1)&&((az x 0).layout==0&&(fM f t (i:Int) (az x 0)&&vg x (az x 0))))))=(g&&vg x (az x 0)):=by rw [←hg];simp [Bool.and_assoc]
       rw [e]
       cases g with
       |false=>rfl
       |true=>
        simp only [Bool.and_eq_true,Bool.not_eq_true',decide_eq_true_eq,beq_iff_eq] at hg
        rw [ho2 hg.2.2.1 hg.1 hg.2.1]
        simp only [Bool.not_true,Bool.not_false,cT,bS,Bool.true_and]
        have hkl:=wj hg.2.2.2.2
        have em:(az x 0).length=(((az x 0).length.toNat:Nat):Int):=by omega
        have hl0:=ux (x:=x) (m:=(az x 0).length.toNat) (by omega) ⟨hrows,by omega⟩ hB.data (k:=k+1) (by omega) (k+1) (by omega)
        rw [←em] at hl0
        rw [hl0,bR _ (by omega)]
        unfold vg
        have e1:(x.valid != [])=!(x.valid==[]):=rfl
        have e2:(((x.data).length:Int) != 4*(az x 0).length)=!(((x.data).length:Int)==4*(az x 0).length):=rfl
        rw [e1,Bool.not_not,e2,HY,Bool.not_not,Dh,bS]
      ·rw [if_neg h2,show (x.layout==2)=false by simpa using h2,cF]
       simp
theorem lO {t:List aI}(hm:gQ t=true){i:Nat}(hi:i<t.length)(h:cS (bK t i)=false):ag t (i:Int)=[]:=by
 have hst:=fm hm
 cases hc:ag t (i:Int) with
 |nil=>rfl
 |cons y l=>
  obtain ⟨j,hj,hj0,hp,_⟩:=jA.1 (show y∈ag t (i:Int) by rw [hc];exact List.mem_cons_self)
  have hs:=hst j hj
  unfold eh at hs
  rw [if_neg (by omega),hp,Int.toNat_natCast] at hs
  simp only [Bool.and_eq_true] at hs
  rw [h] at hs
  exact absurd hs.2 (by decide)
theorem EJ {t:List aI}{a:Int}{x:aO}(hx:RoomyA x){k:Nat}(hk:1000≤k):dD.f aV k t a x=some (ef t a x):=by
 cases hn:b9 t a with
 |true=>
  have h:=tM (x:=x) hn
  exact kb 20 t a x (by omega) hx k (by omega)
 |false=>
  obtain ⟨k,rfl⟩:∃m,k=m+1:=⟨k - 1,by omega⟩
  rw [dD.f_eq,jl (by omega),bS,hn,nR,hn];rfl
def part (x:aO)(i c:Int):aO:=.mk x.layout (x.offset+i) c x.valid x.ends x.data x.kids
theorem g9 {t:List aI}{a:Int}{x:aO}(h:ef t a x=true):b9 t a=true∧BP (yj t a.toNat) x:=by
 rw [nR] at h
 simp only [Bool.and_eq_true] at h
 exact ⟨h.1,np.1 h.2.1⟩
theorem HH {a m:Int}(hm:1≤m∧m≤1000000):IntKind.u64.wrap m≠0∧IntKind.i64.wrap (Int.tmod (IntKind.u64.wrap a) (IntKind.u64.wrap m))=(a % 18446744073709551616) % m∧0≤(a % 18446744073709551616) % m∧(a % 18446744073709551616) % m<m:=by
 have e1:IntKind.u64.wrap m=m:=uw m (by omega)
 have e2:IntKind.u64.wrap a=a % 18446744073709551616:=by simp [IntKind.wrap,IntKind.bits,IntKind.signed]
 have h0:0≤(a % 18446744073709551616) % m:=Int.emod_nonneg _ (by omega)
 have h1:(a % 18446744073709551616) % m<m:=Int.emod_lt_of_pos _ (by omega)
 refine ⟨by omega,?_,h0,h1⟩
 rw [e1,e2,Int.tmod_eq_emod_of_nonneg (Int.emod_nonneg _ (by omega)),bR _ (by omega)]
theorem EX {k:Nat}(hk:1≤k)(x:Int):dG.f aV k x=some x:=by
 obtain ⟨k,rfl⟩:∃m,k=m+1:=⟨k - 1,by omega⟩
 rw [dG.f_eq]
def kE:Nat→Nat→List Int
 |0,_=>[]
 |f+1,n=>if n<10 then [48+(n:Int)] else kE f (n / 10)++[48+((n % 10:Nat):Int)]
theorem ve:∀f n,(kE f n).length≤f
 |0,_=>Nat.le_refl _
 |f+1,n=>by
  unfold kE
  split
  ·simp
  ·have:=ve f (n / 10)
   simp;omega
theorem tl:∀(f g n:Nat),n<10 ^ f→n<10 ^ g→0<f→0<g→kE f n=kE g n
 |0,_,_,_,_,h,_=>by omega
 |_,0,_,_,_,_,h=>by omega
 |f+1,g+1,n,hf,hg,_,_=>by
  unfold kE
  by_cases h:n<10
  ·rw [if_pos h,if_pos h]
  ·rw [if_neg h,if_neg h]
   have f0:0<f:=by
    rcases Nat.eq_zero_or_pos f with e|e
    ·subst e;omega
    ·exact e
   have g0:0<g:=by
    rcases Nat.eq_zero_or_pos g with e|e
    ·subst e;omega
    ·exact e
   rw [tl f g (n / 10) (by rw [Nat.pow_succ] at hf;omega) (by rw [Nat.pow_succ] at hg;omega) f0 g0]
def og (n:Nat):List UInt8:=aD (kE 20 n)
theorem qn (n:Nat):(og n).length≤20:=by unfold og;rw [nK];exact ve 20 n
def sW (x:Int)(l:List Int):List UInt8:=aD (if x<0 then 45 :: l else l)
theorem BC (n:Nat):IntKind.u8.wrap (IntKind.u64.wrap (48+(Int.tmod (n:Int) 10)))=48+((n % 10:Nat):Int):=by
 rw [Int.tmod_eq_emod_of_nonneg (by omega),uw _ (by omega),D2];omega
theorem zL {n:Nat}(h:n≤18446744073709551615):IntKind.u64.wrap (Int.tdiv (n:Int) 10)=((n / 10:Nat):Int):=by
 rw [Int.tdiv_eq_ediv_of_nonneg (by omega),uw _ (by omega)];omega
theorem o8 {k n:Nat}(x:Int){out:List Int}(h0:out≠[])(hl:out.length≤1000):ar.l0 aV k (n+1) x 0 out=some (sW x out):=by
 have e1:(((out.length:Nat):Int)==0)=false:=by
  rw [beq_eq_false_iff_ne];intro h;exact h0 (List.length_eq_zero_iff.1 (by omega))
 rw [ar.l0_eq,dF (by omega),Bool.not_false,cT,e1,cF]
 unfold sW
 by_cases h:x<0
 ·rw [dT h,cT,if_pos h,dT (by simp;omega),cT];rfl
 ·rw [dF h,cF,if_neg h]
theorem qu (k:Nat)(x:Int):∀(f m:Nat) (out:List Int) (n:Nat),0<m→m<10 ^ f→m≤18446744073709551615→f+1≤n→out.length+f≤900→ar.l0 aV k n x (m:Int) out=some (sW x (kE f m++out))
 |0,m,_,_,h0,h1,_,_,_=>by simp at h1;omega
 |f+1,m,out,n,h0,h1,h2,h3,h4=>by
  obtain ⟨n,rfl⟩:∃q,n=q+1:=⟨n - 1,by omega⟩
  rw [ar.l0_eq,dT (show (m:Int)>0 by omega),Bool.not_true,cF,BC,zL h2,dT (by simp;omega),cT]
  by_cases h:m<10
  ·have e:m / 10=0:=by omega
   obtain ⟨n,rfl⟩:∃q,n=q+1:=⟨n - 1,by omega⟩
   rw [e,show ((0:Nat):Int)=0 from rfl,o8 x (by simp) (by simp;omega)]
   unfold kE
   rw [if_pos h,show m % 10=m by omega]
  ·rw [qu k x f (m / 10) _ n (by omega) (by rw [Nat.pow_succ] at h1;omega) (by omega) (by omega) (by simp;omega)]
   conv=>rhs;unfold kE
   rw [if_neg h,List.append_assoc]
theorem qY {k:Nat}(hk:100≤k)(x:Int){m:Nat}(hm:m≤18446744073709551615):ar.j4 aV k x (m:Int)=some (sW x (kE 20 m)):=by
 rw [ar.j4_eq]
 by_cases h:0<m
 ·rw [qu k x 20 m [] k h (by omega) hm (by omega) (by simp),List.append_nil]
 ·obtain rfl:m=0:=by omega
  obtain ⟨q,rfl⟩:∃q,k=q+2:=⟨k - 2,by omega⟩
  rw [show ((0:Nat):Int)=0 from rfl]
  conv=>lhs;rw [ar.l0_eq]
  rw [dF (by omega),Bool.not_false,cT,show ((([]:List Int).length:Int)==0)=true from rfl,cT,dT (by simp),cT]
  have e:IntKind.u64.wrap (Int.tdiv 0 10)=0:=by decide
  have e2:IntKind.u8.wrap (IntKind.u64.wrap (48+(Int.tmod 0 10)))=48:=by decide
  rw [e,e2,o8 x (by simp) (by simp)]
  rfl
def dw (x:Int):List UInt8:=if x<0 then 45 :: og x.natAbs else og x.toNat
theorem oe (x:Int):(dw x).length≤21:=by
 unfold dw
 split
 ·have:=qn x.natAbs;simp;omega
 ·have:=qn x.toNat;omega
theorem wP {k:Nat}(hk:101≤k){x:Int}(h0:-9223372036854775808≤x)(h1:x≤9223372036854775807):ar.f aV k x=some (dw x):=by
 obtain ⟨k,rfl⟩:∃m,k=m+1:=⟨k - 1,by omega⟩
 rw [ar.f_eq]
 unfold dw
 by_cases h:x<0
 ·rw [dT h,cT,if_pos h]
  have e1:IntKind.u64.wrap ((IntKind.u64.wrap (IntKind.i64.wrap (0 - (IntKind.i64.wrap (x+1)))))+1)=((x.natAbs:Nat):Int):=by
   rw [bR (x+1) (by omega),bR (0 - (x+1)) (by omega),uw (0 - (x+1)) (by omega),uw _ (by omega)];omega
  rw [Bt,e1,qY (by omega) x (by omega)]
  unfold sW og
  rw [if_pos h]
  rfl
 ·rw [dF h,cF,if_neg h]
  have e1:IntKind.u64.wrap x=((x.toNat:Nat):Int):=by rw [uw _ (by omega)];omega
  rw [Bt,e1,qY (by omega) x (by omega)]
  unfold sW og
  rw [if_neg h]
theorem yS {m:Nat}:IntKind.u8.wrap (IntKind.i64.wrap (48 - (Int.tmod (-(m:Int)) 10)))=48+((m % 10:Nat):Int):=by
 have e:Int.tmod (-(m:Int)) 10=-(((m % 10:Nat):Int)):=by
  rw [Int.neg_tmod,Int.tmod_eq_emod_of_nonneg (by omega)];omega
 rw [e,bR _ (by omega),D2];omega
theorem BY {m:Nat}(h:m≤9223372036854775808):IntKind.i64.wrap (Int.tdiv (-(m:Int)) 10)=-((m / 10:Nat):Int):=by
 rw [Int.neg_tdiv,Int.tdiv_eq_ediv_of_nonneg (by omega),bR _ (by omega)];omega
theorem tc (k:Nat):∀(f m:Nat) (s:List UInt8) (n:Nat),0<m→m<10 ^ f→m≤9223372036854775808→f+1≤n→s.length+f≤900→aH.l0 aV k n (-(m:Int)) s=some (45 :: (aD (kE f m)++s))
 |0,m,_,_,h0,h1,_,_,_=>by simp at h1;omega
 |f+1,m,s,n,h0,h1,h2,h3,h4=>by
  obtain ⟨n,rfl⟩:∃q,n=q+1:=⟨n - 1,by omega⟩
  rw [aH.l0_eq,dT (show -(m:Int)<0 by omega),cT,yS,BY h2,dT (by simp [aD];omega),cT]
  by_cases h:m<10
  ·have e:m / 10=0:=by omega
   obtain ⟨n,rfl⟩:∃q,n=q+1:=⟨n - 1,by omega⟩
   rw [e,show -((0:Nat):Int)=0 from rfl,aH.l0_eq,dF (by omega),cF,dT (by simp [aD];omega),cT]
   unfold kE
   rw [if_pos h,show m % 10=m by omega]
   rfl
  ·rw [tc k f (m / 10) _ n (by omega) (by rw [Nat.pow_succ] at h1;omega) (by omega) (by omega) (by simp [aD];omega)]
   conv=>rhs;unfold kE
   rw [if_neg h,iW,List.append_assoc]
theorem oI {k:Nat}(hk:110≤k){x:Int}(h0:-9223372036854775808≤x)(h1:x≤9223372036854775807):aH.f aV k x=some (dw x):=by
 obtain ⟨k,rfl⟩:∃m,k=m+1:=⟨k - 1,by omega⟩
 rw [aH.f_eq]
 by_cases h:0≤x
 ·rw [dT h,cT,wP (by omega) h0 h1,bS]
 ·rw [dF h,cF]
  have e:x=-((x.natAbs:Nat):Int):=by omega
  have:=tc k 20 x.natAbs [] k (by omega) (by omega) (by omega) (by omega) (by simp)
  rw [←e] at this
  rw [this]
  unfold dw og
  rw [if_pos (by omega),List.append_nil]
def eI (x:Int):List UInt8:=[105]++dw x++[59]
def ku (b:Bool):List UInt8:=if b then [116] else [102]
def dd (s:List UInt8):List UInt8:=[115]++og s.length++[58]++s
def eo (vs:List (List UInt8)):List UInt8:=[91]++vs.flatten++[93]
def bH (vs:List (List UInt8)):List UInt8:=[123]++vs.flatten++[125]
theorem zF {k:Nat}(hk:111≤k){x:Int}(h0:-9223372036854775808≤x)(h1:x≤9223372036854775807):dB.f aV k x=some (eI x):=by
 obtain ⟨k,rfl⟩:∃m,k=m+1:=⟨k - 1,by omega⟩
 have hl:=oe x
 rw [dB.f_eq,oI (by omega) h0 h1,bS,dT (by simp;omega),cT,dT (by simp;omega),cT]
 rfl
theorem Bo {k:Nat}{vs:List (List UInt8)}(hk:vs.length+3≤k)(hs:vs.flatten.length≤9223372036854775807)(hl:vs.length≤4611686018427387904):a6.f aV k vs=some vs.flatten:=by
 obtain ⟨k,rfl⟩:∃m,k=m+1:=⟨k - 1,by omega⟩
 rw [a6.f_eq]
 have key:=ck (F:=fun n i=>a6.l0 aV k n vs (vs.take i).flatten (i:Int)) (N:=vs.length) (r:=some vs.flatten) ?_ ?_ k 0 (by omega) (by omega)
 ·exact key
 ·intro n i hi
  have e:(vs.take (i+1)).flatten=(vs.take i).flatten++vs[i]:=by rw [List.take_succ_eq_append_getElem hi,List.flatten_append,List.flatten_cons,List.flatten_nil,List.append_nil]
  have hlen:(vs.take (i+1)).flatten.length≤vs.flatten.length:=by
   have:vs.flatten=(vs.take (i+1)).flatten++(vs.drop (i+1)).flatten:=by rw [←List.flatten_append,List.take_append_drop]
   rw [this,List.length_append];omega
  rw [e,List.length_append] at hlen
  rw [a6.l0_eq,dT (by omega),cT,aE hi,bS,dT (by omega),cT,bM (by omega),e]
 ·intro n
  rw [a6.l0_eq,dF (by omega),cF,List.take_of_length_le (Nat.le_refl _)]
theorem zc {k:Nat}{vs:List (List UInt8)}(hk:vs.length+4≤k)(hs:vs.flatten.length≤9223372036854775000)(hl:vs.length≤4611686018427387904):dn.f aV k vs=some (bH vs):=by
 obtain ⟨k,rfl⟩:∃m,k=m+1:=⟨k - 1,by omega⟩
 rw [dn.f_eq,Bo (by omega) (by omega) hl,bS,dT (by simp only [List.length_cons,List.length_nil];omega),cT,dT (by simp only [List.length_append,List.length_cons,List.length_nil];omega),cT]
 rfl
def iR (s:List UInt8)(row:Nat):Nat→Nat→Nat
 |0,i=>i
 |f+1,i=>if eN s i≤(row:Int) then iR s row f (i+1) else i
def pL (s:List UInt8)(row:Nat):Nat:=iR s row 65 0
def cJ:Nat→List aI→Int→aO→Nat→List UInt8
 |0,_,_,_,_=>[]
 |f+1,t,a,x,row=>
  if eu x.valid row=false then [110]
  else if x.layout=1 then cJ f t a (az x 0) ((az x 0).offset+eN x.data row).toNat
  else if x.layout=2 then cJ f t a (az x 0) ((az x 0).offset.toNat+pL x.data row)
  else if bK t a.toNat=0 then eI (fp ((x.data.take (8*row+8)).drop (8*row)))
  else if bK t a.toNat=1 then ku (CL x.data row)
  else if bK t a.toNat=2 then dd ((x.data.take (eN x.ends (row+1)).toNat).drop (eN x.ends row).toNat)
  else if bK t a.toNat=3 then eo ((List.range' (eN x.ends row).toNat ((eN x.ends (row+1)).toNat - (eN x.ends row).toNat)).map fun j=>cJ f t (c9 t a 0) (az x 0) ((az x 0).offset.toNat+j))
  else bH ((List.range (ag t a).length).map fun j=>cJ f t (c9 t a j) (az x j) ((az x j).offset.toNat+row))
structure fk (t:List aI)(i:Nat)(x:aO):Prop where
 kids:x.kids.length=(ag t (i:Int)).length
 may:∀j,j<x.kids.length→ef t (c9 t (i:Int) j) (az x j)=true
 kind:hY t i x=true
structure One (t:List aI)(i:Nat)(x:aO):Prop where
 leaf:cS (bK t i)=false
 ends:x.ends=[]
 kids:x.kids.length=1
 flat:(az x 0).layout=0
 may:ef t (i:Int) (az x 0)=true
theorem jX {t:List aI}{i:Nat}{x:aO}(h:ef t (i:Int) x=true)(hl:x.layout=0):fk t i x:=by
 rw [nR,if_pos hl] at h
 simp only [Bool.and_eq_true,decide_eq_true_eq,bA,Int.toNat_natCast] at h
 exact ⟨h.2.2.1,h.2.2.2.1,h.2.2.2.2⟩
theorem kZ {t:List aI}{i:Nat}{x:aO}(h:ef t (i:Int) x=true)(hl:x.layout≠0):One t i x∧((x.layout=1∧pB x (az x 0)=true)∨(x.layout=2∧vg x (az x 0)=true)):=by
 rw [nR,if_neg hl] at h
 simp only [Bool.and_eq_true,decide_eq_true_eq,Int.toNat_natCast,Bool.not_eq_true',beq_iff_eq] at h
 obtain ⟨_,_,h1,h2,h3,h4,h5,h6⟩:=h
 refine ⟨⟨h1,h2,h3,h4,h5⟩,?_⟩
 split at h6
 ·rename_i hl;exact .inl ⟨hl,h6⟩
 ·split at h6
  ·rename_i hl;exact .inr ⟨hl,h6⟩
  ·cases h6
theorem fu {t:List aI}{a:Int}{x:aO}(h:ef t a x=true):0≤x.offset∧0≤x.length∧x.offset+x.length≤64:=by
 obtain ⟨_,hb⟩:=g9 h
 exact ⟨hb.off,hb.len,hb.rows⟩
theorem iz {s:List UInt8}{rows:Nat}{m f p:Int}(h:pW s rows m f p=true){i:Nat}(hi:i<rows):
  sw s i=true∧sw s (i+1)=true∧0≤eN s i∧eN s i≤eN s (i+1)∧eN s (i+1)≤m∧(f≤(i:Int)→eN s (i+1) - eN s i≤p):=by
 unfold pW at h
 rw [bA] at h
 have h0:=h i (by omega)
 have h1:=h (i+1) (by omega)
 unfold nI at h0 h1
 simp only [Bool.and_eq_true,Bool.or_eq_true,decide_eq_true_eq,Nat.add_sub_cancel] at h0 h1
 have g:=nY h0.1
 rcases h1.2.2 with e|⟨e1,e2⟩
 ·omega
 ·exact ⟨h0.1,h1.1,g.1,e1,h1.2.1,fun hf=>by rcases e2 with e2|e2<;>omega⟩
theorem ke {s:List UInt8}{row m:Nat}(hm:(row:Int)<eN s m):∀f i,i≤m→m<i+f→iR s row f i≤m∧i≤iR s row f i∧(row:Int)<eN s (iR s row f i)
 |0,i,h1,h2=>by omega
 |f+1,i,h1,h2=>by
  unfold iR
  split
  ·rename_i h
   have hne:i≠m:=fun e=>by subst e;omega
   have:=ke hm f (i+1) (by omega) (by omega)
   exact ⟨this.1,by omega,this.2.2⟩
  ·exact ⟨h1,Nat.le_refl _,by omega⟩
theorem xZ {x kid:aO}(h:vg x kid=true)(hl:0≤kid.length∧kid.length≤64){row:Nat}(hr:(row:Int)<x.offset+x.length):
  ∃m:Nat,(m:Int)+1=kid.length∧(row:Int)<eN x.data m∧(∀i,i≤m→sw x.data i=true)∧x.data.length=4*(m+1)∧x.valid=[]:=by
 unfold vg at h
 simp only [Bool.and_eq_true,decide_eq_true_eq,bA,beq_iff_eq] at h
 obtain ⟨h0,h1,h2,h3⟩:=h
 have hpos:kid.length.toNat≠0:=by
  intro e
  rw [e] at h3
  have:fU x.data 0=0:=rfl
  omega
 refine ⟨kid.length.toNat - 1,by omega,?_,fun i hi=>(h2 i (by omega)).1,by omega,h0⟩
 unfold fU at h3
 rw [if_neg hpos] at h3
 omega
theorem uJ {x kid:aO}(h:pB x kid=true){row:Nat}(h0:x.offset≤(row:Int))(hr:row<cB x)(hth:eu x.valid row=true):sw x.data row=true∧0≤eN x.data row∧eN x.data row<kid.length∧kid.valid=[]:=by
 unfold pB at h
 simp only [Bool.and_eq_true,decide_eq_true_eq,bA,beq_iff_eq] at h
 have:=h.2.2 row hr
 simp only [Bool.or_eq_true,decide_eq_true_eq,Bool.and_eq_true,Bool.not_eq_true'] at this
 rcases this with e|e|⟨e1,e2⟩
 ·omega
 ·rw [hth] at e;cases e
 ·exact ⟨e1,(nY e1).1,e2,h.1⟩
theorem vd {α:Type}{B:Nat}:∀(l:List α) (f:α→List UInt8),(∀y∈l,(f y).length≤B)→(l.map f).flatten.length≤l.length*B
 |[],_,_=>by simp
 |y :: l,f,h=>by
  have h1:=h y List.mem_cons_self
  have h2:=vd l f fun z hz=>h z (List.mem_cons_of_mem _ hz)
  rw [List.map_cons,List.flatten_cons,List.length_append,List.length_cons,Nat.add_mul]
  omega
theorem lE {α:Type}{l:List α}{y:α}(h:l.length≤1000):decide ((l.length+[y].length)*16≤140737488355328)=true:=dT (by simp only [List.length_cons,List.length_nil];omega)
def kO (t:List aI)(a:Int)(x:aO):List (List UInt8):=(List.range x.length.toNat).map fun i=>cJ 20 t a x (x.offset.toNat+i)
def Br (t:List aI)(a:Int)(x:aO):List (List UInt8)×Int:=if ef t a x then (kO t a x,0) else ([],900)
def T (g:Nat→Nat)(p c:Nat):Nat:=((List.range' p c).map g).sum
theorem pt (g:Nat→Nat)(p:Nat):T g p 0=0:=rfl
theorem eW (g:Nat→Nat)(p c:Nat):T g p (c+1)=g p+T g (p+1) c:=by
 unfold T;rw [List.range'_succ,List.map_cons,List.sum_cons]
theorem nh (g:Nat→Nat):∀(c p d:Nat),T g p (c+d)=T g p c+T g (p+c) d
 |0,p,d=>by rw [Nat.zero_add,pt,Nat.add_zero p];omega
 |c+1,p,d=>by
  rw [show c+1+d=(c+d)+1 by omega,eW,eW,nh g c (p+1) d,show p+1+c=p+(c+1) by omega];omega
theorem xl {g h:Nat→Nat}:∀(c p:Nat),(∀j,p≤j→j<p+c→g j≤h j)→T g p c≤T h p c
 |0,_,_=>Nat.le_refl _
 |c+1,p,H=>by
  have h1:=H p (Nat.le_refl _) (by omega)
  have h2:=xl c (p+1) fun j a b=>H j (by omega) (by omega)
  rw [eW,eW];omega
theorem u6 (g h:Nat→Nat):∀(c p:Nat),T (fun j=>g j+h j) p c=T g p c+T h p c
 |0,_=>rfl
 |c+1,p=>by rw [eW,eW,eW,u6 g h c (p+1)];omega
theorem lQ (B:Nat):∀(c p:Nat),T (fun _=>B) p c=c*B
 |0,_=>by rw [pt,Nat.zero_mul]
 |c+1,p=>by rw [eW,lQ B c (p+1),Nat.add_mul];omega
theorem Fb {g:Nat→Nat}(c p:Nat)(h:∀j,p≤j→j<p+c→g j=0):T g p c=0:=by
 have:=xl (g:=g) (h:=fun _=>0) c p fun j a b=>by rw [h j a b];exact Nat.le_refl _
 rw [lQ] at this;omega
theorem BU {g h:Nat→Nat}(c p:Nat)(H:∀j,p≤j→j<p+c→g j=h j):T g p c=T h p c:=
 Nat.le_antisymm (xl c p fun j a b=>Nat.le_of_eq (H j a b)) (xl c p fun j a b=>Nat.le_of_eq (H j a b).symm)
theorem vP (g:Nat→Nat)(e:Nat→Nat):∀(c p:Nat),(∀j,p≤j→j<p+c→e j≤e (j+1))→T (fun j=>T g (e j) (e (j+1) - e j)) p c=T g (e p) (e (p+c) - e p)∧e p≤e (p+c)
 |0,p,_=>by simp [pt]
 |c+1,p,H=>by
  obtain ⟨h1,h2⟩:=vP g e c (p+1) fun j a b=>H j (by omega) (by omega)
  have h3:=H p (Nat.le_refl _) (by omega)
  rw [show p+1+c=p+(c+1) by omega] at h1 h2
  refine ⟨?_,by omega⟩
  rw [eW,h1,show e (p+(c+1)) - e p=(e (p+1) - e p)+(e (p+(c+1)) - e (p+1)) by omega,nh,show e p+(e (p+1) - e p)=e (p+1) by omega]
theorem DN {α:Type}(g:α→Nat→Nat)(p c:Nat):∀l:List α,T (fun j=>(l.map fun x=>g x j).sum) p c=(l.map fun x=>T (g x) p c).sum
 |[]=>by simp [lQ]
 |x :: l=>by
  have:=DN g p c l
  simp only [List.map_cons,List.sum_cons]
  rw [u6,this]
theorem uk {α:Type}{g h:α→Nat}:∀(l:List α),(∀x∈l,g x≤h x)→(l.map g).sum≤(l.map h).sum
 |[],_=>Nat.le_refl _
 |x :: l,H=>by
  have h1:=H x List.mem_cons_self
  have h2:=uk l fun y hy=>H y (List.mem_cons_of_mem _ hy)
  simp only [List.map_cons,List.sum_cons];omega
theorem tV {α:Type}(g:α→Nat)(B:Nat):∀(l:List α),(l.map fun x=>B*g x).sum=B*(l.map g).sum
 |[]=>by simp
 |x :: l=>by simp only [List.map_cons,List.sum_cons,tV g B l,Nat.mul_add]
def wt (t:List aI):Nat→Int→Nat
 |0,_=>1
 |f+1,a=>1+((ag t a).map (wt t f)).sum
theorem xO (t:List aI):∀(f:Nat) (a:Int),wt t f a≤wt t (f+1) a
 |0,a=>by simp only [wt];omega
 |f+1,a=>by
  have:=uk (g:=wt t f) (h:=wt t (f+1)) (ag t a) fun b _=>xO t f b
  show 1+((ag t a).map (wt t f)).sum≤1+((ag t a).map (wt t (f+1))).sum
  omega
theorem vI (t:List aI)(a:Int)(g:Int→Nat):∀i,((gu t a i).map g).sum=T (fun j=>if 0<j∧cH t j=a then g (j:Int) else 0) 0 i
 |0=>by simp [gu,pt]
 |i+1=>by
  have ih:=vI t a g i
  rw [hH,nh _ i 0 1,←ih,eW,pt,Nat.zero_add]
  split
  ·rw [List.map_append,List.sum_append];simp
  ·simp
def xU (t:List aI)(f m:Nat):Nat:=T (fun b=>if cH t b<(m:Int) then wt t f (b:Int) else 0) m (t.length - m)
theorem vN {t:List aI}(hm:gQ t=true)(f:Nat):∀(d m:Nat),m+d=t.length→xU t f m≤d
 |0,m,h=>by unfold xU;rw [show t.length - m=0 by omega,pt];exact Nat.le_refl _
 |d+1,m,h=>by
  have ih:=vN hm f d (m+1) (by omega)
  have hs:=fm hm
  unfold xU at ih ⊢
  rw [show t.length - m=d+1 by omega,eW]
  rw [show t.length - (m+1)=d by omega] at ih
  have split_:T (fun b=>if cH t b<((m+1:Nat):Int) then wt t f (b:Int) else 0) (m+1) d=T (fun b=>if cH t b<(m:Int) then wt t f (b:Int) else 0) (m+1) d+T (fun b=>if 0<b∧cH t b=(m:Int) then wt t f (b:Int) else 0) (m+1) d:=by
   rw [←u6]
   refine BU _ _ fun j hj _=>?_
   by_cases h1:cH t j<(m:Int)
   ·rw [if_pos (by omega),if_pos h1,if_neg (by omega)];omega
   ·rw [if_neg h1]
    by_cases h2:cH t j=(m:Int)
    ·rw [if_pos (by omega),if_pos ⟨by omega,h2⟩];omega
    ·rw [if_neg (by omega),if_neg (by omega)]
  rw [split_] at ih
  have kids:((ag t (m:Int)).map (wt t f)).sum=T (fun b=>if 0<b∧cH t b=(m:Int) then wt t f (b:Int) else 0) (m+1) d:=by
   have e:=vI t (m:Int) (wt t f) t.length
   unfold ag
   rw [e,show t.length=(m+1)+d by omega,nh,Fb (m+1) 0 (fun j _ hj=>?_),Nat.zero_add,Nat.zero_add]
   rw [if_neg]
   rintro ⟨h1,h2⟩
   have:=(hs.up (i:=j) (by omega))
   omega
  have hw:wt t f (m:Int)≤1+((ag t (m:Int)).map (wt t f)).sum:=xO t f (m:Int)
  have:(if cH t m<(m:Int) then wt t f (m:Int) else 0)≤wt t f (m:Int):=by split<;>omega
  omega
theorem Bi {t:List aI}(hm:gQ t=true)(f:Nat){i:Nat}(hi:i<t.length):wt t f (i:Int)≤8:=by
 have h:=vN hm f (t.length - i) i (by omega)
 have htl:=cw hm
 unfold xU at h
 obtain ⟨d,hd⟩:∃d,t.length - i=d+1:=⟨t.length - i - 1,by omega⟩
 rw [hd,eW] at h
 have hp:cH t i<(i:Int):=((fm hm).up hi).1
 rw [if_pos hp] at h
 omega
theorem qk (g:Nat→Nat)(o:Nat):∀(c p:Nat),T (fun j=>g (o+j)) p c=T g (o+p) c
 |0,_=>rfl
 |c+1,p=>by rw [eW,eW,qk g o c (p+1),show o+(p+1)=o+p+1 by omega]
theorem B8 {t:List aI}{i:Nat}{x:aO}(hb:ef t (i:Int) x=true)(h1:x.layout≠1)(h2:x.layout≠2):x.layout=0:=by
 by_cases e:x.layout=0
 ·exact e
 ·obtain ⟨_,hd⟩:=kZ hb e
  rcases hd with ⟨e,_⟩|⟨e,_⟩
  ·exact absurd e h1
  ·exact absurd e h2
theorem ff {α:Type}(g:α→List UInt8):∀l:List α,(l.map g).flatten.length=(l.map fun x=>(g x).length).sum
 |[]=>rfl
 |x :: l=>by simp only [List.map_cons,List.flatten_cons,List.length_append,List.sum_cons,ff g l]
theorem qG {h:Int→Nat}(l:List Int):((List.range l.length).map fun j=>h (l.getD j 0))=l.map h:=by
 refine List.ext_getElem (by simp) fun i h1 h2=>?_
 simp only [List.length_map,List.length_range] at h1
 simp [h1]
theorem jq (f:Nat)(t:List aI)(a:Int)(x:aO)(row:Nat):cJ (f+1) t a x row=
  if eu x.valid row=false then [110]
  else if x.layout=1 then cJ f t a (az x 0) ((az x 0).offset+eN x.data row).toNat
  else if x.layout=2 then cJ f t a (az x 0) ((az x 0).offset.toNat+pL x.data row)
  else if bK t a.toNat=0 then eI (fp ((x.data.take (8*row+8)).drop (8*row)))
  else if bK t a.toNat=1 then ku (CL x.data row)
  else if bK t a.toNat=2 then dd ((x.data.take (eN x.ends (row+1)).toNat).drop (eN x.ends row).toNat)
  else if bK t a.toNat=3 then eo ((List.range' (eN x.ends row).toNat ((eN x.ends (row+1)).toNat - (eN x.ends row).toNat)).map fun j=>cJ f t (c9 t a 0) (az x 0) ((az x 0).offset.toNat+j))
  else bH ((List.range (ag t a).length).map fun j=>cJ f t (c9 t a j) (az x j) ((az x j).offset.toNat+row)):=rfl
theorem qW {t:List aI}{i:Nat}{x:aO}(hb:ef t (i:Int) x=true)(hl:x.layout=0)(hi:cS (bK t i)=false)(f:Nat){row:Nat}(h0:x.offset≤(row:Int))(hr:row<cB x):(cJ f t (i:Int) x row).length≤40:=by
 have hP:=jX hb hl
 cases f with
 |zero=>simp [cJ]
 |succ f=>
 unfold cJ
 split
 ·simp
 rw [if_neg (by omega),if_neg (by omega),Int.toNat_natCast]
 split
 ·have:=oe (fp ((x.data.take (8*row+8)).drop (8*row)))
  unfold eI;simp only [List.length_append,List.length_cons,List.length_nil];omega
 rename_i h0'
 split
 ·unfold ku;split<;>(simp only [List.length_cons,List.length_nil];omega)
 rename_i h1'
 split
 ·rename_i h2'
  have hkd:=hP.kind
  unfold hY at hkd
  rw [if_neg (by omega),if_neg (by omega),if_pos h2'] at hkd
  have h16:=(iz hkd hr).2.2.2.2.2 h0
  unfold dd
  have hd:=qn (List.drop (eN x.ends row).toNat (List.take (eN x.ends (row+1)).toNat x.data)).length
  have hdl:(List.drop (eN x.ends row).toNat (List.take (eN x.ends (row+1)).toNat x.data)).length≤16:=by rw [List.length_drop,List.length_take];omega
  simp only [List.length_append,List.length_cons,List.length_nil];omega
 rename_i h2'
 obtain ⟨hn,_⟩:=g9 hb
 obtain ⟨hm,i',hi',e⟩:=bC hn
 have hii:i=i':=by omega
 subst hii
 have hk:=((cZ t).1 hm).2.1 i hi'
 have hkb:=hk.1
 unfold gI at hkb
 simp only [Bool.and_eq_true,decide_eq_true_eq] at hkb
 unfold cS at hi
 simp only [Bool.or_eq_false_iff,beq_eq_false_iff_ne] at hi
 omega
theorem Ap (t:List aI)(f:Nat)(a:Int):1≤wt t f a:=by
 cases f with
 |zero=>exact Nat.le_refl _
 |succ f=>simp only [wt];omega
theorem rR:∀(f:Nat) (t:List aI) (a:Int) (x:aO),je t a x<f→ef t a x=true→∀p c:Nat,x.offset≤(p:Int)→p+c≤cB x→T (fun j=>(cJ f t a x j).length) p c≤2560*wt t f a
 |0,_,_,_,h,_,_,_,_,_=>absurd h (Nat.not_lt_zero _)
 |f+1,t,a,x,hf,hb,p,c,hp,hc=>by
  obtain ⟨hn,hB⟩:=g9 hb
  obtain ⟨hm,i,hi,rfl⟩:=bC hn
  have hrl:=hB.rowsN_le
  have hw:=Ap t (f+1) ((i:Nat):Int)
  -- where each row is short
  have short:(∀row,p≤row→row<p+c→(cJ (f+1) t (i:Int) x row).length≤40)→T (fun j=>(cJ (f+1) t (i:Int) x j).length) p c≤2560*wt t (f+1) (i:Int):=by
   intro H
   have:=xl (h:=fun _=>40) c p H
   rw [lQ] at this
   omega
  by_cases hl0:x.layout=0
  ·by_cases hin:cS (bK t i)=false
   ·exact short fun row h1 h2=>qW hb hl0 hin (f+1) (by omega) (by omega)
   ·have hin':bK t i=3∨bK t i=4:=by
     unfold cS at hin
     simp only [Bool.not_eq_false,Bool.or_eq_true,beq_iff_eq] at hin
     exact hin
    have hP:=jX hb hl0
    have hkd:=hP.kind
    unfold hY at hkd
    by_cases k3:bK t i=3
    ·rw [if_neg (by omega),if_neg (by omega),if_neg (by omega),if_pos k3] at hkd
     simp only [Bool.and_eq_true] at hkd
     have h1:(ag t (i:Int)).length=1:=by
      have:=(((cZ t).1 hm).2.2 i hi).1
      unfold iQ at this
      rw [k3] at this
      simpa using this
     have hk0:0<x.kids.length:=by rw [hP.kids];omega
     have hmk:=hP.may 0 hk0
     have hkl:=fu hmk
     have hnk:=jv hm (x:=x) (az x 0) (i:=i) (j:=0) (by omega)
     have hwk:wt t (f+1) (i:Int)=1+wt t f (c9 t (i:Int) 0):=by
      show 1+((ag t (i:Int)).map (wt t f)).sum=_
      obtain ⟨b,hb⟩:=List.length_eq_one_iff.1 h1
      unfold c9
      rw [hb];simp
     rcases Nat.eq_zero_or_pos c with rfl|hcp
     ·rw [pt];omega
     let e:Nat→Nat:=fun j=>(az x 0).offset.toNat+(eN x.ends j).toNat
     have hmono:∀j,p≤j→j<p+c→e j≤e (j+1):=by
      intro j h1 h2
      have:=iz hkd.2 (i:=j) (by omega)
      show _+_≤_+_
      omega
     have each:=xl (g:=fun j=>(cJ (f+1) t (i:Int) x j).length) (h:=fun j=>2+T (fun r=>(cJ f t (c9 t (i:Int) 0) (az x 0) r).length) (e j) (e (j+1) - e j)) c p (by
      intro row h1 h2
      have he:=iz hkd.2 (i:=row) (by omega)
      show (cJ (f+1) t (i:Int) x row).length≤_
      rw [jq]
      split
      ·simp only [List.length_cons,List.length_nil];omega
      rw [if_neg (by omega),if_neg (by omega),Int.toNat_natCast,if_neg (by omega),if_neg (by omega),if_neg (by omega),if_pos k3]
      unfold eo
      simp only [List.length_append,List.length_cons,List.length_nil]
      rw [ff]
      have hh:((List.range' (eN x.ends row).toNat ((eN x.ends (row+1)).toNat - (eN x.ends row).toNat)).map fun j=>(cJ f t (c9 t (i:Int) 0) (az x 0) ((az x 0).offset.toNat+j)).length).sum
       =T (fun r=>(cJ f t (c9 t (i:Int) 0) (az x 0) r).length) (e row) (e (row+1) - e row):=by
       rw [show e (row+1) - e row=(eN x.ends (row+1)).toNat - (eN x.ends row).toNat by show _+_ - (_+_)=_;omega]
       exact qk (fun r=>(cJ f t (c9 t (i:Int) 0) (az x 0) r).length) (az x 0).offset.toNat _ _
      omega)
     rw [u6 (fun _=>2),lQ] at each
     obtain ⟨r1,r2⟩:=vP (fun r=>(cJ f t (c9 t (i:Int) 0) (az x 0) r).length) e c p hmono
     rw [r1] at each
     have hlast:=iz hkd.2 (i:=p+c - 1) (by omega)
     rw [show p+c - 1+1=p+c by omega] at hlast
     have hfirst:=iz hkd.2 (i:=p) (by omega)
     have ih:=rR f t (c9 t (i:Int) 0) (az x 0) (by omega) hmk (e p) (e (p+c) - e p) (by show (_:Int)≤((_+_:Nat):Int);omega) (by
      unfold cB
      have:e (p+c)=(az x 0).offset.toNat+(eN x.ends (p+c)).toNat:=rfl
      omega)
     rw [hwk]
     omega
    ·rw [if_neg (by omega),if_neg (by omega),if_neg (by omega),if_neg k3] at hkd
     simp only [Bool.and_eq_true,Bool.not_eq_true',List.any_eq_false,decide_eq_true_eq] at hkd
     have hwk:wt t (f+1) (i:Int)=1+((List.range (ag t (i:Int)).length).map fun j=>wt t f (c9 t (i:Int) j)).sum:=by
      show 1+((ag t (i:Int)).map (wt t f)).sum=_
      rw [←qG (h:=wt t f)]
      rfl
     have each:=xl (g:=fun j=>(cJ (f+1) t (i:Int) x j).length) (h:=fun row=>2+((List.range (ag t (i:Int)).length).map fun j=>(cJ f t (c9 t (i:Int) j) (az x j) ((az x j).offset.toNat+row)).length).sum) c p (by
      intro row h1 h2
      show (cJ (f+1) t (i:Int) x row).length≤_
      rw [jq]
      split
      ·simp only [List.length_cons,List.length_nil];omega
      rw [if_neg (by omega),if_neg (by omega),Int.toNat_natCast,if_neg (by omega),if_neg (by omega),if_neg (by omega),if_neg k3]
      unfold bH
      simp only [List.length_append,List.length_cons,List.length_nil]
      rw [ff]
      omega)
     rw [u6 (fun _=>2),lQ,DN (fun j row=>(cJ f t (c9 t (i:Int) j) (az x j) ((az x j).offset.toNat+row)).length)] at each
     have kids:=uk (g:=fun j=>T (fun row=>(cJ f t (c9 t (i:Int) j) (az x j) ((az x j).offset.toNat+row)).length) p c) (h:=fun j=>2560*wt t f (c9 t (i:Int) j)) (List.range (ag t (i:Int)).length) (by
      intro j hj
      have hj:=List.mem_range.1 hj
      have hj':j<x.kids.length:=by rw [hP.kids];exact hj
      have hmk:=hP.may j hj'
      have hkl:=fu hmk
      have hnk:=jv hm (x:=x) (az x j) hj
      have hlong:=hkd.2.2 _ (nL hj')
      show T _ p c≤_
      rw [qk (fun r=>(cJ f t (c9 t (i:Int) j) (az x j) r).length)]
      exact rR f t (c9 t (i:Int) j) (az x j) (by omega) hmk _ c (by omega) (by unfold cB at hc ⊢;omega))
     rw [tV] at kids
     rw [hwk]
     omega
  ·obtain ⟨hO,hd⟩:=kZ hb hl0
   have hkl:=fu hO.may
   refine short fun row h1 h2=>?_
   unfold cJ
   split
   ·simp
   rename_i hth
   have hth':eu x.valid row=true:=by simpa using hth
   rcases hd with ⟨e,hd⟩|⟨e,hd⟩
   ·rw [if_pos e]
    obtain ⟨d1,d2,d3,d4⟩:=uJ hd (row:=row) (by omega) (by omega) hth'
    exact qW hO.may hO.flat hO.leaf f (by omega) (by unfold cB;omega)
   ·rw [if_neg (by omega),if_pos e]
    have hrw:=hB.rowsEq
    obtain ⟨m,m1,m2,m3,m4,m5⟩:=xZ hd (by omega) (row:=row) (by omega)
    have hx:=ke m2 65 0 (by omega) (by omega)
    have hix:pL x.data row≤m:=hx.1
    exact qW hO.may hO.flat hO.leaf f (by omega) (by unfold cB;omega)
theorem qK {f:Nat}{t:List aI}{a:Int}{x:aO}(hf:je t a x<f)(hb:ef t a x=true){p c:Nat}(hp:x.offset≤(p:Int))(hc:p+c≤cB x):T (fun j=>(cJ f t a x j).length) p c≤20480:=by
 have h:=rR f t a x hf hb p c hp hc
 obtain ⟨hn,_⟩:=g9 hb
 obtain ⟨hm,i,hi,rfl⟩:=bC hn
 have:=Bi hm f hi
 omega
theorem zK {f:Nat}{t:List aI}{a:Int}{x:aO}(hf:je t a x<f)(hb:ef t a x=true){row:Nat}(hp:x.offset≤(row:Int))(hc:row<cB x):(cJ f t a x row).length≤20480:=by
 have h:=qK hf hb (p:=row) (c:=1) hp hc
 rw [eW,pt] at h
 exact h
theorem wG:∀(f n:Nat),n<10 ^ f→0<f→aD (kE f n)=Lib.decDigits n
 |0,_,_,h=>by omega
 |f+1,n,hf,_=>by
  rw [Lib.decDigits]
  unfold kE
  by_cases h:n<10
  ·rw [if_pos h,dif_pos h]
   unfold aD
   simp only [List.map_cons,List.map_nil,List.cons.injEq,and_true]
   congr 1
  ·rw [if_neg h,dif_neg h]
   have f0:0<f:=by
    rcases Nat.eq_zero_or_pos f with e|e
    ·subst e;omega
    ·exact e
   rw [iW,wG f (n / 10) (by rw [Nat.pow_succ] at hf;omega) f0]
   congr 1
theorem BS {x:Int}(h0:-9223372036854775808≤x)(h1:x≤9223372036854775807):Lib.itoa x=dw x:=by
 unfold Lib.itoa dw og
 have e:(10:Nat) ^ 20=100000000000000000000:=by decide
 split
 ·rw [wG 20 _ (by omega) (by omega)]
 ·rw [wG 20 _ (by omega) (by omega)]
theorem yh {k:Nat}(hk:1≤k){x:Int}(h0:-9223372036854775808≤x)(h1:x≤9223372036854775807):strconv_Itoa.f aV k x=some (dw x):=by
 obtain ⟨k,rfl⟩:∃m,k=m+1:=⟨k - 1,by omega⟩
 rw [strconv_Itoa.f_eq]
 unfold nf
 rw [dT h0,dT h1,BS h0 h1]
 rfl
theorem yw (xs:List (List UInt8)):Lib.join xs []=xs.flatten:=by
 cases xs with
 |nil=>rfl
 |cons x r=>
  rw [Lib.join_cons]
  unfold Lib.joinTail
  simp
theorem xM {k:Nat}(hk:1≤k){vs:List (List UInt8)}(h1:vs.length≤140737488355328)(h2:vs.flatten.length≤140737488355328):strings_Join.f aV k vs []=some vs.flatten:=by
 obtain ⟨k,rfl⟩:∃m,k=m+1:=⟨k - 1,by omega⟩
 rw [strings_Join.f_eq]
 unfold nv
 rw [yw,dT h1,dT h2]
 rfl
theorem zy {k:Nat}(hk:2≤k){x:Int}(h0:-9223372036854775808≤x)(h1:x≤9223372036854775807):js.f aV k x=some (eI x):=by
 obtain ⟨k,rfl⟩:∃m,k=m+1:=⟨k - 1,by omega⟩
 have:=oe x
 rw [js.f_eq,yh (by omega) h0 h1,bS,dT (by simp only [List.length_cons,List.length_nil];omega),cT,dT (by simp only [List.length_append,List.length_cons,List.length_nil];omega),cT]
 rfl
theorem yA {k:Nat}(hk:1≤k)(b:Bool):io.f aV k b=some (ku b):=by
 obtain ⟨k,rfl⟩:∃m,k=m+1:=⟨k - 1,by omega⟩
 rw [io.f_eq];cases b<;>rfl
theorem yJ {k:Nat}(hk:1≤k):hZ.f aV k=some [110]:=by
 obtain ⟨k,rfl⟩:∃m,k=m+1:=⟨k - 1,by omega⟩
 rw [hZ.f_eq]
theorem sj (n:Nat):dw (n:Int)=og n:=by
 unfold dw
 rw [if_neg (by omega),Int.toNat_natCast]
theorem wv {k:Nat}(hk:2≤k){s:List UInt8}(hs:s.length≤1000000000000):gq.f aV k s=some (dd s):=by
 obtain ⟨k,rfl⟩:∃m,k=m+1:=⟨k - 1,by omega⟩
 have:=qn s.length
 rw [gq.f_eq,yh (by omega) (by omega) (by omega),bS,sj,dT (by simp only [List.length_cons,List.length_nil];omega),cT,dT (by simp only [List.length_append,List.length_cons,List.length_nil];omega),cT,
  dT (by simp only [List.length_append,List.length_cons,List.length_nil];omega),cT]
 rfl
theorem y0 {k:Nat}(hk:2≤k){vs:List (List UInt8)}(h1:vs.length≤140737488355328)(h2:vs.flatten.length≤140737488355328):g8.f aV k vs=some (eo vs):=by
 obtain ⟨k,rfl⟩:∃m,k=m+1:=⟨k - 1,by omega⟩
 rw [g8.f_eq,xM (by omega) h1 h2,bS,dT (by simp only [List.length_cons,List.length_nil];omega),cT,dT (by simp only [List.length_append,List.length_cons,List.length_nil];omega),cT]
 rfl
theorem uZ {k:Nat}(hk:2≤k){vs:List (List UInt8)}(h1:vs.length≤140737488355328)(h2:vs.flatten.length≤140737488355328):fQ.f aV k vs=some (bH vs):=by
 obtain ⟨k,rfl⟩:∃m,k=m+1:=⟨k - 1,by omega⟩
 rw [fQ.f_eq,xM (by omega) h1 h2,bS,dT (by simp only [List.length_cons,List.length_nil];omega),cT,dT (by simp only [List.length_append,List.length_cons,List.length_nil];omega),cT]
 rfl
theorem EZ {k:Nat}(hk:90≤k){x:aO}(hd:x.data.length≤4096){row m:Nat}(hm:(row:Int)<eN x.data m)(hm64:m≤64):dX.f aV k x (row:Int)=some ((pL x.data row:Nat):Int):=by
 obtain ⟨k,rfl⟩:∃q,k=q+1:=⟨k - 1,by omega⟩
 rw [dX.f_eq]
 have key:∀(g j n:Nat),j≤m→m<j+g→g<n→dX.l0 aV k n x.layout x.offset x.length x.valid x.ends x.data x.kids (row:Int) (j:Int)=some ((iR x.data row g j:Nat):Int):=by
  intro g
  induction g with
  |zero=>intro j n h1 h2;omega
  |succ g ih=>
   intro j n h1 h2 h3
   obtain ⟨n,rfl⟩:∃q,n=q+1:=⟨n - 1,by omega⟩
   rw [dX.l0_eq,cq (by omega) hd (by omega),bS]
   simp only
   unfold iR
   by_cases hle:eN x.data j≤(row:Int)
   ·rw [dF (by omega),cF,if_pos hle,bM (by omega)]
    have hne:j≠m:=fun e=>by subst e;omega
    exact ih (j+1) n (by omega) (by omega) (by omega)
   ·rw [dT (by omega),cT,if_neg hle]
 exact key 65 0 k (by omega) (by omega) (by omega)
theorem kK {k:Nat}(hk:1≤k)(t:List aI)(a:Int)(x:aO){r:Int}(hr:-1000000≤x.offset+r∧x.offset+r≤1000000):bh.f aV k t a x r=cp.f aV (k - 1) t a x (x.offset+r):=by
 obtain ⟨k,rfl⟩:∃q,k=q+1:=⟨k - 1,by omega⟩
 rw [bh.f_eq,bR _ (by omega),Nat.add_sub_cancel]
 cases cp.f aV k t a x (x.offset+r)<;>rfl
theorem fE:∀(f:Nat) (t:List aI) (a:Int) (x:aO) (row:Nat),je t a x<f→ef t a x=true→x.offset≤(row:Int)→row<cB x→∀k,700+5*f≤k→
  cp.f aV k t a x (row:Int)=some (cJ f t a x row)
 |0,_,_,_,_,h,_,_,_,_,_=>absurd h (Nat.not_lt_zero _)
 |f+1,t,a,x,row,hf,hb,h0,hr,k,hk=>by
  obtain ⟨k,rfl⟩:∃m,k=m+1:=⟨k - 1,by omega⟩
  obtain ⟨hn,hB⟩:=g9 hb
  obtain ⟨hm,i,hi,rfl⟩:=bC hn
  have hrw:=hB.rowsEq
  have hrl:=hB.rowsN_le
  have htl:=cw hm
  have ho:=hB.off
  have hd:=hB.data
  have hends:=hB.ends
  rw [cp.f_eq,kN (by omega) (hB.inV (by omega)) (by omega),bS,jq]
  cases hth:eu x.valid row with
  |false=>rw [Bool.not_false,cT,if_pos rfl,yJ (by omega),bS]
  |true=>
   rw [Bool.not_true,cF,if_neg (by simp)]
   by_cases hl1:x.layout=1
   ·obtain ⟨hO,hd'⟩:=kZ hb (by omega)
    rcases hd' with ⟨_,hd'⟩|⟨e,_⟩
    ·obtain ⟨d1,d2,d3,d4⟩:=uJ hd' h0 hr hth
     have hkl:=fu hO.may
     have hr0:=aE (show 0<x.kids.length by rw [hO.kids];omega)
     rw [fL (by rw [hO.kids];omega),show ((0:Nat):Int)=0 from rfl] at hr0
     rw [if_pos hl1,show (x.layout==1)=true by simpa using hl1,cT,cq (by omega) hd (by omega),bS,hr0,bS]
     simp only
     have ih:=fE f t (i:Int) (az x 0) ((az x 0).offset+eN x.data row).toNat (by unfold je at hf ⊢;rw [if_neg (by omega)] at hf;rw [if_pos hO.flat];omega) hO.may (by omega) (by unfold cB;omega) (k - 1) (by omega)
     rw [show ((((az x 0).offset+eN x.data row).toNat:Nat):Int)=(az x 0).offset+eN x.data row by omega] at ih
     rw [kK (by omega) t _ _ (by omega),ih,bS]
    ·omega
   ·rw [if_neg hl1,show (x.layout==1)=false by simpa using hl1,cF]
    by_cases hl2:x.layout=2
    ·obtain ⟨hO,hd'⟩:=kZ hb (by omega)
     rcases hd' with ⟨e,_⟩|⟨_,hd'⟩
     ·omega
     ·have hkl:=fu hO.may
      obtain ⟨m,m1,m2,m3,m4,m5⟩:=xZ hd' (by omega) (row:=row) (by omega)
      have hr0:=aE (show 0<x.kids.length by rw [hO.kids];omega)
      rw [fL (by rw [hO.kids];omega),show ((0:Nat):Int)=0 from rfl] at hr0
      have hx:=ke m2 65 0 (by omega) (by omega)
      have hix:pL x.data row≤m:=hx.1
      rw [if_pos hl2,show (x.layout==2)=true by simpa using hl2,cT,hr0,bS,EZ (by omega) hd m2 (by omega),bS]
      have ih:=fE f t (i:Int) (az x 0) ((az x 0).offset.toNat+pL x.data row) (by unfold je at hf ⊢;rw [if_neg (by omega)] at hf;rw [if_pos hO.flat];omega) hO.may (by omega) (by unfold cB;omega) (k - 1) (by omega)
      rw [show ((((az x 0).offset.toNat+pL x.data row:Nat)):Int)=(az x 0).offset+((pL x.data row:Nat):Int) by omega] at ih
      rw [kK (by omega) t _ _ (by omega),ih,bS]
    ·have hl0:=B8 hb hl1 hl2
     have hP:=jX hb hl0
     have hkd:=hP.kind
     unfold hY at hkd
     have hkl8:=cu t (i:Int) t.length
     obtain ⟨k,rfl⟩:∃m,k=m+1:=⟨k - 1,by omega⟩
     rw [if_neg hl2,show (x.layout==2)=false by simpa using hl2,cF,ay.f_eq,aE hi,bS,bY hi,Int.toNat_natCast]
     by_cases k0:bK t i=0
     ·rw [if_pos k0] at hkd ⊢
      simp only [Bool.and_eq_true,decide_eq_true_eq] at hkd
      have t1:(8*(row:Int)).toNat=8*row:=by omega
      have t2:(8*((row:Int)+1)).toNat=8*row+8:=by omega
      rw [show (bK t i==0)=true by simpa using k0,cT,bR ((row:Int)+1) (by omega),bR (8*(row:Int)) (by omega),bR (8*((row:Int)+1)) (by omega),dT (show (0:Int)≤8*((row:Int)+1) by omega),dT (show (0:Int)≤8*(row:Int) by omega),
       dT (show 8*((row:Int)+1)≤((x.data.length:Nat):Int) by omega),t1,t2,dT (show 8*(row:Int)≤((8*row+8:Nat):Int) by omega)]
      simp only [Bool.and_self,cT]
      have hw:-9223372036854775808≤fp ((x.data.take (8*row+8)).drop (8*row))∧fp ((x.data.take (8*row+8)).drop (8*row))≤9223372036854775807:=by
       unfold fp;rw [IntKind.wrap_i64];omega
      rw [sV (by omega) _ (by rw [List.length_drop,List.length_take];omega),bS,zy (by omega) hw.1 hw.2,bS,bS]
     ·rw [if_neg k0] at hkd ⊢
      rw [show (bK t i==0)=false by simpa using k0,cF]
      by_cases k1:bK t i=1
      ·rw [if_pos k1] at hkd ⊢
       simp only [Bool.and_eq_true,decide_eq_true_eq] at hkd
       have hbb:row / 8<x.data.length:=by
        have:=hkd.2
        rw [←hrw] at this
        unfold j6 at this
        omega
       rw [show (bK t i==1)=true by simpa using k1,cT,qE (by omega) hbb (by omega),bS,yA (by omega),bS,bS]
      ·rw [if_neg k1] at hkd ⊢
       rw [show (bK t i==1)=false by simpa using k1,cF,mq (by omega),bS]
       have en:=cq (k:=k) (by omega) hends (i:=row) (by omega)
       have en1:=cq (k:=k) (by omega) hends (i:=row+1) (by omega)
       rw [show ((row+1:Nat):Int)=(row:Int)+1 by omega] at en1
       rw [en,bS,bR ((row:Int)+1) (by omega),en1,bS,bS,bY hi]
       unfold kA
       rw [if_pos hn]
       simp only
       by_cases k2:bK t i=2
       ·rw [if_pos k2] at hkd ⊢
        have he:=iz hkd hr
        rw [show (bK t i==2)=true by simpa using k2,cT]
        rw [dT (show 0≤eN x.ends (row+1) by omega),dT (show eN x.ends (row+1)≤((x.data.length:Nat):Int) by omega),dT (show 0≤eN x.ends row by omega),dT (show eN x.ends row≤(((eN x.ends (row+1)).toNat:Nat):Int) by omega)]
        simp only [Bool.and_self,cT]
        rw [wv (by omega) (by rw [List.length_drop,List.length_take];omega),bS,bS]
       ·rw [if_neg k2] at hkd ⊢
        rw [show (bK t i==2)=false by simpa using k2,cF]
        by_cases k3:bK t i=3
        ·rw [if_pos k3] at hkd ⊢
         simp only [Bool.and_eq_true] at hkd
         have he:=iz hkd.2 hr
         have h1:(ag t (i:Int)).length=1:=by
          have:=(((cZ t).1 hm).2.2 i hi).1
          unfold iQ at this
          rw [k3] at this
          simpa using this
         have hk0:0<x.kids.length:=by rw [hP.kids];omega
         have hmk:=hP.may 0 hk0
         have hkl:=fu hmk
         obtain ⟨q,q1,q2,q3⟩:=ij hm (i:=i) (j:=0) (by omega)
         have hnk:=jv hm (x:=x) (az x 0) (i:=i) (j:=0) (by omega)
         rw [show (bK t i==3)=true by simpa using k3,cT]
         have hr0:=aE hk0
         rw [fL hk0,show ((0:Nat):Int)=0 from rfl] at hr0
         have hks0:=gm (t:=t) (a:=(i:Int)) (j:=0) (by omega)
         generalize hfr:(eN x.ends row).toNat=fr
         have efr:eN x.ends row=(fr:Int):=by omega
         generalize hcn:(eN x.ends (row+1)).toNat - fr=cn
         have ecn:eN x.ends (row+1)=((fr+cn:Nat):Int):=by omega
         rw [efr,ecn]
         -- each of the list's values
         have each:∀j,fr≤j→j<fr+cn→bh.f aV k t (c9 t (i:Int) 0) (az x 0) (j:Int)=some (cJ f t (c9 t (i:Int) 0) (az x 0) ((az x 0).offset.toNat+j)):=by
          intro j hj1 hj2
          have ih:=fE f t (c9 t (i:Int) 0) (az x 0) ((az x 0).offset.toNat+j) (by omega) hmk (by omega) (by unfold cB;omega) (k - 1) (by omega)
          rw [show ((((az x 0).offset.toNat+j:Nat)):Int)=(az x 0).offset+(j:Int) by omega] at ih
          rw [kK (by omega) t _ _ (by omega)]
          exact ih
         have hlen:((List.range' fr cn).map fun j=>cJ f t (c9 t (i:Int) 0) (az x 0) ((az x 0).offset.toNat+j)).flatten.length≤20480:=by
          have:=qK (f:=f) (t:=t) (a:=c9 t (i:Int) 0) (x:=az x 0) (by omega) hmk (p:=(az x 0).offset.toNat+fr) (c:=cn) (by omega) (by unfold cB;omega)
          rw [ff]
          rw [←qk (fun j=>(cJ f t (c9 t (i:Int) 0) (az x 0) j).length)] at this
          exact this
         have key:=ck (F:=fun n j=>ay.l2 aV k n x.layout x.offset x.length x.valid x.ends x.data x.kids ((fr+cn:Nat):Int) ((fr+j:Nat):Int) t (ag t (i:Int)) ((List.range' fr j).map fun j=>cJ f t (c9 t (i:Int) 0) (az x 0) ((az x 0).offset.toNat+j)))
          (N:=cn) (r:=some (eo ((List.range' fr cn).map fun j=>cJ f t (c9 t (i:Int) 0) (az x 0) ((az x 0).offset.toNat+j)))) ?_ ?_ k 0 (by omega) (by omega)
         ·rw [show ((fr:Nat):Int)=((fr+0:Nat):Int) from rfl]
          have key':=key
          simp only [List.range'_zero,List.map_nil] at key'
          rw [key',bS]
         ·intro n j hj
          rw [ay.l2_eq,dT (by omega),cT]
          have e1:(decide ((0:Nat)≤0)&&decide ((0:Int)<((ag t (i:Int)).length:Int)))=true:=by rw [h1];decide
          rw [e1,cT,hks0,bS,hr0,bS,each (fr+j) (by omega) (by omega),bS,lE (by simp;omega),cT,bM (by omega),List.range'_concat,List.map_append,Nat.one_mul]
          rfl
         ·intro n
          rw [ay.l2_eq,dF (by omega),cF,y0 (by omega) (by simp;omega) (by omega),bS]
        ·rw [if_neg k3] at hkd ⊢
         rw [show (bK t i==3)=false by simpa using k3,cF]
         simp only [Bool.and_eq_true,Bool.not_eq_true',List.any_eq_false,decide_eq_true_eq] at hkd
         have each:∀j,j<(ag t (i:Int)).length→bh.f aV k t (c9 t (i:Int) j) (az x j) (row:Int)=some (cJ f t (c9 t (i:Int) j) (az x j) ((az x j).offset.toNat+row))∧
           (cJ f t (c9 t (i:Int) j) (az x j) ((az x j).offset.toNat+row)).length≤20480:=by
          intro j hj
          have hj':j<x.kids.length:=by rw [hP.kids];exact hj
          have hmk:=hP.may j hj'
          have hkl:=fu hmk
          have hnk:=jv hm (x:=x) (az x j) hj
          have hlong:=hkd.2.2 _ (nL hj')
          have ih:=fE f t (c9 t (i:Int) j) (az x j) ((az x j).offset.toNat+row) (by omega) hmk (by omega) (by unfold cB at hr ⊢;omega) (k - 1) (by omega)
          rw [show ((((az x j).offset.toNat+row:Nat)):Int)=(az x j).offset+(row:Int) by omega] at ih
          rw [kK (by omega) t _ _ (by omega)]
          exact ⟨ih,zK (by omega) hmk (by omega) (by unfold cB at hr ⊢;omega)⟩
         have hlen:((List.range (ag t (i:Int)).length).map fun j=>cJ f t (c9 t (i:Int) j) (az x j) ((az x j).offset.toNat+row)).flatten.length≤(ag t (i:Int)).length*20480:=by
          have:=vd (B:=20480) (List.range (ag t (i:Int)).length) (fun j=>cJ f t (c9 t (i:Int) j) (az x j) ((az x j).offset.toNat+row)) (fun j hj=>(each j (List.mem_range.1 hj)).2)
          rw [List.length_range] at this
          exact this
         have hkk:(ag t (i:Int)).length≤8:=by unfold ag;omega
         have key:=ck (F:=fun n j=>ay.l4 aV k n x.layout x.offset x.length x.valid x.ends x.data x.kids (row:Int) ((ag t (i:Int)).length:Int) (j:Int) t ((List.range j).map fun j=>cJ f t (c9 t (i:Int) j) (az x j) ((az x j).offset.toNat+row)) (ag t (i:Int)))
          (N:=(ag t (i:Int)).length) (r:=some (bH ((List.range (ag t (i:Int)).length).map fun j=>cJ f t (c9 t (i:Int) j) (az x j) ((az x j).offset.toNat+row)))) ?_ ?_ k 0 (by omega) (by omega)
         ·have key':=key
          simp only [List.range_zero,List.map_nil] at key'
          rw [show (0:Int)=((0:Nat):Int) from rfl,key',bS]
         ·intro n j hj
          have hj':j<x.kids.length:=by rw [hP.kids];exact hj
          rw [ay.l4_eq,dT (by omega),cT]
          rw [show (decide ((0:Int)≤(j:Int)))=true from dT (by omega)]
          simp only [Bool.and_self,cT,Int.toNat_natCast]
          rw [gm hj,bS,aE hj',bS,fL hj',(each j hj).1,bS,lE (by simp;omega),cT,bM (by omega),List.range_succ,List.map_append]
          rfl
         ·intro n
          rw [ay.l4_eq,dF (by omega),cF,uZ (by omega) (by simp;omega) (by omega),bS]
theorem kM {t:List aI}{a:Int}{x:aO}(hx:RoomyA x){k:Nat}(hk:1001≤k):bI.f aV k t a x=some (Br t a x):=by
 obtain ⟨k,rfl⟩:∃m,k=m+1:=⟨k - 1,by omega⟩
 rw [bI.f_eq,EJ hx (by omega),bS]
 unfold Br
 cases hb:ef t a x with
 |false=>rfl
 |true=>
  rw [Bool.not_true,cF,if_pos rfl]
  have hl:=fu hb
  obtain ⟨hn,_⟩:=g9 hb
  have hnd:=tM (x:=x) hn
  have key:=ck (F:=fun n i=>bI.l0 aV k n a x.length (i:Int) t x.layout x.offset x.valid x.ends x.data x.kids ((List.range i).map fun i=>cJ 20 t a x (x.offset.toNat+i))) (N:=x.length.toNat) (r:=some (kO t a x,0)) ?_ ?_ k 0 (by omega) (by omega)
  ·exact key
  ·intro n i hi
   have hv:=fE 20 t a x (x.offset.toNat+i) (by omega) hb (by omega) (by unfold cB;omega) (k - 1) (by omega)
   rw [show (((x.offset.toNat+i:Nat)):Int)=x.offset+(i:Int) by omega] at hv
   rw [bI.l0_eq,dT (by omega),cT,aO.eta,kK (by omega) t a x (by omega),hv,bS,lE (by simp;omega),cT,bM (by omega),List.range_succ,List.map_append]
   rfl
  ·intro n
   rw [bI.l0_eq,dF (by omega),cF]
   rfl
def nr:Nat→Nat→List Nat
 |0,_=>[]
 |f+1,n=>if n<10 then [n] else nr f (n / 10)++[n % 10]
def dx (l:List Nat):Nat:=l.foldl (fun a d=>10*a+d) 0
theorem kX (l:List Nat)(d:Nat):dx (l++[d])=10*dx l+d:=by unfold dx;rw [List.foldl_append];rfl
theorem s4:∀f n,kE f n=List.map (fun (d:Nat)=>(48:Int)+(d:Int)) (nr f n)
 |0,_=>rfl
 |f+1,n=>by
  unfold kE nr
  split
  ·rfl
  ·rw [s4 f (n / 10),List.map_append];rfl
theorem nG:∀f n,n<10 ^ f→0<f→dx (nr f n)=n∧(∀d∈nr f n,d<10)∧nr f n≠[]
 |0,_,_,h=>by omega
 |f+1,n,hf,_=>by
  unfold nr
  by_cases h:n<10
  ·rw [if_pos h]
   refine ⟨by simp [dx],fun d hd=>?_,by simp⟩
   rw [List.mem_singleton.1 hd];exact h
  ·rw [if_neg h]
   have f0:0<f:=by
    rcases Nat.eq_zero_or_pos f with e|e
    ·subst e;omega
    ·exact e
   obtain ⟨h1,h2,h3⟩:=nG f (n / 10) (by rw [Nat.pow_succ] at hf;omega) f0
   refine ⟨by rw [kX,h1];omega,fun d hd=>?_,by simp⟩
   rcases List.mem_append.1 hd with hd|hd
   ·exact h2 d hd
   ·rw [List.mem_singleton.1 hd];omega
theorem nH:∀f n,(nr f n).length≤f
 |0,_=>Nat.le_refl _
 |f+1,n=>by
  unfold nr
  split
  ·simp
  ·have:=nH f (n / 10)
   simp;omega
def cN (l:List Nat):List UInt8:=l.map fun d=>UInt8.ofNat (48+d)
theorem mP {n:Nat}(h:n<10 ^ 19):og n=cN (nr 19 n):=by
 unfold og cN aD
 rw [tl 20 19 n (by omega) h (by omega) (by omega),s4,List.map_map]
 refine List.map_congr_left fun d _=>?_
 simp only [Function.comp_apply]
 congr 1
theorem mF {l : List Nat} (hd : ∀ d ∈ l, d < 10) {j : Nat} (hj : j < l.length) : ((cN l)[j]'(by unfold cN; simpa using hj)).toNat = 48 + l[j] := by
 unfold cN
 have:=hd l[j] (List.getElem_mem hj)
 rw [List.getElem_map,UInt8.toNat_ofNat']
 omega
theorem pS (l:List Nat):∀j,j≤l.length→dx (l.take j)≤dx l:=by
 have snoc:∀(m l:List Nat),dx l≤dx (l++m):=by
  intro m
  induction m with
  |nil=>intro l;simp
  |cons d m ih=>
   intro l
   have:=ih (l++[d])
   rw [List.append_assoc,List.singleton_append,kX] at this
   omega
 intro j _
 have:=snoc (l.drop j) (l.take j)
 rw [List.take_append_drop] at this
 exact this
theorem jK {l:List Nat}{j:Nat}(h:j<l.length):dx (l.take (j+1))=10*dx (l.take j)+l[j]:=by
 rw [List.take_succ_eq_append_getElem h,kX]
theorem yO {k:Nat}(hk:130≤k){l:List Nat}(hd:∀d∈l,d<10)(hn:l≠[])(hl:l.length≤19)(hv:dx l≤9223372036854775807)(he:dw ((dx l:Nat):Int)=cN l):
  am.f aV k (cN l)=some (((dx l:Nat):Int),true):=by
 obtain ⟨k,rfl⟩:∃m,k=m+1:=⟨k - 1,by omega⟩
 have hlen:(cN l).length=l.length:=by unfold cN;simp
 have hpos:0<l.length:=List.length_pos_iff.2 hn
 rw [am.f_eq]
 refine ck (F:=fun n j=>am.l0 aV k n (cN l) ((dx (l.take j):Nat):Int) (j:Int)) (N:=l.length) ?_ ?_ k 0 (by omega) (by omega)
 ·intro n j hj
  have hb:=aE (l:=cN l) (i:=j) (by omega)
  have hb0:=aE (l:=cN l) (i:=0) (by omega)
  have e1:=mF hd hj
  have e0:=mF hd hpos
  have hdj:=hd l[j] (List.getElem_mem hj)
  have hd0:=hd l[0] (List.getElem_mem hpos)
  have ht:=jK hj
  have hm:=pS l (j+1) (by omega)
  rw [show ((0:Nat):Int)=0 from rfl] at hb0
  rw [am.l0_eq,dT (by omega),cT,dT (by omega),cT,hb,bS,e1,show ((((48+l[j]:Nat)):Int)==45)=false by rw [beq_eq_false_iff_ne];omega,cF,bS,e1,dF (by omega),Bool.not_false,cT,bS,e1,dF (by omega),cF,hb0,bS,e0,
   show ((((48+l[0]:Nat)):Int)==45)=false by rw [beq_eq_false_iff_ne];omega,cF,bS,e1,D2,bR (10*_) (by omega),show (((48+l[j]:Nat):Int) - 48) % 256=(l[j]:Int) by omega,bR (l[j]:Int) (by omega),bR _ (by omega),bM (by omega),ht]
  congr 1
 ·intro n
  rw [am.l0_eq,dF (by omega),cF,List.take_length,oI (by omega) (by omega) (by omega),bS,he,BEq.rfl]
theorem zh {k:Nat}(hk:130≤k){l:List Nat}(hd:∀d∈l,d<10)(hl:l.length≤19)(hv:dx l≤9223372036854775808)(he:dw (-((dx l:Nat):Int))=45 :: cN l):
  am.f aV k (45 :: cN l)=some (-((dx l:Nat):Int),true):=by
 obtain ⟨k,rfl⟩:∃m,k=m+1:=⟨k - 1,by omega⟩
 have hlen:(cN l).length=l.length:=by unfold cN;simp
 have hb0:=aE (l:=45 :: cN l) (i:=0) (by simp)
 rw [show ((0:Nat):Int)=0 from rfl] at hb0
 have b0 : (((45 :: cN l)[0]'(by simp)).toNat : Int) = 45 := rfl
 obtain ⟨k,rfl⟩:∃m,k=m+1:=⟨k - 1,by omega⟩
 rw [am.f_eq,am.l0_eq,dT (by simp only [List.length_cons];omega),cT,dT (by simp only [List.length_cons];omega),cT,hb0,bS,b0,BEq.rfl,cT,BEq.rfl,cT,bR (0+1) (by omega)]
 refine ck (F:=fun n j=>am.l0 aV (k+1) n (45 :: cN l) (-((dx (l.take j):Nat):Int)) ((j:Int)+1)) (N:=l.length) ?_ ?_ k 0 (by omega) (by omega)
 ·intro n j hj
  have hb:=aE (l:=45 :: cN l) (i:=j+1) (by simp only [List.length_cons];omega)
  rw [show ((j+1:Nat):Int)=(j:Int)+1 by omega] at hb
  have e1:=mF hd hj
  have hdj:=hd l[j] (List.getElem_mem hj)
  have ht:=jK hj
  have hm:=pS l (j+1) (by omega)
  simp only [List.getElem_cons_succ] at hb
  rw [am.l0_eq,dT (by simp only [List.length_cons];omega),cT,dT (by simp only [List.length_cons];omega),cT,hb,bS,e1,show ((((48+l[j]:Nat)):Int)==45)=false by rw [beq_eq_false_iff_ne];omega,cF,bS,e1,dF (by omega),Bool.not_false,cT,bS,e1,dF (by omega),cF,hb0,bS,b0,
   BEq.rfl,cT,bS,e1,D2,bR (10*_) (by omega),show (((48+l[j]:Nat):Int) - 48) % 256=(l[j]:Int) by omega,bR (l[j]:Int) (by omega),bR _ (by omega),bR _ (by omega),ht]
  congr 1
  omega
 ·intro n
  rw [am.l0_eq,dF (by simp only [List.length_cons];omega),cF,List.take_length,oI (by omega) (by omega) (by omega),bS,he,BEq.rfl]
theorem lF {k:Nat}(hk:130≤k){x:Int}(h0:-9223372036854775808≤x)(h1:x≤9223372036854775807):am.f aV k (dw x)=some (x,true):=by
 have p19:(10:Nat) ^ 19=10000000000000000000:=by decide
 by_cases h:x<0
 ·obtain ⟨v1,v2,v3⟩:=nG 19 x.natAbs (by omega) (by omega)
  have e:dw x=45 :: cN (nr 19 x.natAbs):=by unfold dw;rw [if_pos h,mP (by omega)]
  have hx:-((dx (nr 19 x.natAbs):Nat):Int)=x:=by rw [v1];omega
  have:=zh hk v2 (nH _ _) (by rw [v1];omega) (by rw [hx];exact e)
  rw [hx] at this
  rw [e];exact this
 ·obtain ⟨v1,v2,v3⟩:=nG 19 x.toNat (by omega) (by omega)
  have e:dw x=cN (nr 19 x.toNat):=by unfold dw;rw [if_neg h,mP (by omega)]
  have hx:((dx (nr 19 x.toNat):Nat):Int)=x:=by rw [v1];omega
  have:=yO hk v2 v3 (nH _ _) (by rw [v1];omega) (by rw [hx];exact e)
  rw [hx] at this
  rw [e];exact this
def At (s:List UInt8)(p:Nat)(v:List UInt8):Prop:=∃pre post,s=pre++v++post∧pre.length=p
theorem At.left {s a b:List UInt8}{p:Nat}(h:At s p (a++b)):At s p a:=by
 obtain ⟨pre,post,rfl,e⟩:=h
 exact ⟨pre,b++post,by simp [List.append_assoc],e⟩
theorem At.right {s a b:List UInt8}{p:Nat}(h:At s p (a++b)):At s (p+a.length) b:=by
 obtain ⟨pre,post,rfl,e⟩:=h
 exact ⟨pre++a,post,by simp [List.append_assoc],by simp [e]⟩
theorem At.le {s v:List UInt8}{p:Nat}(h:At s p v):p+v.length≤s.length:=by
 obtain ⟨pre,post,rfl,e⟩:=h
 simp only [List.length_append];omega
theorem At.get {s v:List UInt8}{p:Nat}(h:At s p v){j:Nat}(hj:j<v.length):s[p+j]?=v[j]?:=by
 obtain ⟨pre,post,rfl,e⟩:=h
 rw [List.append_assoc,List.getElem?_append_right (by omega),List.getElem?_append_left (by omega)]
 congr 1;omega
theorem At.head {s r:List UInt8}{b:UInt8}{p:Nat}(h:At s p (b :: r)):rd s (p:Int)=some b:=by
 have:=h.get (j:=0) (by simp)
 have hl:=h.le
 rw [List.length_cons] at hl
 rw [aE (by omega)]
 rw [Nat.add_zero,List.getElem?_eq_getElem (by omega)] at this
 exact this
theorem At.slice {s v:List UInt8}{p:Nat}(h:At s p v):(s.take (p+v.length)).drop p=v:=by
 obtain ⟨pre,post,rfl,e⟩:=h
 subst e
 rw [show pre.length+v.length=(pre++v).length by simp,List.take_left',List.drop_left']
 ·rfl
 ·rfl
theorem uz {k:Nat}(hk:40≤k){s m:List UInt8}{c:UInt8}{p:Nat}(h:At s p (m++[c]))(hm:m.length≤21)(hn:∀b∈m,b≠c)(hp:p≤1000000):aC.f aV k s (p:Int) (c.toNat:Int)=some ((p+m.length:Nat):Int):=by
 obtain ⟨k,rfl⟩:∃q,k=q+1:=⟨k - 1,by omega⟩
 have hl:=h.le
 rw [List.length_append,List.length_singleton] at hl
 rw [aC.f_eq]
 refine ck (F:=fun n j=>aC.l0 aV k n s (p:Int) (c.toNat:Int) ((p+j:Nat):Int)) (N:=m.length) ?_ ?_ k 0 (by omega) (by omega)
 ·intro n j hj
  have hb:=aE (l:=s) (i:=p+j) (by omega)
  have e:=h.get (j:=j) (by simp;omega)
  rw [List.getElem?_append_left hj,List.getElem?_eq_getElem (by omega),List.getElem?_eq_getElem hj,Option.some.injEq] at e
  have hne:(((m[j]).toNat:Int)==(c.toNat:Int))=false:=by
   rw [beq_eq_false_iff_ne]
   intro e'
   exact hn _ (List.getElem_mem hj) (UInt8.toNat_inj.1 (by omega))
  rw [aC.l0_eq,dT (by omega),cT,bR ((p:Int)+22) (by omega),dT (by omega),cT,hb,bS,e,hne,cF,bM (by omega)]
  rfl
 ·intro n
  have hb:=aE (l:=s) (i:=p+m.length) (by omega)
  have e:=h.get (j:=m.length) (by simp)
  rw [List.getElem?_append_right (Nat.le_refl _),List.getElem?_eq_getElem (by omega),Nat.sub_self,List.getElem?_cons_zero,Option.some.injEq] at e
  rw [aC.l0_eq,dT (by omega),cT,bR ((p:Int)+22) (by omega),dT (by omega),cT,hb,bS,e,BEq.rfl,cT]
inductive eE:List UInt8→Prop
 |n:eE [110]
 |t:eE [116]
 |f:eE [102]
 |i (x:Int) (h0:-9223372036854775808≤x) (h1:x≤9223372036854775807):eE (eI x)
 |s (l:List UInt8) (h:l.length≤100000):eE (dd l)
def Tx:Nat→List UInt8→Prop
 |0,v=>eE v∨v=eo []∨v=bH []
 |d+1,v=>eE v∨∃vs,(∀w∈vs,Tx d w)∧(v=eo vs∨v=bH vs)
theorem eE.tx {v:List UInt8}(h:eE v)(d:Nat):Tx d v:=by
 cases d with
 |zero=>exact .inl h
 |succ d=>exact .inl h
theorem eE.head {v:List UInt8}(h:eE v):∃b r,v=b :: r∧b≠93∧b≠125:=by
 cases h with
 |n=>exact ⟨_,_,rfl,by decide,by decide⟩
 |t=>exact ⟨_,_,rfl,by decide,by decide⟩
 |f=>exact ⟨_,_,rfl,by decide,by decide⟩
 |i x=>exact ⟨105,_,rfl,by decide,by decide⟩
 |s l=>exact ⟨115,_,rfl,by decide,by decide⟩
theorem Tx.head {d:Nat}{v:List UInt8}(h:Tx d v):∃b r,v=b :: r∧b≠93∧b≠125:=by
 cases d with
 |zero=>
  rcases h with h|rfl|rfl
  ·exact h.head
  ·exact ⟨91,_,rfl,by decide,by decide⟩
  ·exact ⟨123,_,rfl,by decide,by decide⟩
 |succ d=>
  rcases h with h|⟨vs,_,rfl|rfl⟩
  ·exact h.head
  ·exact ⟨91,_,rfl,by decide,by decide⟩
  ·exact ⟨123,_,rfl,by decide,by decide⟩
theorem km {x:Int}(h0:-9223372036854775808≤x)(h1:x≤9223372036854775807):(dw x).length≤20∧∀b∈dw x,b≠58∧b≠59:=by
 have p19:(10:Nat) ^ 19=10000000000000000000:=by decide
 have key:∀n:Nat,n<10 ^ 19→(og n).length≤19∧∀b∈og n,b≠58∧b≠59:=by
  intro n hn
  obtain ⟨_,hd,_⟩:=nG 19 n hn (by omega)
  rw [mP hn]
  refine ⟨by unfold cN;rw [List.length_map];exact nH 19 n,fun b hb=>?_⟩
  unfold cN at hb
  obtain ⟨d,hd',rfl⟩:=List.mem_map.1 hb
  have hlt:=hd d hd'
  have e:(UInt8.ofNat (48+d)).toNat=48+d:=by rw [UInt8.toNat_ofNat'];omega
  constructor<;>(intro e';rw [e'] at e;simp at e;omega)
 unfold dw
 split
 ·obtain ⟨k1,k2⟩:=key x.natAbs (by omega)
  refine ⟨by simp only [List.length_cons];omega,fun b hb=>?_⟩
  rcases List.mem_cons.1 hb with rfl|hb
  ·exact ⟨by decide,by decide⟩
  ·exact k2 b hb
 ·obtain ⟨k1,k2⟩:=key x.toNat (by omega)
  exact ⟨by omega,k2⟩
theorem vH {k:Nat}(hk:200≤k){s v:List UInt8}(hv:eE v){p:Nat}(h:At s p v)(hs:s.length≤1000000)(D:Int):ap.f aV k s (p:Int) D=some ((p+v.length:Nat):Int):=by
 obtain ⟨k,rfl⟩:∃q,k=q+1:=⟨k - 1,by omega⟩
 have hl:=h.le
 cases hv with
 |n=>
  simp only [List.length_cons,List.length_nil] at hl ⊢
  rw [ap.f_eq,dF (by omega),cF,h.head,bS,show (((110:UInt8).toNat:Int))=110 from rfl]
  simp only [BEq.rfl,cT]
  rw [bM (by omega)]
 |t=>
  simp only [List.length_cons,List.length_nil] at hl ⊢
  rw [ap.f_eq,dF (by omega),cF,h.head,bS,show (((116:UInt8).toNat:Int))=116 from rfl]
  simp only [show ((116:Int)==110)=false from by decide,BEq.rfl,cT,cF]
  rw [bM (by omega)]
 |f=>
  simp only [List.length_cons,List.length_nil] at hl ⊢
  rw [ap.f_eq,dF (by omega),cF,h.head,bS,show (((102:UInt8).toNat:Int))=102 from rfl]
  simp only [show ((102:Int)==110)=false from by decide,show ((102:Int)==116)=false from by decide,BEq.rfl,cT,cF]
  rw [bM (by omega)]
 |i x h0 h1=>
  obtain ⟨c1,c2⟩:=km h0 h1
  have hu:=uz (k:=k) (by omega) (s:=s) (m:=[105]++dw x) (c:=59) (p:=p) h (by simp;omega) (fun b hb=>by
   rcases List.mem_append.1 hb with hb|hb
   ·rw [List.mem_singleton.1 hb];decide
   ·exact (c2 b hb).2) (by omega)
  have hh:At s p (105 :: (dw x++[59])):=h
  have hsl:At s (p+1) (dw x):=by
   have h':At s p ([105]++(dw x++[59])):=h
   exact h'.right.left
  have hslice:=hsl.slice
  unfold eI at hl ⊢
  simp only [List.length_append,List.length_cons,List.length_nil] at hl ⊢
  rw [List.length_append,List.length_singleton,show (((59:UInt8).toNat:Int))=59 from rfl] at hu
  rw [ap.f_eq,dF (by omega),cF,hh.head,bS,show (((105:UInt8).toNat:Int))=105 from rfl]
  simp only [show ((105:Int)==110)=false from by decide,show ((105:Int)==116)=false from by decide,show ((105:Int)==102)=false from by decide,BEq.rfl,cT,cF]
  rw [hu,bS,dF (by omega),cF,dT (by omega),dT (by omega),bR ((p:Int)+1) (by omega),dT (by omega),dT (by omega)]
  simp only [Bool.and_self,cT,Int.toNat_natCast]
  rw [show ((p:Int)+1).toNat=p+1 by omega,show p+(1+(dw x).length)=p+1+(dw x).length by omega,hslice,lF (by omega) h0 h1,bS]
  simp only [Bool.not_true,cF]
  rw [bR _ (by omega)]
  congr 1;omega
 |s l hl4=>
  have hx:dw ((l.length:Nat):Int)=og l.length:=sj _
  obtain ⟨c1,c2⟩:=km (x:=((l.length:Nat):Int)) (by omega) (by omega)
  rw [hx] at c1 c2
  have hb1:At s p (([115]++og l.length)++[58]):=At.left (b:=l) h
  have hu:=uz (k:=k) (by omega) (s:=s) (m:=[115]++og l.length) (c:=58) (p:=p) hb1 (by simp;omega) (fun b hb=>by
   rcases List.mem_append.1 hb with hb|hb
   ·rw [List.mem_singleton.1 hb];decide
   ·exact (c2 b hb).1) (by omega)
  have hh:At s p (115 :: (og l.length++[58])):=hb1
  have hsl:At s (p+1) (og l.length):=by
   have h':At s p ([115]++(og l.length++[58])):=hb1
   exact h'.right.left
  have hslice:=hsl.slice
  unfold dd at hl ⊢
  simp only [List.length_append,List.length_cons,List.length_nil] at hl ⊢
  rw [List.length_append,List.length_singleton,show (((58:UInt8).toNat:Int))=58 from rfl] at hu
  have hw:=lF (k:=k) (by omega) (x:=((l.length:Nat):Int)) (by omega) (by omega)
  rw [hx] at hw
  rw [ap.f_eq,dF (by omega),cF,hh.head,bS,show (((115:UInt8).toNat:Int))=115 from rfl]
  simp only [show ((115:Int)==110)=false from by decide,show ((115:Int)==116)=false from by decide,show ((115:Int)==102)=false from by decide,show ((115:Int)==105)=false from by decide,BEq.rfl,cT,cF]
  rw [hu,bS,dF (by omega),cF,dT (by omega),dT (by omega),bR ((p:Int)+1) (by omega),dT (by omega),dT (by omega)]
  simp only [Bool.and_self,cT,Int.toNat_natCast]
  rw [show ((p:Int)+1).toNat=p+1 by omega,show p+(1+(og l.length).length)=p+1+(og l.length).length by omega,hslice,hw,bS]
  simp only [Bool.not_true,Bool.not_false,cT]
  rw [dF (by omega),Bool.not_false,cT,bR ((s.length:Int) - _) (by omega),bR (_ - 1) (by omega),dF (by omega),cF,bR (_+1) (by omega),bR _ (by omega)]
  congr 1;omega
def cat (vs:List (List UInt8))(j:Nat):Nat:=((vs.take j).flatten).length
theorem il {vs:List (List UInt8)}{j:Nat}(h:j<vs.length):cat vs (j+1)=cat vs j+(vs[j]).length:=by
 unfold cat
 rw [List.take_succ_eq_append_getElem h,List.flatten_append,List.length_append]
 simp
theorem t6 (vs:List (List UInt8)):cat vs vs.length=vs.flatten.length:=by unfold cat;rw [List.take_length]
theorem At.cat {s:List UInt8}{p:Nat}{vs:List (List UInt8)}(h:At s p vs.flatten){j:Nat}(hj:j<vs.length):At s (p+cat vs j) vs[j]:=by
 have e:vs.flatten=(vs.take j).flatten++(vs[j]++(vs.drop (j+1)).flatten):=by
  have e:vs.take j++(vs[j] :: vs.drop (j+1))=vs:=by rw [←List.drop_eq_getElem_cons hj,List.take_append_drop]
  exact (congrArg List.flatten e).symm.trans (by rw [List.flatten_append,List.flatten_cons])
 rw [e] at h
 exact h.right.left
theorem B6 {s v:List UInt8}{d p:Nat}(hv:Tx d v)(h:At s p v):∃b,rd s (p:Int)=some b∧b≠93∧b≠125:=by
 obtain ⟨b,r,rfl,h1,h2⟩:=hv.head
 exact ⟨b,h.head,h1,h2⟩
theorem Tx.pos {d:Nat}{v:List UInt8}(h:Tx d v):0<v.length:=by
 obtain ⟨b,r,rfl,_⟩:=h.head
 simp
theorem mQ:∀(vs:List (List UInt8)),(∀w∈vs,0<w.length)→vs.length≤vs.flatten.length
 |[],_=>Nat.le_refl _
 |v :: vs,h=>by
  have h1:=h v List.mem_cons_self
  have h2:=mQ vs fun w hw=>h w (List.mem_cons_of_mem _ hw)
  simp only [List.length_cons,List.flatten_cons,List.length_append];omega
theorem dW {vs:List (List UInt8)}(j:Nat):cat vs j≤vs.flatten.length:=by
 have e:vs.flatten=(vs.take j).flatten++(vs.drop j).flatten:=by rw [←List.flatten_append,List.take_append_drop]
 unfold cat
 rw [e,List.length_append];omega
theorem wh {k:Nat}(hk:200≤k){s v:List UInt8}(b:Bool)(hv:v=if b then eo [] else bH []){p:Nat}(h:At s p v)(hs:s.length≤100000)(D:Int):ap.f aV k s (p:Int) D=some ((p+v.length:Nat):Int):=by
 obtain ⟨k,rfl⟩:∃q,k=q+1:=⟨k - 1,by omega⟩
 obtain ⟨k,rfl⟩:∃q,k=q+1:=⟨k - 1,by omega⟩
 have hl:=h.le
 have row:∀c:UInt8,At s (p+1) [c]→p+1<s.length→ap.l1 aV (k+1) (k+1) s ((p+1:Nat):Int) D (c.toNat:Int)=some ((p+2:Nat):Int):=by
  intro c hc hlt
  have hh:=At.head hc
  rw [ap.l1_eq,dT (show ((p+1:Nat):Int)<(s.length:Int) by omega),cT,hh,bS,bne_self_eq_false,cF,bS,BEq.rfl,cT,bM (by omega),cT]
  cases decide (D>0)<;>rfl
 subst hv
 cases b with
 |true=>
  have hl':p+2≤s.length:=hl
  have hh:At s p (91 :: [93]):=h
  have hr:At s (p+1) [93]:=At.right (a:=[91]) hh
  rw [ap.f_eq,dF (by omega),cF,hh.head,bS,show (((91:UInt8).toNat:Int))=91 from rfl]
  simp only [show ((91:Int)==110)=false from by decide,show ((91:Int)==116)=false from by decide,show ((91:Int)==102)=false from by decide,show ((91:Int)==105)=false from by decide,show ((91:Int)==115)=false from by decide,BEq.rfl,cT,cF]
  rw [bS,bM (by omega),show IntKind.u8.wrap (((91:UInt8).toNat:Int)+2)=(((93:UInt8)).toNat:Int) from by decide]
  exact row 93 hr (by omega)
 |false=>
  have hl':p+2≤s.length:=hl
  have hh:At s p (123 :: [125]):=h
  have hr:At s (p+1) [125]:=At.right (a:=[123]) hh
  rw [ap.f_eq,dF (by omega),cF,hh.head,bS,show (((123:UInt8).toNat:Int))=123 from rfl]
  simp only [show ((123:Int)==110)=false from by decide,show ((123:Int)==116)=false from by decide,show ((123:Int)==102)=false from by decide,show ((123:Int)==105)=false from by decide,show ((123:Int)==115)=false from by decide,show ((123:Int)==91)=false from by decide,BEq.rfl,cT,cF]
  rw [bS,bM (by omega),show IntKind.u8.wrap (((123:UInt8).toNat:Int)+2)=(((125:UInt8)).toNat:Int) from by decide]
  exact row 125 hr (by omega)
theorem wH:∀(d:Nat) {k:Nat},100200+d≤k→∀{s v:List UInt8},Tx d v→∀{p:Nat},At s p v→s.length≤100000→∀{D:Int},(d:Int)≤D→D≤100→ap.f aV k s (p:Int) D=some ((p+v.length:Nat):Int)
 |0,k,hk,s,v,hv,p,h,hs,D,_,_=>by
  rcases hv with hv|hv|hv
  ·exact vH (by omega) hv h (by omega) D
  ·exact wh (by omega) true hv h hs D
  ·exact wh (by omega) false hv h hs D
 |d+1,k,hk,s,v,hv,p,h,hs,D,hD,hD2=>by
  rcases hv with hv|⟨vs,hvs,hv⟩
  ·exact vH (by omega) hv h (by omega) D
  obtain ⟨k,rfl⟩:∃q,k=q+1:=⟨k - 1,by omega⟩
  have hl:=h.le
  have hvl:v.length=vs.flatten.length+2:=by
   rcases hv with rfl|rfl
   ·unfold eo;simp only [List.length_append,List.length_cons,List.length_nil];omega
   ·unfold bH;simp only [List.length_append,List.length_cons,List.length_nil];omega
  have hn:=mQ vs fun w hw=>(hvs w hw).pos
  -- the row
  have row:∀c:UInt8,(c=93∨c=125)→At s (p+1) (vs.flatten++[c])→ap.l1 aV k k s ((p+1:Nat):Int) D (c.toNat:Int)=some ((p+v.length:Nat):Int):=by
   intro c hc hrow
   have hfl:=hrow.left
   have hlast:=hrow.right
   have key:=ck (F:=fun n j=>ap.l1 aV k n s ((p+1+cat vs j:Nat):Int) D (c.toNat:Int)) (N:=vs.length) (r:=some ((p+v.length:Nat):Int)) ?_ ?_ k 0 (by omega) (by omega)
   ·exact key
   ·intro n j hj
    have hw:=hvs _ (List.getElem_mem hj)
    have hat:=hfl.cat hj
    obtain ⟨b,hb,n1,n2⟩:=B6 hw hat
    have hle:=hat.le
    have hp:=hw.pos
    have hne:((b.toNat:Int) != (c.toNat:Int))=true:=by
     rw [bne_iff_ne]
     intro e
     have:b=c:=UInt8.toNat_inj.1 (by omega)
     rcases hc with rfl|rfl
     ·exact n1 this
     ·exact n2 this
    rw [ap.l1_eq,dT (by omega),cT,dT (by omega),cT,hb,bS,hne,cT,bR (D - 1) (by omega),wH d (k:=k) (by omega) hw hat hs (by omega) (by omega),bS,dF (by omega),cF,il hj,Nat.add_assoc (p+1)]
   ·intro n
    have hh:rd s ((p+1+cat vs vs.length:Nat):Int)=some c:=by rw [t6];exact At.head hlast
    have hle:=hlast.le
    rw [List.length_singleton] at hle
    have e:=t6 vs
    have hne:((c.toNat:Int) != (c.toNat:Int))=false:=by simp
    rw [ap.l1_eq,dT (by omega),cT,dT (by omega),cT,hh,bS,hne,cF,bS,BEq.rfl,cT,cT,bM (by omega),show p+1+cat vs vs.length+1=p+v.length by omega]
  rcases hv with rfl|rfl
  ·have hh:At s p (91 :: (vs.flatten++[93])):=by have:=h;unfold eo at this;simpa using this
   have hr:At s (p+1) (vs.flatten++[93]):=At.right (a:=[91]) hh
   rw [ap.f_eq,dF (by omega),cF,hh.head,bS,show (((91:UInt8).toNat:Int))=91 from rfl]
   simp only [show ((91:Int)==110)=false from by decide,show ((91:Int)==116)=false from by decide,show ((91:Int)==102)=false from by decide,show ((91:Int)==105)=false from by decide,show ((91:Int)==115)=false from by decide,BEq.rfl,cT,cF]
   rw [bS,bM (by omega),show IntKind.u8.wrap (((91:UInt8).toNat:Int)+2)=(((93:UInt8)).toNat:Int) from by decide]
   exact row 93 (.inl rfl) hr
  ·have hh:At s p (123 :: (vs.flatten++[125])):=by have:=h;unfold bH at this;simpa using this
   have hr:At s (p+1) (vs.flatten++[125]):=At.right (a:=[123]) hh
   rw [ap.f_eq,dF (by omega),cF,hh.head,bS,show (((123:UInt8).toNat:Int))=123 from rfl]
   simp only [show ((123:Int)==110)=false from by decide,show ((123:Int)==116)=false from by decide,show ((123:Int)==102)=false from by decide,show ((123:Int)==105)=false from by decide,show ((123:Int)==115)=false from by decide,show ((123:Int)==91)=false from by decide,BEq.rfl,cT,cF]
   rw [bS,bM (by omega),show IntKind.u8.wrap (((123:UInt8).toNat:Int)+2)=(((125:UInt8)).toNat:Int) from by decide]
   exact row 125 (.inr rfl) hr
theorem At.whole (v:List UInt8):At v 0 v:=⟨[],[],by simp,rfl⟩
theorem Tx.mono:∀(d:Nat) {v:List UInt8},Tx d v→Tx (d+1) v
 |0,_,h=>by
  rcases h with h|rfl|rfl
  ·exact .inl h
  ·exact .inr ⟨[],(fun w hw=>by cases hw),.inl rfl⟩
  ·exact .inr ⟨[],(fun w hw=>by cases hw),.inr rfl⟩
 |d+1,_,h=>by
  rcases h with h|⟨vs,hvs,hv⟩
  ·exact .inl h
  ·exact .inr ⟨vs,fun w hw=>Tx.mono d (hvs w hw),hv⟩
theorem Tx.up {d e:Nat}{v:List UInt8}(h:Tx d v)(hde:d≤e):Tx e v:=by
 induction e with
 |zero=>rw [show d=0 by omega] at h;exact h
 |succ e ih=>
  by_cases hd:d≤e
  ·exact (ih hd).mono
  ·rw [show d=e+1 by omega] at h;exact h
theorem gY {k:Nat}(hk:100300≤k){v:List UInt8}(hv:Tx 4 v)(hl:v.length≤65536):ap.f aV k v 0 4=some ((v.length:Nat):Int):=by
 have:=wH 4 (k:=k) (by omega) hv (At.whole v) (by omega) (D:=4) (by omega) (by omega)
 rw [show ((0:Nat):Int)=0 from rfl,Nat.zero_add] at this
 exact this
theorem yx {k:Nat}(hk:100301≤k):ae.f aV k [110]=some (-1,[],0):=by
 obtain ⟨k,rfl⟩:∃q,k=q+1:=⟨k - 1,by omega⟩
 have:=gY (k:=k) (by omega) (eE.n.tx 4) (by decide)
 rw [ae.f_eq,dF (by decide),Bool.not_false,cT,this,bS]
 rfl
theorem wS {k:Nat}(hk:100301≤k)(b:Bool):ae.f aV k (ku b)=some (1,[ku b],0):=by
 obtain ⟨k,rfl⟩:∃q,k=q+1:=⟨k - 1,by omega⟩
 cases b with
 |true=>
  have:=gY (k:=k) (by omega) (eE.t.tx 4) (by decide)
  show ae.f aV (k+1) [116]=_
  rw [ae.f_eq,dF (by decide),Bool.not_false,cT,this,bS]
  rfl
 |false=>
  have:=gY (k:=k) (by omega) (eE.f.tx 4) (by decide)
  show ae.f aV (k+1) [102]=_
  rw [ae.f_eq,dF (by decide),Bool.not_false,cT,this,bS]
  rfl
theorem uF {k:Nat}(hk:100301≤k){l:List UInt8}(hl:(dd l).length≤65536):ae.f aV k (dd l)=some (2,[l],0):=by
 obtain ⟨k,rfl⟩:∃q,k=q+1:=⟨k - 1,by omega⟩
 have hx:dw ((l.length:Nat):Int)=og l.length:=sj _
 have hlen:(dd l).length=(og l.length).length+2+l.length:=by unfold dd;simp only [List.length_append,List.length_cons,List.length_nil];omega
 obtain ⟨c1,c2⟩:=km (x:=((l.length:Nat):Int)) (by omega) (by omega)
 rw [hx] at c1 c2
 have:=gY (k:=k) (by omega) ((eE.s l (by omega)).tx 4) (by omega)
 have hh:At (dd l) 0 (115 :: (og l.length++[58]++l)):=by have:=At.whole (dd l);unfold dd at this ⊢;simpa using this
 have hd:=hh.head
 rw [show ((0:Nat):Int)=0 from rfl] at hd
 have hb1:At (dd l) 0 (([115]++og l.length)++[58]):=At.left (b:=l) (At.whole _)
 have hu:=uz (k:=k) (by omega) (m:=[115]++og l.length) (c:=58) (p:=0) hb1 (by simp;omega) (fun b hb=>by
  rcases List.mem_append.1 hb with hb|hb
  ·rw [List.mem_singleton.1 hb];decide
  ·exact (c2 b hb).1) (by omega)
 rw [List.length_append,List.length_singleton,show (((58:UInt8).toNat:Int))=58 from rfl,show ((0:Nat):Int)=0 from rfl] at hu
 rw [ae.f_eq,dF (by omega),Bool.not_false,cT,this,bS,show (((dd l).length:Int) != ((dd l).length:Int))=false by simp,cF,hd,bS,show (((115:UInt8).toNat:Int))=115 from rfl]
 simp only [show ((115:Int)==110)=false from by decide,show ((115:Int)==105)=false from by decide,show ((115:Int)==116)=false from by decide,show ((115:Int)==102)=false from by decide,BEq.rfl,cT,cF]
 rw [hu,bS,bM (by omega),dT (by omega),dT (by omega)]
 simp only [Bool.and_self,cT,Int.toNat_natCast]
 have e:(dd l).drop (0+(1+(og l.length).length)+1)=l:=by
  unfold dd
  rw [List.drop_left']
  simp only [List.length_append,List.length_cons,List.length_nil];omega
 rw [List.take_length,e]
theorem ta {k:Nat}(hk:100301≤k){d:Nat}(hd:d+1≤4){vs:List (List UInt8)}(hvs:∀w∈vs,Tx d w)(b:Bool)(hl:vs.flatten.length≤65534):
  ae.f aV k (if b then eo vs else bH vs)=some (if b then 3 else 4,vs,0):=by
 obtain ⟨k,rfl⟩:∃q,k=q+1:=⟨k - 1,by omega⟩
 generalize hv:(if b then eo vs else bH vs)=v
 have hvl:v.length=vs.flatten.length+2:=by
  rw [←hv]
  cases b
  ·simp only [Bool.false_eq_true,if_false];unfold bH;simp only [List.length_append,List.length_cons,List.length_nil];omega
  ·simp only [if_true];unfold eo;simp only [List.length_append,List.length_cons,List.length_nil];omega
 have htx:Tx (d+1) v:=.inr ⟨vs,hvs,by rw [←hv];cases b<;>simp⟩
 have hen:=gY (k:=k) (by omega) (htx.up hd) (by omega)
 have hn:=mQ vs fun w hw=>(hvs w hw).pos
 have hfl:At v 1 vs.flatten:=by
  rw [←hv]
  cases b
  ·simp only [Bool.false_eq_true,if_false];unfold bH;exact ⟨[123],[125],by simp,rfl⟩
  ·simp only [if_true];unfold eo;exact ⟨[91],[93],by simp,rfl⟩
 have hd0:rd v 0=some (if b then 91 else 123):=by
  have hh:At v 0 ((if b then 91 else 123) :: (vs.flatten++[if b then 93 else 125])):=by
   rw [←hv]
   cases b
   ·exact ⟨[],[],by simp [bH],rfl⟩
   ·exact ⟨[],[],by simp [eo],rfl⟩
  exact hh.head
 have row:ae.l1 aV k k v 1 []=some (if b then 3 else 4,vs,0):=by
  have key:=ck (F:=fun n j=>ae.l1 aV k n v ((1+cat vs j:Nat):Int) (vs.take j)) (N:=vs.length) (r:=some (if b then 3 else 4,vs,0)) ?_ ?_ k 0 (by omega) (by omega)
  ·exact key
  ·intro n j hj
   have hw:=hvs _ (List.getElem_mem hj)
   have hat:=hfl.cat hj
   have hle:=hat.le
   have hp:=hw.pos
   have hsl:=hat.slice
   have hc:=dW (vs:=vs) (j+1)
   rw [il hj] at hc
   have hend:=wH d (k:=k) (by omega) hw hat (by omega) (D:=4) (by omega) (by omega)
   rw [ae.l1_eq,bR ((v.length:Int) - 1) (by omega),dT (by omega),cT,hend,bS,dT (by omega),dT (by omega),dT (by omega),dT (by omega)]
   simp only [Bool.and_self,cT,Int.toNat_natCast]
   rw [hsl,dT (by simp only [List.length_take,List.length_cons,List.length_nil];omega),cT,il hj,←List.take_succ_eq_append_getElem hj,Nat.add_assoc 1]
  ·intro n
   have e:=t6 vs
   rw [ae.l1_eq,bR ((v.length:Int) - 1) (by omega),dF (by omega),cF,hd0,bS,List.take_length]
   cases b<;>rfl
 rw [ae.f_eq,dF (by omega),Bool.not_false,cT,hen,bS,show ((v.length:Int) != (v.length:Int))=false by simp,cF,hd0,bS]
 have q1:((((if b then 91 else 123:UInt8)).toNat:Int)==110)=false:=by cases b<;>rfl
 have q2:((((if b then 91 else 123:UInt8)).toNat:Int)==105)=false:=by cases b<;>rfl
 have q3:((((if b then 91 else 123:UInt8)).toNat:Int)==116)=false:=by cases b<;>rfl
 have q4:((((if b then 91 else 123:UInt8)).toNat:Int)==102)=false:=by cases b<;>rfl
 have q5:((((if b then 91 else 123:UInt8)).toNat:Int)==115)=false:=by cases b<;>rfl
 simp only [q1,q2,q3,q4,q5,cF]
 show ae.j13 aV k v=_
 rw [ae.j13_eq]
 exact row
def dp (t:List aI)(a:Int):Nat:=5 - (eg t a).length
theorem o0 {t:List aI}(hm:gQ t=true){i j:Nat}(hj:j<(ag t (i:Int)).length):dp t (i:Int)=dp t (c9 t (i:Int) j)+1:=by
 have hmem:c9 t (i:Int) j∈ag t (i:Int):=by unfold c9;rw [lh hj];exact List.getElem_mem hj
 obtain ⟨q,h1,_,h3,h4⟩:=jA.1 hmem
 have hs:=fm hm
 have hw:=qq hs h1
 have h5:=(((cZ t).1 hm).2.2 q h1).2
 unfold dp
 rw [h4,hw,h3]
 rw [hw,h3] at h5
 simp only [List.length_cons] at h5 ⊢
 omega
theorem Gi {t:List aI}(hm:gQ t=true){i:Nat}(hi:i<t.length):dp t (i:Int)≤4:=by
 have:=vA (fm hm) i hi
 unfold dp;omega
theorem tw {k n:Nat}{t:List aI}{ps:List (List UInt8)}{ks:List Int}{kd:Int}(hk:2≤k)(hin:cS kd=false):ah.l0 aV k (n+1) kd 0 t ps ks=some true:=by
 rw [ah.l0_eq,gk (by omega),hin]
 cases decide ((0:Int)<(ps.length:Int))<;>rfl
def qh (x:Int):Prop:=-9223372036854775808≤x∧x≤9223372036854775807
inductive mA:List UInt8→Int→List (List UInt8)→Prop
 |n:mA [110] (-1) []
 |i (x:Int) (h:qh x):mA (eI x) 0 [dw x]
 |b (b:Bool):mA (ku b) 1 [ku b]
 |s (l:List UInt8):mA (dd l) 2 [l]
 |l (vs:List (List UInt8)) (h:∀w∈vs,Tx 3 w):mA (eo vs) 3 vs
 |r (vs:List (List UInt8)) (h:∀w∈vs,Tx 3 w):mA (bH vs) 4 vs
theorem wN {k:Nat}(hk:100301≤k){x:Int}(h:qh x):ae.f aV k (eI x)=some (0,[dw x],0):=by
 obtain ⟨h0,h1⟩:=h
 obtain ⟨k,rfl⟩:∃q,k=q+1:=⟨k - 1,by omega⟩
 obtain ⟨c1,_⟩:=km h0 h1
 have hlen:(eI x).length=(dw x).length+2:=by unfold eI;simp only [List.length_append,List.length_cons,List.length_nil];omega
 have:=gY (k:=k) (by omega) ((eE.i x h0 h1).tx 4) (by omega)
 have hh:At (eI x) 0 (105 :: (dw x++[59])):=At.whole _
 have hd:=hh.head
 rw [show ((0:Nat):Int)=0 from rfl] at hd
 have hs:At (eI x) 1 (dw x++[59]):=At.right (a:=[105]) hh
 have hsl:=hs.left.slice
 rw [ae.f_eq,dF (by omega),Bool.not_false,cT,this,bS,show (((eI x).length:Int) != ((eI x).length:Int))=false by simp,cF,hd,bS,show (((105:UInt8).toNat:Int))=105 from rfl]
 simp only [show ((105:Int)==110)=false from by decide,BEq.rfl,cT,cF]
 rw [bR _ (by omega),dT (by omega),dT (by omega),dT (show (0:Nat)≤1 by omega),dT (by omega)]
 simp only [Bool.and_self,cT]
 rw [show ((((eI x).length:Nat):Int) - 1).toNat=1+(dw x).length by omega,hsl]
theorem px {k:Nat}(hk:100301≤k){v:List UInt8}{kd:Int}{ps:List (List UInt8)}(h:mA v kd ps)(hl:v.length≤65536):ae.f aV k v=some (kd,ps,0):=by
 cases h with
 |n=>exact yx hk
 |i x h=>exact wN hk h
 |b b=>exact wS hk b
 |s l=>exact uF hk hl
 |l vs h=>
  have:=ta hk (d:=3) (by omega) h true (by unfold eo at hl;simp only [List.length_append,List.length_cons,List.length_nil] at hl;omega)
  simpa using this
 |r vs h=>
  have:=ta hk (d:=3) (by omega) h false (by unfold bH at hl;simp only [List.length_append,List.length_cons,List.length_nil] at hl;omega)
  simpa using this
inductive Vl where
 |n
 |i (x:Int)
 |b (b:Bool)
 |s (l:List UInt8)
 |l (vs:List Vl)
 |r (vs:List Vl)
mutual
def Vl.txt:Vl→List UInt8
 |.n=>[110]
 |.i x=>eI x
 |.b c=>ku c
 |.s y=>dd y
 |.l vs=>[91]++Vl.txts vs++[93]
 |.r vs=>[123]++Vl.txts vs++[125]
def Vl.txts:List Vl→List UInt8
 |[]=>[]
 |v :: vs=>v.txt++Vl.txts vs
end
theorem rA:∀vs:List Vl,Vl.txts vs=(vs.map Vl.txt).flatten
 |[]=>by simp [Vl.txts]
 |v :: vs=>by rw [Vl.txts,rA vs];rfl
theorem sQ (vs:List Vl):(Vl.l vs).txt=eo (vs.map Vl.txt):=by rw [Vl.txt,rA];rfl
theorem o9 (vs:List Vl):(Vl.r vs).txt=bH (vs.map Vl.txt):=by rw [Vl.txt,rA];rfl
def cz:Nat→List aI→Int→Vl→Prop
 |0,_,_,_=>False
 |f+1,t,a,v=>b9 t a=true∧match v with
  |.n=>yj t a.toNat=true
  |.i x=>bK t a.toNat=0∧qh x
  |.b _=>bK t a.toNat=1
  |.s l=>bK t a.toNat=2∧l.length≤16
  |.l vs=>bK t a.toNat=3∧vs.length≤64∧∀w∈vs,cz f t (c9 t a 0) w
  |.r vs=>bK t a.toNat=4∧vs.length=(ag t a).length∧∀j (h:j<vs.length),cz f t (c9 t a j) vs[j]
theorem yI {t:List aI}(hm:gQ t=true){i:Nat}(hi:i<t.length)(h:bK t i=3):(ag t (i:Int)).length=1:=by
 have:=(((cZ t).1 hm).2.2 i hi).1
 unfold iQ at this
 rw [h] at this
 simp only [Bool.and_eq_true,Bool.or_eq_true,Bool.not_eq_true',beq_eq_false_iff_ne,beq_iff_eq] at this
 rcases this.1 with h|h
 ·exact absurd rfl h
 ·exact h
theorem G3 {t:List aI}(hm:gQ t=true){i:Nat}(hi:i<t.length)(h:bK t i=4):0<(ag t (i:Int)).length:=by
 have:=(((cZ t).1 hm).2.2 i hi).1
 unfold iQ at this
 rw [h] at this
 simp only [Bool.and_eq_true,Bool.or_eq_true,Bool.not_eq_true',beq_eq_false_iff_ne] at this
 rcases this.2 with h|h
 ·simp at h
 ·omega
theorem cz.tx:∀(f:Nat) {t:List aI}{a:Int}{v:Vl},cz f t a v→Tx (dp t a) v.txt
 |0,_,_,_,h=>h.elim
 |f+1,t,a,v,h=>by
  obtain ⟨hn,h⟩:=h
  obtain ⟨hm,i,hi,rfl⟩:=bC hn
  rw [Int.toNat_natCast] at h
  cases v with
  |n=>rw [Vl.txt];exact eE.n.tx _
  |i x=>rw [Vl.txt];exact (eE.i x h.2.1 h.2.2).tx _
  |b b=>
   rw [Vl.txt]
   cases b with
   |false=>exact eE.f.tx _
   |true=>exact eE.t.tx _
  |s l=>rw [Vl.txt];exact (eE.s l (by have:=h.2;omega)).tx _
  |l vs=>
   obtain ⟨h3,h64,h⟩:=h
   rw [sQ,o0 hm (i:=i) (j:=0) (by rw [yI hm hi h3];omega)]
   refine .inr ⟨_,fun w hw=>?_,.inl rfl⟩
   obtain ⟨u,hu,rfl⟩:=List.mem_map.1 hw
   exact (h u hu).tx f
  |r vs=>
   obtain ⟨h4,hl,h⟩:=h
   have hk:=G3 hm hi h4
   rw [o9,o0 hm (i:=i) (j:=0) hk]
   refine .inr ⟨_,fun w hw=>?_,.inr rfl⟩
   obtain ⟨u,hu,rfl⟩:=List.mem_map.1 hw
   obtain ⟨j,hj,rfl⟩:=List.mem_iff_getElem.1 hu
   have:=(h j hj).tx f
   have e1:=o0 hm (i:=i) (j:=0) hk
   have e2:=o0 hm (i:=i) (j:=j) (by omega)
   rw [show dp t (c9 t (i:Int) 0)=dp t (c9 t (i:Int) j) by omega]
   exact this
def Vl.kd:Vl→Int
 |.n=>-1|.i _=>0|.b _=>1|.s _=>2|.l _=>3|.r _=>4
def Vl.ps:Vl→List (List UInt8)
 |.n=>[]|.i x=>[dw x]|.b c=>[ku c]|.s y=>[y]|.l vs=>vs.map Vl.txt|.r vs=>vs.map Vl.txt
theorem cz.shape {f:Nat}{t:List aI}{a:Int}{v:Vl}(h:cz f t a v):mA v.txt v.kd v.ps:=by
 have htx:=h.tx f
 cases f with
 |zero=>exact h.elim
 |succ f=>
  obtain ⟨hn,h⟩:=h
  obtain ⟨hm,i,hi,rfl⟩:=bC hn
  have hd:=Gi hm hi
  rw [Int.toNat_natCast] at h
  cases v with
  |n=>rw [Vl.txt];exact .n
  |i x=>rw [Vl.txt];exact .i x h.2
  |b b=>rw [Vl.txt];exact .b b
  |s l=>rw [Vl.txt];exact .s l
  |l vs=>
   rw [sQ]
   refine mA.l (vs.map Vl.txt) fun w hw=>?_
   obtain ⟨u,hu,rfl⟩:=List.mem_map.1 hw
   have e:=o0 hm (i:=i) (j:=0) (by rw [yI hm hi h.1];omega)
   exact ((h.2.2 u hu).tx f).up (by omega)
  |r vs=>
   rw [o9]
   refine mA.r (vs.map Vl.txt) fun w hw=>?_
   obtain ⟨u,hu,rfl⟩:=List.mem_map.1 hw
   obtain ⟨j,hj,rfl⟩:=List.mem_iff_getElem.1 hu
   have e:=o0 hm (i:=i) (j:=j) (by have:=h.2.1;omega)
   exact ((h.2.2 j hj).tx f).up (by omega)
theorem cz.parts {f k:Nat}(hk:100301≤k){t:List aI}{a:Int}{v:Vl}(h:cz f t a v)(hl:v.txt.length≤65536):ae.f aV k v.txt=some (v.kd,v.ps,0):=
 px hk h.shape hl
theorem yY {k:Nat}(hk:100≤k){t:List aI}{i:Nat}(hn:b9 t (i:Int)=true)(hi:i<t.length){v:List UInt8}{kd:Int}{ps:List (List UInt8)}(hp:ae.f aV k v=some (kd,ps,0))(h0:kd<0):ah.f aV (k+1) t (i:Int) v=some (yj t i):=by
 rw [ah.f_eq,c6 (by omega),bS,hn,Bool.not_true,cF,aE hi,bS,hp,bS]
 simp only
 rw [show ((0:Int) != 0)=false from rfl,cF,kt hi,dT h0,cT]
theorem pd {k:Nat}(hk:100≤k){t:List aI}{i:Nat}(hn:b9 t (i:Int)=true)(hi:i<t.length){v:List UInt8}{kd:Int}{ps:List (List UInt8)}(hp:ae.f aV k v=some (kd,ps,0))(h0:0≤kd)(hkd:kd=bK t i)(h2:kd<2):ah.f aV (k+1) t (i:Int) v=some true:=by
 rw [ah.f_eq,c6 (by omega),bS,hn,Bool.not_true,cF,aE hi,bS,hp,bS]
 simp only
 rw [show ((0:Int) != 0)=false from rfl,cF,kt hi,dF (by omega),cF,fg (by omega),bS,bY hi]
 unfold kA
 rw [if_pos hn]
 simp only
 obtain ⟨k,rfl⟩:∃q,k=q+1:=⟨k - 1,by omega⟩
 rw [show (kd != bK t i)=false by rw [hkd];simp,Bool.not_false,cT,show (kd==2)=false by rw [beq_eq_false_iff_ne];omega,cF,show (kd==3)=false by rw [beq_eq_false_iff_ne];omega,cF,show (kd==4)=false by rw [beq_eq_false_iff_ne];omega,cF,
  tw (by omega) (by unfold cS;rw [show (kd==3)=false by rw [beq_eq_false_iff_ne];omega,show (kd==4)=false by rw [beq_eq_false_iff_ne];omega];rfl)]
theorem wZ {k:Nat}(hk:100≤k){t:List aI}{i:Nat}(hn:b9 t (i:Int)=true)(hi:i<t.length){v:List UInt8}{l:List UInt8}(hp:ae.f aV k v=some (2,[l],0))(hkd:bK t i=2):ah.f aV (k+1) t (i:Int) v=some (decide (l.length≤16)):=by
 rw [ah.f_eq,c6 (by omega),bS,hn,Bool.not_true,cF,aE hi,bS,hp,bS]
 simp only
 rw [show ((0:Int) != 0)=false from rfl,cF,kt hi,dF (by omega),cF,fg (by omega),bS,bY hi]
 unfold kA
 rw [if_pos hn]
 simp only
 obtain ⟨k,rfl⟩:∃q,k=q+1:=⟨k - 1,by omega⟩
 rw [show ((2:Int) != bK t i)=false by rw [hkd];rfl,Bool.not_false,cT,show ((2:Int)==2)=true from rfl,cT,show (decide ((0:Nat)≤0)&&decide ((0:Int)<(([l]:List (List UInt8)).length:Int)))=true from rfl,cT,show ([l]:List (List UInt8))[0]?=some l from rfl,bS]
 by_cases hl:l.length≤16
 ·rw [dF (by omega),Bool.not_false,cT,show ((2:Int)==3)=false from rfl,cF,show ((2:Int)==4)=false from rfl,cF,tw (by omega) rfl,dT hl]
 ·rw [dT (show ((l.length:Int))>16 by omega),Bool.not_true,cF,dF hl]
theorem yt {k:Nat}(hk:100≤k){t:List aI}{i:Nat}(hn:b9 t (i:Int)=true)(hi:i<t.length){v:List UInt8}{ps:List (List UInt8)}(hp:ae.f aV k v=some (3,ps,0))(hkd:bK t i=3):ah.f aV (k+1) t (i:Int) v=if 64<ps.length then some false else ah.l0 aV k k 3 0 t ps (ag t (i:Int)):=by
 rw [ah.f_eq,c6 (by omega),bS,hn,Bool.not_true,cF,aE hi,bS,hp,bS]
 simp only
 rw [show ((0:Int) != 0)=false from rfl,cF,kt hi,dF (by omega),cF,fg (by omega),bS,bY hi]
 unfold kA
 rw [if_pos hn]
 simp only
 rw [show ((3:Int) != bK t i)=false by rw [hkd];rfl,Bool.not_false,cT,show ((3:Int)==2)=false from rfl,cF,show ((3:Int)==3)=true from rfl,cT]
 by_cases hl:64<ps.length
 ·rw [dT (by omega),Bool.not_true,cF,if_pos hl]
 ·rw [dF (by omega),Bool.not_false,cT,if_neg hl]
  rfl
theorem vW {k:Nat}(hk:100≤k){t:List aI}{i:Nat}(hn:b9 t (i:Int)=true)(hi:i<t.length){v:List UInt8}{ps:List (List UInt8)}(hp:ae.f aV k v=some (4,ps,0))(hkd:bK t i=4):ah.f aV (k+1) t (i:Int) v=if ps.length=(ag t (i:Int)).length then ah.l0 aV k k 4 0 t ps (ag t (i:Int)) else some false:=by
 rw [ah.f_eq,c6 (by omega),bS,hn,Bool.not_true,cF,aE hi,bS,hp,bS]
 simp only
 rw [show ((0:Int) != 0)=false from rfl,cF,kt hi,dF (by omega),cF,fg (by omega),bS,bY hi]
 unfold kA
 rw [if_pos hn]
 simp only
 rw [show ((4:Int) != bK t i)=false by rw [hkd];rfl,Bool.not_false,cT,show ((4:Int)==2)=false from rfl,cF,show ((4:Int)==3)=false from rfl,cF,show ((4:Int)==4)=true from rfl,cT]
 by_cases hl:ps.length=(ag t (i:Int)).length
 ·rw [show ((ps.length:Int) != ((ag t (i:Int)).length:Int))=false by rw [hl];simp,cF,if_pos hl]
 ·rw [show ((ps.length:Int) != ((ag t (i:Int)).length:Int))=true by rw [bne_iff_ne];omega,cT,if_neg hl]
theorem oV:∀(f:Nat) {t:List aI}{a:Int}{v:Vl},cz f t a v→v.txt.length≤65536→∀k,100400+f≤k→ah.f aV k t a v.txt=some true
 |0,_,_,_,h,_,_,_=>h.elim
 |f+1,t,a,v,h,hlen,k,hk=>by
  have hsh:=h.shape
  obtain ⟨hn,h⟩:=h
  obtain ⟨hm,i,hi,rfl⟩:=bC hn
  rw [Int.toNat_natCast] at h
  obtain ⟨k,rfl⟩:∃q,k=q+1:=⟨k - 1,by omega⟩
  obtain ⟨k,rfl⟩:∃q,k=q+1:=⟨k - 1,by omega⟩
  have hp:=px (k:=k+1) (by omega) hsh hlen
  cases v with
  |n=>rw [yY (by omega) hn hi hp (by decide),h]
  |i x=>
   exact pd (by omega) hn hi hp (show (0:Int)≤0 by decide) h.1.symm (show (0:Int)<2 by decide)
  |b b=>
   exact pd (by omega) hn hi hp (show (0:Int)≤1 by decide) h.symm (show (1:Int)<2 by decide)
  |s l=>
   rw [wZ (by omega) hn hi hp h.1,dT h.2]
  |l vs=>
   obtain ⟨h3,h64,h⟩:=h
   have h1:=yI hm hi h3
   rw [sQ] at hlen
   have hlen':(vs.map Vl.txt).flatten.length+2=(eo (vs.map Vl.txt)).length:=by unfold eo;simp only [List.length_append,List.length_cons,List.length_nil];omega
   rw [yt (by omega) hn hi hp h3,if_neg (by simp only [Vl.ps];rw [List.length_map];omega)]
   simp only [Vl.ps]
   have hks0:=gm (t:=t) (a:=(i:Int)) (j:=0) (by omega)
   refine ck (F:=fun n j=>ah.l0 aV (k+1) n 3 (j:Int) t (vs.map Vl.txt) (ag t (i:Int))) (N:=vs.length) ?_ ?_ (k+1) 0 (by omega) (by omega)
   ·intro n j hj
    have hw:=h vs[j] (List.getElem_mem hj)
    have hwl:vs[j].txt.length≤(vs.map Vl.txt).flatten.length:=by
     have:=dW (vs:=vs.map Vl.txt) (j+1)
     rw [il (by rw [List.length_map];exact hj),List.getElem_map] at this
     omega
    have e1:(decide ((0:Nat)≤0)&&decide ((0:Int)<((ag t (i:Int)).length:Int)))=true:=by rw [h1];decide
    rw [ah.l0_eq,dT (by rw [List.length_map];omega),cT,gk (by omega),bS,show (!(!cS 3))=true from rfl,cT,e1,cT,hks0,bS,show ((3:Int)==4)=false from rfl,cF,dT (by omega)]
    simp only [Bool.and_self,cT,Int.toNat_natCast]
    rw [List.getElem?_eq_getElem (by rw [List.length_map];exact hj),bS,List.getElem_map,oV f hw (by omega) _ (by omega),bS,Bool.not_true,cF,bM (by omega)]
   ·intro n
    rw [ah.l0_eq,dF (by rw [List.length_map];omega),cF]
  |r vs=>
   obtain ⟨h4,hvl,h⟩:=h
   have hk0:=G3 hm hi h4
   rw [o9] at hlen
   have hlen':(vs.map Vl.txt).flatten.length+2=(bH (vs.map Vl.txt)).length:=by unfold bH;simp only [List.length_append,List.length_cons,List.length_nil];omega
   rw [vW (by omega) hn hi hp h4,if_pos (by simp only [Vl.ps];rw [List.length_map];exact hvl)]
   simp only [Vl.ps]
   have hkk:=cu t (i:Int) t.length
   have htl:=cw hm
   have hkl:(ag t (i:Int)).length≤8:=by unfold ag;omega
   have hks0:=gm (t:=t) (a:=(i:Int)) (j:=0) (by omega)
   refine ck (F:=fun n j=>ah.l0 aV (k+1) n 4 (j:Int) t (vs.map Vl.txt) (ag t (i:Int))) (N:=vs.length) ?_ ?_ (k+1) 0 (by omega) (by omega)
   ·intro n j hj
    have hw:=h j hj
    have hwl:vs[j].txt.length≤(vs.map Vl.txt).flatten.length:=by
     have:=dW (vs:=vs.map Vl.txt) (j+1)
     rw [il (by rw [List.length_map];exact hj),List.getElem_map] at this
     omega
    have hksj:=gm (t:=t) (a:=(i:Int)) (j:=j) (by omega)
    have e1:(decide ((0:Nat)≤0)&&decide ((0:Int)<((ag t (i:Int)).length:Int)))=true:=by rw [dT (show (0:Nat)≤0 by omega),dT (by omega)];rfl
    rw [ah.l0_eq,dT (by rw [List.length_map];omega),cT,gk (by omega),bS,show (!(!cS 4))=true from rfl,cT,e1,cT,hks0,bS,show ((4:Int)==4)=true from rfl,cT,dT (show (j:Int)<((ag t (i:Int)).length:Int) by omega),dT (show (0:Int)≤(j:Int) by omega)]
    simp only [Bool.and_self,cT,Int.toNat_natCast]
    rw [hksj,bS,List.getElem?_eq_getElem (by rw [List.length_map];exact hj),bS,List.getElem_map,oV f hw (by omega) _ (by omega),bS,Bool.not_true,cF,bM (by omega)]
   ·intro n
    rw [ah.l0_eq,dF (by rw [List.length_map];omega),cF]
theorem By {x:Int}:cM .and .u8 x 1=x % 2:=by
 rw [qA,D2]
 have e1:(1 % (2 ^ IntKind.u8.bits:Int)).toNat=1:=by decide
 rw [e1,Nat.and_one_is_mod]
 simp only [IntKind.bits]
 omega
theorem yu (x:Int)(n:Nat):Int.fdiv x (2 ^ n)=x / 2 ^ n:=Int.fdiv_eq_ediv_of_nonneg _ (Int.le_of_lt (Int.pow_pos (by omega)))
def dM (xs:List Bool)(q:Nat):Nat→Nat
 |0=>0
 |n+1=>dM xs q n+(if xs[8*q+n]?=some true then 2 ^ n else 0)
theorem nP (xs:List Bool)(q:Nat):∀n,dM xs q n<2 ^ n
 |0=>Nat.one_pos
 |n+1=>by
  have:=nP xs q n
  rw [dM,Nat.pow_succ]
  split<;>omega
theorem tD (xs:List Bool)(q:Nat):∀n r,dM xs q n / 2 ^ r % 2=if r<n∧xs[8*q+r]?=some true then 1 else 0
 |0,r=>by rw [dM,Nat.zero_div,if_neg (by omega)]
 |n+1,r=>by
  have hlt:=nP xs q n
  have ih:=tD xs q n r
  rw [dM]
  by_cases hr:r<n
  ·obtain ⟨d,hd⟩:∃d,n=r+1+d:=⟨n - (r+1),by omega⟩
   have e:∀z:Nat,(dM xs q n+2 ^ n*z) / 2 ^ r % 2=dM xs q n / 2 ^ r % 2:=by
    intro z
    have:2 ^ n*z=2 ^ r*(2*(2 ^ d*z)):=by rw [hd,Nat.pow_add,Nat.pow_succ];simp only [Nat.mul_assoc]
    rw [this,Nat.add_mul_div_left _ _ (Nat.two_pow_pos r),Nat.add_mul_mod_self_left]
   have h2:(r<n+1∧xs[8*q+r]?=some true)↔(r<n∧xs[8*q+r]?=some true):=by constructor<;>rintro ⟨_,h⟩<;>exact ⟨by omega,h⟩
   have goal:dM xs q n / 2 ^ r % 2=if r<n+1∧xs[8*q+r]?=some true then 1 else 0:=by
    rw [ih]
    by_cases hx:xs[8*q+r]?=some true
    ·rw [if_pos ⟨hr,hx⟩,if_pos ⟨by omega,hx⟩]
    ·rw [if_neg (fun h=>hx h.2),if_neg (fun h=>hx h.2)]
   split
   ·have:=e 1;rw [Nat.mul_one] at this;rw [this];exact goal
   ·rw [Nat.add_zero];exact goal
  ·by_cases hrn:r=n
   ·subst hrn
    by_cases hx:xs[8*q+r]?=some true
    ·rw [if_pos hx,if_pos ⟨by omega,hx⟩,Nat.add_div_right _ (Nat.two_pow_pos r),Nat.div_eq_of_lt hlt]
    ·rw [if_neg hx,if_neg (fun h=>hx h.2),Nat.add_zero,Nat.div_eq_of_lt hlt]
   ·have hlt2:dM xs q n+(if xs[8*q+n]?=some true then 2 ^ n else 0)<2 ^ r:=by
     have:2 ^ (n+1)≤2 ^ r:=Nat.pow_le_pow_right (by omega) (by omega)
     rw [Nat.pow_succ] at this
     split<;>omega
    rw [Nat.div_eq_of_lt hlt2,if_neg (by omega)]
def ia (xs:List Bool):List UInt8:=(List.range ((xs.length+7) / 8)).map fun q=>UInt8.ofNat (dM xs q 8)
theorem jz (xs:List Bool):(ia xs).length=(xs.length+7) / 8:=by unfold ia;rw [List.length_map,List.length_range]
theorem vO (xs:List Bool){i:Nat}(h:i<xs.length):CL (ia xs) i=xs[i]:=by
 have hl:=jz xs
 have hq:i / 8<(ia xs).length:=by omega
 have hb:(ia xs)[i / 8]=UInt8.ofNat (dM xs (i / 8) 8):=by simp [ia]
 have hlt:dM xs (i / 8) 8<256:=nP xs (i / 8) 8
 unfold CL
 rw [List.getElem?_eq_getElem hq,hb]
 simp only
 have e:(UInt8.ofNat (dM xs (i / 8) 8)).toNat=dM xs (i / 8) 8:=by rw [UInt8.toNat_ofNat'];omega
 have hm:min (i % 8) IntKind.u8.bits=i % 8:=by simp only [IntKind.bits];omega
 rw [e,hm,By,yu]
 have e2:((dM xs (i / 8) 8:Nat):Int) / 2 ^ (i % 8) % 2=((dM xs (i / 8) 8 / 2 ^ (i % 8) % 2:Nat):Int):=by push_cast;rfl
 rw [e2,tD,show 8*(i / 8)+i % 8=i by omega,List.getElem?_eq_getElem h]
 cases xs[i] with
 |true=>rw [if_pos ⟨by omega,rfl⟩];rfl
 |false=>rw [if_neg (by simp)];rfl
theorem zG {n:Int}(h0:0≤n)(h1:n≤1000000000000000):IntKind.i64.wrap (Int.tdiv (IntKind.i64.wrap (n+7)) 8)=j6 n:=by
 rw [bR (n+7) (by omega),Int.tdiv_eq_ediv_of_nonneg (by omega),bR _ (by omega)];rfl
def cL (xs:List Bool)(i:Nat):List Int:=(List.range ((xs.length+7) / 8)).map fun q=>((dM xs q (min 8 (i - 8*q)):Nat):Int)
theorem xH (xs:List Bool):aD (cL xs xs.length)=ia xs:=by
 unfold aD cL ia
 rw [List.map_map]
 refine List.map_congr_left fun q hq=>?_
 have hq:=List.mem_range.1 hq
 show UInt8.ofNat (((dM xs q (min 8 (xs.length - 8*q)):Nat):Int)).toNat=_
 rw [Int.toNat_natCast]
 congr 1
 by_cases h:8≤xs.length - 8*q
 ·rw [Nat.min_eq_left h]
 ·have key:∀d n,n+d=8→xs.length - 8*q≤n→dM xs q n=dM xs q 8:=by
   intro d
   induction d with
   |zero=>intro n h1 _;rw [show n=8 by omega]
   |succ d ih=>
    intro n h1 h2
    rw [←ih (n+1) (by omega) (by omega),dM,if_neg (by rw [List.getElem?_eq_none (by omega)];simp),Nat.add_zero]
  rw [Nat.min_eq_right (by omega)]
  exact key (8 - (xs.length - 8*q)) _ (by omega) (Nat.le_refl _)
theorem xF (e r:Nat)(hr:r<8)(he:e<2 ^ r):cM .or .u8 (e:Int) (IntKind.u8.wrap (1*2 ^ (min r IntKind.u8.bits)))=((e+2 ^ r:Nat):Int):=by
 have h2:2 ^ r≤128:=by
  have:2 ^ r≤2 ^ 7:=Nat.pow_le_pow_right (by omega) (by omega)
  omega
 have hm:min r IntKind.u8.bits=r:=by simp only [IntKind.bits];omega
 have hp:((2:Int) ^ r)=((2 ^ r:Nat):Int):=by push_cast;rfl
 rw [hm,Int.one_mul,hp,D2,sY]
 have e1:((e:Int) % (2 ^ IntKind.u8.bits:Int)).toNat=e:=by simp only [IntKind.bits];omega
 have e2:((((2 ^ r:Nat):Int) % 256) % (2 ^ IntKind.u8.bits:Int)).toNat=1*2 ^ r:=by simp only [IntKind.bits];omega
 rw [e1,e2,vD e 1 r he,D2]
 omega
theorem iJ {xs:List Bool}{i q:Nat}(hq:q<(xs.length+7) / 8):(cL xs i)[q]?=some ((dM xs q (min 8 (i - 8*q)):Nat):Int):=by
 unfold cL
 rw [List.getElem?_map,List.getElem?_range hq];rfl
theorem wU {xs:List Bool}{i:Nat}(h:i<xs.length)(hx:xs[i]=true):(cL xs i).set (i / 8) (((dM xs (i / 8) (i % 8)+2 ^ (i % 8):Nat)):Int)=cL xs (i+1):=by
 refine List.ext_getElem? fun q=>?_
 by_cases hq:q<(xs.length+7) / 8
 ·rw [List.getElem?_set]
  have hl:i / 8<(cL xs i).length:=by unfold cL;rw [List.length_map,List.length_range];omega
  by_cases hiq:i / 8=q
  ·rw [if_pos hiq,if_pos hl,iJ hq,←hiq,show min 8 (i+1 - 8*(i / 8))=i % 8+1 by omega,dM,show 8*(i / 8)+i % 8=i by omega,List.getElem?_eq_getElem h,hx,if_pos rfl]
  ·rw [if_neg hiq,iJ hq,iJ hq]
   congr 3
   omega
 ·rw [List.getElem?_eq_none (by rw [List.length_set];unfold cL;rw [List.length_map,List.length_range];omega),List.getElem?_eq_none (by unfold cL;rw [List.length_map,List.length_range];omega)]
theorem vU {xs:List Bool}{i:Nat}(h:i<xs.length)(hx:xs[i]=false):cL xs i=cL xs (i+1):=by
 unfold cL
 refine List.map_congr_left fun q _=>?_
 congr 1
 by_cases hiq:i / 8=q
 ·rw [←hiq,show min 8 (i+1 - 8*(i / 8))=i % 8+1 by omega,show min 8 (i - 8*(i / 8))=i % 8 by omega,dM,show 8*(i / 8)+i % 8=i by omega,List.getElem?_eq_getElem h,hx,if_neg (by simp),Nat.add_zero]
 ·rw [show min 8 (i+1 - 8*q)=min 8 (i - 8*q) by omega]
theorem sZ {k:Nat}{xs:List Bool}(hk:xs.length+3≤k)(hl:xs.length≤100000000000000):aF.f aV k xs=some (ia xs):=by
 obtain ⟨k,rfl⟩:∃q,k=q+1:=⟨k - 1,by omega⟩
 have hb:cK.f aV k ((xs.length:Nat):Int)=some (j6 (xs.length:Int)):=by
  obtain ⟨k,rfl⟩:∃q,k=q+1:=⟨k - 1,by omega⟩
  rw [cK.f_eq,zG (by omega) (by omega)]
 have hbb:j6 (xs.length:Int)=(((xs.length+7) / 8:Nat):Int):=by unfold j6;omega
 rw [aF.f_eq,hb,bS,BEq.rfl,hbb,dT (by omega),dT (by omega)]
 simp only [Bool.and_self,cT,Int.toNat_natCast]
 have h0:(List.replicate ((xs.length+7) / 8) (0:Int))=cL xs 0:=by
  unfold cL
  refine List.ext_getElem (by simp) fun q h1 h2=>?_
  simp [dM]
 rw [h0,←xH]
 refine ck (F:=fun n i=>aF.l0 aV k n xs (i:Int) (cL xs i)) (N:=xs.length) ?_ ?_ k 0 (by omega) (by omega)
 ·intro n i hi
  have hq:i / 8<(xs.length+7) / 8:=by omega
  have hlen:(cL xs i).length=(xs.length+7) / 8:=by unfold cL;rw [List.length_map,List.length_range]
  have e1:Int.tdiv (i:Int) 8=((i / 8:Nat):Int):=by rw [Int.tdiv_eq_ediv_of_nonneg (by omega)];omega
  have e2:Int.tmod (i:Int) 8=((i % 8:Nat):Int):=by rw [Int.tmod_eq_emod_of_nonneg (by omega)];omega
  rw [aF.l0_eq,dT (by omega),cT,aE hi,bS,bM (by omega)]
  cases hx:xs[i] with
  |false=>rw [cF,vU hi hx]
  |true=>
   rw [cT,e1,e2,bR ((i / 8:Nat):Int) (by omega),dT (show (0:Int)≤((i / 8:Nat):Int) by omega),dT (show ((i / 8:Nat):Int)<((cL xs i).length:Int) by omega),dF (show¬(((i % 8:Nat):Int)<0) by omega)]
   simp only [Bool.and_self,cT,cF,Int.toNat_natCast]
   rw [iJ hq,show min 8 (i - 8*(i / 8))=i % 8 by omega]
   simp only [bS]
   rw [xF _ _ (by omega) (nP xs (i / 8) (i % 8)),wU hi hx]
 ·intro n
  rw [aF.l0_eq,dF (by omega),cF]
end Go.Proofs.YtjkokaockhecnaaGreatDoorP
