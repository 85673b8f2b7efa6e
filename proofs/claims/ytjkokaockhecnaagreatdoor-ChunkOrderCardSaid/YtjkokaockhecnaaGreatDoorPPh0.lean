/- What the functions below the laws answer, in plain lists and numbers; no condition but the sizes that a machine has. -/
import Derived.Test.YtjkokaockhecnaaGreatDoorPPg0
import Derived.Laws.BitsLemmas
import Derived.KernelRfl
namespace Go.Proofs.YtjkokaockhecnaaGreatDoorP
open Go Go.Proofs.YtjkokaockhecnaaGreatDoorA
def same:List Int→Nat
 |[]=>0
 |x :: l=>1+(l.takeWhile (·==x)).length
theorem kG:∀xs:List Int,same xs≤xs.length
 |[]=>Nat.le_refl _
 |x :: l=>by
  have:(l.takeWhile (·==x)).length≤l.length:=(List.takeWhile_prefix _).length_le
  simp only [same,List.length_cons];omega
theorem tD {xs:List Int}(h:xs≠[]):1≤same xs:=by
 cases xs with
 |nil=>exact absurd rfl h
 |cons x l=>simp only [same];omega
theorem kU (x:Int):∀(l:List Int) (i:Nat),i<(l.takeWhile (·==x)).length→l[i]?=some x
 |[],i,h=>by simp at h
 |y :: l,i,h=>by
  rw [List.takeWhile_cons] at h
  cases e:(y==x) with
  |false=>rw [e] at h;simp at h
  |true=>
   rw [e] at h
   have e':y=x:=by simpa using e
   subst e'
   cases i with
   |zero=>rfl
   |succ i=>exact kU y l i (by simpa using h)
theorem ki (x:Int):∀(l:List Int),(l.takeWhile (·==x)).length<l.length→∃y,l[(l.takeWhile (·==x)).length]?=some y∧y≠x
 |[],h=>by simp at h
 |y :: l,h=>by
  rw [List.takeWhile_cons] at h ⊢
  cases e:(y==x) with
  |false=>exact ⟨y,by simp,by simpa using e⟩
  |true=>
   rw [e] at h
   obtain ⟨z,h1,h2⟩:=ki x l (by simpa using h)
   exact ⟨z,by simpa using h1,h2⟩
theorem uF {xs:List Int}{i:Nat}(h:i<same xs):∃x,xs[0]?=some x∧xs[i]?=some x:=by
 cases xs with
 |nil=>simp [same] at h
 |cons x l=>
  refine ⟨x,rfl,?_⟩
  cases i with
  |zero=>rfl
  |succ i=>exact kU x l i (by simp only [same] at h;omega)
theorem xn {xs:List Int}(h:same xs<xs.length):∃x y,xs[0]?=some x∧xs[same xs]?=some y∧y≠x:=by
 cases xs with
 |nil=>simp [same] at h
 |cons x l=>
  simp only [same,List.length_cons] at h ⊢
  obtain ⟨y,h1,h2⟩:=ki x l (by omega)
  refine ⟨x,y,rfl,?_,h2⟩
  rw [Nat.add_comm,List.getElem?_cons_succ];exact h1
theorem fu {α:Type}{l:List α}{i:Nat}{x:α}(h:l[i]?=some x):rd l (i:Int)=some x:=by
 obtain ⟨hl,rfl⟩:=List.getElem?_eq_some_iff.mp h
 exact bF hl
theorem DY {x y:Int}(h:x≠y):(x != y)=true:=by simpa using h
theorem wM {k:Nat}{xs:List Int}(hk:xs.length+3≤k)(hl:xs.length≤1000000000):a8.f aS k xs=some (same xs:Int):=by
 obtain ⟨k,rfl⟩:∃q,k=q+1:=⟨k - 1,by omega⟩
 rw [a8.f_eq]
 by_cases hz:xs=[]
 ·subst hz
  obtain ⟨k,rfl⟩:∃q,k=q+1:=⟨k - 1,by simp at hk;omega⟩
  rw [a8.l0_eq,dF (by simp),cF];rfl
 ·have hle:=kG xs
  refine tn (F:=fun n i=>a8.l0 aS k n xs (xs.length:Int) (i:Int)) (G:=fun _=>some (same xs:Int)) (N:=same xs) ?_ ?_ k 0 (by omega) (by omega)
  ·intro n i hi
   obtain ⟨x,h0,h1⟩:=uF hi
   refine .inl ⟨?_,rfl⟩
   rw [a8.l0_eq,dT (by omega),cT,fu h1,bS,show (0:Int)=((0:Nat):Int) from rfl,fu h0,bS]
   simp only [bne_self_eq_false,cF]
   rw [dk (by omega)]
  ·intro n
   by_cases e:same xs=xs.length
   ·rw [a8.l0_eq,dF (by omega),cF,e]
   ·obtain ⟨x,y,h0,h1,h2⟩:=xn (xs:=xs) (by omega)
    rw [a8.l0_eq,dT (by omega),cT,fu h1,bS,show (0:Int)=((0:Nat):Int) from rfl,fu h0,bS,DY h2,cT]
def tb (x:Int)(j:Nat):Bool:=(ax .and .i64 (Int.fdiv x (2 ^ (min j IntKind.i64.bits))) 1)==1
def qb (xs:List Int)(i j:Nat):Bool:=match xs[i]? with|some x=>tb x j|none=>false
def fO (xs:List Int)(w i:Nat):List Bool:=(List.range i).flatMap fun i=>(List.range w).map fun j=>qb xs i j
theorem g8 (xs:List Int)(w i:Nat):fO xs w (i+1)=fO xs w i++(List.range w).map fun j=>qb xs i j:=by
 simp [fO,List.range_succ]
theorem fx (xs:List Int)(w:Nat):∀i,(fO xs w i).length=i*w
 |0=>by simp [fO]
 |i+1=>by rw [g8,List.length_append,fx xs w i,List.length_map,List.length_range,Nat.add_mul,Nat.one_mul]
def fK (n:Nat):Nat:=8*((n+7) / 8)
theorem oK (n:Nat):n≤fK n∧fK n≤n+7:=by unfold fK;omega
def rows (xs:List Int)(w:Nat):List Bool:=fO xs w (fK xs.length)
theorem gK (xs:List Int)(w:Nat):(rows xs w).length=fK xs.length*w:=fx xs w _
def sZ (xs:List Int)(w i j:Nat):List Bool:=fO xs w i++(List.range j).map fun j=>qb xs i j
theorem vm (xs:List Int)(w i j:Nat):(sZ xs w i j).length=i*w+j:=by
 unfold sZ;rw [List.length_append,fx,List.length_map,List.length_range]
theorem yQ (xs:List Int)(w i j:Nat):sZ xs w i (j+1)=sZ xs w i j++[qb xs i j]:=by
 unfold sZ;rw [List.range_succ,List.map_append,List.append_assoc];rfl
theorem zT (xs:List Int)(w i:Nat):sZ xs w i w=sZ xs w (i+1) 0:=by
 unfold sZ;rw [g8];simp
theorem Ai (xs:List Int)(w i:Nat):sZ xs w i 0=fO xs w i:=by unfold sZ;simp
theorem ri {xs:List Int}{i:Nat}(h:i<xs.length)(j:Nat):qb xs i j=tb xs[i] j:=by unfold qb;rw [List.getElem?_eq_getElem h]
theorem xy {xs:List Int}{i:Nat}(h:xs.length≤i)(j:Nat):qb xs i j=false:=by unfold qb;rw [List.getElem?_eq_none h]
theorem BE {i w a:Nat}(h1:i≤a)(h2:w≤16):i*w≤a*16:=Nat.mul_le_mul h1 h2
theorem A2 {i w:Nat}(h1:i≤10000)(h2:w≤16):IntKind.i64.wrap ((i:Int)*(w:Int))=((i*w:Nat):Int):=by
 have:=BE h1 h2
 rw [show ((i:Int)*(w:Int))=((i*w:Nat):Int) by push_cast;rfl]
 exact b9 _ (by omega)
theorem xA {n:Nat}(h:n≤10000):IntKind.i64.wrap ((IntKind.i64.wrap (Int.tdiv (IntKind.i64.wrap ((n:Int)+7)) 8))*8)=(fK n:Int):=by
 rw [b9 ((n:Int)+7) (by omega),Int.tdiv_eq_ediv_of_nonneg (by omega),b9 (((n:Int)+7) / 8) (by omega),b9 _ (by omega)]
 unfold fK;omega
theorem wU {k:Nat}{xs:List Bool}(hk:xs.length+3≤k)(hl:xs.length≤900000):dD.f aS k xs=some (fC xs):=by
 obtain ⟨k,rfl⟩:∃q,k=q+1:=⟨k - 1,by omega⟩
 have hb:dH.f aS k ((xs.length:Nat):Int)=some (iw (xs.length:Int)):=iu (by omega) (by omega) (by omega)
 have hbb:iw (xs.length:Int)=(((xs.length+7) / 8:Nat):Int):=by unfold iw;omega
 rw [dD.f_eq,hb,bS,BEq.rfl,hbb,dT (by omega),dT (by omega)]
 simp only [Bool.and_self,cT,Int.toNat_natCast]
 have h0:(List.replicate ((xs.length+7) / 8) (0:Int))=cg xs 0:=by
  unfold cg
  refine List.ext_getElem (by simp) fun q h1 h2=>?_
  simp [cY]
 rw [h0,←vh]
 refine fZ (F:=fun n i=>dD.l0 aS k n xs (xs.length:Int) (i:Int) (cg xs i)) (N:=xs.length) ?_ ?_ k 0 (by omega) (by omega)
 ·intro n i hi
  have hq:i / 8<(xs.length+7) / 8:=by omega
  have hlen:(cg xs i).length=(xs.length+7) / 8:=by unfold cg;rw [List.length_map,List.length_range]
  have e1:Int.tdiv (i:Int) 8=((i / 8:Nat):Int):=by rw [Int.tdiv_eq_ediv_of_nonneg (by omega)];omega
  have e2:Int.tmod (i:Int) 8=((i % 8:Nat):Int):=by rw [Int.tmod_eq_emod_of_nonneg (by omega)];omega
  rw [dD.l0_eq,dT (by omega),cT,bF hi,bS,dk (by omega)]
  cases hx:xs[i] with
  |false=>rw [cF,s7 hi hx]
  |true=>
   rw [cT,e1,e2,b9 ((i / 8:Nat):Int) (by omega),dT (show (0:Int)≤((i / 8:Nat):Int) by omega),dT (show ((i / 8:Nat):Int)<((cg xs i).length:Int) by omega),dF (show¬(((i % 8:Nat):Int)<0) by omega)]
   simp only [Bool.and_self,cT,cF,Int.toNat_natCast]
   rw [gV hq,show min 8 (i - 8*(i / 8))=i % 8 by omega]
   simp only [bS]
   rw [vg _ _ (by omega) (mB xs (i / 8) (i % 8)),vt hi hx]
 ·intro n
  rw [dD.l0_eq,dF (by omega),cF]
theorem Bt {α:Type}(p:List α)(m:Nat)(a v:α):(p++List.replicate (m+1) a).set p.length v=(p++[v])++List.replicate m a:=by
 rw [List.replicate_succ,List.set_append_right _ _ (Nat.le_refl _),Nat.sub_self,List.set_cons_zero,List.append_assoc];rfl
theorem rf (xs:List Int)(w:Nat):∀m,fO xs w (xs.length+m)=fO xs w xs.length++List.replicate (m*w) false
 |0=>by simp
 |m+1=>by
  have e:((List.range w).map fun j=>qb xs (xs.length+m) j)=List.replicate w false:=by
   refine List.ext_getElem (by simp) fun q h1 h2=>?_
   simp [xy]
  rw [←Nat.add_assoc,g8,rf xs w m,e,List.append_assoc,List.replicate_append_replicate,Nat.add_mul,Nat.one_mul]
theorem A6 {k w:Nat}{xs:List Int}(hk:170000≤k)(hl:xs.length≤4096)(hw:w≤16):aJ.f aS k xs (w:Int)=some (fC (rows xs w)):=by
 obtain ⟨k,rfl⟩:∃q,k=q+1:=⟨k - 1,by omega⟩
 have hp:=oK xs.length
 have hb:=BE (show fK xs.length≤4104 by omega) hw
 have hlw:xs.length*w≤fK xs.length*w:=Nat.mul_le_mul_right w hp.1
 have e8:IntKind.i64.wrap ((IntKind.i64.wrap (((xs.length:Nat):Int)+8)) - 1)=IntKind.i64.wrap (((xs.length:Nat):Int)+7):=by
  rw [b9 (((xs.length:Nat):Int)+8) (by omega)];congr 1;omega
 rw [aJ.f_eq,e8,xA (by omega),A2 (by omega) hw,BEq.rfl,dT (by omega),dT (by omega)]
 simp only [Bool.and_self,cT,Int.toNat_natCast]
 have h0:List.replicate (fK xs.length*w) false=sZ xs w 0 0++List.replicate (fK xs.length*w - (0*w+0)) false:=by simp [sZ,fO]
 rw [h0]
 refine fZ (F:=fun n i=>aJ.l0 aS k n (w:Int) xs (xs.length:Int) (i:Int) (sZ xs w i 0++List.replicate (fK xs.length*w - (i*w+0)) false)) (N:=xs.length) ?_ ?_ k 0 (by omega) (by omega)
 ·intro n i hi
  have hiw:(i+1)*w≤xs.length*w:=Nat.mul_le_mul_right w hi
  rw [Nat.add_mul,Nat.one_mul] at hiw
  rw [aJ.l0_eq,dT (by omega),cT,bF hi,bS]
  refine fZ (F:=fun m j=>aJ.l2 aS k n m (w:Int) (i:Int) xs[i] xs (xs.length:Int) (j:Int) (sZ xs w i j++List.replicate (fK xs.length*w - (i*w+j)) false)) (N:=w) ?_ ?_ k 0 (by omega) (by omega)
  ·intro m j hj
   have hlen:=vm xs w i j
   have hadd:IntKind.i64.wrap (((i*w:Nat):Int)+(j:Int))=((i*w+j:Nat):Int):=by rw [b9 _ (by omega)];push_cast;rfl
   obtain ⟨q,hq⟩:∃q,fK xs.length*w - (i*w+j)=q+1:=⟨fK xs.length*w - (i*w+j) - 1,by omega⟩
   have hq2:fK xs.length*w - (i*w+(j+1))=q:=by omega
   have hll:(sZ xs w i j++List.replicate (q+1) false).length=i*w+j+(q+1):=by rw [List.length_append,hlen,List.length_replicate]
   have hget:(sZ xs w i j++List.replicate (q+1) false)[i*w+j]?=some false:=by
    rw [List.getElem?_append_right (by omega),hlen,Nat.sub_self];simp
   rw [aJ.l2_eq,dT (by omega),cT,dF (show¬((j:Int)<0) by omega),cF,A2 (by omega) hw,hadd,hq,dT (show (0:Int)≤((i*w+j:Nat):Int) by omega),dT (by rw [hll];omega)]
   simp only [Bool.and_self,cT,Int.toNat_natCast]
   rw [hget]
   simp only [bS]
   have hs:=Bt (sZ xs w i j) q false (qb xs i j)
   rw [hlen] at hs
   rw [hq2,yQ,dk (by omega),←hs,ri hi]
   rfl
  ·intro m
   have e:(i+1)*w+0=i*w+w:=by rw [Nat.add_mul,Nat.one_mul];rfl
   rw [aJ.l2_eq,dF (by omega),cF,dk (by omega),zT,e]
 ·intro n
  have hz:fK xs.length*w - (xs.length*w+0)=(fK xs.length - xs.length)*w:=by rw [Nat.sub_mul];rfl
  have hr:sZ xs w xs.length 0++List.replicate (fK xs.length*w - (xs.length*w+0)) false=rows xs w:=by
   rw [hz,Ai,←rf]
   unfold rows
   congr 1;omega
  rw [aJ.l0_eq,dF (by omega),cF,hr]
  have:=wU (k:=k) (xs:=rows xs w) (by rw [gK];omega) (by rw [gK];omega)
  rw [this,bS]
def BH (x:Int):List UInt8:=ab [IntKind.u8.wrap (Int.fdiv x 1)]
def EG (x:Int):List UInt8:=ab [IntKind.u8.wrap (Int.fdiv x 1),IntKind.u8.wrap (Int.fdiv x (2 ^ 8))]
def wd (x:Int)(w:Nat):List UInt8:=if w=0 then [] else if w≤8 then BH x else EG x
theorem EI (m:Nat)(x:Int):cu.f aS (m+12) x 0=some []:=by kernel_rfl
theorem Cm (m:Nat)(x:Int):cu.f aS (m+12) x 1=some (BH x):=by kernel_rfl
theorem EZ (m:Nat)(x:Int):cu.f aS (m+12) x 2=some (EG x):=by kernel_rfl
theorem zY {w:Nat}(hw:w≤16):iw (w:Int)=if w=0 then 0 else if w≤8 then 1 else 2:=by
 unfold iw
 split
 ·omega
 ·split<;>omega
theorem B2 {k w:Nat}(hk:12≤k)(hw:w≤16)(x:Int):cu.f aS k x (iw (w:Int))=some (wd x w):=by
 obtain ⟨m,rfl⟩:∃m,k=m+12:=⟨k - 12,by omega⟩
 rw [zY hw];unfold wd
 split
 ·exact EI m x
 ·split
  ·exact Cm m x
  ·exact EZ m x
theorem rk (x:Int)(w:Nat):(wd x w).length≤2:=by
 unfold wd
 split
 ·simp
 ·split
  ·exact Nat.le_succ 1
  ·exact Nat.le_refl 2
def pD:Nat→List Int→Nat
 |0,l=>l.length
 |f+1,l=>if 8≤same l then 0 else if l.length≤8 then l.length else 8+pD f (l.drop 8)
theorem wx:∀(f:Nat) (l:List Int),pD f l≤l.length
 |0,l=>Nat.le_refl _
 |f+1,l=>by
  unfold pD
  split
  ·exact Nat.zero_le _
  ·split
   ·exact Nat.le_refl _
   ·have:=wx f (l.drop 8)
    rw [List.length_drop] at this
    omega
theorem rG:∀(f g:Nat) (l:List Int),l.length≤f→l.length≤g→pD f l=pD g l
 |0,0,l,_,_=>rfl
 |0,g+1,l,h,_=>by
  have:l=[]:=List.eq_nil_of_length_eq_zero (by omega)
  subst this;simp [pD,same]
 |f+1,0,l,_,h=>by
  have:l=[]:=List.eq_nil_of_length_eq_zero (by omega)
  subst this;simp [pD,same]
 |f+1,g+1,l,h1,h2=>by
  unfold pD
  rw [rG f g (l.drop 8) (by rw [List.length_drop];omega) (by rw [List.length_drop];omega)]
def fV (l:List Int):Nat:=pD l.length l
theorem sj (l:List Int):fV l≤l.length:=wx _ _
theorem vM (l:List Int):fV l=if 8≤same l then 0 else if l.length≤8 then l.length else 8+fV (l.drop 8):=by
 cases l with
 |nil=>rfl
 |cons x l=>
  show pD (l.length+1) (x :: l)=_
  rw [pD,fV,rG l.length ((x :: l).drop 8).length _ (by rw [List.length_drop,List.length_cons];omega) (Nat.le_refl _)]
theorem kF {l:List Int}(h:l≠[])(h8:same l<8):1≤fV l:=by
 rw [vM,if_neg (by omega)]
 have:l.length≠0:=fun e=>h (List.eq_nil_of_length_eq_zero e)
 split<;>omega
theorem xF {k:Nat}{xs:List Int}(hk:xs.length+3≤k)(hl:xs.length≤1000000):∀(d a n:Nat),xs.length≤a+d→a≤xs.length+8→d<n→
  a7.l0 aS k n xs (a:Int)=some ((if a<xs.length then a+fV (xs.drop a) else xs.length:Nat):Int):=by
 intro d
 induction d using Nat.strongRecOn with
 |_ d ih=>
  intro a n h1 h2 h3
  obtain ⟨n,rfl⟩:∃m,n=m+1:=⟨n - 1,by omega⟩
  by_cases ha:a<xs.length
  ·have hlen:(xs.drop a).length=xs.length - a:=List.length_drop
   rw [a7.l0_eq,dT (by omega),cT,dT (by omega),dT (by omega)]
   simp only [Bool.and_self,cT,Int.toNat_natCast,List.take_length]
   rw [wM (by rw [hlen];omega) (by rw [hlen];omega),bS,if_pos ha,vM (xs.drop a),hlen]
   by_cases h8:8≤same (xs.drop a)
   ·rw [dT (by omega),cT,if_pos h8];rfl
   ·rw [dF (by omega),cF,if_neg h8,b9 ((a:Int)+8) (by omega),show ((a:Int)+8)=((a+8:Nat):Int) by push_cast;rfl,ih (d - 8) (by omega) (a+8) n (by omega) (by omega) (by omega)]
    by_cases hz:a+8<xs.length
    ·rw [if_pos hz,if_neg (by omega),List.drop_drop,Nat.add_assoc]
    ·rw [if_neg hz,if_pos (by omega)]
     congr 2;omega
  ·rw [a7.l0_eq,dF (by omega),cF,if_neg ha]
theorem x4 {k:Nat}{xs:List Int}(hk:xs.length+12≤k)(hl:xs.length≤1000000)(hx:xs≠[]):a7.f aS k xs=some (fV xs:Int):=by
 obtain ⟨k,rfl⟩:∃q,k=q+1:=⟨k - 1,by omega⟩
 have:xs.length≠0:=fun e=>hx (List.eq_nil_of_length_eq_zero e)
 have h:=xF (k:=k) (xs:=xs) (by omega) hl xs.length 0 k (by omega) (by omega) (by omega)
 rw [if_pos (by omega),List.drop_zero,Nat.zero_add] at h
 rw [a7.f_eq];exact h
def jF:Nat→Nat→List Int→List UInt8
 |0,_,_=>[]
 |f+1,w,xs=>
  if xs=[] then []
  else if 8≤same xs then (pv (2*(same xs:Int))++wd (xs.headD 0) w)++jF f w (xs.drop (same xs))
  else (pv (2*(((fV xs+7) / 8:Nat):Int)+1)++fC (rows (xs.take (fV xs)) w))++jF f w (xs.drop (fV xs))
theorem jr (w:Nat):∀(f g:Nat) (xs:List Int),xs.length≤f→xs.length≤g→jF f w xs=jF g w xs
 |0,0,_,_,_=>rfl
 |0,g+1,xs,h,_=>by
  have:xs=[]:=List.eq_nil_of_length_eq_zero (by omega)
  subst this;simp [jF]
 |f+1,0,xs,_,h=>by
  have:xs=[]:=List.eq_nil_of_length_eq_zero (by omega)
  subst this;simp [jF]
 |f+1,g+1,xs,h1,h2=>by
  unfold jF
  split
  ·rfl
  ·rename_i hx
   have hx':xs.length≠0:=fun e=>hx (List.eq_nil_of_length_eq_zero e)
   split
   ·have:=tD hx
    rw [jr w f g _ (by rw [List.length_drop];omega) (by rw [List.length_drop];omega)]
   ·rename_i h8
    have:=kF hx (by omega)
    rw [jr w f g _ (by rw [List.length_drop];omega) (by rw [List.length_drop];omega)]
def iL (w:Nat)(xs:List Int):List UInt8:=jF xs.length w xs
theorem mE (w:Nat):iL w []=[]:=rfl
theorem qL {w:Nat}{xs:List Int}(hx:xs≠[])(h8:8≤same xs):iL w xs=(pv (2*(same xs:Int))++wd (xs.headD 0) w)++iL w (xs.drop (same xs)):=by
 cases xs with
 |nil=>exact absurd rfl hx
 |cons x l=>
  show jF (l.length+1) w (x :: l)=_
  have:=tD hx
  rw [jF,if_neg hx,if_pos h8,iL,jr w l.length ((x :: l).drop (same (x :: l))).length _ (by rw [List.length_drop,List.length_cons];omega) (Nat.le_refl _)]
theorem oV {w:Nat}{xs:List Int}(hx:xs≠[])(h8:same xs<8):iL w xs=(pv (2*(((fV xs+7) / 8:Nat):Int)+1)++fC (rows (xs.take (fV xs)) w))++iL w (xs.drop (fV xs)):=by
 cases xs with
 |nil=>exact absurd rfl hx
 |cons x l=>
  show jF (l.length+1) w (x :: l)=_
  have:=kF hx h8
  rw [jF,if_neg hx,if_neg (by omega),iL,jr w l.length ((x :: l).drop (fV (x :: l))).length _ (by rw [List.length_drop,List.length_cons];omega) (Nat.le_refl _)]
theorem pa {w:Nat}(hw:w≤16)(xs:List Int):(fC (rows xs w)).length≤2*xs.length+15:=by
 have hp:=oK xs.length
 have:=Nat.mul_le_mul_left (fK xs.length) hw
 rw [nr,gK];omega
theorem jd (s:List UInt8):ab (aH s)=s:=by
 unfold ab aH
 rw [List.map_map]
 refine (List.map_congr_left fun b _=>?_).trans (List.map_id s)
 show UInt8.ofNat ((b.toNat:Int)).toNat=b
 simp
theorem g9 (s:List UInt8):(aH s).length=s.length:=by simp [aH]
theorem BM {xs:List Int}(h:xs≠[]):rd xs 0=some (xs.headD 0):=by
 cases xs with
 |nil=>exact absurd rfl h
 |cons x l=>exact fu (i:=0) rfl
theorem Ge {g:Nat}(h:g≤4096):IntKind.i64.wrap ((IntKind.i64.wrap (2*(IntKind.i64.wrap (Int.tdiv (IntKind.i64.wrap ((IntKind.i64.wrap ((g:Int)+8)) - 1)) 8))))+1)=2*(((g+7) / 8:Nat):Int)+1:=by
 rw [b9 ((g:Int)+8) (by omega),b9 ((g:Int)+8 - 1) (by omega),Int.tdiv_eq_ediv_of_nonneg (by omega),b9 (((g:Int)+8 - 1) / 8) (by omega),b9 (2*(((g:Int)+8 - 1) / 8)) (by omega),b9 (2*(((g:Int)+8 - 1) / 8)+1) (by omega)]
 omega
theorem D5 {k w:Nat}(hk:200000≤k)(hw:w≤16):∀(m:Nat) (xs:List Int) (out:List Int) (n:Nat),xs.length≤m→xs.length≤4096→m<n→out.length+25*xs.length≤1000000→
  aX.l0 aS k n xs (w:Int) out=some (ab out++iL w xs,0):=by
 intro m
 induction m with
 |zero=>
  intro xs out n h1 h2 h3 h4
  have:xs=[]:=List.eq_nil_of_length_eq_zero (by omega)
  subst this
  obtain ⟨n,rfl⟩:∃q,n=q+1:=⟨n - 1,by omega⟩
  rw [aX.l0_eq,dF (by simp),cF,mE,List.append_nil]
 |succ m ih=>
  intro xs out n h1 h2 h3 h4
  obtain ⟨n,rfl⟩:∃q,n=q+1:=⟨n - 1,by omega⟩
  by_cases hx:xs=[]
  ·subst hx
   rw [aX.l0_eq,dF (by simp),cF,mE,List.append_nil]
  ·have hx':xs.length≠0:=fun e=>hx (List.eq_nil_of_length_eq_zero e)
   have hle:=kG xs
   rw [aX.l0_eq,dT (by omega),cT,wM (by omega) (by omega),bS]
   by_cases h8:8≤same xs
   ·have hpl:=kA (2*(same xs:Int))
    have hwl:=rk (xs.headD 0) w
    have hm:may (2*(same xs:Int))=true:=fw.2 (by omega)
    have hdl:(xs.drop (same xs)).length=xs.length - same xs:=List.length_drop
    rw [dT (by omega),cT,b9 (2*(same xs:Int)) (by omega),ie (by omega),bS,qE hm]
    dsimp only
    rw [BM hx,bS,iu (by omega) (by omega) (by omega),bS,B2 (by omega) hw,bS,dT (by omega),cT,dT (by rw [List.length_append];omega),cT,dT (by omega),dT (by omega)]
    simp only [Bool.and_self,cT,Int.toNat_natCast,List.take_length]
    rw [ih _ _ n (by rw [hdl];omega) (by rw [hdl];omega) (by omega) (by rw [List.length_append,g9,List.length_append,hdl];omega),eJ,jd,qL hx h8,List.append_assoc]
   ·have hg:=sj xs
    have hgp:=kF hx (by omega)
    have hgm:may (2*(((fV xs+7) / 8:Nat):Int)+1)=true:=fw.2 (by omega)
    have hpl:=kA (2*(((fV xs+7) / 8:Nat):Int)+1)
    have htl:(xs.take (fV xs)).length=fV xs:=by rw [List.length_take];omega
    have hrl:=pa hw (xs.take (fV xs))
    rw [htl] at hrl
    have hdl:(xs.drop (fV xs)).length=xs.length - fV xs:=List.length_drop
    rw [dF (by omega),cF,x4 (by omega) (by omega) hx,bS,Ge (by omega),ie (by omega),bS,qE hgm,dT (by omega),dT (by omega)]
    simp only [Bool.and_self,cT,Int.toNat_natCast,List.take_length,List.drop_zero]
    rw [A6 (by omega) (by rw [htl];omega) hw,bS,dT (by omega),cT,dT (by rw [List.length_append];omega),cT]
    rw [ih _ _ n (by rw [hdl];omega) (by rw [hdl];omega) (by omega) (by rw [List.length_append,g9,List.length_append,hdl];omega),eJ,jd,oV hx (by omega),List.append_assoc]
theorem F7 {a b:Int}:(bif decide (a<b) then a else b)=min b a:=by
 by_cases h:a<b
 ·rw [dT h,cT];omega
 ·rw [dF h,cF];omega
def AD (w:Nat)(x:Int):Bool:=decide (0≤x)&&decide (x<2 ^ w)
def sR (w:Nat)(xs:List Int):Bool:=xs.all (AD w)
theorem Am {w:Nat}(hw:w≤16):min w IntKind.i64.bits=w:=by simp only [IntKind.bits];omega
theorem yM {w:Nat}(hw:w≤16):(1:Int)≤2 ^ w∧(2:Int) ^ w≤65536:=by
 have h1:(2:Nat) ^ w≤2 ^ 16:=Nat.pow_le_pow_right (by omega) hw
 have h2:0<(2:Nat) ^ w:=Nat.two_pow_pos w
 have e:((2:Int) ^ w)=((2 ^ w:Nat):Int):=by push_cast;rfl
 rw [e];omega
theorem AL {k w:Nat}(hk:1≤k)(hw:w≤16)(x:Int):eR.f aS k x (w:Int)=some (!AD w x):=by
 obtain ⟨k,rfl⟩:∃q,k=q+1:=⟨k - 1,by omega⟩
 rw [eR.f_eq]
 have hp:=yM hw
 unfold AD
 by_cases h0:x<0
 ·rw [dT h0,dF (show¬(0≤x) by omega)];rfl
 ·rw [dF h0,dT (show 0≤x by omega),dF (show¬((w:Int)<0) by omega),Int.toNat_natCast,Am hw,kB]
  simp only [Bool.not_false,cT,cF,Bool.true_and]
  have hd:x / 2 ^ w>0↔¬x<2 ^ w:=by
   rw [Int.not_lt]
   constructor
   ·intro h
    have:=(Int.le_ediv_iff_mul_le (a:=1) (b:=x) (c:=2 ^ w) (by omega)).1 (by omega)
    omega
   ·intro h
    have:=(Int.le_ediv_iff_mul_le (a:=1) (b:=x) (c:=2 ^ w) (by omega)).2 (by omega)
    omega
  by_cases hx:x<2 ^ w
  ·rw [dT hx,dF (fun h=>hd.1 h hx)];rfl
  ·rw [dF hx,dT (hd.2 hx)];rfl
theorem AA {k w:Nat}(hk:1≤k)(hw:w≤16){xs:List Int}(hl:xs.length≤1000000):∀(d i n:Nat),i+d=xs.length→d<n→
  ∃r,af.l0 aS k n xs (w:Int) (xs.length:Int) (i:Int)=some r∧decide (r≥0)=!sR w (xs.drop i):=by
 intro d
 induction d with
 |zero=>
  intro i n h1 h2
  obtain ⟨n,rfl⟩:∃q,n=q+1:=⟨n - 1,by omega⟩
  refine ⟨-1,by rw [af.l0_eq,dF (by omega),cF],?_⟩
  rw [show i=xs.length by omega,List.drop_length];rfl
 |succ d ih=>
  intro i n h1 h2
  obtain ⟨n,rfl⟩:∃q,n=q+1:=⟨n - 1,by omega⟩
  have hi:i<xs.length:=by omega
  have hdr:sR w (xs.drop i)=(AD w xs[i]&&sR w (xs.drop (i+1))):=by
   rw [List.drop_eq_getElem_cons hi];rfl
  rw [af.l0_eq,dT (by omega),cT,bF hi,bS,AL hk hw,bS,hdr]
  cases hx:AD w xs[i] with
  |false=>exact ⟨(i:Int),rfl,by rw [dT (by omega)];rfl⟩
  |true=>
   obtain ⟨r,e1,e2⟩:=ih (i+1) n (by omega) (by omega)
   refine ⟨r,?_,by rw [e2,Bool.true_and]⟩
   simp only [Bool.not_true,cF]
   rw [dk (by omega)];exact e1
theorem B1 {k:Nat}{xs:List Int}(hk:xs.length+5≤k)(hl:xs.length≤1000000)(w:Int):
  em.f aS k xs w=some (decide (0≤w)&&(decide (w≤16)&&(decide ((xs.length:Int)≤4096)&&sR w.toNat xs))):=by
 obtain ⟨k,rfl⟩:∃q,k=q+1:=⟨k - 1,by omega⟩
 rw [em.f_eq]
 by_cases h0:0≤w
 ·by_cases h1:w≤16
  ·by_cases h2:(xs.length:Int)≤4096
   ·obtain ⟨w,rfl⟩:∃q:Nat,w=(q:Int):=⟨w.toNat,by omega⟩
    obtain ⟨k,rfl⟩:∃q,k=q+2:=⟨k - 2,by omega⟩
    obtain ⟨r,e1,e2⟩:=AA (k:=k) (w:=w) (by omega) (by omega) hl xs.length 0 k (by omega) (by omega)
    rw [dT (show (w:Int)≥0 by omega),dT h1,dT h2]
    simp only [cT,Bool.true_and,Int.toNat_natCast]
    rw [aN.f_eq,af.f_eq]
    have e1':af.l0 aS k k xs (w:Int) (xs.length:Int) 0=some r:=e1
    rw [e1',bS,bS,e2,List.drop_zero,Bool.not_not]
   ·rw [dT (show w≥0 by omega),dT h1,dF h2];rfl
  ·rw [dT (show w≥0 by omega),dF h1];rfl
 ·rw [dF (show¬w≥0 by omega)];rfl
def tG (w:Int)(xs:List Int):Bool:=decide (0≤w)&&(decide (w≤16)&&(decide ((xs.length:Int)≤4096)&&sR w.toNat xs))
def kL (w:Int)(xs:List Int):List UInt8×Int:=if tG w xs=true then (iL w.toNat xs,0) else ([],2100)
theorem pW {w:Int}{xs:List Int}:tG w xs=true↔0≤w∧w≤16∧(xs.length:Int)≤4096∧sR w.toNat xs=true:=by
 unfold tG;simp only [Bool.and_eq_true,decide_eq_true_eq]
theorem vR {k:Nat}{xs:List Int}(hk:1200000≤k)(hl:xs.length≤1000000)(w:Int):aX.f aS k xs w=some (kL w xs):=by
 obtain ⟨k,rfl⟩:∃q,k=q+1:=⟨k - 1,by omega⟩
 rw [aX.f_eq,B1 (by omega) hl,bS]
 unfold kL
 show (bif !(tG w xs) then _ else _)=_
 cases hm:tG w xs with
 |false=>rfl
 |true=>
  obtain ⟨h0,h1,h2,_⟩:=pW.1 hm
  obtain ⟨w,rfl⟩:∃q:Nat,w=(q:Int):=⟨w.toNat,by omega⟩
  simp only [Bool.not_true,cF,if_true,Int.toNat_natCast]
  rw [D5 (by omega) (by omega) xs.length xs [] k (Nat.le_refl _) (by omega) (by omega) (by simp;omega)];rfl
theorem AX {c:Int}(h0:0≤c)(h1:c<4294967296):ax .and .u64 c 4294967295=c:=by
 rw [lx]
 have e1:(4294967295 % (2 ^ IntKind.u64.bits:Int)).toNat=2 ^ 32 - 1:=by decide
 have e2:(c % (2 ^ IntKind.u64.bits:Int)).toNat=c.toNat:=by simp only [IntKind.bits];omega
 rw [e1,e2,Nat.and_two_pow_sub_one_eq_mod,xH _ (by omega)]
 omega
theorem Gi {k:Nat}(hk:2≤k){c:Int}(h0:0≤c)(h1:c<4294967296):d5.f aS k 1 c=some (0,c):=by
 obtain ⟨k,rfl⟩:∃q,k=q+2:=⟨k - 2,by omega⟩
 have m32:min 32 IntKind.u64.bits=32:=rfl
 have f1:Int.fdiv 1 (2 ^ 32)=0:=by decide
 have f0:Int.fdiv 0 (2 ^ 32)=0:=by decide
 have fc:Int.fdiv c (2 ^ 32)=0:=by rw [kB];omega
 have a1:ax .and .u64 1 4294967295=1:=by decide
 have a0:ax .and .u64 0 4294967295=0:=by decide
 have w0:IntKind.u64.wrap 0=0:=by decide
 rw [d5.f_eq,ee.f_eq,m32,f1,fc,a1,AX h0 h1]
 simp only [Int.zero_mul,Int.mul_zero,Int.one_mul,w0,xH c (by omega),fc,Int.add_zero,a0,f0,bS]
theorem DU {k:Nat}(x:Int){c:Nat}(hc:c≤1000000):∀(d n q:Nat),c≤n+d→n≤c→(1≤n∨c=0)→d<q→
  ah.l0 aS k q (n:Int) (List.replicate n x++List.replicate (c - n) 0)=some (List.replicate c x):=by
 intro d
 induction d using Nat.strongRecOn with
 |_ d ih=>
  intro n q h1 h2 h3 h4
  obtain ⟨q,rfl⟩:∃z,q=z+1:=⟨q - 1,by omega⟩
  have hlen:(List.replicate n x++List.replicate (c - n) (0:Int)).length=c:=by rw [List.length_append,List.length_replicate,List.length_replicate];omega
  rw [ah.l0_eq,hlen]
  by_cases hn:n<c
  ·rw [dT (by omega),cT,dT (show 0≤(n:Int) by omega),dT (by omega)]
   simp only [Bool.and_self,cT,Int.toNat_natCast,List.drop_zero,Nat.zero_add]
   have b1:Nat.ble (n+(c - n)) c=true:=Nat.ble_eq_true_of_le (by omega)
   have b2:Nat.ble n c=true:=Nat.ble_eq_true_of_le (by omega)
   have tk:List.take n (List.replicate n x++List.replicate (c - n) (0:Int))=List.replicate n x:=by
    rw [List.take_append_of_le_length (by simp)];simp
   rw [b1,b2,cT,cT,tk,bS,List.length_replicate]
   have hm:min n (c - n)≤c - n:=Nat.min_le_right _ _
   have t2:List.take (c - n) (List.replicate n x)=List.replicate (min n (c - n)) x:=by rw [List.take_replicate,Nat.min_comm]
   have dr:List.drop (n+min n (c - n)) (List.replicate n x++List.replicate (c - n) (0:Int))=List.replicate (c - (n+min n (c - n))) 0:=by
    rw [List.drop_append,List.length_replicate,List.drop_of_length_le (by simp),List.nil_append,Nat.add_sub_cancel_left,List.drop_replicate]
    congr 1;omega
   rw [t2,dr,List.replicate_append_replicate,b9 _ (by omega),show ((n:Int)+((min n (c - n):Nat):Int))=((n+min n (c - n):Nat):Int) by push_cast;rfl]
   exact ih (d - min n (c - n)) (by omega) _ q (by omega) (by omega) (.inl (by omega)) (by omega)
  ·have e:n=c:=by omega
   subst e
   rw [dF (by omega),cF,Nat.sub_self]
   simp
theorem wY {k c:Nat}(hk:c+10≤k)(hc:c≤1000000)(x:Int):ah.f aS k [x] (c:Int)=some (List.replicate c x):=by
 obtain ⟨k,rfl⟩:∃q,k=q+1:=⟨k - 1,by omega⟩
 have hl1:IntKind.u64.wrap ((([x]:List Int)).length:Int)=1:=rfl
 rw [ah.f_eq,dF (by omega),cF,sy,ah.j3_eq,hl1,xH (c:Int) (by omega),Gi (by omega) (by omega) (by omega),bS]
 dsimp only
 rw [dF (show¬((0:Int)>0) by omega),dF (show¬((c:Int)>9223372036854775807) by omega)]
 simp only [Bool.not_false,cT,cF]
 rw [sy,ah.j6_eq,b9 (c:Int) (by omega),BEq.rfl,dT (show 0≤(c:Int) by omega),dT (show (c:Int)*8≤140737488355328 by omega)]
 simp only [Bool.and_self,cT,Int.toNat_natCast,List.length_replicate,Nat.zero_add,List.take_zero,List.nil_append]
 have b1:Nat.ble c c=true:=Nat.ble_eq_true_of_le (Nat.le_refl _)
 have hL:List.take c [x]++List.drop (min ([x]:List Int).length c) (List.replicate c (0:Int))=List.replicate (min 1 c) x++List.replicate (c - min 1 c) 0:=by
  rw [List.drop_replicate]
  cases c with
  |zero=>rfl
  |succ c=>simp
 rw [b1,cT,hL]
 exact DU x hc c (min 1 c) k (by omega) (by omega) (by omega) (by omega)
theorem uO (s:List UInt8)(a:Nat):ij s (a:Int)=(0,0,300)∨∃(h:Int) (e:Nat),ij s (a:Int)=(h,(e:Int),0)∧may h=true∧a<e∧e≤s.length∧pv h=(s.take e).drop a:=by
 have key:∀(f:Nat) (x:Int) (i:Nat),yh s a f x i=(0,0,300)∨∃(h:Int) (e:Nat),yh s a f x i=(h,(e:Int),0)∧may h=true∧a<e∧e≤s.length∧pv h=(s.take e).drop a:=by
  intro f
  induction f with
  |zero=>intro x i;exact .inl rfl
  |succ f ih=>
   intro x i
   rw [yh]
   split
   ·exact .inl rfl
   ·rename_i b hb
    have hlt:=(List.getElem?_eq_some_iff.mp hb).1
    split
    ·exact ih _ _
    ·split
     ·rename_i h
      exact .inr ⟨_,a+i+1,rfl,h.1,by omega,by omega,h.2⟩
     ·exact .inl rfl
 unfold ij
 split
 ·rw [Int.toNat_natCast];exact key 5 0 0
 ·exact .inl rfl
theorem rM {k:Nat}(hk:1≤k)(r:List UInt8)(w:Int)(out:List Int)(n:Int):bj.f aS k r w out true n=some ([],(r,w,out,true)):=by
 obtain ⟨k,rfl⟩:∃q,k=q+1:=⟨k - 1,by omega⟩
 rw [bj.f_eq];rfl
theorem uE {k:Nat}(hk:1≤k)(r:List UInt8)(w:Int)(out:List Int)(n:Nat):bj.f aS k r w out false (n:Int)=
  some (if n≤r.length then (r.take n,(r.drop n,w,out,false)) else ([],(r,w,out,true))):=by
 obtain ⟨k,rfl⟩:∃q,k=q+1:=⟨k - 1,by omega⟩
 rw [bj.f_eq]
 by_cases h:n≤r.length
 ·rw [dF (show¬((n:Int)>(r.length:Int)) by omega),dT (show 0≤(n:Int) by omega),dT (show (n:Int)≤((r.length:Nat):Int) by omega),if_pos h]
  simp only [Bool.not_false,cT,cF,Bool.and_self,Int.toNat_natCast,List.drop_zero,List.take_length]
 ·rw [dT (show (n:Int)>(r.length:Int) by omega),if_neg h];rfl
def ke (w:Nat)(r:List UInt8)(out:List Int)(bad:Bool)(many left:Nat):List UInt8×List Int×Bool:=
 if bad=true∨r.length<(iw w).toNat then (r,out,true)
 else if left<many then (r.drop (iw w).toNat,out,true)
 else (r.drop (iw w).toNat,out++List.replicate many (gp (r.take (iw w).toNat)),false)
theorem x5 {k w:Nat}(hk:1000100≤k)(hw:w≤16)(r:List UInt8)(out:List Int)(bad:Bool){many left:Nat}(hl:left≤1000000)(ho:out.length≤1000000):
  dd.f aS k r (w:Int) out bad (many:Int) (left:Int)=some ((ke w r out bad many left).1,(w:Int),(ke w r out bad many left).2.1,(ke w r out bad many left).2.2):=by
 obtain ⟨k,rfl⟩:∃q,k=q+1:=⟨k - 1,by omega⟩
 have hbb:iw (w:Int)=((iw (w:Int)).toNat:Int):=by unfold iw;omega
 have hb2:(iw (w:Int)).toNat≤2:=by unfold iw;omega
 rw [dd.f_eq,iu (by omega) (by omega) (by omega),bS]
 unfold ke
 cases bad with
 |true=>
  rw [rM (by omega),bS]
  dsimp only
  rw [fh (by omega) _ (by simp),bS,if_pos (.inl rfl)];rfl
 |false=>
  rw [hbb,uE (by omega),bS,Int.toNat_natCast]
  by_cases h:(iw (w:Int)).toNat≤r.length
  ·rw [if_pos h,if_neg (by simp;omega)]
   dsimp only
   rw [fh (by omega) _ (by rw [List.length_take];omega),bS]
   by_cases hm:left<many
   ·rw [dT (show (many:Int)>(left:Int) by omega),if_pos hm];rfl
   ·rw [dF (show¬((many:Int)>(left:Int)) by omega),if_neg hm]
    simp only [Bool.not_false,cT]
    rw [wY (by omega) (by omega),bS,dT (by rw [List.length_replicate];omega),cT]
  ·rw [if_neg h,if_pos (.inr (by omega))]
   dsimp only
   rw [fh (by omega) _ (by simp),bS];rfl
def pS (s:List UInt8)(w i:Nat):Nat→Int
 |0=>0
 |j+1=>pS s w i j+(if C6 s (i*w+j)=true then 2 ^ j else 0)
theorem qs (s:List UInt8)(w i:Nat):∀j,0≤pS s w i j∧pS s w i j<2 ^ j
 |0=>by simp [pS]
 |j+1=>by
  have h:=qs s w i j
  have e:(2:Int) ^ (j+1)=2 ^ j*2:=Int.pow_succ 2 j
  rw [pS,e]
  split<;>omega
def l8 (bad:Bool)(s:List UInt8)(w i j:Nat):Int:=if bad=true then 0 else pS s w i j
theorem DI {x:Int}{j:Nat}(hj:j<16)(h0:0≤x)(h1:x<2 ^ j):ax .or .i64 x (IntKind.i64.wrap (1*2 ^ (min j IntKind.i64.bits)))=x+2 ^ j:=by
 have hp:=yM (w:=j) (by omega)
 rw [Am (by omega),b9 (1*2 ^ j) (by omega),rr x 1 j h0 h1 (by omega) (by omega)]
 omega
theorem xM {k w:Nat}(hw:w≤16)(hk:100≤k)(bad:Bool)(s rest:List UInt8)(out:List Int){i many:Nat}(hm:many≤600)(hi:i<8*many)(hs:bad=false→s.length=many*w)(lim:Int)(m1:Nat)(ho:out.length≤1000000):
  ae.l2 aS k m1 k s (i:Int) 0 lim (w:Int) 0 rest out bad=ae.l0 aS k m1 s lim ((i+1:Nat):Int) rest (w:Int) (out++[l8 bad s w i w]) bad:=by
 have h0:(0:Int)=l8 bad s w i 0:=by unfold l8;split<;>rfl
 have hb:=BE (show i≤4800 by omega) hw
 have hiw:(i+1)*w≤8*many*w:=Nat.mul_le_mul_right w hi
 rw [Nat.add_mul,Nat.one_mul,Nat.mul_assoc] at hiw
 refine Eq.trans (congrArg (fun z=>ae.l2 aS k m1 k s (i:Int) z lim (w:Int) 0 rest out bad) h0) ?_
 refine fZ (F:=fun n j=>ae.l2 aS k m1 n s (i:Int) (l8 bad s w i j) lim (w:Int) (j:Int) rest out bad) (N:=w) ?_ ?_ k 0 (by omega) (by omega)
 ·intro n j hj
  rw [ae.l2_eq,dT (by omega),cT]
  cases bad with
  |true=>rw [dk (by omega)];rfl
  |false=>
   have hsl:=hs rfl
   have hadd:IntKind.i64.wrap (((i*w:Nat):Int)+(j:Int))=((i*w+j:Nat):Int):=by rw [b9 _ (by omega)];push_cast;rfl
   have hv:=qs s w i j
   simp only [Bool.not_false,cT]
   rw [A2 (by omega) hw,hadd,uR (by omega) (by omega) (by omega),bS,dk (by omega)]
   unfold l8
   simp only [Bool.false_eq_true,if_false]
   cases hon:C6 s (i*w+j) with
   |true=>
    rw [cT,dF (show¬((j:Int)<0) by omega),cF,Int.toNat_natCast,DI (by omega) hv.1 hv.2,pS,hon,if_pos rfl]
   |false=>rw [cF,pS,hon,if_neg (by simp),Int.add_zero]
 ·intro n
  rw [ae.l2_eq,dF (by omega),cF,dT (by simp only [List.length_cons,List.length_nil];omega),cT,dk (by omega)]
def vH (w:Nat)(r:List UInt8)(out:List Int)(bad:Bool)(many left:Nat):List UInt8×List Int×Bool:=
 if (left+7) / 8<many then (r,out,true)
 else if bad=true∨r.length<many*w then (r,out++(List.range (min (8*many) left)).map (fun i=>l8 true [] w i w),true)
 else (r.drop (many*w),out++(List.range (min (8*many) left)).map (fun i=>l8 false (r.take (many*w)) w i w),false)
theorem lT {k w:Nat}(hw:w≤16)(hk:100000≤k)(bad:Bool)(s rest:List UInt8)(out:List Int){many lim:Nat}(hm:many≤600)(hi:lim≤8*many)(hs:bad=false→s.length=many*w)(ho:out.length≤900000):
  ae.l0 aS k k s (lim:Int) 0 rest (w:Int) out bad=some (rest,(w:Int),out++(List.range lim).map (fun i=>l8 bad s w i w),bad):=by
 have h0:out=out++(List.range 0).map (fun i=>l8 bad s w i w):=by simp
 refine Eq.trans (congrArg (fun z=>ae.l0 aS k k s (lim:Int) 0 rest (w:Int) z bad) h0) ?_
 refine fZ (F:=fun n i=>ae.l0 aS k n s (lim:Int) (i:Int) rest (w:Int) (out++(List.range i).map (fun i=>l8 bad s w i w)) bad) (N:=lim) ?_ ?_ k 0 (by omega) (by omega)
 ·intro n i hl
  rw [ae.l0_eq,dT (by omega),cT,xM hw (by omega) bad s rest _ hm (by omega) hs (lim:Int) n (by rw [List.length_append,List.length_map,List.length_range];omega),List.range_succ,List.map_append,List.append_assoc]
  rfl
 ·intro n
  rw [ae.l0_eq,dF (by omega),cF]
theorem xQ {k w:Nat}(hk:100100≤k)(hw:w≤16)(r:List UInt8)(out:List Int)(bad:Bool){many left:Nat}(hl:left≤4096)(hm:many≤2000000000)(ho:out.length≤900000):
  ae.f aS k r (w:Int) out bad (many:Int) (left:Int)=some ((vH w r out bad many left).1,(w:Int),(vH w r out bad many left).2.1,(vH w r out bad many left).2.2):=by
 obtain ⟨k,rfl⟩:∃q,k=q+1:=⟨k - 1,by omega⟩
 have e8:IntKind.i64.wrap (Int.tdiv (IntKind.i64.wrap ((IntKind.i64.wrap ((left:Int)+8)) - 1)) 8)=(((left+7) / 8:Nat):Int):=by
  rw [b9 ((left:Int)+8) (by omega),b9 ((left:Int)+8 - 1) (by omega),Int.tdiv_eq_ediv_of_nonneg (by omega),b9 (((left:Int)+8 - 1) / 8) (by omega)]
  omega
 rw [ae.f_eq,e8]
 unfold vH
 by_cases h1:(left+7) / 8<many
 ·rw [dT (by omega),if_pos h1];rfl
 ·have hmany:many≤600:=by omega
  have hmw:=BE (show many≤600 from hmany) hw
  rw [dF (by omega),cF,if_neg h1,A2 (by omega) hw,b9 ((many:Int)*8) (by omega),F7,show min ((many:Int)*8) (left:Int)=((min (8*many) left:Nat):Int) by omega]
  have hlim:min (8*many) left≤8*many:=Nat.min_le_left _ _
  cases bad with
  |true=>
   rw [rM (by omega),bS,if_pos (.inl rfl)]
   dsimp only
   exact lT hw (by omega) true [] r out hmany hlim (fun h=>by cases h) ho
  |false=>
   rw [uE (by omega),bS]
   by_cases h2:many*w≤r.length
   ·rw [if_pos h2,if_neg (by simp;omega)]
    dsimp only
    exact lT hw (by omega) false _ _ out hmany hlim (fun _=>by rw [List.length_take];omega) ho
   ·rw [if_neg h2,if_pos (.inr (by omega))]
    dsimp only
    exact lT hw (by omega) true [] r out hmany hlim (fun h=>by cases h) ho
def xE (w:Int)(s:List UInt8)(count:Int)(out:List Int)(bad:Bool):List Int×Int:=
 if bad=false∧kL w out=(s,0)∧(out.length:Int)=count then (out,0) else ([],2100)
theorem D8 (w:Int)(s:List UInt8)(count:Int)(out:List Int):
  (bif (!((kL w out).2 != 0)) then
   bif (!((kL w out).1 != s)) then
    bif (((out).length:Int) != count) then some (([]:List Int),(2100:Int)) else some (out,0)
   else some (([]:List Int),2100)
  else some (([]:List Int),2100))=some (xE w s count out false):=by
 unfold xE
 rcases hp:kL w out with ⟨u,e⟩
 dsimp only
 by_cases h1:e=0
 ·subst h1
  by_cases h2:u=s
  ·subst h2
   by_cases h3:(out.length:Int)=count
   ·rw [if_pos ⟨rfl,rfl,h3⟩,show ((out.length:Int) != count)=false by simpa using h3]
    simp only [bne_self_eq_false,Bool.not_false,cT,cF]
   ·rw [if_neg (fun h=>h3 h.2.2),show ((out.length:Int) != count)=true by simpa using h3]
    simp only [bne_self_eq_false,Bool.not_false,cT]
  ·rw [if_neg (fun h=>h2 (Prod.mk.inj h.2.1).1),show (u != s)=true by simpa using h2]
   simp only [bne_self_eq_false,Bool.not_false,Bool.not_true,cT,cF]
 ·rw [if_neg (fun h=>h1 (Prod.mk.inj h.2.1).2),show (e != 0)=true by simpa using h1]
  simp only [Bool.not_true,cF]
theorem yj {k:Nat}(hk:1200000≤k)(n:Nat)(s:List UInt8)(w:Int)(count:Int)(r:List UInt8)(w':Int)(out:List Int)(bad:Bool)(ho:out.length≤1000000)(h:bad=true∨¬(out.length:Int)<count):
  aF.l0 aS k (n+1) s w count r w' out bad=some (xE w s count out bad):=by
 rw [aF.l0_eq]
 cases bad with
 |true=>
  simp only [Bool.not_true,cF]
  rw [vR hk ho,bS]
  unfold xE
  rw [if_neg (by simp)]
 |false=>
  simp only [Bool.not_false,cT]
  rw [dF (by simpa using h),cF,vR hk ho,bS]
  exact D8 w s count out
def fG (w:Nat)(r:List UInt8)(out:List Int)(left:Nat):List UInt8×List Int×Bool:=
 let g:=ij r 0
 let t:=if g.1 % 2=0 then ke w (r.drop g.2.1.toNat) out (g.2.2 != 0) (g.1 / 2).toNat left else vH w (r.drop g.2.1.toNat) out (g.2.2 != 0) (g.1 / 2).toNat left
 (t.1,t.2.1,t.2.2||decide (g.1<2))
theorem wv (r:List UInt8):∃(h:Int) (e:Nat) (c:Int),ij r 0=(h,(e:Int),c)∧0≤h∧h≤2147483647∧e≤r.length∧(h<2∨c=0):=by
 rcases uO r 0 with e|⟨h,e,h1,h2,h3,h4,h5⟩
 ·exact ⟨0,0,300,e,by omega,by omega,Nat.zero_le _,.inl (by omega)⟩
 ·obtain ⟨q1,q2⟩:=fw.1 h2
  exact ⟨h,e,0,h1,q1,q2,h4,.inr rfl⟩
theorem ym {k w:Nat}(hk:1200000≤k)(hw:w≤16)(n:Nat)(s:List UInt8){count:Nat}(hc:count≤4096)(r:List UInt8)(out:List Int)(hr:(r.length:Int)≤9223372036854775000)(h:out.length<count):
  aF.l0 aS k (n+1) s (w:Int) (count:Int) r (w:Int) out false=
   aF.l0 aS k n s (w:Int) (count:Int) (fG w r out (count - out.length)).1 (w:Int) (fG w r out (count - out.length)).2.1 (fG w r out (count - out.length)).2.2:=by
 obtain ⟨g,e,c,hg,g0,g1,he,_⟩:=wv r
 have hleft:IntKind.i64.wrap ((count:Int) - (out.length:Int))=((count - out.length:Nat):Int):=by rw [b9 _ (by omega)];omega
 have hmany:IntKind.i64.wrap (Int.tdiv g 2)=(((g / 2).toNat:Nat):Int):=by rw [Int.tdiv_eq_ediv_of_nonneg g0,b9 _ (by omega)];omega
 have hmod:Int.tmod g 2=g % 2:=Int.tmod_eq_emod_of_nonneg g0
 have j12:∀(t:List UInt8×List Int×Bool),aF.j12 aS k n s (w:Int) (count:Int) g t.1 (w:Int) t.2.1 t.2.2=aF.l0 aS k n s (w:Int) (count:Int) t.1 (w:Int) t.2.1 (t.2.2||decide (g<2)):=by
  rintro ⟨t1,t2,b⟩
  rw [aF.j12_eq]
  cases b<;>rfl
 unfold fG
 rw [aF.l0_eq,hg]
 simp only [Bool.not_false,cT]
 rw [dT (by omega),cT,rc (by omega) r hr,hg,bS]
 dsimp only
 rw [dT (by omega),dT (by omega)]
 simp only [Bool.and_self,cT,List.take_length,Int.toNat_natCast]
 rw [hmod,hleft,hmany]
 by_cases hm:g % 2=0
 ·rw [if_pos hm,show (g % 2==0)=true by simpa using hm,cT,x5 (by omega) hw _ _ _ (by omega) (by omega),bS]
  dsimp only
  rw [sy,j12]
 ·rw [if_neg hm,show (g % 2==0)=false by simpa using hm,cF,xQ (by omega) hw _ _ _ (by omega) (by omega) (by omega),bS]
  dsimp only
  rw [sy,j12]
theorem xm {w:Nat}(r:List UInt8)(out:List Int){left:Nat}(hl:1≤left):(fG w r out left).2.1.length≤out.length+left∧((fG w r out left).2.2=false→out.length<(fG w r out left).2.1.length)∧(fG w r out left).1.length≤r.length:=by
 obtain ⟨g,e,c,hg,g0,g1,he,h2⟩:=wv r
 unfold fG
 rw [hg]
 dsimp only
 rw [Int.toNat_natCast]
 have hd:(r.drop e).length≤r.length:=by rw [List.length_drop];omega
 split
 ·unfold ke
  split
  ·exact ⟨by simp,fun h=>by simp at h,hd⟩
  ·split
   ·exact ⟨by simp,fun h=>by simp at h,by rw [List.length_drop];omega⟩
   ·rename_i hm
    refine ⟨by rw [List.length_append,List.length_replicate];omega,fun h=>?_,by rw [List.length_drop];omega⟩
    simp only [Bool.false_or,decide_eq_false_iff_not] at h
    rw [List.length_append,List.length_replicate];omega
 ·unfold vH
  split
  ·exact ⟨by simp,fun h=>by simp at h,hd⟩
  ·split
   ·refine ⟨by rw [List.length_append,List.length_map,List.length_range];omega,fun h=>by simp at h,hd⟩
   ·refine ⟨by rw [List.length_append,List.length_map,List.length_range];omega,fun h=>?_,by rw [List.length_drop];omega⟩
    simp only [Bool.false_or,decide_eq_false_iff_not] at h
    rw [List.length_append,List.length_map,List.length_range];omega
theorem D2 {w:Nat}(hw:w≤16)(x:Int):(wd x w).length=(iw (w:Int)).toNat:=by
 rw [zY hw];unfold wd
 split
 ·rfl
 ·split<;>rfl
theorem BA (x:Int):(val (BH x):Int)=x % 256:=by
 have e:(val (BH x):Int)=((UInt8.ofNat (IntKind.u8.wrap (Int.fdiv x 1)).toNat).toNat:Int)+256*0:=by
  simp only [BH,ab,List.map_cons,List.map_nil,val,Int.natCast_add,Int.natCast_mul];rfl
 rw [e]
 simp only [mm,cr _ _ (show (0:Int)≤1 by decide)]
 omega
theorem B0 (x:Int):(val (EG x):Int)=x % 65536:=by
 have e:(val (EG x):Int)=((UInt8.ofNat (IntKind.u8.wrap (Int.fdiv x 1)).toNat).toNat:Int)+256*(((UInt8.ofNat (IntKind.u8.wrap (Int.fdiv x (2 ^ 8))).toNat).toNat:Int)+256*0):=by
  simp only [EG,ab,List.map_cons,List.map_nil,val,Int.natCast_add,Int.natCast_mul];rfl
 rw [e]
 simp only [mm,cr _ _ (show (0:Int)≤1 by decide),cr _ _ (show (0:Int)≤2 ^ 8 by decide)]
 have p8:(2:Int) ^ 8=256:=by decide
 rw [p8]
 omega
theorem zx {w:Nat}(hw:w≤16){x:Int}(h:AD w x=true):gp (wd x w)=x:=by
 unfold AD at h
 simp only [Bool.and_eq_true,decide_eq_true_eq] at h
 have hp:=yM hw
 unfold gp wd
 split
 ·rename_i e;subst e
  have:x=0:=by have:=h.2;simp at this;omega
  subst this;rfl
 ·split
  ·rename_i h8
   have h2:(2:Int) ^ w≤256:=by
    have h1:(2:Nat) ^ w≤2 ^ 8:=Nat.pow_le_pow_right (by omega) h8
    have e:((2:Int) ^ w)=((2 ^ w:Nat):Int):=by push_cast;rfl
    rw [e];omega
   rw [BA,b9 _ (by omega)];omega
  ·rw [B0,b9 _ (by omega)];omega
theorem pH (xs:List Int)(w:Nat):∀(n i j:Nat),i<n→j<w→(fO xs w n)[i*w+j]?=some (qb xs i j)
 |n+1,i,j,hi,hj=>by
  have hl:=fx xs w n
  rw [g8]
  by_cases h:i<n
  ·have h1:(i+1)*w≤n*w:=Nat.mul_le_mul_right w h
   rw [Nat.add_mul,Nat.one_mul] at h1
   rw [List.getElem?_append_left (by rw [hl];omega)]
   exact pH xs w n i j h hj
  ·have e:i=n:=by omega
   subst e
   rw [List.getElem?_append_right (by rw [hl];omega),hl,Nat.add_sub_cancel_left,List.getElem?_map,List.getElem?_range hj];rfl
theorem FK {x:Int}{j:Nat}(hj:j<16):tb x j=decide (x / 2 ^ j % 2=1):=by
 unfold tb
 have e:=tB (Int.fdiv x (2 ^ (min j IntKind.i64.bits))) 1 (by omega)
 rw [show ((2:Int) ^ 1 - 1)=1 from rfl] at e
 rw [e,Am (by omega),kB]
 rw [show ((2:Int) ^ 1)=2 from rfl]
 by_cases h:x / 2 ^ j % 2=1
 ·rw [dT h];simpa using h
 ·rw [dF h];simpa using h
theorem ze (x:Int){p:Int}(hp:0<p):x % (p*2)=x % p+p*(x / p % 2):=by
 have h1:x % p+p*(x / p)=x:=Int.emod_add_mul_ediv x p
 have h2:x / p=x / p % 2+2*(x / p / 2):=(Int.emod_add_mul_ediv (x / p) 2).symm
 have h3:p*(x / p)=p*(x / p % 2)+p*2*(x / p / 2):=by
  calc p*(x / p)=p*(x / p % 2+2*(x / p / 2)):=by rw [←h2]
   _=_:=by rw [Int.mul_add,Int.mul_assoc]
 have h4:x=(x % p+p*(x / p % 2))+p*2*(x / p / 2):=by omega
 have r1:=Int.emod_nonneg x (show p≠0 by omega)
 have r2:=Int.emod_lt_of_pos x hp
 have h5:x / p % 2=0∨x / p % 2=1:=by omega
 have h6:0≤x % p+p*(x / p % 2)∧x % p+p*(x / p % 2)<p*2:=by
  rcases h5 with e|e
  ·rw [e,Int.mul_zero];omega
  ·rw [e,Int.mul_one];omega
 calc x % (p*2)=((x % p+p*(x / p % 2))+p*2*(x / p / 2)) % (p*2):=by rw [←h4]
  _=(x % p+p*(x / p % 2)) % (p*2):=Int.add_mul_emod_self_left _ _ _
  _=_:=Int.emod_eq_of_lt h6.1 h6.2
theorem wR {s:List UInt8}{w i:Nat}{x:Int}(hx:0≤x):∀j,j≤16→(∀q,q<j→C6 s (i*w+q)=tb x q)→pS s w i j=x % 2 ^ j
 |0,_,_=>by simp [pS]
 |j+1,hj,h=>by
  rw [pS,wR hx j (by omega) fun q hq=>h q (by omega),h j (by omega),FK (by omega)]
  have e:(2:Int) ^ (j+1)=2 ^ j*2:=Int.pow_succ 2 j
  have hp:(0:Int)<2 ^ j:=Int.pow_pos (by omega)
  have hm:x % (2 ^ j*2)=x % 2 ^ j+2 ^ j*(x / 2 ^ j % 2):=ze x hp
  rw [e,hm]
  have h2:x / 2 ^ j % 2=0∨x / 2 ^ j % 2=1:=by omega
  rcases h2 with h2|h2
  ·rw [h2,Int.mul_zero];simp
  ·rw [h2,Int.mul_one];simp
theorem ye {w:Nat}(hw:w≤16){xs:List Int}(hok:sR w xs=true){i:Nat}(hi:i<xs.length):l8 false (fC (rows xs w)) w i w=xs[i]:=by
 have hx:=List.all_eq_true.1 hok xs[i] (List.getElem_mem hi)
 unfold AD at hx
 simp only [Bool.and_eq_true,decide_eq_true_eq] at hx
 have hp:=oK xs.length
 unfold l8
 simp only [Bool.false_eq_true,if_false]
 rw [wR hx.1 w hw fun q hq=>?_]
 ·exact Int.emod_eq_of_lt hx.1 hx.2
 ·have hg:=pH xs w (fK xs.length) i q (by omega) hq
  obtain ⟨hlt,hge⟩:=List.getElem?_eq_some_iff.mp hg
  rw [zH (rows xs w) hlt]
  rw [←ri hi];exact hge
theorem we:∀(m:Nat) (l:List Int),l.length≤m→fV l=l.length∨fV l % 8=0
 |0,l,h=>by
  have:l=[]:=List.eq_nil_of_length_eq_zero (by omega)
  subst this;exact .inl rfl
 |m+1,l,h=>by
  rw [vM]
  split
  ·exact .inr rfl
  ·split
   ·exact .inl rfl
   ·rcases we m (l.drop 8) (by rw [List.length_drop];omega) with e|e
    ·rw [List.length_drop] at e;left;omega
    ·right;omega
theorem xN {xs:List Int}:xs.take (same xs)=List.replicate (same xs) (xs.headD 0):=by
 refine List.ext_getElem? fun i=>?_
 by_cases h:i<same xs
 ·obtain ⟨x,h0,h1⟩:=uF h
  have e:xs.headD 0=x:=by
   cases xs with
   |nil=>simp at h0
   |cons y l=>simpa using h0
  rw [List.getElem?_take_of_lt h,h1,List.getElem?_replicate_of_lt h,e]
 ·have hl:=kG xs
  rw [List.getElem?_eq_none (by rw [List.length_take];omega),List.getElem?_eq_none (by rw [List.length_replicate];omega)]
theorem nF {x:Int}(h:may x=true)(d:List UInt8):ij (pv x++d) 0=(x,((pv x).length:Int),0):=by
 have:=uY [] d x h
 simpa using this
theorem w9 {w:Nat}(hw:w≤16){ys:List Int}(hx:ys≠[])(hl:ys.length≤4096)(hok:sR w ys=true)(h8:8≤same ys)(t:List UInt8)(out:List Int){left:Nat}(hleft:same ys≤left):
  fG w (iL w ys++t) out left=(iL w (ys.drop (same ys))++t,out++ys.take (same ys),false):=by
 have hle:=kG ys
 have hm:may (2*(same ys:Int))=true:=fw.2 (by omega)
 have hd:AD w (ys.headD 0)=true:=by
  cases ys with
  |nil=>exact absurd rfl hx
  |cons x l=>exact List.all_eq_true.1 hok x List.mem_cons_self
 have hwl:=D2 hw (ys.headD 0)
 rw [qL hx h8]
 simp only [List.append_assoc]
 unfold fG
 rw [nF hm]
 dsimp only
 rw [if_pos (by omega),Int.toNat_natCast,List.drop_left,show (2*(same ys:Int) / 2).toNat=same ys by omega]
 unfold ke
 rw [if_neg (by simp only [bne_self_eq_false,Bool.false_eq_true,false_or];rw [List.length_append,hwl];omega),if_neg (by omega),←hwl,List.take_left,List.drop_left,zx hw hd,xN]
 rw [dF (show¬(2*(same ys:Int)<2) by omega)];rfl
theorem xI {w:Nat}(hw:w≤16){ys:List Int}(hx:ys≠[])(hl:ys.length≤4096)(hok:sR w ys=true)(h8:same ys<8)(t:List UInt8)(out:List Int){left:Nat}(hleft:fV ys≤left):
  fG w (iL w ys++t) out left=(iL w (ys.drop (fV ys))++t,out++(List.range (min (fK (fV ys)) left)).map (fun i=>l8 false (fC (rows (ys.take (fV ys)) w)) w i w),false):=by
 have hg:=sj ys
 have hgp:=kF hx h8
 have hm:may (2*(((fV ys+7) / 8:Nat):Int)+1)=true:=fw.2 (by omega)
 have htl:(ys.take (fV ys)).length=fV ys:=by rw [List.length_take];omega
 have hrl:(fC (rows (ys.take (fV ys)) w)).length=(fV ys+7) / 8*w:=by
  rw [nr,gK,htl]
  unfold fK
  rw [Nat.mul_assoc];omega
 rw [oV hx h8]
 simp only [List.append_assoc]
 unfold fG
 rw [nF hm]
 dsimp only
 rw [if_neg (by omega),Int.toNat_natCast,List.drop_left,show ((2*(((fV ys+7) / 8:Nat):Int)+1) / 2).toNat=(fV ys+7) / 8 by omega]
 unfold vH
 rw [if_neg (by omega),if_neg (by simp only [bne_self_eq_false,Bool.false_eq_true,false_or];rw [List.length_append,hrl];omega),←hrl,List.take_left,List.drop_left]
 rw [dF (show¬(2*(((fV ys+7) / 8:Nat):Int)+1<2) by omega)];rfl
theorem zl {w:Nat}(hw:w≤16){ys:List Int}(hok:sR w ys=true){g:Nat}(hg:g≤ys.length):(List.range g).map (fun i=>l8 false (fC (rows (ys.take g) w)) w i w)=ys.take g:=by
 have htl:(ys.take g).length=g:=by rw [List.length_take];omega
 have hok2:sR w (ys.take g)=true:=by
  unfold sR
  rw [List.all_eq_true]
  intro x hx
  exact List.all_eq_true.1 hok x (List.mem_of_mem_take hx)
 refine List.ext_getElem (by simp [htl]) fun i h1 h2=>?_
 rw [List.getElem_map,List.getElem_range]
 exact ye hw hok2 (by simpa using h2)
def xd (w count:Nat):Nat→List UInt8→List Int→Option (List UInt8×List Int)
 |0,_,_=>none
 |f+1,r,out=>if count≤out.length then some (r,out) else
  if (fG w r out (count - out.length)).2.2=true then none else xd w count f (fG w r out (count - out.length)).1 (fG w r out (count - out.length)).2.1
theorem uD {w:Nat}{xs:List Int}(h:sR w xs=true)(n:Nat):sR w (xs.drop n)=true:=by
 unfold sR at*
 rw [List.all_eq_true] at*
 exact fun x hx=>h x (List.mem_of_mem_drop hx)
theorem Az {w:Nat}(hw:w≤16)(t:List UInt8):∀(m:Nat) (ys out:List Int) (count f:Nat),ys.length≤m→ys.length≤4096→sR w ys=true→out.length+ys.length=count→m<f→xd w count f (iL w ys++t) out=some (t,out++ys):=by
 intro m
 induction m using Nat.strongRecOn with
 |_ m ih=>
  intro ys out count f h1 h2 h3 h4 h5
  obtain ⟨f,rfl⟩:∃q,f=q+1:=⟨f - 1,by omega⟩
  by_cases hx:ys=[]
  ·subst hx
   rw [xd,if_pos (by simp at h4;omega),mE,List.nil_append,List.append_nil]
  ·have hl0:ys.length≠0:=fun e=>hx (List.eq_nil_of_length_eq_zero e)
   rw [xd,if_neg (by omega),show count - out.length=ys.length by omega]
   by_cases h8:8≤same ys
   ·have hle:=kG ys
    have hdl:(ys.drop (same ys)).length=ys.length - same ys:=List.length_drop
    rw [w9 hw hx h2 h3 h8 t out hle]
    dsimp only
    rw [if_neg (by simp),ih (m - same ys) (by omega) _ _ count f (by omega) (by omega) (uD h3 _) (by rw [List.length_append,List.length_take,hdl];omega) (by omega),List.append_assoc,List.take_append_drop]
   ·have hg:=sj ys
    have hgp:=kF hx (by omega)
    have hp8:=oK (fV ys)
    have hdl:(ys.drop (fV ys)).length=ys.length - fV ys:=List.length_drop
    have hmin:min (fK (fV ys)) ys.length=fV ys:=by
     rcases we ys.length ys (Nat.le_refl _) with e|e
     ·omega
     ·have:fK (fV ys)=fV ys:=by unfold fK;omega
      omega
    rw [xI hw hx h2 h3 (by omega) t out hg]
    dsimp only
    rw [if_neg (by simp),hmin,zl hw h3 hg,ih (m - fV ys) (by omega) _ _ count f (by omega) (by omega) (uD h3 _) (by rw [List.length_append,List.length_take,hdl];omega) (by omega),List.append_assoc,List.take_append_drop]
theorem A0 {k w:Nat}(hk:1200000≤k)(hw:w≤16)(s:List UInt8){count:Nat}(hc:count≤4096):∀(f:Nat) (r:List UInt8) (out:List Int) (r':List UInt8) (out':List Int) (n:Nat),xd w count f r out=some (r',out')→f≤n→(r.length:Int)≤9223372036854775000→out.length≤4096→
  aF.l0 aS k n s (w:Int) (count:Int) r (w:Int) out false=some (xE (w:Int) s (count:Int) out' false):=by
 intro f
 induction f with
 |zero=>intro r out r' out' n h;cases h
 |succ f ih=>
  intro r out r' out' n h h1 h2 h3
  obtain ⟨n,rfl⟩:∃q,n=q+1:=⟨n - 1,by omega⟩
  rw [xd] at h
  by_cases hs:count≤out.length
  ·rw [if_pos hs] at h
   cases h
   exact yj hk n s w count r w out false (by omega) (.inr (by omega))
  ·rw [if_neg hs] at h
   obtain ⟨q1,q2,q3⟩:=xm (w:=w) r out (left:=count - out.length) (by omega)
   rw [ym hk hw n s hc r out h2 (by omega)]
   cases hb:(fG w r out (count - out.length)).2.2 with
   |true=>rw [hb,if_pos rfl] at h;cases h
   |false=>
    rw [hb,if_neg (by simp)] at h
    exact ih _ _ r' out' n h (by omega) (by omega) (by omega)
theorem wJ {k:Nat}(hk:1300000≤k){w:Int}{xs:List Int}{s:List UInt8}(h:kL w xs=(s,0))(hs:(s.length:Int)≤9223372036854775000):aF.f aS k s w (xs.length:Int)=some (xs,0):=by
 have hm:tG w xs=true:=by
  unfold kL at h
  split at h
  ·assumption
  ·cases h
 obtain ⟨h0,h1,h2,h3⟩:=pW.1 hm
 obtain ⟨w,rfl⟩:∃q:Nat,w=(q:Int):=⟨w.toNat,by omega⟩
 have he:iL w xs=s:=by
  unfold kL at h
  rw [if_pos hm] at h
  exact (Prod.mk.inj h).1
 obtain ⟨k,rfl⟩:∃q,k=q+1:=⟨k - 1,by omega⟩
 rw [aF.f_eq,dF (show¬((w:Int)<0) by omega),dF (show¬((w:Int)>16) by omega),dF (show¬((xs.length:Int)<0) by omega),dF (show¬((xs.length:Int)>4096) by omega)]
 simp only [Bool.not_false,cT,cF]
 have hd:=Az (w:=w) (by omega) [] xs.length xs [] xs.length (xs.length+1) (Nat.le_refl _) (by omega) h3 (by simp) (by omega)
 rw [List.append_nil,List.nil_append,he] at hd
 rw [A0 (by omega) (by omega) s (by omega) _ _ _ _ _ k hd (by omega) hs (by simp)]
 unfold xE
 rw [if_pos ⟨rfl,h,rfl⟩]
def RS (w:Nat)(h:Int):Nat:=if h % 2=1 then (h / 2).toNat*w else (iw (w:Int)).toNat
theorem xJ {w:Int}{xs:List Int}(h:4096<xs.length):kL w xs=([],2100):=by
 unfold kL tG
 rw [dF (show¬((xs.length:Int)≤4096) by omega)]
 simp
theorem BW {k:Nat}(hk:1200010≤k)(xs:List Int)(w:Int):aX.f aS k xs w=some (kL w xs):=by
 by_cases h:xs.length≤4096
 ·exact vR (by omega) (by omega) w
 ·rw [xJ (by omega)]
  obtain ⟨k,rfl⟩:∃q,k=q+2:=⟨k - 2,by omega⟩
  have:em.f aS (k+1) xs w=some false:=by
   rw [em.f_eq,dF (show¬((xs.length:Int)≤4096) by omega)]
   cases decide (w≥0)<;>cases decide (w≤16)<;>rfl
  rw [aX.f_eq,this,bS];rfl
theorem ux {w:Nat}(hw:w≤16):∀(m:Nat) (xs:List Int),xs.length≤m→xs.length≤4096→(iL w xs).length≤25*xs.length:=by
 intro m
 induction m using Nat.strongRecOn with
 |_ m ih=>
  intro xs h1 h2
  by_cases hx:xs=[]
  ·subst hx;rw [mE];simp
  ·have hl0:xs.length≠0:=fun e=>hx (List.eq_nil_of_length_eq_zero e)
   by_cases h8:8≤same xs
   ·have hle:=kG xs
    have hpl:=kA (2*(same xs:Int))
    have hwl:=rk (xs.headD 0) w
    have hdl:(xs.drop (same xs)).length=xs.length - same xs:=List.length_drop
    have:=ih (m - same xs) (by omega) (xs.drop (same xs)) (by omega) (by omega)
    rw [qL hx h8,List.length_append,List.length_append];omega
   ·have hg:=sj xs
    have hgp:=kF hx (by omega)
    have hpl:=kA (2*(((fV xs+7) / 8:Nat):Int)+1)
    have hrl:=pa hw (xs.take (fV xs))
    have htl:(xs.take (fV xs)).length=fV xs:=by rw [List.length_take];omega
    have hdl:(xs.drop (fV xs)).length=xs.length - fV xs:=List.length_drop
    have:=ih (m - fV xs) (by omega) (xs.drop (fV xs)) (by omega) (by omega)
    rw [oV hx (by omega),List.length_append,List.length_append];omega
def mk (w:Nat)(x:Int):Int:=ax .and .i64 x (2 ^ w - 1)
theorem BI {w:Nat}(hw:w≤16){ys:List Int}(hl:ys.length≤4096)(ho:sR w ys=true):kL (w:Int) ys=(iL w ys,0):=by
 have hm:tG (w:Int) ys=true:=pW.2 ⟨by omega,by omega,by omega,by rw [Int.toNat_natCast];exact ho⟩
 unfold kL
 rw [if_pos hm,Int.toNat_natCast]
end Go.Proofs.YtjkokaockhecnaaGreatDoorP
