/- What the functions below the laws answer, in plain lists and numbers; no condition but the sizes that a machine has. -/
import Derived.Test.YtjkokaockhecnaaGreatDoorPPg0
import Derived.Laws.BitsLemmas
import Derived.KernelRfl
namespace Go.Proofs.YtjkokaockhecnaaGreatDoorP
open Go Go.Proofs.YtjkokaockhecnaaGreatDoorA
def same:List Int→Nat
 |[]=>0
 |x :: l=>1+(l.takeWhile (·==x)).length
theorem kC:∀xs:List Int,same xs≤xs.length
 |[]=>Nat.le_refl _
 |x :: l=>by
  have:(l.takeWhile (·==x)).length≤l.length:=(List.takeWhile_prefix _).length_le
  simp only [same,List.length_cons];omega
theorem uB {xs:List Int}(h:xs≠[]):1≤same xs:=by
 cases xs with
 |nil=>exact absurd rfl h
 |cons x l=>simp only [same];omega
theorem lj (x:Int):∀(l:List Int) (i:Nat),i<(l.takeWhile (·==x)).length→l[i]?=some x
 |[],i,h=>by simp at h
 |y :: l,i,h=>by
  rw [List.takeWhile_cons] at h
  cases e:(y==x) with
  |false=>rw [e] at h;simp at h
  |true=>
   rw [e] at h
   have e':y=x:=by simpa using e
   subst e'
   cases i with
   |zero=>rfl
   |succ i=>exact lj y l i (by simpa using h)
theorem jK (x:Int):∀(l:List Int),(l.takeWhile (·==x)).length<l.length→∃y,l[(l.takeWhile (·==x)).length]?=some y∧y≠x
 |[],h=>by simp at h
 |y :: l,h=>by
  rw [List.takeWhile_cons] at h ⊢
  cases e:(y==x) with
  |false=>exact ⟨y,by simp,by simpa using e⟩
  |true=>
   rw [e] at h
   obtain ⟨z,h1,h2⟩:=jK x l (by simpa using h)
   exact ⟨z,by simpa using h1,h2⟩
theorem uD {xs:List Int}{i:Nat}(h:i<same xs):∃x,xs[0]?=some x∧xs[i]?=some x:=by
 cases xs with
 |nil=>simp [same] at h
 |cons x l=>
  refine ⟨x,rfl,?_⟩
  cases i with
  |zero=>rfl
  |succ i=>exact lj x l i (by simp only [same] at h;omega)
theorem x4 {xs:List Int}(h:same xs<xs.length):∃x y,xs[0]?=some x∧xs[same xs]?=some y∧y≠x:=by
 cases xs with
 |nil=>simp [same] at h
 |cons x l=>
  simp only [same,List.length_cons] at h ⊢
  obtain ⟨y,h1,h2⟩:=jK x l (by omega)
  refine ⟨x,y,rfl,?_,h2⟩
  rw [Nat.add_comm,List.getElem?_cons_succ];exact h1
theorem fq {α:Type}{l:List α}{i:Nat}{x:α}(h:l[i]?=some x):rd l (i:Int)=some x:=by
 obtain ⟨hl,rfl⟩:=List.getElem?_eq_some_iff.mp h
 exact bT hl
theorem DN {x y:Int}(h:x≠y):(x != y)=true:=by simpa using h
theorem wz {k:Nat}{xs:List Int}(hk:xs.length+3≤k)(hl:xs.length≤1000000000):aY.f aT k xs=some (same xs:Int):=by
 obtain ⟨k,rfl⟩:∃q,k=q+1:=⟨k - 1,by omega⟩
 rw [aY.f_eq]
 by_cases hz:xs=[]
 ·subst hz
  obtain ⟨k,rfl⟩:∃q,k=q+1:=⟨k - 1,by simp at hk;omega⟩
  rw [aY.l0_eq,dF (by simp),cF];rfl
 ·have hle:=kC xs
  refine tM (F:=fun n i=>aY.l0 aT k n xs (xs.length:Int) (i:Int)) (G:=fun _=>some (same xs:Int)) (N:=same xs) ?_ ?_ k 0 (by omega) (by omega)
  ·intro n i hi
   obtain ⟨x,h0,h1⟩:=uD hi
   refine .inl ⟨?_,rfl⟩
   rw [aY.l0_eq,dT (by omega),cT,fq h1,bS,show (0:Int)=((0:Nat):Int) from rfl,fq h0,bS]
   simp only [bne_self_eq_false,cF]
   rw [dB (by omega)]
  ·intro n
   by_cases e:same xs=xs.length
   ·rw [aY.l0_eq,dF (by omega),cF,e]
   ·obtain ⟨x,y,h0,h1,h2⟩:=x4 (xs:=xs) (by omega)
    rw [aY.l0_eq,dT (by omega),cT,fq h1,bS,show (0:Int)=((0:Nat):Int) from rfl,fq h0,bS,DN h2,cT]
def tb (x:Int)(j:Nat):Bool:=(ax .and .i64 (Int.fdiv x (2 ^ (min j IntKind.i64.bits))) 1)==1
def o8 (xs:List Int)(i j:Nat):Bool:=match xs[i]? with|some x=>tb x j|none=>false
def fM (xs:List Int)(w i:Nat):List Bool:=(List.range i).flatMap fun i=>(List.range w).map fun j=>o8 xs i j
theorem hI (xs:List Int)(w i:Nat):fM xs w (i+1)=fM xs w i++(List.range w).map fun j=>o8 xs i j:=by
 simp [fM,List.range_succ]
theorem fo (xs:List Int)(w:Nat):∀i,(fM xs w i).length=i*w
 |0=>by simp [fM]
 |i+1=>by rw [hI,List.length_append,fo xs w i,List.length_map,List.length_range,Nat.add_mul,Nat.one_mul]
def fx (n:Nat):Nat:=8*((n+7) / 8)
theorem oK (n:Nat):n≤fx n∧fx n≤n+7:=by unfold fx;omega
def rows (xs:List Int)(w:Nat):List Bool:=fM xs w (fx xs.length)
theorem gZ (xs:List Int)(w:Nat):(rows xs w).length=fx xs.length*w:=fo xs w _
def sS (xs:List Int)(w i j:Nat):List Bool:=fM xs w i++(List.range j).map fun j=>o8 xs i j
theorem uS (xs:List Int)(w i j:Nat):(sS xs w i j).length=i*w+j:=by
 unfold sS;rw [List.length_append,fo,List.length_map,List.length_range]
theorem zK (xs:List Int)(w i j:Nat):sS xs w i (j+1)=sS xs w i j++[o8 xs i j]:=by
 unfold sS;rw [List.range_succ,List.map_append,List.append_assoc];rfl
theorem Ar (xs:List Int)(w i:Nat):sS xs w i w=sS xs w (i+1) 0:=by
 unfold sS;rw [hI];simp
theorem zo (xs:List Int)(w i:Nat):sS xs w i 0=fM xs w i:=by unfold sS;simp
theorem rH {xs:List Int}{i:Nat}(h:i<xs.length)(j:Nat):o8 xs i j=tb xs[i] j:=by unfold o8;rw [List.getElem?_eq_getElem h]
theorem xe {xs:List Int}{i:Nat}(h:xs.length≤i)(j:Nat):o8 xs i j=false:=by unfold o8;rw [List.getElem?_eq_none h]
theorem AY {i w a:Nat}(h1:i≤a)(h2:w≤16):i*w≤a*16:=Nat.mul_le_mul h1 h2
theorem A3 {i w:Nat}(h1:i≤10000)(h2:w≤16):IntKind.i64.wrap ((i:Int)*(w:Int))=((i*w:Nat):Int):=by
 have:=AY h1 h2
 rw [show ((i:Int)*(w:Int))=((i*w:Nat):Int) by push_cast;rfl]
 exact bH _ (by omega)
theorem xX {n:Nat}(h:n≤10000):IntKind.i64.wrap ((IntKind.i64.wrap (Int.tdiv (IntKind.i64.wrap ((n:Int)+7)) 8))*8)=(fx n:Int):=by
 rw [bH ((n:Int)+7) (by omega),Int.tdiv_eq_ediv_of_nonneg (by omega),bH (((n:Int)+7) / 8) (by omega),bH _ (by omega)]
 unfold fx;omega
theorem xa {k:Nat}{xs:List Bool}(hk:xs.length+3≤k)(hl:xs.length≤900000):dx.f aT k xs=some (fC xs):=by
 obtain ⟨k,rfl⟩:∃q,k=q+1:=⟨k - 1,by omega⟩
 have hb:dA.f aT k ((xs.length:Nat):Int)=some (ig (xs.length:Int)):=iu (by omega) (by omega) (by omega)
 have hbb:ig (xs.length:Int)=(((xs.length+7) / 8:Nat):Int):=by unfold ig;omega
 rw [dx.f_eq,hb,bS,BEq.rfl,hbb,dT (by omega),dT (by omega)]
 simp only [Bool.and_self,cT,Int.toNat_natCast]
 have h0:(List.replicate ((xs.length+7) / 8) (0:Int))=cb xs 0:=by
  unfold cb
  refine List.ext_getElem (by simp) fun q h1 h2=>?_
  simp [cR]
 rw [h0,←vd]
 refine fX (F:=fun n i=>dx.l0 aT k n xs (xs.length:Int) (i:Int) (cb xs i)) (N:=xs.length) ?_ ?_ k 0 (by omega) (by omega)
 ·intro n i hi
  have hq:i / 8<(xs.length+7) / 8:=by omega
  have hlen:(cb xs i).length=(xs.length+7) / 8:=by unfold cb;rw [List.length_map,List.length_range]
  have e1:Int.tdiv (i:Int) 8=((i / 8:Nat):Int):=by rw [Int.tdiv_eq_ediv_of_nonneg (by omega)];omega
  have e2:Int.tmod (i:Int) 8=((i % 8:Nat):Int):=by rw [Int.tmod_eq_emod_of_nonneg (by omega)];omega
  rw [dx.l0_eq,dT (by omega),cT,bT hi,bS,dB (by omega)]
  cases hx:xs[i] with
  |false=>rw [cF,tj hi hx]
  |true=>
   rw [cT,e1,e2,bH ((i / 8:Nat):Int) (by omega),dT (show (0:Int)≤((i / 8:Nat):Int) by omega),dT (show ((i / 8:Nat):Int)<((cb xs i).length:Int) by omega),dF (show¬(((i % 8:Nat):Int)<0) by omega)]
   simp only [Bool.and_self,cT,cF,Int.toNat_natCast]
   rw [gQ hq,show min 8 (i - 8*(i / 8))=i % 8 by omega]
   simp only [bS]
   rw [u7 _ _ (by omega) (mH xs (i / 8) (i % 8)),vM hi hx]
 ·intro n
  rw [dx.l0_eq,dF (by omega),cF]
theorem BQ {α:Type}(p:List α)(m:Nat)(a v:α):(p++List.replicate (m+1) a).set p.length v=(p++[v])++List.replicate m a:=by
 rw [List.replicate_succ,List.set_append_right _ _ (Nat.le_refl _),Nat.sub_self,List.set_cons_zero,List.append_assoc];rfl
theorem rC (xs:List Int)(w:Nat):∀m,fM xs w (xs.length+m)=fM xs w xs.length++List.replicate (m*w) false
 |0=>by simp
 |m+1=>by
  have e:((List.range w).map fun j=>o8 xs (xs.length+m) j)=List.replicate w false:=by
   refine List.ext_getElem (by simp) fun q h1 h2=>?_
   simp [xe]
  rw [←Nat.add_assoc,hI,rC xs w m,e,List.append_assoc,List.replicate_append_replicate,Nat.add_mul,Nat.one_mul]
theorem B0 {k w:Nat}{xs:List Int}(hk:170000≤k)(hl:xs.length≤4096)(hw:w≤16):aI.f aT k xs (w:Int)=some (fC (rows xs w)):=by
 obtain ⟨k,rfl⟩:∃q,k=q+1:=⟨k - 1,by omega⟩
 have hp:=oK xs.length
 have hb:=AY (show fx xs.length≤4104 by omega) hw
 have hlw:xs.length*w≤fx xs.length*w:=Nat.mul_le_mul_right w hp.1
 have e8:IntKind.i64.wrap ((IntKind.i64.wrap (((xs.length:Nat):Int)+8)) - 1)=IntKind.i64.wrap (((xs.length:Nat):Int)+7):=by
  rw [bH (((xs.length:Nat):Int)+8) (by omega)];congr 1;omega
 rw [aI.f_eq,e8,xX (by omega),A3 (by omega) hw,BEq.rfl,dT (by omega),dT (by omega)]
 simp only [Bool.and_self,cT,Int.toNat_natCast]
 have h0:List.replicate (fx xs.length*w) false=sS xs w 0 0++List.replicate (fx xs.length*w - (0*w+0)) false:=by simp [sS,fM]
 rw [h0]
 refine fX (F:=fun n i=>aI.l0 aT k n (w:Int) xs (xs.length:Int) (i:Int) (sS xs w i 0++List.replicate (fx xs.length*w - (i*w+0)) false)) (N:=xs.length) ?_ ?_ k 0 (by omega) (by omega)
 ·intro n i hi
  have hiw:(i+1)*w≤xs.length*w:=Nat.mul_le_mul_right w hi
  rw [Nat.add_mul,Nat.one_mul] at hiw
  rw [aI.l0_eq,dT (by omega),cT,bT hi,bS]
  refine fX (F:=fun m j=>aI.l2 aT k n m (w:Int) (i:Int) xs[i] xs (xs.length:Int) (j:Int) (sS xs w i j++List.replicate (fx xs.length*w - (i*w+j)) false)) (N:=w) ?_ ?_ k 0 (by omega) (by omega)
  ·intro m j hj
   have hlen:=uS xs w i j
   have hadd:IntKind.i64.wrap (((i*w:Nat):Int)+(j:Int))=((i*w+j:Nat):Int):=by rw [bH _ (by omega)];push_cast;rfl
   obtain ⟨q,hq⟩:∃q,fx xs.length*w - (i*w+j)=q+1:=⟨fx xs.length*w - (i*w+j) - 1,by omega⟩
   have hq2:fx xs.length*w - (i*w+(j+1))=q:=by omega
   have hll:(sS xs w i j++List.replicate (q+1) false).length=i*w+j+(q+1):=by rw [List.length_append,hlen,List.length_replicate]
   have hget:(sS xs w i j++List.replicate (q+1) false)[i*w+j]?=some false:=by
    rw [List.getElem?_append_right (by omega),hlen,Nat.sub_self];simp
   rw [aI.l2_eq,dT (by omega),cT,dF (show¬((j:Int)<0) by omega),cF,A3 (by omega) hw,hadd,hq,dT (show (0:Int)≤((i*w+j:Nat):Int) by omega),dT (by rw [hll];omega)]
   simp only [Bool.and_self,cT,Int.toNat_natCast]
   rw [hget]
   simp only [bS]
   have hs:=BQ (sS xs w i j) q false (o8 xs i j)
   rw [hlen] at hs
   rw [hq2,zK,dB (by omega),←hs,rH hi]
   rfl
  ·intro m
   have e:(i+1)*w+0=i*w+w:=by rw [Nat.add_mul,Nat.one_mul];rfl
   rw [aI.l2_eq,dF (by omega),cF,dB (by omega),Ar,e]
 ·intro n
  have hz:fx xs.length*w - (xs.length*w+0)=(fx xs.length - xs.length)*w:=by rw [Nat.sub_mul];rfl
  have hr:sS xs w xs.length 0++List.replicate (fx xs.length*w - (xs.length*w+0)) false=rows xs w:=by
   rw [hz,zo,←rC]
   unfold rows
   congr 1;omega
  rw [aI.l0_eq,dF (by omega),cF,hr]
  have:=xa (k:=k) (xs:=rows xs w) (by rw [gZ];omega) (by rw [gZ];omega)
  rw [this,bS]
def Ce (x:Int):List UInt8:=ab [IntKind.u8.wrap (Int.fdiv x 1)]
def FO (x:Int):List UInt8:=ab [IntKind.u8.wrap (Int.fdiv x 1),IntKind.u8.wrap (Int.fdiv x (2 ^ 8))]
def wd (x:Int)(w:Nat):List UInt8:=if w=0 then [] else if w≤8 then Ce x else FO x
theorem FC (m:Nat)(x:Int):cq.f aT (m+12) x 0=some []:=by kernel_rfl
theorem C4 (m:Nat)(x:Int):cq.f aT (m+12) x 1=some (Ce x):=by kernel_rfl
theorem E5 (m:Nat)(x:Int):cq.f aT (m+12) x 2=some (FO x):=by kernel_rfl
theorem Ao {w:Nat}(hw:w≤16):ig (w:Int)=if w=0 then 0 else if w≤8 then 1 else 2:=by
 unfold ig
 split
 ·omega
 ·split<;>omega
theorem B1 {k w:Nat}(hk:12≤k)(hw:w≤16)(x:Int):cq.f aT k x (ig (w:Int))=some (wd x w):=by
 obtain ⟨m,rfl⟩:∃m,k=m+12:=⟨k - 12,by omega⟩
 rw [Ao hw];unfold wd
 split
 ·exact FC m x
 ·split
  ·exact C4 m x
  ·exact E5 m x
theorem rE (x:Int)(w:Nat):(wd x w).length≤2:=by
 unfold wd
 split
 ·simp
 ·split
  ·exact Nat.le_succ 1
  ·exact Nat.le_refl 2
def qx:Nat→List Int→Nat
 |0,l=>l.length
 |f+1,l=>if 8≤same l then 0 else if l.length≤8 then l.length else 8+qx f (l.drop 8)
theorem wt:∀(f:Nat) (l:List Int),qx f l≤l.length
 |0,l=>Nat.le_refl _
 |f+1,l=>by
  unfold qx
  split
  ·exact Nat.zero_le _
  ·split
   ·exact Nat.le_refl _
   ·have:=wt f (l.drop 8)
    rw [List.length_drop] at this
    omega
theorem ri:∀(f g:Nat) (l:List Int),l.length≤f→l.length≤g→qx f l=qx g l
 |0,0,l,_,_=>rfl
 |0,g+1,l,h,_=>by
  have:l=[]:=List.eq_nil_of_length_eq_zero (by omega)
  subst this;simp [qx,same]
 |f+1,0,l,_,h=>by
  have:l=[]:=List.eq_nil_of_length_eq_zero (by omega)
  subst this;simp [qx,same]
 |f+1,g+1,l,h1,h2=>by
  unfold qx
  rw [ri f g (l.drop 8) (by rw [List.length_drop];omega) (by rw [List.length_drop];omega)]
def fO (l:List Int):Nat:=qx l.length l
theorem sB (l:List Int):fO l≤l.length:=wt _ _
theorem u6 (l:List Int):fO l=if 8≤same l then 0 else if l.length≤8 then l.length else 8+fO (l.drop 8):=by
 cases l with
 |nil=>rfl
 |cons x l=>
  show qx (l.length+1) (x :: l)=_
  rw [qx,fO,ri l.length ((x :: l).drop 8).length _ (by rw [List.length_drop,List.length_cons];omega) (Nat.le_refl _)]
theorem ku {l:List Int}(h:l≠[])(h8:same l<8):1≤fO l:=by
 rw [u6,if_neg (by omega)]
 have:l.length≠0:=fun e=>h (List.eq_nil_of_length_eq_zero e)
 split<;>omega
theorem xj {k:Nat}{xs:List Int}(hk:xs.length+3≤k)(hl:xs.length≤1000000):∀(d a n:Nat),xs.length≤a+d→a≤xs.length+8→d<n→
  aX.l0 aT k n xs (a:Int)=some ((if a<xs.length then a+fO (xs.drop a) else xs.length:Nat):Int):=by
 intro d
 induction d using Nat.strongRecOn with
 |_ d ih=>
  intro a n h1 h2 h3
  obtain ⟨n,rfl⟩:∃m,n=m+1:=⟨n - 1,by omega⟩
  by_cases ha:a<xs.length
  ·have hlen:(xs.drop a).length=xs.length - a:=List.length_drop
   rw [aX.l0_eq,dT (by omega),cT,dT (by omega),dT (by omega)]
   simp only [Bool.and_self,cT,Int.toNat_natCast,List.take_length]
   rw [wz (by rw [hlen];omega) (by rw [hlen];omega),bS,if_pos ha,u6 (xs.drop a),hlen]
   by_cases h8:8≤same (xs.drop a)
   ·rw [dT (by omega),cT,if_pos h8];rfl
   ·rw [dF (by omega),cF,if_neg h8,bH ((a:Int)+8) (by omega),show ((a:Int)+8)=((a+8:Nat):Int) by push_cast;rfl,ih (d - 8) (by omega) (a+8) n (by omega) (by omega) (by omega)]
    by_cases hz:a+8<xs.length
    ·rw [if_pos hz,if_neg (by omega),List.drop_drop,Nat.add_assoc]
    ·rw [if_neg hz,if_pos (by omega)]
     congr 2;omega
  ·rw [aX.l0_eq,dF (by omega),cF,if_neg ha]
theorem xB {k:Nat}{xs:List Int}(hk:xs.length+12≤k)(hl:xs.length≤1000000)(hx:xs≠[]):aX.f aT k xs=some (fO xs:Int):=by
 obtain ⟨k,rfl⟩:∃q,k=q+1:=⟨k - 1,by omega⟩
 have:xs.length≠0:=fun e=>hx (List.eq_nil_of_length_eq_zero e)
 have h:=xj (k:=k) (xs:=xs) (by omega) hl xs.length 0 k (by omega) (by omega) (by omega)
 rw [if_pos (by omega),List.drop_zero,Nat.zero_add] at h
 rw [aX.f_eq];exact h
def jD:Nat→Nat→List Int→List UInt8
 |0,_,_=>[]
 |f+1,w,xs=>
  if xs=[] then []
  else if 8≤same xs then (pv (2*(same xs:Int))++wd (xs.headD 0) w)++jD f w (xs.drop (same xs))
  else (pv (2*(((fO xs+7) / 8:Nat):Int)+1)++fC (rows (xs.take (fO xs)) w))++jD f w (xs.drop (fO xs))
theorem iP (w:Nat):∀(f g:Nat) (xs:List Int),xs.length≤f→xs.length≤g→jD f w xs=jD g w xs
 |0,0,_,_,_=>rfl
 |0,g+1,xs,h,_=>by
  have:xs=[]:=List.eq_nil_of_length_eq_zero (by omega)
  subst this;simp [jD]
 |f+1,0,xs,_,h=>by
  have:xs=[]:=List.eq_nil_of_length_eq_zero (by omega)
  subst this;simp [jD]
 |f+1,g+1,xs,h1,h2=>by
  unfold jD
  split
  ·rfl
  ·rename_i hx
   have hx':xs.length≠0:=fun e=>hx (List.eq_nil_of_length_eq_zero e)
   split
   ·have:=uB hx
    rw [iP w f g _ (by rw [List.length_drop];omega) (by rw [List.length_drop];omega)]
   ·rename_i h8
    have:=ku hx (by omega)
    rw [iP w f g _ (by rw [List.length_drop];omega) (by rw [List.length_drop];omega)]
def iY (w:Nat)(xs:List Int):List UInt8:=jD xs.length w xs
theorem mo (w:Nat):iY w []=[]:=rfl
theorem pA {w:Nat}{xs:List Int}(hx:xs≠[])(h8:8≤same xs):iY w xs=(pv (2*(same xs:Int))++wd (xs.headD 0) w)++iY w (xs.drop (same xs)):=by
 cases xs with
 |nil=>exact absurd rfl hx
 |cons x l=>
  show jD (l.length+1) w (x :: l)=_
  have:=uB hx
  rw [jD,if_neg hx,if_pos h8,iY,iP w l.length ((x :: l).drop (same (x :: l))).length _ (by rw [List.length_drop,List.length_cons];omega) (Nat.le_refl _)]
theorem qn {w:Nat}{xs:List Int}(hx:xs≠[])(h8:same xs<8):iY w xs=(pv (2*(((fO xs+7) / 8:Nat):Int)+1)++fC (rows (xs.take (fO xs)) w))++iY w (xs.drop (fO xs)):=by
 cases xs with
 |nil=>exact absurd rfl hx
 |cons x l=>
  show jD (l.length+1) w (x :: l)=_
  have:=ku hx h8
  rw [jD,if_neg hx,if_neg (by omega),iY,iP w l.length ((x :: l).drop (fO (x :: l))).length _ (by rw [List.length_drop,List.length_cons];omega) (Nat.le_refl _)]
theorem pH {w:Nat}(hw:w≤16)(xs:List Int):(fC (rows xs w)).length≤2*xs.length+15:=by
 have hp:=oK xs.length
 have:=Nat.mul_le_mul_left (fx xs.length) hw
 rw [ni,gZ];omega
theorem jm (s:List UInt8):ab (ac s)=s:=by
 unfold ab ac
 rw [List.map_map]
 refine (List.map_congr_left fun b _=>?_).trans (List.map_id s)
 show UInt8.ofNat ((b.toNat:Int)).toNat=b
 simp
theorem dt (s:List UInt8):(ac s).length=s.length:=by simp [ac]
theorem Cm {xs:List Int}(h:xs≠[]):rd xs 0=some (xs.headD 0):=by
 cases xs with
 |nil=>exact absurd rfl h
 |cons x l=>exact fq (i:=0) rfl
theorem Gg {g:Nat}(h:g≤4096):IntKind.i64.wrap ((IntKind.i64.wrap (2*(IntKind.i64.wrap (Int.tdiv (IntKind.i64.wrap ((IntKind.i64.wrap ((g:Int)+8)) - 1)) 8))))+1)=2*(((g+7) / 8:Nat):Int)+1:=by
 rw [bH ((g:Int)+8) (by omega),bH ((g:Int)+8 - 1) (by omega),Int.tdiv_eq_ediv_of_nonneg (by omega),bH (((g:Int)+8 - 1) / 8) (by omega),bH (2*(((g:Int)+8 - 1) / 8)) (by omega),bH (2*(((g:Int)+8 - 1) / 8)+1) (by omega)]
 omega
theorem EB {k w:Nat}(hk:200000≤k)(hw:w≤16):∀(m:Nat) (xs:List Int) (out:List Int) (n:Nat),xs.length≤m→xs.length≤4096→m<n→out.length+25*xs.length≤1000000→
  aU.l0 aT k n xs (w:Int) out=some (ab out++iY w xs,0):=by
 intro m
 induction m with
 |zero=>
  intro xs out n h1 h2 h3 h4
  have:xs=[]:=List.eq_nil_of_length_eq_zero (by omega)
  subst this
  obtain ⟨n,rfl⟩:∃q,n=q+1:=⟨n - 1,by omega⟩
  rw [aU.l0_eq,dF (by simp),cF,mo,List.append_nil]
 |succ m ih=>
  intro xs out n h1 h2 h3 h4
  obtain ⟨n,rfl⟩:∃q,n=q+1:=⟨n - 1,by omega⟩
  by_cases hx:xs=[]
  ·subst hx
   rw [aU.l0_eq,dF (by simp),cF,mo,List.append_nil]
  ·have hx':xs.length≠0:=fun e=>hx (List.eq_nil_of_length_eq_zero e)
   have hle:=kC xs
   rw [aU.l0_eq,dT (by omega),cT,wz (by omega) (by omega),bS]
   by_cases h8:8≤same xs
   ·have hpl:=kD (2*(same xs:Int))
    have hwl:=rE (xs.headD 0) w
    have hm:oI (2*(same xs:Int))=true:=fm.2 (by omega)
    have hdl:(xs.drop (same xs)).length=xs.length - same xs:=List.length_drop
    rw [dT (by omega),cT,bH (2*(same xs:Int)) (by omega),ii (by omega),bS,qI hm]
    dsimp only
    rw [Cm hx,bS,iu (by omega) (by omega) (by omega),bS,B1 (by omega) hw,bS,dT (by omega),cT,dT (by rw [List.length_append];omega),cT,dT (by omega),dT (by omega)]
    simp only [Bool.and_self,cT,Int.toNat_natCast,List.take_length]
    rw [ih _ _ n (by rw [hdl];omega) (by rw [hdl];omega) (by omega) (by rw [List.length_append,dt,List.length_append,hdl];omega),cA,jm,pA hx h8,List.append_assoc]
   ·have hg:=sB xs
    have hgp:=ku hx (by omega)
    have hgm:oI (2*(((fO xs+7) / 8:Nat):Int)+1)=true:=fm.2 (by omega)
    have hpl:=kD (2*(((fO xs+7) / 8:Nat):Int)+1)
    have htl:(xs.take (fO xs)).length=fO xs:=by rw [List.length_take];omega
    have hrl:=pH hw (xs.take (fO xs))
    rw [htl] at hrl
    have hdl:(xs.drop (fO xs)).length=xs.length - fO xs:=List.length_drop
    rw [dF (by omega),cF,xB (by omega) (by omega) hx,bS,Gg (by omega),ii (by omega),bS,qI hgm,dT (by omega),dT (by omega)]
    simp only [Bool.and_self,cT,Int.toNat_natCast,List.take_length,List.drop_zero]
    rw [B0 (by omega) (by rw [htl];omega) hw,bS,dT (by omega),cT,dT (by rw [List.length_append];omega),cT]
    rw [ih _ _ n (by rw [hdl];omega) (by rw [hdl];omega) (by omega) (by rw [List.length_append,dt,List.length_append,hdl];omega),cA,jm,qn hx (by omega),List.append_assoc]
theorem Gq {a b:Int}:(bif decide (a<b) then a else b)=min b a:=by
 by_cases h:a<b
 ·rw [dT h,cT];omega
 ·rw [dF h,cF];omega
def AU (w:Nat)(x:Int):Bool:=decide (0≤x)&&decide (x<2 ^ w)
def sD (w:Nat)(xs:List Int):Bool:=xs.all (AU w)
theorem Av {w:Nat}(hw:w≤16):min w IntKind.i64.bits=w:=by simp only [IntKind.bits];omega
theorem zD {w:Nat}(hw:w≤16):(1:Int)≤2 ^ w∧(2:Int) ^ w≤65536:=by
 have h1:(2:Nat) ^ w≤2 ^ 16:=Nat.pow_le_pow_right (by omega) hw
 have h2:0<(2:Nat) ^ w:=Nat.two_pow_pos w
 have e:((2:Int) ^ w)=((2 ^ w:Nat):Int):=by push_cast;rfl
 rw [e];omega
theorem B2 {k w:Nat}(hk:1≤k)(hw:w≤16)(x:Int):eM.f aT k x (w:Int)=some (!AU w x):=by
 obtain ⟨k,rfl⟩:∃q,k=q+1:=⟨k - 1,by omega⟩
 rw [eM.f_eq]
 have hp:=zD hw
 unfold AU
 by_cases h0:x<0
 ·rw [dT h0,dF (show¬(0≤x) by omega)];rfl
 ·rw [dF h0,dT (show 0≤x by omega),dF (show¬((w:Int)<0) by omega),Int.toNat_natCast,Av hw,kA]
  simp only [Bool.not_false,cT,cF,Bool.true_and]
  have hd:x / 2 ^ w>0↔¬x<2 ^ w:=by
   rw [Int.not_lt]
   constructor
   ·intro h
    have:=(Int.le_ediv_iff_mul_le (a:=1) (b:=x) (c:=2 ^ w) (by omega)).1 (by omega)
    omega
   ·intro h
    have:=(Int.le_ediv_iff_mul_le (a:=1) (b:=x) (c:=2 ^ w) (by omega)).2 (by omega)
    omega
  by_cases hx:x<2 ^ w
  ·rw [dT hx,dF (fun h=>hd.1 h hx)];rfl
  ·rw [dF hx,dT (hd.2 hx)];rfl
theorem zM {k w:Nat}(hk:1≤k)(hw:w≤16){xs:List Int}(hl:xs.length≤1000000):∀(d i n:Nat),i+d=xs.length→d<n→
  ∃r,ag.l0 aT k n xs (w:Int) (xs.length:Int) (i:Int)=some r∧decide (r≥0)=!sD w (xs.drop i):=by
 intro d
 induction d with
 |zero=>
  intro i n h1 h2
  obtain ⟨n,rfl⟩:∃q,n=q+1:=⟨n - 1,by omega⟩
  refine ⟨-1,by rw [ag.l0_eq,dF (by omega),cF],?_⟩
  rw [show i=xs.length by omega,List.drop_length];rfl
 |succ d ih=>
  intro i n h1 h2
  obtain ⟨n,rfl⟩:∃q,n=q+1:=⟨n - 1,by omega⟩
  have hi:i<xs.length:=by omega
  have hdr:sD w (xs.drop i)=(AU w xs[i]&&sD w (xs.drop (i+1))):=by
   rw [List.drop_eq_getElem_cons hi];rfl
  rw [ag.l0_eq,dT (by omega),cT,bT hi,bS,B2 hk hw,bS,hdr]
  cases hx:AU w xs[i] with
  |false=>exact ⟨(i:Int),rfl,by rw [dT (by omega)];rfl⟩
  |true=>
   obtain ⟨r,e1,e2⟩:=ih (i+1) n (by omega) (by omega)
   refine ⟨r,?_,by rw [e2,Bool.true_and]⟩
   simp only [Bool.not_true,cF]
   rw [dB (by omega)];exact e1
theorem Bc {k:Nat}{xs:List Int}(hk:xs.length+5≤k)(hl:xs.length≤1000000)(w:Int):
  ee.f aT k xs w=some (decide (0≤w)&&(decide (w≤16)&&(decide ((xs.length:Int)≤4096)&&sD w.toNat xs))):=by
 obtain ⟨k,rfl⟩:∃q,k=q+1:=⟨k - 1,by omega⟩
 rw [ee.f_eq]
 by_cases h0:0≤w
 ·by_cases h1:w≤16
  ·by_cases h2:(xs.length:Int)≤4096
   ·obtain ⟨w,rfl⟩:∃q:Nat,w=(q:Int):=⟨w.toNat,by omega⟩
    obtain ⟨k,rfl⟩:∃q,k=q+2:=⟨k - 2,by omega⟩
    obtain ⟨r,e1,e2⟩:=zM (k:=k) (w:=w) (by omega) (by omega) hl xs.length 0 k (by omega) (by omega)
    rw [dT (show (w:Int)≥0 by omega),dT h1,dT h2]
    simp only [cT,Bool.true_and,Int.toNat_natCast]
    rw [aL.f_eq,ag.f_eq]
    have e1':ag.l0 aT k k xs (w:Int) (xs.length:Int) 0=some r:=e1
    rw [e1',bS,bS,e2,List.drop_zero,Bool.not_not]
   ·rw [dT (show w≥0 by omega),dT h1,dF h2];rfl
  ·rw [dT (show w≥0 by omega),dF h1];rfl
 ·rw [dF (show¬w≥0 by omega)];rfl
def sW (w:Int)(xs:List Int):Bool:=decide (0≤w)&&(decide (w≤16)&&(decide ((xs.length:Int)≤4096)&&sD w.toNat xs))
def kJ (w:Int)(xs:List Int):List UInt8×Int:=if sW w xs=true then (iY w.toNat xs,0) else ([],2100)
theorem pF {w:Int}{xs:List Int}:sW w xs=true↔0≤w∧w≤16∧(xs.length:Int)≤4096∧sD w.toNat xs=true:=by
 unfold sW;simp only [Bool.and_eq_true,decide_eq_true_eq]
theorem vR {k:Nat}{xs:List Int}(hk:1200000≤k)(hl:xs.length≤1000000)(w:Int):aU.f aT k xs w=some (kJ w xs):=by
 obtain ⟨k,rfl⟩:∃q,k=q+1:=⟨k - 1,by omega⟩
 rw [aU.f_eq,Bc (by omega) hl,bS]
 unfold kJ
 show (bif !(sW w xs) then _ else _)=_
 cases hm:sW w xs with
 |false=>rfl
 |true=>
  obtain ⟨h0,h1,h2,_⟩:=pF.1 hm
  obtain ⟨w,rfl⟩:∃q:Nat,w=(q:Int):=⟨w.toNat,by omega⟩
  simp only [Bool.not_true,cF,if_true,Int.toNat_natCast]
  rw [EB (by omega) (by omega) xs.length xs [] k (Nat.le_refl _) (by omega) (by omega) (by simp;omega)];rfl
theorem CB {c:Int}(h0:0≤c)(h1:c<4294967296):ax .and .u64 c 4294967295=c:=by
 rw [lI]
 have e1:(4294967295 % (2 ^ IntKind.u64.bits:Int)).toNat=2 ^ 32 - 1:=by decide
 have e2:(c % (2 ^ IntKind.u64.bits:Int)).toNat=c.toNat:=by simp only [IntKind.bits];omega
 rw [e1,e2,Nat.and_two_pow_sub_one_eq_mod,uP _ (by omega)]
 omega
theorem Gt {k:Nat}(hk:2≤k){c:Int}(h0:0≤c)(h1:c<4294967296):dS.f aT k 1 c=some (0,c):=by
 obtain ⟨k,rfl⟩:∃q,k=q+2:=⟨k - 2,by omega⟩
 have m32:min 32 IntKind.u64.bits=32:=rfl
 have f1:Int.fdiv 1 (2 ^ 32)=0:=by decide
 have f0:Int.fdiv 0 (2 ^ 32)=0:=by decide
 have fc:Int.fdiv c (2 ^ 32)=0:=by rw [kA];omega
 have a1:ax .and .u64 1 4294967295=1:=by decide
 have a0:ax .and .u64 0 4294967295=0:=by decide
 have w0:IntKind.u64.wrap 0=0:=by decide
 rw [dS.f_eq,d5.f_eq,m32,f1,fc,a1,CB h0 h1]
 simp only [Int.zero_mul,Int.mul_zero,Int.one_mul,w0,uP c (by omega),fc,Int.add_zero,a0,f0,bS]
theorem Ea {k:Nat}(x:Int){c:Nat}(hc:c≤1000000):∀(d n q:Nat),c≤n+d→n≤c→(1≤n∨c=0)→d<q→
  ai.l0 aT k q (n:Int) (List.replicate n x++List.replicate (c - n) 0)=some (List.replicate c x):=by
 intro d
 induction d using Nat.strongRecOn with
 |_ d ih=>
  intro n q h1 h2 h3 h4
  obtain ⟨q,rfl⟩:∃z,q=z+1:=⟨q - 1,by omega⟩
  have hlen:(List.replicate n x++List.replicate (c - n) (0:Int)).length=c:=by rw [List.length_append,List.length_replicate,List.length_replicate];omega
  rw [ai.l0_eq,hlen]
  by_cases hn:n<c
  ·rw [dT (by omega),cT,dT (show 0≤(n:Int) by omega),dT (by omega)]
   simp only [Bool.and_self,cT,Int.toNat_natCast,List.drop_zero,Nat.zero_add]
   have b1:Nat.ble (n+(c - n)) c=true:=Nat.ble_eq_true_of_le (by omega)
   have b2:Nat.ble n c=true:=Nat.ble_eq_true_of_le (by omega)
   have tk:List.take n (List.replicate n x++List.replicate (c - n) (0:Int))=List.replicate n x:=by
    rw [List.take_append_of_le_length (by simp)];simp
   rw [b1,b2,cT,cT,tk,bS,List.length_replicate]
   have hm:min n (c - n)≤c - n:=Nat.min_le_right _ _
   have t2:List.take (c - n) (List.replicate n x)=List.replicate (min n (c - n)) x:=by rw [List.take_replicate,Nat.min_comm]
   have dr:List.drop (n+min n (c - n)) (List.replicate n x++List.replicate (c - n) (0:Int))=List.replicate (c - (n+min n (c - n))) 0:=by
    rw [List.drop_append,List.length_replicate,List.drop_of_length_le (by simp),List.nil_append,Nat.add_sub_cancel_left,List.drop_replicate]
    congr 1;omega
   rw [t2,dr,List.replicate_append_replicate,bH _ (by omega),show ((n:Int)+((min n (c - n):Nat):Int))=((n+min n (c - n):Nat):Int) by push_cast;rfl]
   exact ih (d - min n (c - n)) (by omega) _ q (by omega) (by omega) (.inl (by omega)) (by omega)
  ·have e:n=c:=by omega
   subst e
   rw [dF (by omega),cF,Nat.sub_self]
   simp
theorem xc {k c:Nat}(hk:c+10≤k)(hc:c≤1000000)(x:Int):ai.f aT k [x] (c:Int)=some (List.replicate c x):=by
 obtain ⟨k,rfl⟩:∃q,k=q+1:=⟨k - 1,by omega⟩
 have hl1:IntKind.u64.wrap ((([x]:List Int)).length:Int)=1:=rfl
 rw [ai.f_eq,dF (by omega),cF,sy,ai.j3_eq,hl1,uP (c:Int) (by omega),Gt (by omega) (by omega) (by omega),bS]
 dsimp only
 rw [dF (show¬((0:Int)>0) by omega),dF (show¬((c:Int)>9223372036854775807) by omega)]
 simp only [Bool.not_false,cT,cF]
 rw [sy,ai.j6_eq,bH (c:Int) (by omega),BEq.rfl,dT (show 0≤(c:Int) by omega),dT (show (c:Int)*8≤140737488355328 by omega)]
 simp only [Bool.and_self,cT,Int.toNat_natCast,List.length_replicate,Nat.zero_add,List.take_zero,List.nil_append]
 have b1:Nat.ble c c=true:=Nat.ble_eq_true_of_le (Nat.le_refl _)
 have hL:List.take c [x]++List.drop (min ([x]:List Int).length c) (List.replicate c (0:Int))=List.replicate (min 1 c) x++List.replicate (c - min 1 c) 0:=by
  rw [List.drop_replicate]
  cases c with
  |zero=>rfl
  |succ c=>simp
 rw [b1,cT,hL]
 exact Ea x hc c (min 1 c) k (by omega) (by omega) (by omega) (by omega)
theorem tw (s:List UInt8)(a:Nat):ij s (a:Int)=(0,0,300)∨∃(h:Int) (e:Nat),ij s (a:Int)=(h,(e:Int),0)∧oI h=true∧a<e∧e≤s.length∧pv h=(s.take e).drop a:=by
 have key:∀(f:Nat) (x:Int) (i:Nat),yr s a f x i=(0,0,300)∨∃(h:Int) (e:Nat),yr s a f x i=(h,(e:Int),0)∧oI h=true∧a<e∧e≤s.length∧pv h=(s.take e).drop a:=by
  intro f
  induction f with
  |zero=>intro x i;exact .inl rfl
  |succ f ih=>
   intro x i
   rw [yr]
   split
   ·exact .inl rfl
   ·rename_i b hb
    have hlt:=(List.getElem?_eq_some_iff.mp hb).1
    split
    ·exact ih _ _
    ·split
     ·rename_i h
      exact .inr ⟨_,a+i+1,rfl,h.1,by omega,by omega,h.2⟩
     ·exact .inl rfl
 unfold ij
 split
 ·rw [Int.toNat_natCast];exact key 5 0 0
 ·exact .inl rfl
theorem rf {k:Nat}(hk:1≤k)(r:List UInt8)(w:Int)(out:List Int)(n:Int):ba.f aT k r w out true n=some ([],(r,w,out,true)):=by
 obtain ⟨k,rfl⟩:∃q,k=q+1:=⟨k - 1,by omega⟩
 rw [ba.f_eq];rfl
theorem tX {k:Nat}(hk:1≤k)(r:List UInt8)(w:Int)(out:List Int)(n:Nat):ba.f aT k r w out false (n:Int)=
  some (if n≤r.length then (r.take n,(r.drop n,w,out,false)) else ([],(r,w,out,true))):=by
 obtain ⟨k,rfl⟩:∃q,k=q+1:=⟨k - 1,by omega⟩
 rw [ba.f_eq]
 by_cases h:n≤r.length
 ·rw [dF (show¬((n:Int)>(r.length:Int)) by omega),dT (show 0≤(n:Int) by omega),dT (show (n:Int)≤((r.length:Nat):Int) by omega),if_pos h]
  simp only [Bool.not_false,cT,cF,Bool.and_self,Int.toNat_natCast,List.drop_zero,List.take_length]
 ·rw [dT (show (n:Int)>(r.length:Int) by omega),if_neg h];rfl
def jI (w:Nat)(r:List UInt8)(out:List Int)(bad:Bool)(many left:Nat):List UInt8×List Int×Bool:=
 if bad=true∨r.length<(ig w).toNat then (r,out,true)
 else if left<many then (r.drop (ig w).toNat,out,true)
 else (r.drop (ig w).toNat,out++List.replicate many (fw (r.take (ig w).toNat)),false)
theorem yl {k w:Nat}(hk:1000100≤k)(hw:w≤16)(r:List UInt8)(out:List Int)(bad:Bool){many left:Nat}(hl:left≤1000000)(ho:out.length≤1000000):
  cY.f aT k r (w:Int) out bad (many:Int) (left:Int)=some ((jI w r out bad many left).1,(w:Int),(jI w r out bad many left).2.1,(jI w r out bad many left).2.2):=by
 obtain ⟨k,rfl⟩:∃q,k=q+1:=⟨k - 1,by omega⟩
 have hbb:ig (w:Int)=((ig (w:Int)).toNat:Int):=by unfold ig;omega
 have hb2:(ig (w:Int)).toNat≤2:=by unfold ig;omega
 rw [cY.f_eq,iu (by omega) (by omega) (by omega),bS]
 unfold jI
 cases bad with
 |true=>
  rw [rf (by omega),bS]
  dsimp only
  rw [eh (by omega) _ (by simp),bS,if_pos (.inl rfl)];rfl
 |false=>
  rw [hbb,tX (by omega),bS,Int.toNat_natCast]
  by_cases h:(ig (w:Int)).toNat≤r.length
  ·rw [if_pos h,if_neg (by simp;omega)]
   dsimp only
   rw [eh (by omega) _ (by rw [List.length_take];omega),bS]
   by_cases hm:left<many
   ·rw [dT (show (many:Int)>(left:Int) by omega),if_pos hm];rfl
   ·rw [dF (show¬((many:Int)>(left:Int)) by omega),if_neg hm]
    simp only [Bool.not_false,cT]
    rw [xc (by omega) (by omega),bS,dT (by rw [List.length_replicate];omega),cT]
  ·rw [if_neg h,if_pos (.inr (by omega))]
   dsimp only
   rw [eh (by omega) _ (by simp),bS];rfl
def o5 (s:List UInt8)(w i:Nat):Nat→Int
 |0=>0
 |j+1=>o5 s w i j+(if CQ s (i*w+j)=true then 2 ^ j else 0)
theorem pR (s:List UInt8)(w i:Nat):∀j,0≤o5 s w i j∧o5 s w i j<2 ^ j
 |0=>by simp [o5]
 |j+1=>by
  have h:=pR s w i j
  have e:(2:Int) ^ (j+1)=2 ^ j*2:=Int.pow_succ 2 j
  rw [o5,e]
  split<;>omega
def mI (bad:Bool)(s:List UInt8)(w i j:Nat):Int:=if bad=true then 0 else o5 s w i j
theorem DX {x:Int}{j:Nat}(hj:j<16)(h0:0≤x)(h1:x<2 ^ j):ax .or .i64 x (IntKind.i64.wrap (1*2 ^ (min j IntKind.i64.bits)))=x+2 ^ j:=by
 have hp:=zD (w:=j) (by omega)
 rw [Av (by omega),bH (1*2 ^ j) (by omega),rM x 1 j h0 h1 (by omega) (by omega)]
 omega
theorem xu {k w:Nat}(hw:w≤16)(hk:100≤k)(bad:Bool)(s rest:List UInt8)(out:List Int){i many:Nat}(hm:many≤600)(hi:i<8*many)(hs:bad=false→s.length=many*w)(lim:Int)(m1:Nat)(ho:out.length≤1000000):
  af.l2 aT k m1 k s (i:Int) 0 lim (w:Int) 0 rest out bad=af.l0 aT k m1 s lim ((i+1:Nat):Int) rest (w:Int) (out++[mI bad s w i w]) bad:=by
 have h0:(0:Int)=mI bad s w i 0:=by unfold mI;split<;>rfl
 have hb:=AY (show i≤4800 by omega) hw
 have hiw:(i+1)*w≤8*many*w:=Nat.mul_le_mul_right w hi
 rw [Nat.add_mul,Nat.one_mul,Nat.mul_assoc] at hiw
 refine Eq.trans (congrArg (fun z=>af.l2 aT k m1 k s (i:Int) z lim (w:Int) 0 rest out bad) h0) ?_
 refine fX (F:=fun n j=>af.l2 aT k m1 n s (i:Int) (mI bad s w i j) lim (w:Int) (j:Int) rest out bad) (N:=w) ?_ ?_ k 0 (by omega) (by omega)
 ·intro n j hj
  rw [af.l2_eq,dT (by omega),cT]
  cases bad with
  |true=>rw [dB (by omega)];rfl
  |false=>
   have hsl:=hs rfl
   have hadd:IntKind.i64.wrap (((i*w:Nat):Int)+(j:Int))=((i*w+j:Nat):Int):=by rw [bH _ (by omega)];push_cast;rfl
   have hv:=pR s w i j
   simp only [Bool.not_false,cT]
   rw [A3 (by omega) hw,hadd,vX (by omega) (by omega) (by omega),bS,dB (by omega)]
   unfold mI
   simp only [Bool.false_eq_true,if_false]
   cases hon:CQ s (i*w+j) with
   |true=>
    rw [cT,dF (show¬((j:Int)<0) by omega),cF,Int.toNat_natCast,DX (by omega) hv.1 hv.2,o5,hon,if_pos rfl]
   |false=>rw [cF,o5,hon,if_neg (by simp),Int.add_zero]
 ·intro n
  rw [af.l2_eq,dF (by omega),cF,dT (by simp only [List.length_cons,List.length_nil];omega),cT,dB (by omega)]
def vb (w:Nat)(r:List UInt8)(out:List Int)(bad:Bool)(many left:Nat):List UInt8×List Int×Bool:=
 if (left+7) / 8<many then (r,out,true)
 else if bad=true∨r.length<many*w then (r,out++(List.range (min (8*many) left)).map (fun i=>mI true [] w i w),true)
 else (r.drop (many*w),out++(List.range (min (8*many) left)).map (fun i=>mI false (r.take (many*w)) w i w),false)
theorem lx {k w:Nat}(hw:w≤16)(hk:100000≤k)(bad:Bool)(s rest:List UInt8)(out:List Int){many lim:Nat}(hm:many≤600)(hi:lim≤8*many)(hs:bad=false→s.length=many*w)(ho:out.length≤900000):
  af.l0 aT k k s (lim:Int) 0 rest (w:Int) out bad=some (rest,(w:Int),out++(List.range lim).map (fun i=>mI bad s w i w),bad):=by
 have h0:out=out++(List.range 0).map (fun i=>mI bad s w i w):=by simp
 refine Eq.trans (congrArg (fun z=>af.l0 aT k k s (lim:Int) 0 rest (w:Int) z bad) h0) ?_
 refine fX (F:=fun n i=>af.l0 aT k n s (lim:Int) (i:Int) rest (w:Int) (out++(List.range i).map (fun i=>mI bad s w i w)) bad) (N:=lim) ?_ ?_ k 0 (by omega) (by omega)
 ·intro n i hl
  rw [af.l0_eq,dT (by omega),cT,xu hw (by omega) bad s rest _ hm (by omega) hs (lim:Int) n (by rw [List.length_append,List.length_map,List.length_range];omega),List.range_succ,List.map_append,List.append_assoc]
  rfl
 ·intro n
  rw [af.l0_eq,dF (by omega),cF]
theorem xm {k w:Nat}(hk:100100≤k)(hw:w≤16)(r:List UInt8)(out:List Int)(bad:Bool){many left:Nat}(hl:left≤4096)(hm:many≤2000000000)(ho:out.length≤900000):
  af.f aT k r (w:Int) out bad (many:Int) (left:Int)=some ((vb w r out bad many left).1,(w:Int),(vb w r out bad many left).2.1,(vb w r out bad many left).2.2):=by
 obtain ⟨k,rfl⟩:∃q,k=q+1:=⟨k - 1,by omega⟩
 have e8:IntKind.i64.wrap (Int.tdiv (IntKind.i64.wrap ((IntKind.i64.wrap ((left:Int)+8)) - 1)) 8)=(((left+7) / 8:Nat):Int):=by
  rw [bH ((left:Int)+8) (by omega),bH ((left:Int)+8 - 1) (by omega),Int.tdiv_eq_ediv_of_nonneg (by omega),bH (((left:Int)+8 - 1) / 8) (by omega)]
  omega
 rw [af.f_eq,e8]
 unfold vb
 by_cases h1:(left+7) / 8<many
 ·rw [dT (by omega),if_pos h1];rfl
 ·have hmany:many≤600:=by omega
  have hmw:=AY (show many≤600 from hmany) hw
  rw [dF (by omega),cF,if_neg h1,A3 (by omega) hw,bH ((many:Int)*8) (by omega),Gq,show min ((many:Int)*8) (left:Int)=((min (8*many) left:Nat):Int) by omega]
  have hlim:min (8*many) left≤8*many:=Nat.min_le_left _ _
  cases bad with
  |true=>
   rw [rf (by omega),bS,if_pos (.inl rfl)]
   dsimp only
   exact lx hw (by omega) true [] r out hmany hlim (fun h=>by cases h) ho
  |false=>
   rw [tX (by omega),bS]
   by_cases h2:many*w≤r.length
   ·rw [if_pos h2,if_neg (by simp;omega)]
    dsimp only
    exact lx hw (by omega) false _ _ out hmany hlim (fun _=>by rw [List.length_take];omega) ho
   ·rw [if_neg h2,if_pos (.inr (by omega))]
    dsimp only
    exact lx hw (by omega) true [] r out hmany hlim (fun h=>by cases h) ho
def xf (w:Int)(s:List UInt8)(count:Int)(out:List Int)(bad:Bool):List Int×Int:=
 if bad=false∧kJ w out=(s,0)∧(out.length:Int)=count then (out,0) else ([],2100)
theorem Ew (w:Int)(s:List UInt8)(count:Int)(out:List Int):
  (bif (!((kJ w out).2 != 0)) then
   bif (!((kJ w out).1 != s)) then
    bif (((out).length:Int) != count) then some (([]:List Int),(2100:Int)) else some (out,0)
   else some (([]:List Int),2100)
  else some (([]:List Int),2100))=some (xf w s count out false):=by
 unfold xf
 rcases hp:kJ w out with ⟨u,e⟩
 dsimp only
 by_cases h1:e=0
 ·subst h1
  by_cases h2:u=s
  ·subst h2
   by_cases h3:(out.length:Int)=count
   ·rw [if_pos ⟨rfl,rfl,h3⟩,show ((out.length:Int) != count)=false by simpa using h3]
    simp only [bne_self_eq_false,Bool.not_false,cT,cF]
   ·rw [if_neg (fun h=>h3 h.2.2),show ((out.length:Int) != count)=true by simpa using h3]
    simp only [bne_self_eq_false,Bool.not_false,cT]
  ·rw [if_neg (fun h=>h2 (Prod.mk.inj h.2.1).1),show (u != s)=true by simpa using h2]
   simp only [bne_self_eq_false,Bool.not_false,Bool.not_true,cT,cF]
 ·rw [if_neg (fun h=>h1 (Prod.mk.inj h.2.1).2),show (e != 0)=true by simpa using h1]
  simp only [Bool.not_true,cF]
theorem zA {k:Nat}(hk:1200000≤k)(n:Nat)(s:List UInt8)(w:Int)(count:Int)(r:List UInt8)(w':Int)(out:List Int)(bad:Bool)(ho:out.length≤1000000)(h:bad=true∨¬(out.length:Int)<count):
  aE.l0 aT k (n+1) s w count r w' out bad=some (xf w s count out bad):=by
 rw [aE.l0_eq]
 cases bad with
 |true=>
  simp only [Bool.not_true,cF]
  rw [vR hk ho,bS]
  unfold xf
  rw [if_neg (by simp)]
 |false=>
  simp only [Bool.not_false,cT]
  rw [dF (by simpa using h),cF,vR hk ho,bS]
  exact Ew w s count out
def fG (w:Nat)(r:List UInt8)(out:List Int)(left:Nat):List UInt8×List Int×Bool:=
 let g:=ij r 0
 let t:=if g.1 % 2=0 then jI w (r.drop g.2.1.toNat) out (g.2.2 != 0) (g.1 / 2).toNat left else vb w (r.drop g.2.1.toNat) out (g.2.2 != 0) (g.1 / 2).toNat left
 (t.1,t.2.1,t.2.2||decide (g.1<2))
theorem wT (r:List UInt8):∃(h:Int) (e:Nat) (c:Int),ij r 0=(h,(e:Int),c)∧0≤h∧h≤2147483647∧e≤r.length∧(h<2∨c=0):=by
 rcases tw r 0 with e|⟨h,e,h1,h2,h3,h4,h5⟩
 ·exact ⟨0,0,300,e,by omega,by omega,Nat.zero_le _,.inl (by omega)⟩
 ·obtain ⟨q1,q2⟩:=fm.1 h2
  exact ⟨h,e,0,h1,q1,q2,h4,.inr rfl⟩
theorem Ae {k w:Nat}(hk:1200000≤k)(hw:w≤16)(n:Nat)(s:List UInt8){count:Nat}(hc:count≤4096)(r:List UInt8)(out:List Int)(hr:(r.length:Int)≤9223372036854775000)(h:out.length<count):
  aE.l0 aT k (n+1) s (w:Int) (count:Int) r (w:Int) out false=
   aE.l0 aT k n s (w:Int) (count:Int) (fG w r out (count - out.length)).1 (w:Int) (fG w r out (count - out.length)).2.1 (fG w r out (count - out.length)).2.2:=by
 obtain ⟨g,e,c,hg,g0,g1,he,_⟩:=wT r
 have hleft:IntKind.i64.wrap ((count:Int) - (out.length:Int))=((count - out.length:Nat):Int):=by rw [bH _ (by omega)];omega
 have hmany:IntKind.i64.wrap (Int.tdiv g 2)=(((g / 2).toNat:Nat):Int):=by rw [Int.tdiv_eq_ediv_of_nonneg g0,bH _ (by omega)];omega
 have hmod:Int.tmod g 2=g % 2:=Int.tmod_eq_emod_of_nonneg g0
 have j12:∀(t:List UInt8×List Int×Bool),aE.j12 aT k n s (w:Int) (count:Int) g t.1 (w:Int) t.2.1 t.2.2=aE.l0 aT k n s (w:Int) (count:Int) t.1 (w:Int) t.2.1 (t.2.2||decide (g<2)):=by
  rintro ⟨t1,t2,b⟩
  rw [aE.j12_eq]
  cases b<;>rfl
 unfold fG
 rw [aE.l0_eq,hg]
 simp only [Bool.not_false,cT]
 rw [dT (by omega),cT,qM (by omega) r hr,hg,bS]
 dsimp only
 rw [dT (by omega),dT (by omega)]
 simp only [Bool.and_self,cT,List.take_length,Int.toNat_natCast]
 rw [hmod,hleft,hmany]
 by_cases hm:g % 2=0
 ·rw [if_pos hm,show (g % 2==0)=true by simpa using hm,cT,yl (by omega) hw _ _ _ (by omega) (by omega),bS]
  dsimp only
  rw [sy,j12]
 ·rw [if_neg hm,show (g % 2==0)=false by simpa using hm,cF,xm (by omega) hw _ _ _ (by omega) (by omega) (by omega),bS]
  dsimp only
  rw [sy,j12]
theorem yg {w:Nat}(r:List UInt8)(out:List Int){left:Nat}(hl:1≤left):(fG w r out left).2.1.length≤out.length+left∧((fG w r out left).2.2=false→out.length<(fG w r out left).2.1.length)∧(fG w r out left).1.length≤r.length:=by
 obtain ⟨g,e,c,hg,g0,g1,he,h2⟩:=wT r
 unfold fG
 rw [hg]
 dsimp only
 rw [Int.toNat_natCast]
 have hd:(r.drop e).length≤r.length:=by rw [List.length_drop];omega
 split
 ·unfold jI
  split
  ·exact ⟨by simp,fun h=>by simp at h,hd⟩
  ·split
   ·exact ⟨by simp,fun h=>by simp at h,by rw [List.length_drop];omega⟩
   ·rename_i hm
    refine ⟨by rw [List.length_append,List.length_replicate];omega,fun h=>?_,by rw [List.length_drop];omega⟩
    simp only [Bool.false_or,decide_eq_false_iff_not] at h
    rw [List.length_append,List.length_replicate];omega
 ·unfold vb
  split
  ·exact ⟨by simp,fun h=>by simp at h,hd⟩
  ·split
   ·refine ⟨by rw [List.length_append,List.length_map,List.length_range];omega,fun h=>by simp at h,hd⟩
   ·refine ⟨by rw [List.length_append,List.length_map,List.length_range];omega,fun h=>?_,by rw [List.length_drop];omega⟩
    simp only [Bool.false_or,decide_eq_false_iff_not] at h
    rw [List.length_append,List.length_map,List.length_range];omega
theorem Eu {w:Nat}(hw:w≤16)(x:Int):(wd x w).length=(ig (w:Int)).toNat:=by
 rw [Ao hw];unfold wd
 split
 ·rfl
 ·split<;>rfl
theorem Cd (x:Int):(val (Ce x):Int)=x % 256:=by
 have e:(val (Ce x):Int)=((UInt8.ofNat (IntKind.u8.wrap (Int.fdiv x 1)).toNat).toNat:Int)+256*0:=by
  simp only [Ce,ab,List.map_cons,List.map_nil,val,Int.natCast_add,Int.natCast_mul];rfl
 rw [e]
 simp only [ml,cg _ _ (show (0:Int)≤1 by decide)]
 omega
theorem A1 (x:Int):(val (FO x):Int)=x % 65536:=by
 have e:(val (FO x):Int)=((UInt8.ofNat (IntKind.u8.wrap (Int.fdiv x 1)).toNat).toNat:Int)+256*(((UInt8.ofNat (IntKind.u8.wrap (Int.fdiv x (2 ^ 8))).toNat).toNat:Int)+256*0):=by
  simp only [FO,ab,List.map_cons,List.map_nil,val,Int.natCast_add,Int.natCast_mul];rfl
 rw [e]
 simp only [ml,cg _ _ (show (0:Int)≤1 by decide),cg _ _ (show (0:Int)≤2 ^ 8 by decide)]
 have p8:(2:Int) ^ 8=256:=by decide
 rw [p8]
 omega
theorem zc {w:Nat}(hw:w≤16){x:Int}(h:AU w x=true):fw (wd x w)=x:=by
 unfold AU at h
 simp only [Bool.and_eq_true,decide_eq_true_eq] at h
 have hp:=zD hw
 unfold fw wd
 split
 ·rename_i e;subst e
  have:x=0:=by have:=h.2;simp at this;omega
  subst this;rfl
 ·split
  ·rename_i h8
   have h2:(2:Int) ^ w≤256:=by
    have h1:(2:Nat) ^ w≤2 ^ 8:=Nat.pow_le_pow_right (by omega) h8
    have e:((2:Int) ^ w)=((2 ^ w:Nat):Int):=by push_cast;rfl
    rw [e];omega
   rw [Cd,bH _ (by omega)];omega
  ·rw [A1,bH _ (by omega)];omega
theorem pB (xs:List Int)(w:Nat):∀(n i j:Nat),i<n→j<w→(fM xs w n)[i*w+j]?=some (o8 xs i j)
 |n+1,i,j,hi,hj=>by
  have hl:=fo xs w n
  rw [hI]
  by_cases h:i<n
  ·have h1:(i+1)*w≤n*w:=Nat.mul_le_mul_right w h
   rw [Nat.add_mul,Nat.one_mul] at h1
   rw [List.getElem?_append_left (by rw [hl];omega)]
   exact pB xs w n i j h hj
  ·have e:i=n:=by omega
   subst e
   rw [List.getElem?_append_right (by rw [hl];omega),hl,Nat.add_sub_cancel_left,List.getElem?_map,List.getElem?_range hj];rfl
theorem EM {x:Int}{j:Nat}(hj:j<16):tb x j=decide (x / 2 ^ j % 2=1):=by
 unfold tb
 have e:=AS (Int.fdiv x (2 ^ (min j IntKind.i64.bits))) 1 (by omega)
 rw [show ((2:Int) ^ 1 - 1)=1 from rfl] at e
 rw [e,Av (by omega),kA]
 rw [show ((2:Int) ^ 1)=2 from rfl]
 by_cases h:x / 2 ^ j % 2=1
 ·rw [dT h];simpa using h
 ·rw [dF h];simpa using h
theorem zf (x:Int){p:Int}(hp:0<p):x % (p*2)=x % p+p*(x / p % 2):=by
 have h1:x % p+p*(x / p)=x:=Int.emod_add_mul_ediv x p
 have h2:x / p=x / p % 2+2*(x / p / 2):=(Int.emod_add_mul_ediv (x / p) 2).symm
 have h3:p*(x / p)=p*(x / p % 2)+p*2*(x / p / 2):=by
  calc p*(x / p)=p*(x / p % 2+2*(x / p / 2)):=by rw [←h2]
   _=_:=by rw [Int.mul_add,Int.mul_assoc]
 have h4:x=(x % p+p*(x / p % 2))+p*2*(x / p / 2):=by omega
 have r1:=Int.emod_nonneg x (show p≠0 by omega)
 have r2:=Int.emod_lt_of_pos x hp
 have h5:x / p % 2=0∨x / p % 2=1:=by omega
 have h6:0≤x % p+p*(x / p % 2)∧x % p+p*(x / p % 2)<p*2:=by
  rcases h5 with e|e
  ·rw [e,Int.mul_zero];omega
  ·rw [e,Int.mul_one];omega
 calc x % (p*2)=((x % p+p*(x / p % 2))+p*2*(x / p / 2)) % (p*2):=by rw [←h4]
  _=(x % p+p*(x / p % 2)) % (p*2):=Int.add_mul_emod_self_left _ _ _
  _=_:=Int.emod_eq_of_lt h6.1 h6.2
theorem wJ {s:List UInt8}{w i:Nat}{x:Int}(hx:0≤x):∀j,j≤16→(∀q,q<j→CQ s (i*w+q)=tb x q)→o5 s w i j=x % 2 ^ j
 |0,_,_=>by simp [o5]
 |j+1,hj,h=>by
  rw [o5,wJ hx j (by omega) fun q hq=>h q (by omega),h j (by omega),EM (by omega)]
  have e:(2:Int) ^ (j+1)=2 ^ j*2:=Int.pow_succ 2 j
  have hp:(0:Int)<2 ^ j:=Int.pow_pos (by omega)
  have hm:x % (2 ^ j*2)=x % 2 ^ j+2 ^ j*(x / 2 ^ j % 2):=zf x hp
  rw [e,hm]
  have h2:x / 2 ^ j % 2=0∨x / 2 ^ j % 2=1:=by omega
  rcases h2 with h2|h2
  ·rw [h2,Int.mul_zero];simp
  ·rw [h2,Int.mul_one];simp
theorem xN {w:Nat}(hw:w≤16){xs:List Int}(hok:sD w xs=true){i:Nat}(hi:i<xs.length):mI false (fC (rows xs w)) w i w=xs[i]:=by
 have hx:=List.all_eq_true.1 hok xs[i] (List.getElem_mem hi)
 unfold AU at hx
 simp only [Bool.and_eq_true,decide_eq_true_eq] at hx
 have hp:=oK xs.length
 unfold mI
 simp only [Bool.false_eq_true,if_false]
 rw [wJ hx.1 w hw fun q hq=>?_]
 ·exact Int.emod_eq_of_lt hx.1 hx.2
 ·have hg:=pB xs w (fx xs.length) i q (by omega) hq
  obtain ⟨hlt,hge⟩:=List.getElem?_eq_some_iff.mp hg
  rw [Ab (rows xs w) hlt]
  rw [←rH hi];exact hge
theorem wH:∀(m:Nat) (l:List Int),l.length≤m→fO l=l.length∨fO l % 8=0
 |0,l,h=>by
  have:l=[]:=List.eq_nil_of_length_eq_zero (by omega)
  subst this;exact .inl rfl
 |m+1,l,h=>by
  rw [u6]
  split
  ·exact .inr rfl
  ·split
   ·exact .inl rfl
   ·rcases wH m (l.drop 8) (by rw [List.length_drop];omega) with e|e
    ·rw [List.length_drop] at e;left;omega
    ·right;omega
theorem ye {xs:List Int}:xs.take (same xs)=List.replicate (same xs) (xs.headD 0):=by
 refine List.ext_getElem? fun i=>?_
 by_cases h:i<same xs
 ·obtain ⟨x,h0,h1⟩:=uD h
  have e:xs.headD 0=x:=by
   cases xs with
   |nil=>simp at h0
   |cons y l=>simpa using h0
  rw [List.getElem?_take_of_lt h,h1,List.getElem?_replicate_of_lt h,e]
 ·have hl:=kC xs
  rw [List.getElem?_eq_none (by rw [List.length_take];omega),List.getElem?_eq_none (by rw [List.length_replicate];omega)]
theorem nG {x:Int}(h:oI x=true)(d:List UInt8):ij (pv x++d) 0=(x,((pv x).length:Int),0):=by
 have:=vY [] d x h
 simpa using this
theorem xP {w:Nat}(hw:w≤16){ys:List Int}(hx:ys≠[])(hl:ys.length≤4096)(hok:sD w ys=true)(h8:8≤same ys)(t:List UInt8)(out:List Int){left:Nat}(hleft:same ys≤left):
  fG w (iY w ys++t) out left=(iY w (ys.drop (same ys))++t,out++ys.take (same ys),false):=by
 have hle:=kC ys
 have hm:oI (2*(same ys:Int))=true:=fm.2 (by omega)
 have hd:AU w (ys.headD 0)=true:=by
  cases ys with
  |nil=>exact absurd rfl hx
  |cons x l=>exact List.all_eq_true.1 hok x List.mem_cons_self
 have hwl:=Eu hw (ys.headD 0)
 rw [pA hx h8]
 simp only [List.append_assoc]
 unfold fG
 rw [nG hm]
 dsimp only
 rw [if_pos (by omega),Int.toNat_natCast,List.drop_left,show (2*(same ys:Int) / 2).toNat=same ys by omega]
 unfold jI
 rw [if_neg (by simp only [bne_self_eq_false,Bool.false_eq_true,false_or];rw [List.length_append,hwl];omega),if_neg (by omega),←hwl,List.take_left,List.drop_left,zc hw hd,ye]
 rw [dF (show¬(2*(same ys:Int)<2) by omega)];rfl
theorem xy {w:Nat}(hw:w≤16){ys:List Int}(hx:ys≠[])(hl:ys.length≤4096)(hok:sD w ys=true)(h8:same ys<8)(t:List UInt8)(out:List Int){left:Nat}(hleft:fO ys≤left):
  fG w (iY w ys++t) out left=(iY w (ys.drop (fO ys))++t,out++(List.range (min (fx (fO ys)) left)).map (fun i=>mI false (fC (rows (ys.take (fO ys)) w)) w i w),false):=by
 have hg:=sB ys
 have hgp:=ku hx h8
 have hm:oI (2*(((fO ys+7) / 8:Nat):Int)+1)=true:=fm.2 (by omega)
 have htl:(ys.take (fO ys)).length=fO ys:=by rw [List.length_take];omega
 have hrl:(fC (rows (ys.take (fO ys)) w)).length=(fO ys+7) / 8*w:=by
  rw [ni,gZ,htl]
  unfold fx
  rw [Nat.mul_assoc];omega
 rw [qn hx h8]
 simp only [List.append_assoc]
 unfold fG
 rw [nG hm]
 dsimp only
 rw [if_neg (by omega),Int.toNat_natCast,List.drop_left,show ((2*(((fO ys+7) / 8:Nat):Int)+1) / 2).toNat=(fO ys+7) / 8 by omega]
 unfold vb
 rw [if_neg (by omega),if_neg (by simp only [bne_self_eq_false,Bool.false_eq_true,false_or];rw [List.length_append,hrl];omega),←hrl,List.take_left,List.drop_left]
 rw [dF (show¬(2*(((fO ys+7) / 8:Nat):Int)+1<2) by omega)];rfl
theorem y4 {w:Nat}(hw:w≤16){ys:List Int}(hok:sD w ys=true){g:Nat}(hg:g≤ys.length):(List.range g).map (fun i=>mI false (fC (rows (ys.take g) w)) w i w)=ys.take g:=by
 have htl:(ys.take g).length=g:=by rw [List.length_take];omega
 have hok2:sD w (ys.take g)=true:=by
  unfold sD
  rw [List.all_eq_true]
  intro x hx
  exact List.all_eq_true.1 hok x (List.mem_of_mem_take hx)
 refine List.ext_getElem (by simp [htl]) fun i h1 h2=>?_
 rw [List.getElem_map,List.getElem_range]
 exact xN hw hok2 (by simpa using h2)
def xY (w count:Nat):Nat→List UInt8→List Int→Option (List UInt8×List Int)
 |0,_,_=>none
 |f+1,r,out=>if count≤out.length then some (r,out) else
  if (fG w r out (count - out.length)).2.2=true then none else xY w count f (fG w r out (count - out.length)).1 (fG w r out (count - out.length)).2.1
theorem t6 {w:Nat}{xs:List Int}(h:sD w xs=true)(n:Nat):sD w (xs.drop n)=true:=by
 unfold sD at*
 rw [List.all_eq_true] at*
 exact fun x hx=>h x (List.mem_of_mem_drop hx)
theorem AL {w:Nat}(hw:w≤16)(t:List UInt8):∀(m:Nat) (ys out:List Int) (count f:Nat),ys.length≤m→ys.length≤4096→sD w ys=true→out.length+ys.length=count→m<f→xY w count f (iY w ys++t) out=some (t,out++ys):=by
 intro m
 induction m using Nat.strongRecOn with
 |_ m ih=>
  intro ys out count f h1 h2 h3 h4 h5
  obtain ⟨f,rfl⟩:∃q,f=q+1:=⟨f - 1,by omega⟩
  by_cases hx:ys=[]
  ·subst hx
   rw [xY,if_pos (by simp at h4;omega),mo,List.nil_append,List.append_nil]
  ·have hl0:ys.length≠0:=fun e=>hx (List.eq_nil_of_length_eq_zero e)
   rw [xY,if_neg (by omega),show count - out.length=ys.length by omega]
   by_cases h8:8≤same ys
   ·have hle:=kC ys
    have hdl:(ys.drop (same ys)).length=ys.length - same ys:=List.length_drop
    rw [xP hw hx h2 h3 h8 t out hle]
    dsimp only
    rw [if_neg (by simp),ih (m - same ys) (by omega) _ _ count f (by omega) (by omega) (t6 h3 _) (by rw [List.length_append,List.length_take,hdl];omega) (by omega),List.append_assoc,List.take_append_drop]
   ·have hg:=sB ys
    have hgp:=ku hx (by omega)
    have hp8:=oK (fO ys)
    have hdl:(ys.drop (fO ys)).length=ys.length - fO ys:=List.length_drop
    have hmin:min (fx (fO ys)) ys.length=fO ys:=by
     rcases wH ys.length ys (Nat.le_refl _) with e|e
     ·omega
     ·have:fx (fO ys)=fO ys:=by unfold fx;omega
      omega
    rw [xy hw hx h2 h3 (by omega) t out hg]
    dsimp only
    rw [if_neg (by simp),hmin,y4 hw h3 hg,ih (m - fO ys) (by omega) _ _ count f (by omega) (by omega) (t6 h3 _) (by rw [List.length_append,List.length_take,hdl];omega) (by omega),List.append_assoc,List.take_append_drop]
theorem A9 {k w:Nat}(hk:1200000≤k)(hw:w≤16)(s:List UInt8){count:Nat}(hc:count≤4096):∀(f:Nat) (r:List UInt8) (out:List Int) (r':List UInt8) (out':List Int) (n:Nat),xY w count f r out=some (r',out')→f≤n→(r.length:Int)≤9223372036854775000→out.length≤4096→
  aE.l0 aT k n s (w:Int) (count:Int) r (w:Int) out false=some (xf (w:Int) s (count:Int) out' false):=by
 intro f
 induction f with
 |zero=>intro r out r' out' n h;cases h
 |succ f ih=>
  intro r out r' out' n h h1 h2 h3
  obtain ⟨n,rfl⟩:∃q,n=q+1:=⟨n - 1,by omega⟩
  rw [xY] at h
  by_cases hs:count≤out.length
  ·rw [if_pos hs] at h
   cases h
   exact zA hk n s w count r w out false (by omega) (.inr (by omega))
  ·rw [if_neg hs] at h
   obtain ⟨q1,q2,q3⟩:=yg (w:=w) r out (left:=count - out.length) (by omega)
   rw [Ae hk hw n s hc r out h2 (by omega)]
   cases hb:(fG w r out (count - out.length)).2.2 with
   |true=>rw [hb,if_pos rfl] at h;cases h
   |false=>
    rw [hb,if_neg (by simp)] at h
    exact ih _ _ r' out' n h (by omega) (by omega) (by omega)
theorem we {k:Nat}(hk:1300000≤k){w:Int}{xs:List Int}{s:List UInt8}(h:kJ w xs=(s,0))(hs:(s.length:Int)≤9223372036854775000):aE.f aT k s w (xs.length:Int)=some (xs,0):=by
 have hm:sW w xs=true:=by
  unfold kJ at h
  split at h
  ·assumption
  ·cases h
 obtain ⟨h0,h1,h2,h3⟩:=pF.1 hm
 obtain ⟨w,rfl⟩:∃q:Nat,w=(q:Int):=⟨w.toNat,by omega⟩
 have he:iY w xs=s:=by
  unfold kJ at h
  rw [if_pos hm] at h
  exact (Prod.mk.inj h).1
 obtain ⟨k,rfl⟩:∃q,k=q+1:=⟨k - 1,by omega⟩
 rw [aE.f_eq,dF (show¬((w:Int)<0) by omega),dF (show¬((w:Int)>16) by omega),dF (show¬((xs.length:Int)<0) by omega),dF (show¬((xs.length:Int)>4096) by omega)]
 simp only [Bool.not_false,cT,cF]
 have hd:=AL (w:=w) (by omega) [] xs.length xs [] xs.length (xs.length+1) (Nat.le_refl _) (by omega) h3 (by simp) (by omega)
 rw [List.append_nil,List.nil_append,he] at hd
 rw [A9 (by omega) (by omega) s (by omega) _ _ _ _ _ k hd (by omega) hs (by simp)]
 unfold xf
 rw [if_pos ⟨rfl,h,rfl⟩]
def RS (w:Nat)(h:Int):Nat:=if h % 2=1 then (h / 2).toNat*w else (ig (w:Int)).toNat
theorem xd {w:Int}{xs:List Int}(h:4096<xs.length):kJ w xs=([],2100):=by
 unfold kJ sW
 rw [dF (show¬((xs.length:Int)≤4096) by omega)]
 simp
theorem A2 {k:Nat}(hk:1200010≤k)(xs:List Int)(w:Int):aU.f aT k xs w=some (kJ w xs):=by
 by_cases h:xs.length≤4096
 ·exact vR (by omega) (by omega) w
 ·rw [xd (by omega)]
  obtain ⟨k,rfl⟩:∃q,k=q+2:=⟨k - 2,by omega⟩
  have:ee.f aT (k+1) xs w=some false:=by
   rw [ee.f_eq,dF (show¬((xs.length:Int)≤4096) by omega)]
   cases decide (w≥0)<;>cases decide (w≤16)<;>rfl
  rw [aU.f_eq,this,bS];rfl
theorem uF {w:Nat}(hw:w≤16):∀(m:Nat) (xs:List Int),xs.length≤m→xs.length≤4096→(iY w xs).length≤25*xs.length:=by
 intro m
 induction m using Nat.strongRecOn with
 |_ m ih=>
  intro xs h1 h2
  by_cases hx:xs=[]
  ·subst hx;rw [mo];simp
  ·have hl0:xs.length≠0:=fun e=>hx (List.eq_nil_of_length_eq_zero e)
   by_cases h8:8≤same xs
   ·have hle:=kC xs
    have hpl:=kD (2*(same xs:Int))
    have hwl:=rE (xs.headD 0) w
    have hdl:(xs.drop (same xs)).length=xs.length - same xs:=List.length_drop
    have:=ih (m - same xs) (by omega) (xs.drop (same xs)) (by omega) (by omega)
    rw [pA hx h8,List.length_append,List.length_append];omega
   ·have hg:=sB xs
    have hgp:=ku hx (by omega)
    have hpl:=kD (2*(((fO xs+7) / 8:Nat):Int)+1)
    have hrl:=pH hw (xs.take (fO xs))
    have htl:(xs.take (fO xs)).length=fO xs:=by rw [List.length_take];omega
    have hdl:(xs.drop (fO xs)).length=xs.length - fO xs:=List.length_drop
    have:=ih (m - fO xs) (by omega) (xs.drop (fO xs)) (by omega) (by omega)
    rw [qn hx (by omega),List.length_append,List.length_append];omega
def mk (w:Nat)(x:Int):Int:=ax .and .i64 x (2 ^ w - 1)
theorem Cb {w:Nat}(hw:w≤16){ys:List Int}(hl:ys.length≤4096)(ho:sD w ys=true):kJ (w:Int) ys=(iY w ys,0):=by
 have hm:sW (w:Int) ys=true:=pF.2 ⟨by omega,by omega,by omega,by rw [Int.toNat_natCast];exact ho⟩
 unfold kJ
 rw [if_pos hm,Int.toNat_natCast]
end Go.Proofs.YtjkokaockhecnaaGreatDoorP
