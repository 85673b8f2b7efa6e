/- What the functions below the laws answer, in plain lists and numbers; no condition but the sizes that a machine has. -/
import Derived.Test.YtjkokaockhecnaaGreatDoorPPg0
import Derived.Laws.BitsLemmas
import Derived.KernelRfl
namespace Go.Proofs.YtjkokaockhecnaaGreatDoorP
open Go Go.Proofs.YtjkokaockhecnaaGreatDoorA
def same:List Int→Nat
 |[]=>0
 |x :: l=>1+(l.takeWhile (·==x)).length
theorem qy:∀xs:List Int,same xs≤xs.length
 |[]=>Nat.le_refl _
 |x :: l=>by
  have:(l.takeWhile (·==x)).length≤l.length:=(List.takeWhile_prefix _).length_le
  simp only [same,List.length_cons];omega
theorem rp {xs:List Int}(h:xs≠[]):1≤same xs:=by
 cases xs with
 |nil=>exact absurd rfl h
 |cons x l=>simp only [same];omega
theorem jT (x:Int):∀(l:List Int) (i:Nat),i<(l.takeWhile (·==x)).length→l[i]?=some x
 |[],i,h=>by simp at h
 |y :: l,i,h=>by
  rw [List.takeWhile_cons] at h
  cases e:(y==x) with
  |false=>rw [e] at h;simp at h
  |true=>
   rw [e] at h
   have e':y=x:=by simpa using e
   subst e'
   cases i with
   |zero=>rfl
   |succ i=>exact jT y l i (by simpa using h)
theorem jq (x:Int):∀(l:List Int),(l.takeWhile (·==x)).length<l.length→∃y,l[(l.takeWhile (·==x)).length]?=some y∧y≠x
 |[],h=>by simp at h
 |y :: l,h=>by
  rw [List.takeWhile_cons] at h ⊢
  cases e:(y==x) with
  |false=>exact ⟨y,by simp,by simpa using e⟩
  |true=>
   rw [e] at h
   obtain ⟨z,h1,h2⟩:=jq x l (by simpa using h)
   exact ⟨z,by simpa using h1,h2⟩
theorem xf {xs:List Int}{i:Nat}(h:i<same xs):∃x,xs[0]?=some x∧xs[i]?=some x:=by
 cases xs with
 |nil=>simp [same] at h
 |cons x l=>
  refine ⟨x,rfl,?_⟩
  cases i with
  |zero=>rfl
  |succ i=>exact jT x l i (by simp only [same] at h;omega)
theorem vc {xs:List Int}(h:same xs<xs.length):∃x y,xs[0]?=some x∧xs[same xs]?=some y∧y≠x:=by
 cases xs with
 |nil=>simp [same] at h
 |cons x l=>
  simp only [same,List.length_cons] at h ⊢
  obtain ⟨y,h1,h2⟩:=jq x l (by omega)
  refine ⟨x,y,rfl,?_,h2⟩
  rw [Nat.add_comm,List.getElem?_cons_succ];exact h1
theorem eJ {α:Type}{l:List α}{i:Nat}{x:α}(h:l[i]?=some x):rd l (i:Int)=some x:=by
 obtain ⟨hl,rfl⟩:=List.getElem?_eq_some_iff.mp h
 exact cw hl
theorem zR {x y:Int}(h:x≠y):(x != y)=true:=by simpa using h
theorem uc {k:Nat}{xs:List Int}(hk:xs.length+3≤k)(hl:xs.length≤1000000000):aS.f bK k xs=some (same xs:Int):=by
 obtain ⟨k,rfl⟩:∃q,k=q+1:=⟨k - 1,by omega⟩
 rw [aS.f_eq]
 by_cases hz:xs=[]
 ·subst hz
  obtain ⟨k,rfl⟩:∃q,k=q+1:=⟨k - 1,by simp at hk;omega⟩
  rw [aS.l0_eq,dF (by simp),cF];rfl
 ·have hle:=qy xs
  refine rM (F:=fun n i=>aS.l0 bK k n xs (xs.length:Int) (i:Int)) (G:=fun _=>some (same xs:Int)) (N:=same xs) ?_ ?_ k 0 (by omega) (by omega)
  ·intro n i hi
   obtain ⟨x,h0,h1⟩:=xf hi
   refine .inl ⟨?_,rfl⟩
   rw [aS.l0_eq,dT (by omega),cT,eJ h1,bS,show (0:Int)=((0:Nat):Int) from rfl,eJ h0,bS]
   simp only [bne_self_eq_false,cF]
   rw [eZ (by omega)]
  ·intro n
   by_cases e:same xs=xs.length
   ·rw [aS.l0_eq,dF (by omega),cF,e]
   ·obtain ⟨x,y,h0,h1,h2⟩:=vc (xs:=xs) (by omega)
    rw [aS.l0_eq,dT (by omega),cT,eJ h1,bS,show (0:Int)=((0:Nat):Int) from rfl,eJ h0,bS,zR h2,cT]
def tb (x:Int)(j:Nat):Bool:=(aN .and .i64 (Int.fdiv x (2 ^ (min j IntKind.i64.bits))) 1)==1
def o7 (xs:List Int)(i j:Nat):Bool:=match xs[i]? with|some x=>tb x j|none=>false
def fg (xs:List Int)(w i:Nat):List Bool:=(List.range i).flatMap fun i=>(List.range w).map fun j=>o7 xs i j
theorem iR (xs:List Int)(w i:Nat):fg xs w (i+1)=fg xs w i++(List.range w).map fun j=>o7 xs i j:=by
 simp [fg,List.range_succ]
theorem gn (xs:List Int)(w:Nat):∀i,(fg xs w i).length=i*w
 |0=>by simp [fg]
 |i+1=>by rw [iR,List.length_append,gn xs w i,List.length_map,List.length_range,Nat.add_mul,Nat.one_mul]
def gz (n:Nat):Nat:=8*((n+7) / 8)
theorem tP (n:Nat):n≤gz n∧gz n≤n+7:=by unfold gz;omega
def rows (xs:List Int)(w:Nat):List Bool:=fg xs w (gz xs.length)
theorem jo (xs:List Int)(w:Nat):(rows xs w).length=gz xs.length*w:=gn xs w _
def qI (xs:List Int)(w i j:Nat):List Bool:=fg xs w i++(List.range j).map fun j=>o7 xs i j
theorem s8 (xs:List Int)(w i j:Nat):(qI xs w i j).length=i*w+j:=by
 unfold qI;rw [List.length_append,gn,List.length_map,List.length_range]
theorem wS (xs:List Int)(w i j:Nat):qI xs w i (j+1)=qI xs w i j++[o7 xs i j]:=by
 unfold qI;rw [List.range_succ,List.map_append,List.append_assoc];rfl
theorem vq (xs:List Int)(w i:Nat):qI xs w i w=qI xs w (i+1) 0:=by
 unfold qI;rw [iR];simp
theorem vm (xs:List Int)(w i:Nat):qI xs w i 0=fg xs w i:=by unfold qI;simp
theorem uI {xs:List Int}{i:Nat}(h:i<xs.length)(j:Nat):o7 xs i j=tb xs[i] j:=by unfold o7;rw [List.getElem?_eq_getElem h]
theorem uJ {xs:List Int}{i:Nat}(h:xs.length≤i)(j:Nat):o7 xs i j=false:=by unfold o7;rw [List.getElem?_eq_none h]
theorem BY {i w a:Nat}(h1:i≤a)(h2:w≤16):i*w≤a*16:=Nat.mul_le_mul h1 h2
theorem Ba {i w:Nat}(h1:i≤10000)(h2:w≤16):IntKind.i64.wrap ((i:Int)*(w:Int))=((i*w:Nat):Int):=by
 have:=BY h1 h2
 rw [show ((i:Int)*(w:Int))=((i*w:Nat):Int) by push_cast;rfl]
 exact ek _ (by omega)
theorem uL {n:Nat}(h:n≤10000):IntKind.i64.wrap ((IntKind.i64.wrap (Int.tdiv (IntKind.i64.wrap ((n:Int)+7)) 8))*8)=(gz n:Int):=by
 rw [ek ((n:Int)+7) (by omega),Int.tdiv_eq_ediv_of_nonneg (by omega),ek (((n:Int)+7) / 8) (by omega),ek _ (by omega)]
 unfold gz;omega
theorem u1 {k:Nat}{xs:List Bool}(hk:xs.length+3≤k)(hl:xs.length≤900000):cY.f bK k xs=some (k9 xs):=by
 obtain ⟨k,rfl⟩:∃q,k=q+1:=⟨k - 1,by omega⟩
 have hb:dy.f bK k ((xs.length:Nat):Int)=some (lh (xs.length:Int)):=jQ (by omega) (by omega) (by omega)
 have hbb:lh (xs.length:Int)=(((xs.length+7) / 8:Nat):Int):=by unfold lh;omega
 rw [cY.f_eq,hb,bS,BEq.rfl,hbb,dT (by omega),dT (by omega)]
 simp only [Bool.and_self,cT,Int.toNat_natCast]
 have h0:(List.replicate ((xs.length+7) / 8) (0:Int))=bQ xs 0:=by
  unfold bQ
  refine List.ext_getElem (by simp) fun q h1 h2=>?_
  simp [fO]
 rw [h0,←s7]
 refine gP (F:=fun n i=>cY.l0 bK k n xs (xs.length:Int) (i:Int) (bQ xs i)) (N:=xs.length) ?_ ?_ k 0 (by omega) (by omega)
 ·intro n i hi
  have hq:i / 8<(xs.length+7) / 8:=by omega
  have hlen:(bQ xs i).length=(xs.length+7) / 8:=by unfold bQ;rw [List.length_map,List.length_range]
  have e1:Int.tdiv (i:Int) 8=((i / 8:Nat):Int):=by rw [Int.tdiv_eq_ediv_of_nonneg (by omega)];omega
  have e2:Int.tmod (i:Int) 8=((i % 8:Nat):Int):=by rw [Int.tmod_eq_emod_of_nonneg (by omega)];omega
  rw [cY.l0_eq,dT (by omega),cT,cw hi,bS,eZ (by omega)]
  cases hx:xs[i] with
  |false=>rw [cF,qT hi hx]
  |true=>
   rw [cT,e1,e2,ek ((i / 8:Nat):Int) (by omega),dT (show (0:Int)≤((i / 8:Nat):Int) by omega),dT (show ((i / 8:Nat):Int)<((bQ xs i).length:Int) by omega),dF (show¬(((i % 8:Nat):Int)<0) by omega)]
   simp only [Bool.and_self,cT,cF,Int.toNat_natCast]
   rw [fJ hq,show min 8 (i - 8*(i / 8))=i % 8 by omega]
   simp only [bS]
   rw [sT _ _ (by omega) (qX xs (i / 8) (i % 8)),sw hi hx]
 ·intro n
  rw [cY.l0_eq,dF (by omega),cF]
theorem yf {α:Type}(p:List α)(m:Nat)(a v:α):(p++List.replicate (m+1) a).set p.length v=(p++[v])++List.replicate m a:=by
 rw [List.replicate_succ,List.set_append_right _ _ (Nat.le_refl _),Nat.sub_self,List.set_cons_zero,List.append_assoc];rfl
theorem pL (xs:List Int)(w:Nat):∀m,fg xs w (xs.length+m)=fg xs w xs.length++List.replicate (m*w) false
 |0=>by simp
 |m+1=>by
  have e:((List.range w).map fun j=>o7 xs (xs.length+m) j)=List.replicate w false:=by
   refine List.ext_getElem (by simp) fun q h1 h2=>?_
   simp [uJ]
  rw [←Nat.add_assoc,iR,pL xs w m,e,List.append_assoc,List.replicate_append_replicate,Nat.add_mul,Nat.one_mul]
theorem ym {k w:Nat}{xs:List Int}(hk:170000≤k)(hl:xs.length≤4096)(hw:w≤16):aB.f bK k xs (w:Int)=some (k9 (rows xs w)):=by
 obtain ⟨k,rfl⟩:∃q,k=q+1:=⟨k - 1,by omega⟩
 have hp:=tP xs.length
 have hb:=BY (show gz xs.length≤4104 by omega) hw
 have hlw:xs.length*w≤gz xs.length*w:=Nat.mul_le_mul_right w hp.1
 have e8:IntKind.i64.wrap ((IntKind.i64.wrap (((xs.length:Nat):Int)+8)) - 1)=IntKind.i64.wrap (((xs.length:Nat):Int)+7):=by
  rw [ek (((xs.length:Nat):Int)+8) (by omega)];congr 1;omega
 rw [aB.f_eq,e8,uL (by omega),Ba (by omega) hw,BEq.rfl,dT (by omega),dT (by omega)]
 simp only [Bool.and_self,cT,Int.toNat_natCast]
 have h0:List.replicate (gz xs.length*w) false=qI xs w 0 0++List.replicate (gz xs.length*w - (0*w+0)) false:=by simp [qI,fg]
 rw [h0]
 refine gP (F:=fun n i=>aB.l0 bK k n (w:Int) xs (xs.length:Int) (i:Int) (qI xs w i 0++List.replicate (gz xs.length*w - (i*w+0)) false)) (N:=xs.length) ?_ ?_ k 0 (by omega) (by omega)
 ·intro n i hi
  have hiw:(i+1)*w≤xs.length*w:=Nat.mul_le_mul_right w hi
  rw [Nat.add_mul,Nat.one_mul] at hiw
  rw [aB.l0_eq,dT (by omega),cT,cw hi,bS]
  refine gP (F:=fun m j=>aB.l2 bK k n m (w:Int) (i:Int) xs[i] xs (xs.length:Int) (j:Int) (qI xs w i j++List.replicate (gz xs.length*w - (i*w+j)) false)) (N:=w) ?_ ?_ k 0 (by omega) (by omega)
  ·intro m j hj
   have hlen:=s8 xs w i j
   have hadd:IntKind.i64.wrap (((i*w:Nat):Int)+(j:Int))=((i*w+j:Nat):Int):=by rw [ek _ (by omega)];push_cast;rfl
   obtain ⟨q,hq⟩:∃q,gz xs.length*w - (i*w+j)=q+1:=⟨gz xs.length*w - (i*w+j) - 1,by omega⟩
   have hq2:gz xs.length*w - (i*w+(j+1))=q:=by omega
   have hll:(qI xs w i j++List.replicate (q+1) false).length=i*w+j+(q+1):=by rw [List.length_append,hlen,List.length_replicate]
   have hget:(qI xs w i j++List.replicate (q+1) false)[i*w+j]?=some false:=by
    rw [List.getElem?_append_right (by omega),hlen,Nat.sub_self];simp
   rw [aB.l2_eq,dT (by omega),cT,dF (show¬((j:Int)<0) by omega),cF,Ba (by omega) hw,hadd,hq,dT (show (0:Int)≤((i*w+j:Nat):Int) by omega),dT (by rw [hll];omega)]
   simp only [Bool.and_self,cT,Int.toNat_natCast]
   rw [hget]
   simp only [bS]
   have hs:=yf (qI xs w i j) q false (o7 xs i j)
   rw [hlen] at hs
   rw [hq2,wS,eZ (by omega),←hs,uI hi]
   rfl
  ·intro m
   have e:(i+1)*w+0=i*w+w:=by rw [Nat.add_mul,Nat.one_mul];rfl
   rw [aB.l2_eq,dF (by omega),cF,eZ (by omega),vq,e]
 ·intro n
  have hz:gz xs.length*w - (xs.length*w+0)=(gz xs.length - xs.length)*w:=by rw [Nat.sub_mul];rfl
  have hr:qI xs w xs.length 0++List.replicate (gz xs.length*w - (xs.length*w+0)) false=rows xs w:=by
   rw [hz,vm,←pL]
   unfold rows
   congr 1;omega
  rw [aB.l0_eq,dF (by omega),cF,hr]
  have:=u1 (k:=k) (xs:=rows xs w) (by rw [jo];omega) (by rw [jo];omega)
  rw [this,bS]
def B5 (x:Int):List UInt8:=ah [IntKind.u8.wrap (Int.fdiv x 1)]
def C0 (x:Int):List UInt8:=ah [IntKind.u8.wrap (Int.fdiv x 1),IntKind.u8.wrap (Int.fdiv x (2 ^ 8))]
def wd (x:Int)(w:Nat):List UInt8:=if w=0 then [] else if w≤8 then B5 x else C0 x
theorem Bh (m:Nat)(x:Int):bW.f bK (m+12) x 0=some []:=by kernel_rfl
theorem yR (m:Nat)(x:Int):bW.f bK (m+12) x 1=some (B5 x):=by kernel_rfl
theorem BR (m:Nat)(x:Int):bW.f bK (m+12) x 2=some (C0 x):=by kernel_rfl
theorem Ac {w:Nat}(hw:w≤16):lh (w:Int)=if w=0 then 0 else if w≤8 then 1 else 2:=by
 unfold lh
 split
 ·omega
 ·split<;>omega
theorem yd {k w:Nat}(hk:12≤k)(hw:w≤16)(x:Int):bW.f bK k x (lh (w:Int))=some (wd x w):=by
 obtain ⟨m,rfl⟩:∃m,k=m+12:=⟨k - 12,by omega⟩
 rw [Ac hw];unfold wd
 split
 ·exact Bh m x
 ·split
  ·exact yR m x
  ·exact BR m x
theorem pF (x:Int)(w:Nat):(wd x w).length≤2:=by
 unfold wd
 split
 ·simp
 ·split
  ·exact Nat.le_succ 1
  ·exact Nat.le_refl 2
def oz:Nat→List Int→Nat
 |0,l=>l.length
 |f+1,l=>if 8≤same l then 0 else if l.length≤8 then l.length else 8+oz f (l.drop 8)
theorem tW:∀(f:Nat) (l:List Int),oz f l≤l.length
 |0,l=>Nat.le_refl _
 |f+1,l=>by
  unfold oz
  split
  ·exact Nat.zero_le _
  ·split
   ·exact Nat.le_refl _
   ·have:=tW f (l.drop 8)
    rw [List.length_drop] at this
    omega
theorem pH:∀(f g:Nat) (l:List Int),l.length≤f→l.length≤g→oz f l=oz g l
 |0,0,l,_,_=>rfl
 |0,g+1,l,h,_=>by
  have:l=[]:=List.eq_nil_of_length_eq_zero (by omega)
  subst this;simp [oz,same]
 |f+1,0,l,_,h=>by
  have:l=[]:=List.eq_nil_of_length_eq_zero (by omega)
  subst this;simp [oz,same]
 |f+1,g+1,l,h1,h2=>by
  unfold oz
  rw [pH f g (l.drop 8) (by rw [List.length_drop];omega) (by rw [List.length_drop];omega)]
def kK (l:List Int):Nat:=oz l.length l
theorem wR (l:List Int):kK l≤l.length:=tW _ _
theorem wq (l:List Int):kK l=if 8≤same l then 0 else if l.length≤8 then l.length else 8+kK (l.drop 8):=by
 cases l with
 |nil=>rfl
 |cons x l=>
  show oz (l.length+1) (x :: l)=_
  rw [oz,kK,pH l.length ((x :: l).drop 8).length _ (by rw [List.length_drop,List.length_cons];omega) (Nat.le_refl _)]
theorem m6 {l:List Int}(h:l≠[])(h8:same l<8):1≤kK l:=by
 rw [wq,if_neg (by omega)]
 have:l.length≠0:=fun e=>h (List.eq_nil_of_length_eq_zero e)
 split<;>omega
theorem uH {k:Nat}{xs:List Int}(hk:xs.length+3≤k)(hl:xs.length≤1000000):∀(d a n:Nat),xs.length≤a+d→a≤xs.length+8→d<n→
  aR.l0 bK k n xs (a:Int)=some ((if a<xs.length then a+kK (xs.drop a) else xs.length:Nat):Int):=by
 intro d
 induction d using Nat.strongRecOn with
 |_ d ih=>
  intro a n h1 h2 h3
  obtain ⟨n,rfl⟩:∃m,n=m+1:=⟨n - 1,by omega⟩
  by_cases ha:a<xs.length
  ·have hlen:(xs.drop a).length=xs.length - a:=List.length_drop
   rw [aR.l0_eq,dT (by omega),cT,dT (by omega),dT (by omega)]
   simp only [Bool.and_self,cT,Int.toNat_natCast,List.take_length]
   rw [uc (by rw [hlen];omega) (by rw [hlen];omega),bS,if_pos ha,wq (xs.drop a),hlen]
   by_cases h8:8≤same (xs.drop a)
   ·rw [dT (by omega),cT,if_pos h8];rfl
   ·rw [dF (by omega),cF,if_neg h8,ek ((a:Int)+8) (by omega),show ((a:Int)+8)=((a+8:Nat):Int) by push_cast;rfl,ih (d - 8) (by omega) (a+8) n (by omega) (by omega) (by omega)]
    by_cases hz:a+8<xs.length
    ·rw [if_pos hz,if_neg (by omega),List.drop_drop,Nat.add_assoc]
    ·rw [if_neg hz,if_pos (by omega)]
     congr 2;omega
  ·rw [aR.l0_eq,dF (by omega),cF,if_neg ha]
theorem uz {k:Nat}{xs:List Int}(hk:xs.length+12≤k)(hl:xs.length≤1000000)(hx:xs≠[]):aR.f bK k xs=some (kK xs:Int):=by
 obtain ⟨k,rfl⟩:∃q,k=q+1:=⟨k - 1,by omega⟩
 have:xs.length≠0:=fun e=>hx (List.eq_nil_of_length_eq_zero e)
 have h:=uH (k:=k) (xs:=xs) (by omega) hl xs.length 0 k (by omega) (by omega) (by omega)
 rw [if_pos (by omega),List.drop_zero,Nat.zero_add] at h
 rw [aR.f_eq];exact h
def iz:Nat→Nat→List Int→List UInt8
 |0,_,_=>[]
 |f+1,w,xs=>
  if xs=[] then []
  else if 8≤same xs then (pv (2*(same xs:Int))++wd (xs.headD 0) w)++iz f w (xs.drop (same xs))
  else (pv (2*(((kK xs+7) / 8:Nat):Int)+1)++k9 (rows (xs.take (kK xs)) w))++iz f w (xs.drop (kK xs))
theorem io (w:Nat):∀(f g:Nat) (xs:List Int),xs.length≤f→xs.length≤g→iz f w xs=iz g w xs
 |0,0,_,_,_=>rfl
 |0,g+1,xs,h,_=>by
  have:xs=[]:=List.eq_nil_of_length_eq_zero (by omega)
  subst this;simp [iz]
 |f+1,0,xs,_,h=>by
  have:xs=[]:=List.eq_nil_of_length_eq_zero (by omega)
  subst this;simp [iz]
 |f+1,g+1,xs,h1,h2=>by
  unfold iz
  split
  ·rfl
  ·rename_i hx
   have hx':xs.length≠0:=fun e=>hx (List.eq_nil_of_length_eq_zero e)
   split
   ·have:=rp hx
    rw [io w f g _ (by rw [List.length_drop];omega) (by rw [List.length_drop];omega)]
   ·rename_i h8
    have:=m6 hx (by omega)
    rw [io w f g _ (by rw [List.length_drop];omega) (by rw [List.length_drop];omega)]
def lR (w:Nat)(xs:List Int):List UInt8:=iz xs.length w xs
theorem nU (w:Nat):lR w []=[]:=rfl
theorem qL {w:Nat}{xs:List Int}(hx:xs≠[])(h8:8≤same xs):lR w xs=(pv (2*(same xs:Int))++wd (xs.headD 0) w)++lR w (xs.drop (same xs)):=by
 cases xs with
 |nil=>exact absurd rfl hx
 |cons x l=>
  show iz (l.length+1) w (x :: l)=_
  have:=rp hx
  rw [iz,if_neg hx,if_pos h8,lR,io w l.length ((x :: l).drop (same (x :: l))).length _ (by rw [List.length_drop,List.length_cons];omega) (Nat.le_refl _)]
theorem rk {w:Nat}{xs:List Int}(hx:xs≠[])(h8:same xs<8):lR w xs=(pv (2*(((kK xs+7) / 8:Nat):Int)+1)++k9 (rows (xs.take (kK xs)) w))++lR w (xs.drop (kK xs)):=by
 cases xs with
 |nil=>exact absurd rfl hx
 |cons x l=>
  show iz (l.length+1) w (x :: l)=_
  have:=m6 hx h8
  rw [iz,if_neg hx,if_neg (by omega),lR,io w l.length ((x :: l).drop (kK (x :: l))).length _ (by rw [List.length_drop,List.length_cons];omega) (Nat.le_refl _)]
theorem om {w:Nat}(hw:w≤16)(xs:List Int):(k9 (rows xs w)).length≤2*xs.length+15:=by
 have hp:=tP xs.length
 have:=Nat.mul_le_mul_left (gz xs.length) hw
 rw [ve,jo];omega
theorem gY (s:List UInt8):ah (aA s)=s:=by
 unfold ah aA
 rw [List.map_map]
 refine (List.map_congr_left fun b _=>?_).trans (List.map_id s)
 show UInt8.ofNat ((b.toNat:Int)).toNat=b
 simp
theorem fZ (s:List UInt8):(aA s).length=s.length:=by simp [aA]
theorem yK {xs:List Int}(h:xs≠[]):rd xs 0=some (xs.headD 0):=by
 cases xs with
 |nil=>exact absurd rfl h
 |cons x l=>exact eJ (i:=0) rfl
theorem Ci {g:Nat}(h:g≤4096):IntKind.i64.wrap ((IntKind.i64.wrap (2*(IntKind.i64.wrap (Int.tdiv (IntKind.i64.wrap ((IntKind.i64.wrap ((g:Int)+8)) - 1)) 8))))+1)=2*(((g+7) / 8:Nat):Int)+1:=by
 rw [ek ((g:Int)+8) (by omega),ek ((g:Int)+8 - 1) (by omega),Int.tdiv_eq_ediv_of_nonneg (by omega),ek (((g:Int)+8 - 1) / 8) (by omega),ek (2*(((g:Int)+8 - 1) / 8)) (by omega),ek (2*(((g:Int)+8 - 1) / 8)+1) (by omega)]
 omega
theorem Ao {k w:Nat}(hk:200000≤k)(hw:w≤16):∀(m:Nat) (xs:List Int) (out:List Int) (n:Nat),xs.length≤m→xs.length≤4096→m<n→out.length+25*xs.length≤1000000→
  aW.l0 bK k n xs (w:Int) out=some (ah out++lR w xs,0):=by
 intro m
 induction m with
 |zero=>
  intro xs out n h1 h2 h3 h4
  have:xs=[]:=List.eq_nil_of_length_eq_zero (by omega)
  subst this
  obtain ⟨n,rfl⟩:∃q,n=q+1:=⟨n - 1,by omega⟩
  rw [aW.l0_eq,dF (by simp),cF,nU,List.append_nil]
 |succ m ih=>
  intro xs out n h1 h2 h3 h4
  obtain ⟨n,rfl⟩:∃q,n=q+1:=⟨n - 1,by omega⟩
  by_cases hx:xs=[]
  ·subst hx
   rw [aW.l0_eq,dF (by simp),cF,nU,List.append_nil]
  ·have hx':xs.length≠0:=fun e=>hx (List.eq_nil_of_length_eq_zero e)
   have hle:=qy xs
   rw [aW.l0_eq,dT (by omega),cT,uc (by omega) (by omega),bS]
   by_cases h8:8≤same xs
   ·have hpl:=jH (2*(same xs:Int))
    have hwl:=pF (xs.headD 0) w
    have hm:wb (2*(same xs:Int))=true:=qu.2 (by omega)
    have hdl:(xs.drop (same xs)).length=xs.length - same xs:=List.length_drop
    rw [dT (by omega),cT,ek (2*(same xs:Int)) (by omega),j4 (by omega),bS,od hm]
    dsimp only
    rw [yK hx,bS,jQ (by omega) (by omega) (by omega),bS,yd (by omega) hw,bS,dT (by omega),cT,dT (by rw [List.length_append];omega),cT,dT (by omega),dT (by omega)]
    simp only [Bool.and_self,cT,Int.toNat_natCast,List.take_length]
    rw [ih _ _ n (by rw [hdl];omega) (by rw [hdl];omega) (by omega) (by rw [List.length_append,fZ,List.length_append,hdl];omega),dX,gY,qL hx h8,List.append_assoc]
   ·have hg:=wR xs
    have hgp:=m6 hx (by omega)
    have hgm:wb (2*(((kK xs+7) / 8:Nat):Int)+1)=true:=qu.2 (by omega)
    have hpl:=jH (2*(((kK xs+7) / 8:Nat):Int)+1)
    have htl:(xs.take (kK xs)).length=kK xs:=by rw [List.length_take];omega
    have hrl:=om hw (xs.take (kK xs))
    rw [htl] at hrl
    have hdl:(xs.drop (kK xs)).length=xs.length - kK xs:=List.length_drop
    rw [dF (by omega),cF,uz (by omega) (by omega) hx,bS,Ci (by omega),j4 (by omega),bS,od hgm,dT (by omega),dT (by omega)]
    simp only [Bool.and_self,cT,Int.toNat_natCast,List.take_length,List.drop_zero]
    rw [ym (by omega) (by rw [htl];omega) hw,bS,dT (by omega),cT,dT (by rw [List.length_append];omega),cT]
    rw [ih _ _ n (by rw [hdl];omega) (by rw [hdl];omega) (by omega) (by rw [List.length_append,fZ,List.length_append,hdl];omega),dX,gY,rk hx (by omega),List.append_assoc]
def Aq (w:Nat)(x:Int):Bool:=decide (0≤x)&&decide (x<2 ^ w)
def xI (w:Nat)(xs:List Int):Bool:=xs.all (Aq w)
theorem BE {w:Nat}(hw:w≤16):min w IntKind.i64.bits=w:=by simp only [IntKind.bits];omega
theorem BN {w:Nat}(hw:w≤16):(1:Int)≤2 ^ w∧(2:Int) ^ w≤65536:=by
 have h1:(2:Nat) ^ w≤2 ^ 16:=Nat.pow_le_pow_right (by omega) hw
 have h2:0<(2:Nat) ^ w:=Nat.two_pow_pos w
 have e:((2:Int) ^ w)=((2 ^ w:Nat):Int):=by push_cast;rfl
 rw [e];omega
theorem yB {k w:Nat}(hk:1≤k)(hw:w≤16)(x:Int):dQ.f bK k x (w:Int)=some (!Aq w x):=by
 obtain ⟨k,rfl⟩:∃q,k=q+1:=⟨k - 1,by omega⟩
 rw [dQ.f_eq]
 have hp:=BN hw
 unfold Aq
 by_cases h0:x<0
 ·rw [dT h0,dF (show¬(0≤x) by omega)];rfl
 ·rw [dF h0,dT (show 0≤x by omega),dF (show¬((w:Int)<0) by omega),Int.toNat_natCast,BE hw,uT]
  simp only [Bool.not_false,cT,cF,Bool.true_and]
  have hd:x / 2 ^ w>0↔¬x<2 ^ w:=by
   rw [Int.not_lt]
   constructor
   ·intro h
    have:=(Int.le_ediv_iff_mul_le (a:=1) (b:=x) (c:=2 ^ w) (by omega)).1 (by omega)
    omega
   ·intro h
    have:=(Int.le_ediv_iff_mul_le (a:=1) (b:=x) (c:=2 ^ w) (by omega)).2 (by omega)
    omega
  by_cases hx:x<2 ^ w
  ·rw [dT hx,dF (fun h=>hd.1 h hx)];rfl
  ·rw [dF hx,dT (hd.2 hx)];rfl
theorem wK {k w:Nat}(hk:1≤k)(hw:w≤16){xs:List Int}(hl:xs.length≤1000000):∀(d i n:Nat),i+d=xs.length→d<n→
  ∃r,ae.l0 bK k n xs (w:Int) (xs.length:Int) (i:Int)=some r∧decide (r≥0)=!xI w (xs.drop i):=by
 intro d
 induction d with
 |zero=>
  intro i n h1 h2
  obtain ⟨n,rfl⟩:∃q,n=q+1:=⟨n - 1,by omega⟩
  refine ⟨-1,by rw [ae.l0_eq,dF (by omega),cF],?_⟩
  rw [show i=xs.length by omega,List.drop_length];rfl
 |succ d ih=>
  intro i n h1 h2
  obtain ⟨n,rfl⟩:∃q,n=q+1:=⟨n - 1,by omega⟩
  have hi:i<xs.length:=by omega
  have hdr:xI w (xs.drop i)=(Aq w xs[i]&&xI w (xs.drop (i+1))):=by
   rw [List.drop_eq_getElem_cons hi];rfl
  rw [ae.l0_eq,dT (by omega),cT,cw hi,bS,yB hk hw,bS,hdr]
  cases hx:Aq w xs[i] with
  |false=>exact ⟨(i:Int),rfl,by rw [dT (by omega)];rfl⟩
  |true=>
   obtain ⟨r,e1,e2⟩:=ih (i+1) n (by omega) (by omega)
   refine ⟨r,?_,by rw [e2,Bool.true_and]⟩
   simp only [Bool.not_true,cF]
   rw [eZ (by omega)];exact e1
theorem yh {k:Nat}{xs:List Int}(hk:xs.length+5≤k)(hl:xs.length≤1000000)(w:Int):
  dx.f bK k xs w=some (decide (0≤w)&&(decide (w≤16)&&(decide ((xs.length:Int)≤4096)&&xI w.toNat xs))):=by
 obtain ⟨k,rfl⟩:∃q,k=q+1:=⟨k - 1,by omega⟩
 rw [dx.f_eq]
 by_cases h0:0≤w
 ·by_cases h1:w≤16
  ·by_cases h2:(xs.length:Int)≤4096
   ·obtain ⟨w,rfl⟩:∃q:Nat,w=(q:Int):=⟨w.toNat,by omega⟩
    obtain ⟨k,rfl⟩:∃q,k=q+2:=⟨k - 2,by omega⟩
    obtain ⟨r,e1,e2⟩:=wK (k:=k) (w:=w) (by omega) (by omega) hl xs.length 0 k (by omega) (by omega)
    rw [dT (show (w:Int)≥0 by omega),dT h1,dT h2]
    simp only [cT,Bool.true_and,Int.toNat_natCast]
    rw [aF.f_eq,ae.f_eq]
    have e1':ae.l0 bK k k xs (w:Int) (xs.length:Int) 0=some r:=e1
    rw [e1',bS,bS,e2,List.drop_zero,Bool.not_not]
   ·rw [dT (show w≥0 by omega),dT h1,dF h2];rfl
  ·rw [dT (show w≥0 by omega),dF h1];rfl
 ·rw [dF (show¬w≥0 by omega)];rfl
def tA (w:Int)(xs:List Int):Bool:=decide (0≤w)&&(decide (w≤16)&&(decide ((xs.length:Int)≤4096)&&xI w.toNat xs))
def qE (w:Int)(xs:List Int):List UInt8×Int:=if tA w xs=true then (lR w.toNat xs,0) else ([],2100)
theorem q9 {w:Int}{xs:List Int}:tA w xs=true↔0≤w∧w≤16∧(xs.length:Int)≤4096∧xI w.toNat xs=true:=by
 unfold tA;simp only [Bool.and_eq_true,decide_eq_true_eq]
theorem Am {k:Nat}{xs:List Int}(hk:1200000≤k)(hl:xs.length≤1000000)(w:Int):aW.f bK k xs w=some (qE w xs):=by
 obtain ⟨k,rfl⟩:∃q,k=q+1:=⟨k - 1,by omega⟩
 rw [aW.f_eq,yh (by omega) hl,bS]
 unfold qE
 show (bif !(tA w xs) then _ else _)=_
 cases hm:tA w xs with
 |false=>rfl
 |true=>
  obtain ⟨h0,h1,h2,_⟩:=q9.1 hm
  obtain ⟨w,rfl⟩:∃q:Nat,w=(q:Int):=⟨w.toNat,by omega⟩
  simp only [Bool.not_true,cF,if_true,Int.toNat_natCast]
  rw [Ao (by omega) (by omega) xs.length xs [] k (Nat.le_refl _) (by omega) (by omega) (by simp;omega)];rfl
def pi (w:Nat)(r:List UInt8)(out:List Int)(bad:Bool)(many left:Nat):List UInt8×List Int×Bool:=
 if bad=true∨r.length<(lh w).toNat then (r,out,true)
 else if left<many then (r.drop (lh w).toNat,out,true)
 else (r.drop (lh w).toNat,out++List.replicate many (AI (r.take (lh w).toNat)),false)
def RS (w:Nat)(h:Int):Nat:=if h % 2=1 then (h / 2).toNat*w else (lh (w:Int)).toNat
theorem uF {w:Int}{xs:List Int}(h:4096<xs.length):qE w xs=([],2100):=by
 unfold qE tA
 rw [dF (show¬((xs.length:Int)≤4096) by omega)]
 simp
theorem xX {k:Nat}(hk:1200010≤k)(xs:List Int)(w:Int):aW.f bK k xs w=some (qE w xs):=by
 by_cases h:xs.length≤4096
 ·exact Am (by omega) (by omega) w
 ·rw [uF (by omega)]
  obtain ⟨k,rfl⟩:∃q,k=q+2:=⟨k - 2,by omega⟩
  have:dx.f bK (k+1) xs w=some false:=by
   rw [dx.f_eq,dF (show¬((xs.length:Int)≤4096) by omega)]
   cases decide (w≥0)<;>cases decide (w≤16)<;>rfl
  rw [aW.f_eq,this,bS];rfl
theorem rC {w:Nat}(hw:w≤16):∀(m:Nat) (xs:List Int),xs.length≤m→xs.length≤4096→(lR w xs).length≤25*xs.length:=by
 intro m
 induction m using Nat.strongRecOn with
 |_ m ih=>
  intro xs h1 h2
  by_cases hx:xs=[]
  ·subst hx;rw [nU];simp
  ·have hl0:xs.length≠0:=fun e=>hx (List.eq_nil_of_length_eq_zero e)
   by_cases h8:8≤same xs
   ·have hle:=qy xs
    have hpl:=jH (2*(same xs:Int))
    have hwl:=pF (xs.headD 0) w
    have hdl:(xs.drop (same xs)).length=xs.length - same xs:=List.length_drop
    have:=ih (m - same xs) (by omega) (xs.drop (same xs)) (by omega) (by omega)
    rw [qL hx h8,List.length_append,List.length_append];omega
   ·have hg:=wR xs
    have hgp:=m6 hx (by omega)
    have hpl:=jH (2*(((kK xs+7) / 8:Nat):Int)+1)
    have hrl:=om hw (xs.take (kK xs))
    have htl:(xs.take (kK xs)).length=kK xs:=by rw [List.length_take];omega
    have hdl:(xs.drop (kK xs)).length=xs.length - kK xs:=List.length_drop
    have:=ih (m - kK xs) (by omega) (xs.drop (kK xs)) (by omega) (by omega)
    rw [rk hx (by omega),List.length_append,List.length_append];omega
def mk (w:Nat)(x:Int):Int:=aN .and .i64 x (2 ^ w - 1)
theorem yl {w:Nat}(hw:w≤16){ys:List Int}(hl:ys.length≤4096)(ho:xI w ys=true):qE (w:Int) ys=(lR w ys,0):=by
 have hm:tA (w:Int) ys=true:=q9.2 ⟨by omega,by omega,by omega,by rw [Int.toNat_natCast];exact ho⟩
 unfold qE
 rw [if_pos hm,Int.toNat_natCast]
end Go.Proofs.YtjkokaockhecnaaGreatDoorP
