/- What the functions below the laws answer, in plain lists and numbers; no condition but the sizes that a machine has. -/
import Derived.Test.YtjkokaockhecnaaGreatDoorPPg0
import Derived.Laws.BitsLemmas
import Derived.KernelRfl
namespace Go.Proofs.YtjkokaockhecnaaGreatDoorP
open Go Go.Proofs.YtjkokaockhecnaaGreatDoorA
def same:List Int→Nat
 |[]=>0
 |x :: l=>1+(l.takeWhile (·==x)).length
theorem jc:∀xs:List Int,same xs≤xs.length
 |[]=>Nat.le_refl _
 |x :: l=>by
  have:(l.takeWhile (·==x)).length≤l.length:=(List.takeWhile_prefix _).length_le
  simp only [same,List.length_cons];omega
theorem pO {xs:List Int}(h:xs≠[]):1≤same xs:=by
 cases xs with
 |nil=>exact absurd rfl h
 |cons x l=>simp only [same];omega
theorem nJ (x:Int):∀(l:List Int) (i:Nat),i<(l.takeWhile (·==x)).length→l[i]?=some x
 |[],i,h=>by simp at h
 |y :: l,i,h=>by
  rw [List.takeWhile_cons] at h
  cases e:(y==x) with
  |false=>rw [e] at h;simp at h
  |true=>
   rw [e] at h
   have e':y=x:=by simpa using e
   subst e'
   cases i with
   |zero=>rfl
   |succ i=>exact nJ y l i (by simpa using h)
theorem mf (x:Int):∀(l:List Int),(l.takeWhile (·==x)).length<l.length→∃y,l[(l.takeWhile (·==x)).length]?=some y∧y≠x
 |[],h=>by simp at h
 |y :: l,h=>by
  rw [List.takeWhile_cons] at h ⊢
  cases e:(y==x) with
  |false=>exact ⟨y,by simp,by simpa using e⟩
  |true=>
   rw [e] at h
   obtain ⟨z,h1,h2⟩:=mf x l (by simpa using h)
   exact ⟨z,by simpa using h1,h2⟩
theorem vb {xs:List Int}{i:Nat}(h:i<same xs):∃x,xs[0]?=some x∧xs[i]?=some x:=by
 cases xs with
 |nil=>simp [same] at h
 |cons x l=>
  refine ⟨x,rfl,?_⟩
  cases i with
  |zero=>rfl
  |succ i=>exact nJ x l i (by simp only [same] at h;omega)
theorem wC {xs:List Int}(h:same xs<xs.length):∃x y,xs[0]?=some x∧xs[same xs]?=some y∧y≠x:=by
 cases xs with
 |nil=>simp [same] at h
 |cons x l=>
  simp only [same,List.length_cons] at h ⊢
  obtain ⟨y,h1,h2⟩:=mf x l (by omega)
  refine ⟨x,y,rfl,?_,h2⟩
  rw [Nat.add_comm,List.getElem?_cons_succ];exact h1
theorem fh {α:Type}{l:List α}{i:Nat}{x:α}(h:l[i]?=some x):rd l (i:Int)=some x:=by
 obtain ⟨hl,rfl⟩:=List.getElem?_eq_some_iff.mp h
 exact aP hl
theorem KF {x y:Int}(h:x≠y):(x != y)=true:=by simpa using h
theorem B0 {k:Nat}{xs:List Int}(hk:xs.length+3≤k)(hl:xs.length≤1000000000):cb.f aF k xs=some (same xs:Int):=by
 obtain ⟨k,rfl⟩:∃q,k=q+1:=⟨k - 1,by omega⟩
 rw [cb.f_eq]
 by_cases hz:xs=[]
 ·subst hz
  obtain ⟨k,rfl⟩:∃q,k=q+1:=⟨k - 1,by simp at hk;omega⟩
  rw [cb.l0_eq,dF (by simp),cF];rfl
 ·have hle:=jc xs
  refine vB (F:=fun n i=>cb.l0 aF k n xs (xs.length:Int) (i:Int)) (G:=fun _=>some (same xs:Int)) (N:=same xs) ?_ ?_ k 0 (by omega) (by omega)
  ·intro n i hi
   obtain ⟨x,h0,h1⟩:=vb hi
   refine .inl ⟨?_,rfl⟩
   rw [cb.l0_eq,dT (by omega),cT,fh h1,bS,show (0:Int)=((0:Nat):Int) from rfl,fh h0,bS]
   simp only [bne_self_eq_false,cF]
   rw [bu (by omega)]
  ·intro n
   by_cases e:same xs=xs.length
   ·rw [cb.l0_eq,dF (by omega),cF,e]
   ·obtain ⟨x,y,h0,h1,h2⟩:=wC (xs:=xs) (by omega)
    rw [cb.l0_eq,dT (by omega),cT,fh h1,bS,show (0:Int)=((0:Nat):Int) from rfl,fh h0,bS,KF h2,cT]
theorem wF {α:Type}(l:List α)(a i:Nat):(l.drop a)[i]?=l[a+i]?:=by rw [List.getElem?_drop]
theorem Ey {k:Nat}{xs:List Int}{a:Nat}(ha:a<xs.length)(hk:xs.length+3≤k)(hl:xs.length≤1000000000):bC.f aF k xs (a:Int)=some (same (xs.drop a):Int):=by
 obtain ⟨k,rfl⟩:∃q,k=q+1:=⟨k - 1,by omega⟩
 have hd:xs.drop a≠[]:=fun e=>by have:=congrArg List.length e;rw [List.length_drop] at this;simp at this;omega
 have hle:=jc (xs.drop a)
 have hpos:=pO hd
 rw [List.length_drop] at hle
 rw [bC.f_eq]
 refine vB (F:=fun n i=>bC.l0 aF k n xs (a:Int) (i:Int)) (G:=fun _=>some (same (xs.drop a):Int)) (N:=same (xs.drop a)) ?_ ?_ k 1 hpos (by omega)
 ·intro n i hi
  obtain ⟨x,h0,h1⟩:=vb hi
  rw [wF] at h0 h1
  refine .inl ⟨?_,rfl⟩
  rw [bC.l0_eq,aK ((a:Int)+(i:Int)) (by omega),dT (by omega),cT,show ((a:Int)+(i:Int))=((a+i:Nat):Int) by push_cast;rfl,fh h1,bS,show a=a+0 from rfl,fh h0,bS]
  simp only [BEq.rfl,cT]
  rw [bu (by omega)]
 ·intro n
  by_cases e:a+same (xs.drop a)=xs.length
  ·rw [bC.l0_eq,aK ((a:Int)+(same (xs.drop a):Int)) (by omega),dF (by omega),cF]
  ·obtain ⟨x,y,h0,h1,h2⟩:=wC (xs:=xs.drop a) (by rw [List.length_drop];omega)
   rw [wF] at h0 h1
   rw [bC.l0_eq,aK ((a:Int)+(same (xs.drop a):Int)) (by omega),dT (by omega),cT,show ((a:Int)+(same (xs.drop a):Int))=((a+same (xs.drop a):Nat):Int) by push_cast;rfl,fh h1,bS]
   have h0':rd xs (a:Int)=some x:=fh h0
   rw [h0',bS]
   have:(y==x)=false:=by simpa using h2
   rw [this,cF]
def tb (x:Int)(j:Nat):Bool:=(aB .and .i64 (Int.fdiv x (2 ^ (min j IntKind.i64.bits))) 1)==1
def uf (xs:List Int)(i j:Nat):Bool:=match xs[i]? with|some x=>tb x j|none=>false
def ib (xs:List Int)(w i:Nat):List Bool:=(List.range i).flatMap fun i=>(List.range w).map fun j=>uf xs i j
theorem jQ (xs:List Int)(w i:Nat):ib xs w (i+1)=ib xs w i++(List.range w).map fun j=>uf xs i j:=by
 simp [ib,List.range_succ]
theorem e7 (xs:List Int)(w:Nat):∀i,(ib xs w i).length=i*w
 |0=>by simp [ib]
 |i+1=>by rw [jQ,List.length_append,e7 xs w i,List.length_map,List.length_range,Nat.add_mul,Nat.one_mul]
def fq (n:Nat):Nat:=8*((n+7) / 8)
theorem ns (n:Nat):n≤fq n∧fq n≤n+7:=by unfold fq;omega
def rows (xs:List Int)(w:Nat):List Bool:=ib xs w (fq xs.length)
theorem iJ (xs:List Int)(w:Nat):(rows xs w).length=fq xs.length*w:=e7 xs w _
def vU (xs:List Int)(w i j:Nat):List Bool:=ib xs w i++(List.range j).map fun j=>uf xs i j
theorem tf (xs:List Int)(w i j:Nat):(vU xs w i j).length=i*w+j:=by
 unfold vU;rw [List.length_append,e7,List.length_map,List.length_range]
theorem zf (xs:List Int)(w i j:Nat):vU xs w i (j+1)=vU xs w i j++[uf xs i j]:=by
 unfold vU;rw [List.range_succ,List.map_append,List.append_assoc];rfl
theorem yW (xs:List Int)(w i:Nat):vU xs w i w=vU xs w (i+1) 0:=by
 unfold vU;rw [jQ];simp
theorem zx (xs:List Int)(w i:Nat):vU xs w i 0=ib xs w i:=by unfold vU;simp
theorem ri {xs:List Int}{i:Nat}(h:i<xs.length)(j:Nat):uf xs i j=tb xs[i] j:=by unfold uf;rw [List.getElem?_eq_getElem h]
theorem wL {xs:List Int}{i:Nat}(h:xs.length≤i)(j:Nat):uf xs i j=false:=by unfold uf;rw [List.getElem?_eq_none h]
theorem AI {i w a:Nat}(h1:i≤a)(h2:w≤16):i*w≤a*16:=Nat.mul_le_mul h1 h2
theorem E6 {i w:Nat}(h1:i≤10000)(h2:w≤16):IntKind.i64.wrap ((i:Int)*(w:Int))=((i*w:Nat):Int):=by
 have:=AI h1 h2
 rw [show ((i:Int)*(w:Int))=((i*w:Nat):Int) by push_cast;rfl]
 exact aK _ (by omega)
theorem qx {n:Nat}(h:n≤10000):IntKind.i64.wrap ((IntKind.i64.wrap (Int.tdiv (IntKind.i64.wrap ((n:Int)+7)) 8))*8)=(fq n:Int):=by
 rw [aK ((n:Int)+7) (by omega),Int.tdiv_eq_ediv_of_nonneg (by omega),aK (((n:Int)+7) / 8) (by omega),aK _ (by omega)]
 unfold fq;omega
theorem HV {k w:Nat}{xs:List Int}(hk:170000≤k)(hl:xs.length≤4096)(hw:w≤16):aH.f aF k xs (w:Int)=some (dQ (rows xs w)):=by
 obtain ⟨k,rfl⟩:∃q,k=q+1:=⟨k - 1,by omega⟩
 have hp:=ns xs.length
 rw [aH.f_eq]
 have h0:([]:List Bool)=vU xs w 0 0:=rfl
 rw [h0]
 refine cN (F:=fun n i=>aH.l0 aF k n xs (w:Int) (i:Int) (vU xs w i 0)) (N:=fq xs.length) ?_ ?_ k 0 (by omega) (by omega)
 ·intro n i hi
  rw [aH.l0_eq,qx (by omega),dT (by omega),cT]
  refine cN (F:=fun m j=>aH.l2 aF k n m xs (w:Int) (i:Int) (j:Int) (vU xs w i j)) (N:=w) ?_ ?_ k 0 (by omega) (by omega)
  ·intro m j hj
   have hb:=AI (show i≤4104 by omega) hw
   have hlen:=tf xs w i j
   rw [aH.l2_eq,dT (by omega),cT,zf]
   by_cases hx:i<xs.length
   ·rw [dT (by omega),cT,aP hx,bS,dF (show¬((j:Int)<0) by omega),cF,Int.toNat_natCast,ri hx,dT (by simp only [List.length_cons,List.length_nil,hlen];omega),cT,bu (by omega)]
    rfl
   ·rw [dF (by omega),cF,wL (by omega),dT (by simp only [List.length_cons,List.length_nil,hlen];omega),cT,bu (by omega)]
  ·intro m
   rw [aH.l2_eq,dF (by omega),cF,bu (by omega),yW]
 ·intro n
  have hb:=AI (show fq xs.length≤4104 by omega) hw
  rw [aH.l0_eq,qx (by omega),dF (by omega),cF,zx]
  have:=DI (k:=k) (xs:=ib xs w (fq xs.length)) (by rw [e7];omega) (by rw [e7];omega)
  rw [this,bS];rfl
theorem C5 {k:Nat}{xs:List Bool}(hk:xs.length+3≤k)(hl:xs.length≤900000):fl.f aF k xs=some (dQ xs):=by
 obtain ⟨k,rfl⟩:∃q,k=q+1:=⟨k - 1,by omega⟩
 have hb:fp.f aF k ((xs.length:Nat):Int)=some (fQ (xs.length:Int)):=ki (by omega) (by omega) (by omega)
 have hbb:fQ (xs.length:Int)=(((xs.length+7) / 8:Nat):Int):=by unfold fQ;omega
 rw [fl.f_eq,hb,bS,BEq.rfl,hbb,dT (by omega),dT (by omega)]
 simp only [Bool.and_self,cT,Int.toNat_natCast]
 have h0:(List.replicate ((xs.length+7) / 8) (0:Int))=cA xs 0:=by
  unfold cA
  refine List.ext_getElem (by simp) fun q h1 h2=>?_
  simp [en]
 rw [h0,←ux]
 refine cN (F:=fun n i=>fl.l0 aF k n xs (xs.length:Int) (i:Int) (cA xs i)) (N:=xs.length) ?_ ?_ k 0 (by omega) (by omega)
 ·intro n i hi
  have hq:i / 8<(xs.length+7) / 8:=by omega
  have hlen:(cA xs i).length=(xs.length+7) / 8:=by unfold cA;rw [List.length_map,List.length_range]
  have e1:Int.tdiv (i:Int) 8=((i / 8:Nat):Int):=by rw [Int.tdiv_eq_ediv_of_nonneg (by omega)];omega
  have e2:Int.tmod (i:Int) 8=((i % 8:Nat):Int):=by rw [Int.tmod_eq_emod_of_nonneg (by omega)];omega
  rw [fl.l0_eq,dT (by omega),cT,aP hi,bS,bu (by omega)]
  cases hx:xs[i] with
  |false=>rw [cF,rE hi hx]
  |true=>
   rw [cT,e1,e2,aK ((i / 8:Nat):Int) (by omega),dT (show (0:Int)≤((i / 8:Nat):Int) by omega),dT (show ((i / 8:Nat):Int)<((cA xs i).length:Int) by omega),dF (show¬(((i % 8:Nat):Int)<0) by omega)]
   simp only [Bool.and_self,cT,cF,Int.toNat_natCast]
   rw [iI hq,show min 8 (i - 8*(i / 8))=i % 8 by omega]
   simp only [bS]
   rw [uF _ _ (by omega) (mP xs (i / 8) (i % 8)),tU hi hx]
 ·intro n
  rw [fl.l0_eq,dF (by omega),cF]
theorem HJ {α:Type}(p:List α)(m:Nat)(a v:α):(p++List.replicate (m+1) a).set p.length v=(p++[v])++List.replicate m a:=by
 rw [List.replicate_succ,List.set_append_right _ _ (Nat.le_refl _),Nat.sub_self,List.set_cons_zero,List.append_assoc];rfl
theorem ww (xs:List Int)(w:Nat):∀m,ib xs w (xs.length+m)=ib xs w xs.length++List.replicate (m*w) false
 |0=>by simp
 |m+1=>by
  have e:((List.range w).map fun j=>uf xs (xs.length+m) j)=List.replicate w false:=by
   refine List.ext_getElem (by simp) fun q h1 h2=>?_
   simp [wL]
  rw [←Nat.add_assoc,jQ,ww xs w m,e,List.append_assoc,List.replicate_append_replicate,Nat.add_mul,Nat.one_mul]
theorem Ia {k w:Nat}{xs:List Int}(hk:170000≤k)(hl:xs.length≤4096)(hw:w≤16):bG.f aF k xs (w:Int)=some (dQ (rows xs w)):=by
 obtain ⟨k,rfl⟩:∃q,k=q+1:=⟨k - 1,by omega⟩
 have hp:=ns xs.length
 have hb:=AI (show fq xs.length≤4104 by omega) hw
 have hlw:xs.length*w≤fq xs.length*w:=Nat.mul_le_mul_right w hp.1
 have e8:IntKind.i64.wrap ((IntKind.i64.wrap (((xs.length:Nat):Int)+8)) - 1)=IntKind.i64.wrap (((xs.length:Nat):Int)+7):=by
  rw [aK (((xs.length:Nat):Int)+8) (by omega)];congr 1;omega
 rw [bG.f_eq,e8,qx (by omega),E6 (by omega) hw,BEq.rfl,dT (by omega),dT (by omega)]
 simp only [Bool.and_self,cT,Int.toNat_natCast]
 have h0:List.replicate (fq xs.length*w) false=vU xs w 0 0++List.replicate (fq xs.length*w - (0*w+0)) false:=by simp [vU,ib]
 rw [h0]
 refine cN (F:=fun n i=>bG.l0 aF k n (w:Int) xs (xs.length:Int) (i:Int) (vU xs w i 0++List.replicate (fq xs.length*w - (i*w+0)) false)) (N:=xs.length) ?_ ?_ k 0 (by omega) (by omega)
 ·intro n i hi
  have hiw:(i+1)*w≤xs.length*w:=Nat.mul_le_mul_right w hi
  rw [Nat.add_mul,Nat.one_mul] at hiw
  rw [bG.l0_eq,dT (by omega),cT,aP hi,bS]
  refine cN (F:=fun m j=>bG.l2 aF k n m (w:Int) (i:Int) xs[i] xs (xs.length:Int) (j:Int) (vU xs w i j++List.replicate (fq xs.length*w - (i*w+j)) false)) (N:=w) ?_ ?_ k 0 (by omega) (by omega)
  ·intro m j hj
   have hlen:=tf xs w i j
   have hadd:IntKind.i64.wrap (((i*w:Nat):Int)+(j:Int))=((i*w+j:Nat):Int):=by rw [aK _ (by omega)];push_cast;rfl
   obtain ⟨q,hq⟩:∃q,fq xs.length*w - (i*w+j)=q+1:=⟨fq xs.length*w - (i*w+j) - 1,by omega⟩
   have hq2:fq xs.length*w - (i*w+(j+1))=q:=by omega
   have hll:(vU xs w i j++List.replicate (q+1) false).length=i*w+j+(q+1):=by rw [List.length_append,hlen,List.length_replicate]
   have hget:(vU xs w i j++List.replicate (q+1) false)[i*w+j]?=some false:=by
    rw [List.getElem?_append_right (by omega),hlen,Nat.sub_self];simp
   rw [bG.l2_eq,dT (by omega),cT,dF (show¬((j:Int)<0) by omega),cF,E6 (by omega) hw,hadd,hq,dT (show (0:Int)≤((i*w+j:Nat):Int) by omega),dT (by rw [hll];omega)]
   simp only [Bool.and_self,cT,Int.toNat_natCast]
   rw [hget]
   simp only [bS]
   have hs:=HJ (vU xs w i j) q false (uf xs i j)
   rw [hlen] at hs
   rw [hq2,zf,bu (by omega),←hs,ri hi]
   rfl
  ·intro m
   have e:(i+1)*w+0=i*w+w:=by rw [Nat.add_mul,Nat.one_mul];rfl
   rw [bG.l2_eq,dF (by omega),cF,bu (by omega),yW,e]
 ·intro n
  have hz:fq xs.length*w - (xs.length*w+0)=(fq xs.length - xs.length)*w:=by rw [Nat.sub_mul];rfl
  have hr:vU xs w xs.length 0++List.replicate (fq xs.length*w - (xs.length*w+0)) false=rows xs w:=by
   rw [hz,zx,←ww]
   unfold rows
   congr 1;omega
  rw [bG.l0_eq,dF (by omega),cF,hr]
  have:=C5 (k:=k) (xs:=rows xs w) (by rw [iJ];omega) (by rw [iJ];omega)
  rw [this,bS]
def Gx (x:Int):List UInt8:=ag [IntKind.u8.wrap (Int.fdiv x 1)]
def LV (x:Int):List UInt8:=ag [IntKind.u8.wrap (Int.fdiv x 1),IntKind.u8.wrap (Int.fdiv x (2 ^ 8))]
def wd (x:Int)(w:Nat):List UInt8:=if w=0 then [] else if w≤8 then Gx x else LV x
theorem Oc (m:Nat)(x:Int):dM.f aF (m+12) x 0=some []:=by kernel_rfl
theorem Ku (m:Nat)(x:Int):dM.f aF (m+12) x 1=some (Gx x):=by kernel_rfl
theorem L8 (m:Nat)(x:Int):dM.f aF (m+12) x 2=some (LV x):=by kernel_rfl
theorem OP (m:Nat)(x:Int):aT.f aF (m+12) x 0=some []:=by kernel_rfl
theorem Ou (m:Nat)(x:Int):aT.f aF (m+12) x 1=some (Gx x):=by kernel_rfl
theorem OB (m:Nat)(x:Int):aT.f aF (m+12) x 2=some (LV x):=by kernel_rfl
theorem AY {w:Nat}(hw:w≤16):fQ (w:Int)=if w=0 then 0 else if w≤8 then 1 else 2:=by
 unfold fQ
 split
 ·omega
 ·split<;>omega
theorem H3 {k w:Nat}(hk:12≤k)(hw:w≤16)(x:Int):dM.f aF k x (fQ (w:Int))=some (wd x w):=by
 obtain ⟨m,rfl⟩:∃m,k=m+12:=⟨k - 12,by omega⟩
 rw [AY hw];unfold wd
 split
 ·exact Oc m x
 ·split
  ·exact Ku m x
  ·exact L8 m x
theorem IP {k w:Nat}(hk:12≤k)(hw:w≤16)(x:Int):aT.f aF k x (fQ (w:Int))=some (wd x w):=by
 obtain ⟨m,rfl⟩:∃m,k=m+12:=⟨k - 12,by omega⟩
 rw [AY hw];unfold wd
 split
 ·exact OP m x
 ·split
  ·exact Ou m x
  ·exact OB m x
theorem qT (x:Int)(w:Nat):(wd x w).length≤2:=by
 unfold wd
 split
 ·simp
 ·split
  ·exact Nat.le_succ 1
  ·exact Nat.le_refl 2
def uq:Nat→List Int→Nat
 |0,l=>l.length
 |f+1,l=>if 8≤same l then 0 else if l.length≤8 then l.length else 8+uq f (l.drop 8)
theorem BE:∀(f:Nat) (l:List Int),uq f l≤l.length
 |0,l=>Nat.le_refl _
 |f+1,l=>by
  unfold uq
  split
  ·exact Nat.zero_le _
  ·split
   ·exact Nat.le_refl _
   ·have:=BE f (l.drop 8)
    rw [List.length_drop] at this
    omega
theorem wo:∀(f g:Nat) (l:List Int),l.length≤f→l.length≤g→uq f l=uq g l
 |0,0,l,_,_=>rfl
 |0,g+1,l,h,_=>by
  have:l=[]:=List.eq_nil_of_length_eq_zero (by omega)
  subst this;simp [uq,same]
 |f+1,0,l,_,h=>by
  have:l=[]:=List.eq_nil_of_length_eq_zero (by omega)
  subst this;simp [uq,same]
 |f+1,g+1,l,h1,h2=>by
  unfold uq
  rw [wo f g (l.drop 8) (by rw [List.length_drop];omega) (by rw [List.length_drop];omega)]
def dl (l:List Int):Nat:=uq l.length l
theorem qN (l:List Int):dl l≤l.length:=BE _ _
theorem u7 (l:List Int):dl l=if 8≤same l then 0 else if l.length≤8 then l.length else 8+dl (l.drop 8):=by
 cases l with
 |nil=>rfl
 |cons x l=>
  show uq (l.length+1) (x :: l)=_
  rw [uq,dl,wo l.length ((x :: l).drop 8).length _ (by rw [List.length_drop,List.length_cons];omega) (Nat.le_refl _)]
theorem jS {l:List Int}(h:l≠[])(h8:same l<8):1≤dl l:=by
 rw [u7,if_neg (by omega)]
 have:l.length≠0:=fun e=>h (List.eq_nil_of_length_eq_zero e)
 split<;>omega
theorem CX {k:Nat}{xs:List Int}(hk:xs.length+3≤k)(hl:xs.length≤1000000):∀(d a n:Nat),xs.length≤a+d→a≤xs.length+8→d<n→
  ca.l0 aF k n xs (a:Int)=some ((if a<xs.length then a+dl (xs.drop a) else xs.length:Nat):Int):=by
 intro d
 induction d using Nat.strongRecOn with
 |_ d ih=>
  intro a n h1 h2 h3
  obtain ⟨n,rfl⟩:∃m,n=m+1:=⟨n - 1,by omega⟩
  by_cases ha:a<xs.length
  ·have hlen:(xs.drop a).length=xs.length - a:=List.length_drop
   rw [ca.l0_eq,dT (by omega),cT,dT (by omega),dT (by omega)]
   simp only [Bool.and_self,cT,Int.toNat_natCast,List.take_length]
   rw [B0 (by rw [hlen];omega) (by rw [hlen];omega),bS,if_pos ha,u7 (xs.drop a),hlen]
   by_cases h8:8≤same (xs.drop a)
   ·rw [dT (by omega),cT,if_pos h8];rfl
   ·rw [dF (by omega),cF,if_neg h8,aK ((a:Int)+8) (by omega),show ((a:Int)+8)=((a+8:Nat):Int) by push_cast;rfl,ih (d - 8) (by omega) (a+8) n (by omega) (by omega) (by omega)]
    by_cases hz:a+8<xs.length
    ·rw [if_pos hz,if_neg (by omega),List.drop_drop,Nat.add_assoc]
    ·rw [if_neg hz,if_pos (by omega)]
     congr 2;omega
  ·rw [ca.l0_eq,dF (by omega),cF,if_neg ha]
theorem C7 {k:Nat}{xs:List Int}(hk:xs.length+12≤k)(hl:xs.length≤1000000)(hx:xs≠[]):ca.f aF k xs=some (dl xs:Int):=by
 obtain ⟨k,rfl⟩:∃q,k=q+1:=⟨k - 1,by omega⟩
 have:xs.length≠0:=fun e=>hx (List.eq_nil_of_length_eq_zero e)
 have h:=CX (k:=k) (xs:=xs) (by omega) hl xs.length 0 k (by omega) (by omega) (by omega)
 rw [if_pos (by omega),List.drop_zero,Nat.zero_add] at h
 rw [ca.f_eq];exact h
def lN:Nat→Nat→List Int→List UInt8
 |0,_,_=>[]
 |f+1,w,xs=>
  if xs=[] then []
  else if 8≤same xs then (pv (2*(same xs:Int))++wd (xs.headD 0) w)++lN f w (xs.drop (same xs))
  else (pv (2*(((dl xs+7) / 8:Nat):Int)+1)++dQ (rows (xs.take (dl xs)) w))++lN f w (xs.drop (dl xs))
theorem lz (w:Nat):∀(f g:Nat) (xs:List Int),xs.length≤f→xs.length≤g→lN f w xs=lN g w xs
 |0,0,_,_,_=>rfl
 |0,g+1,xs,h,_=>by
  have:xs=[]:=List.eq_nil_of_length_eq_zero (by omega)
  subst this;simp [lN]
 |f+1,0,xs,_,h=>by
  have:xs=[]:=List.eq_nil_of_length_eq_zero (by omega)
  subst this;simp [lN]
 |f+1,g+1,xs,h1,h2=>by
  unfold lN
  split
  ·rfl
  ·rename_i hx
   have hx':xs.length≠0:=fun e=>hx (List.eq_nil_of_length_eq_zero e)
   split
   ·have:=pO hx
    rw [lz w f g _ (by rw [List.length_drop];omega) (by rw [List.length_drop];omega)]
   ·rename_i h8
    have:=jS hx (by omega)
    rw [lz w f g _ (by rw [List.length_drop];omega) (by rw [List.length_drop];omega)]
def fM (w:Nat)(xs:List Int):List UInt8:=lN xs.length w xs
theorem mc (w:Nat):fM w []=[]:=rfl
theorem mK {w:Nat}{xs:List Int}(hx:xs≠[])(h8:8≤same xs):fM w xs=(pv (2*(same xs:Int))++wd (xs.headD 0) w)++fM w (xs.drop (same xs)):=by
 cases xs with
 |nil=>exact absurd rfl hx
 |cons x l=>
  show lN (l.length+1) w (x :: l)=_
  have:=pO hx
  rw [lN,if_neg hx,if_pos h8,fM,lz w l.length ((x :: l).drop (same (x :: l))).length _ (by rw [List.length_drop,List.length_cons];omega) (Nat.le_refl _)]
theorem mB {w:Nat}{xs:List Int}(hx:xs≠[])(h8:same xs<8):fM w xs=(pv (2*(((dl xs+7) / 8:Nat):Int)+1)++dQ (rows (xs.take (dl xs)) w))++fM w (xs.drop (dl xs)):=by
 cases xs with
 |nil=>exact absurd rfl hx
 |cons x l=>
  show lN (l.length+1) w (x :: l)=_
  have:=jS hx h8
  rw [lN,if_neg hx,if_neg (by omega),fM,lz w l.length ((x :: l).drop (dl (x :: l))).length _ (by rw [List.length_drop,List.length_cons];omega) (Nat.le_refl _)]
theorem oZ {w:Nat}(hw:w≤16)(xs:List Int):(dQ (rows xs w)).length≤2*xs.length+15:=by
 have hp:=ns xs.length
 have:=Nat.mul_le_mul_left (fq xs.length) hw
 rw [nk,iJ];omega
theorem k5 (s:List UInt8):ag (bE s)=s:=by
 unfold ag bE
 rw [List.map_map]
 refine (List.map_congr_left fun b _=>?_).trans (List.map_id s)
 show UInt8.ofNat ((b.toNat:Int)).toNat=b
 simp
theorem jM (s:List UInt8):(bE s).length=s.length:=by simp [bE]
theorem I5 {xs:List Int}(h:xs≠[]):rd xs 0=some (xs.headD 0):=by
 cases xs with
 |nil=>exact absurd rfl h
 |cons x l=>exact fh (i:=0) rfl
theorem Of {g:Nat}(h:g≤4096):IntKind.i64.wrap ((IntKind.i64.wrap (2*(IntKind.i64.wrap (Int.tdiv (IntKind.i64.wrap ((IntKind.i64.wrap ((g:Int)+8)) - 1)) 8))))+1)=2*(((g+7) / 8:Nat):Int)+1:=by
 rw [aK ((g:Int)+8) (by omega),aK ((g:Int)+8 - 1) (by omega),Int.tdiv_eq_ediv_of_nonneg (by omega),aK (((g:Int)+8 - 1) / 8) (by omega),aK (2*(((g:Int)+8 - 1) / 8)) (by omega),aK (2*(((g:Int)+8 - 1) / 8)+1) (by omega)]
 omega
theorem Lt {k w:Nat}(hk:200000≤k)(hw:w≤16):∀(m:Nat) (xs:List Int) (out:List Int) (n:Nat),xs.length≤m→xs.length≤4096→m<n→out.length+25*xs.length≤1000000→
  bZ.l0 aF k n xs (w:Int) out=some (ag out++fM w xs,0):=by
 intro m
 induction m with
 |zero=>
  intro xs out n h1 h2 h3 h4
  have:xs=[]:=List.eq_nil_of_length_eq_zero (by omega)
  subst this
  obtain ⟨n,rfl⟩:∃q,n=q+1:=⟨n - 1,by omega⟩
  rw [bZ.l0_eq,dF (by simp),cF,mc,List.append_nil]
 |succ m ih=>
  intro xs out n h1 h2 h3 h4
  obtain ⟨n,rfl⟩:∃q,n=q+1:=⟨n - 1,by omega⟩
  by_cases hx:xs=[]
  ·subst hx
   rw [bZ.l0_eq,dF (by simp),cF,mc,List.append_nil]
  ·have hx':xs.length≠0:=fun e=>hx (List.eq_nil_of_length_eq_zero e)
   have hle:=jc xs
   rw [bZ.l0_eq,dT (by omega),cT,B0 (by omega) (by omega),bS]
   by_cases h8:8≤same xs
   ·have hpl:=gp (2*(same xs:Int))
    have hwl:=qT (xs.headD 0) w
    have hm:may (2*(same xs:Int))=true:=dO.2 (by omega)
    have hdl:(xs.drop (same xs)).length=xs.length - same xs:=List.length_drop
    rw [dT (by omega),cT,aK (2*(same xs:Int)) (by omega),kp (by omega),bS,kP hm]
    dsimp only
    rw [I5 hx,bS,ki (by omega) (by omega) (by omega),bS,H3 (by omega) hw,bS,dT (by omega),cT,dT (by rw [List.length_append];omega),cT,dT (by omega),dT (by omega)]
    simp only [Bool.and_self,cT,Int.toNat_natCast,List.take_length]
    rw [ih _ _ n (by rw [hdl];omega) (by rw [hdl];omega) (by omega) (by rw [List.length_append,jM,List.length_append,hdl];omega),fj,k5,mK hx h8,List.append_assoc]
   ·have hg:=qN xs
    have hgp:=jS hx (by omega)
    have hgm:may (2*(((dl xs+7) / 8:Nat):Int)+1)=true:=dO.2 (by omega)
    have hpl:=gp (2*(((dl xs+7) / 8:Nat):Int)+1)
    have htl:(xs.take (dl xs)).length=dl xs:=by rw [List.length_take];omega
    have hrl:=oZ hw (xs.take (dl xs))
    rw [htl] at hrl
    have hdl:(xs.drop (dl xs)).length=xs.length - dl xs:=List.length_drop
    rw [dF (by omega),cF,C7 (by omega) (by omega) hx,bS,Of (by omega),kp (by omega),bS,kP hgm,dT (by omega),dT (by omega)]
    simp only [Bool.and_self,cT,Int.toNat_natCast,List.take_length,List.drop_zero]
    rw [Ia (by omega) (by rw [htl];omega) hw,bS,dT (by omega),cT,dT (by rw [List.length_append];omega),cT]
    rw [ih _ _ n (by rw [hdl];omega) (by rw [hdl];omega) (by omega) (by rw [List.length_append,jM,List.length_append,hdl];omega),fj,k5,mB hx (by omega),List.append_assoc]
theorem Lq {a b:Int}:(bif decide (a<b) then a else b)=min b a:=by
 by_cases h:a<b
 ·rw [dT h,cT];omega
 ·rw [dF h,cF];omega
theorem Nr {a t:Nat}(h:a≤t)(ht:t≤4096):IntKind.i64.wrap ((IntKind.i64.wrap (2*(IntKind.i64.wrap (Int.tdiv (IntKind.i64.wrap ((IntKind.i64.wrap ((t:Int) - (a:Int)))+7)) 8))))+1)=2*(((t - a+7) / 8:Nat):Int)+1:=by
 rw [aK ((t:Int) - (a:Int)) (by omega),aK ((t:Int) - (a:Int)+7) (by omega),Int.tdiv_eq_ediv_of_nonneg (by omega),aK (((t:Int) - (a:Int)+7) / 8) (by omega),aK (2*(((t:Int) - (a:Int)+7) / 8)) (by omega),aK (2*(((t:Int) - (a:Int)+7) / 8)+1) (by omega)]
 omega
theorem yT {l:List Int}(h8:same l<8):dl l=if l.length≤8 then l.length else 8+dl (l.drop 8):=by
 rw [u7,if_neg (by omega)]
theorem vX {xs:List Int}{a g:Nat}:(xs.take (a+g)).drop a=(xs.drop a).take g:=by
 rw [List.drop_take];congr 1;omega
theorem CY {k w:Nat}(hk:200000≤k)(hw:w≤16){xs:List Int}(hl:xs.length≤4096):∀(m a:Nat) (s:List UInt8) (n:Nat),xs.length≤a+m→a≤xs.length→m<n→s.length+25*(xs.length - a)≤1000000→
  ae.l2 aF k n xs (w:Int) s (a:Int)=some (s++fM w (xs.drop a),0):=by
 intro m
 induction m using Nat.strongRecOn with
 |_ m ih=>
  intro a s n h1 h2 h3 h4
  obtain ⟨n,rfl⟩:∃q,n=q+1:=⟨n - 1,by omega⟩
  by_cases ha:a<xs.length
  ·have hdl:(xs.drop a).length=xs.length - a:=List.length_drop
   have hx:xs.drop a≠[]:=fun e=>by rw [e] at hdl;simp at hdl;omega
   have hle:=jc (xs.drop a)
   have hsp:=pO hx
   rw [ae.l2_eq,dT (by omega),cT,Ey ha (by omega) (by omega),bS]
   have hrd:rd xs (a:Int)=some ((xs.drop a).headD 0):=by
    rw [aP ha]
    congr 1
    rw [List.drop_eq_getElem_cons ha];rfl
   by_cases h8:8≤same (xs.drop a)
   ·have hm:may (2*(same (xs.drop a):Int))=true:=dO.2 (by omega)
    have hpl:=gp (2*(same (xs.drop a):Int))
    have hwl:=qT ((xs.drop a).headD 0) w
    rw [dT (by omega),cT,aK (2*(same (xs.drop a):Int)) (by omega),kl (by omega),bS,kP hm]
    dsimp only
    rw [dT (by omega),cT,hrd,bS,rO (by omega) (by omega) (by omega),bS,IP (by omega) hw,bS,dT (by rw [List.length_append];omega),cT,aK ((a:Int)+(same (xs.drop a):Int)) (by omega),
     show ((a:Int)+(same (xs.drop a):Int))=((a+same (xs.drop a):Nat):Int) by push_cast;rfl,
     ih (m - same (xs.drop a)) (by omega) (a+same (xs.drop a)) _ n (by omega) (by omega) (by omega) (by rw [List.length_append,List.length_append];omega),mK hx h8,List.drop_drop]
    simp only [List.append_assoc]
   ·-- groups: the tail, at the place where they end
    have hg:=qN (xs.drop a)
    have hgp:=jS hx (by omega)
    have tail:∀(t:Nat),a<t→t=a+dl (xs.drop a)→
      ((aQ.f aF k (IntKind.i64.wrap ((IntKind.i64.wrap (2*(IntKind.i64.wrap (Int.tdiv (IntKind.i64.wrap ((IntKind.i64.wrap ((t:Int) - (a:Int)))+7)) 8))))+1))).bind fun r_2=>
       bif decide ((s).length+(r_2.1).length≤9223372036854775807) then
       bif decide (0≤(t:Int))&&decide ((t:Int)≤(((xs).length:Nat):Int)) then
        bif decide (0≤(a:Int))&&decide ((a:Int)≤((((t:Int)).toNat:Nat):Int)) then
        (aH.f aF k (List.drop (((a:Int)).toNat) (List.take (((t:Int)).toNat) xs)) (w:Int)).bind fun r_3=>
        bif decide ((s++r_2.1).length+(r_3).length≤9223372036854775807) then
         ae.l2 aF k n xs (w:Int) ((s++r_2.1)++r_3) (t:Int)
        else
         none
        else
        none
       else
        none
       else
       none)=some (s++fM w (xs.drop a),0):=by
     rintro t ht rfl
     have hgm:may (2*(((dl (xs.drop a)+7) / 8:Nat):Int)+1)=true:=dO.2 (by omega)
     have hpl:=gp (2*(((dl (xs.drop a)+7) / 8:Nat):Int)+1)
     have htl:((xs.drop a).take (dl (xs.drop a))).length=dl (xs.drop a):=by rw [List.length_take];omega
     have hrl:=oZ hw ((xs.drop a).take (dl (xs.drop a)))
     rw [htl] at hrl
     rw [Nr (by omega) (by omega),Nat.add_sub_cancel_left,kl (by omega),bS,kP hgm]
     dsimp only
     rw [dT (by omega),cT,dT (by omega),dT (by omega),dT (by omega),dT (by omega)]
     simp only [Bool.and_self,cT,Int.toNat_natCast]
     rw [vX,HV (by omega) (by rw [htl];omega) hw,bS,dT (by rw [List.length_append];omega),cT,
      ih (m - dl (xs.drop a)) (by omega) (a+dl (xs.drop a)) _ n (by omega) (by omega) (by omega) (by rw [List.length_append,List.length_append];omega),mB hx (by omega),List.drop_drop]
     simp only [List.append_assoc]
    have l4:∀(d t q:Nat),xs.length≤t+d→t≤xs.length→a<t→d<q→t+dl (xs.drop t)=a+dl (xs.drop a)→ae.l4 aF k n q xs (w:Int) s (a:Int) (t:Int)=some (s++fM w (xs.drop a),0):=by
     intro d
     induction d using Nat.strongRecOn with
     |_ d ihd=>
      intro t q g1 g2 g3 g4 g5
      obtain ⟨q,rfl⟩:∃z,q=z+1:=⟨q - 1,by omega⟩
      rw [ae.l4_eq]
      by_cases htl:t<xs.length
      ·rw [dT (by omega),cT,Ey htl (by omega) (by omega),bS]
       have htd:(xs.drop t).length=xs.length - t:=List.length_drop
       by_cases hr:same (xs.drop t)<8
       ·have hn:=yT hr
        rw [htd] at hn
        rw [dT (by omega),cT,aK ((t:Int)+8) (by omega),Lq]
        by_cases hz:t+8≤xs.length
        ·rw [show min ((t:Int)+8) (xs.length:Int)=((t+8:Nat):Int) by omega]
         refine ihd (d - 8) (by omega) (t+8) q (by omega) hz (by omega) (by omega) ?_
         rw [←g5,hn]
         by_cases e:xs.length - t≤8
         ·have e2:t+8=xs.length:=by omega
          rw [if_pos e,e2,List.drop_length]
          show xs.length+0=_
          omega
         ·rw [if_neg e,List.drop_drop];omega
        ·rw [show min ((t:Int)+8) (xs.length:Int)=((xs.length:Nat):Int) by omega]
         refine ihd 0 (by omega) xs.length q (by omega) (by omega) (by omega) (by omega) ?_
         rw [←g5,hn,if_pos (by omega),List.drop_length]
         show xs.length+0=_
         omega
       ·rw [dF (by omega),cF]
        refine tail t g3 ?_
        rw [←g5,u7,if_pos (by omega)];rfl
      ·have e:t=xs.length:=by omega
       rw [dF (by omega),cF]
       refine tail t g3 ?_
       rw [←g5,e,List.drop_length];rfl
    rw [dF (by omega),cF,aK ((a:Int)+8) (by omega),Lq]
    have hn:=yT (l:=xs.drop a) (by omega)
    rw [hdl] at hn
    by_cases hz:a+8≤xs.length
    ·rw [show min ((a:Int)+8) (xs.length:Int)=((a+8:Nat):Int) by omega]
     refine l4 xs.length (a+8) k (by omega) hz (by omega) (by omega) ?_
     rw [hn]
     by_cases e:xs.length - a≤8
     ·have e2:a+8=xs.length:=by omega
      rw [if_pos e,e2,List.drop_length]
      show xs.length+0=_
      omega
     ·rw [if_neg e,List.drop_drop];omega
    ·rw [show min ((a:Int)+8) (xs.length:Int)=((xs.length:Nat):Int) by omega]
     refine l4 xs.length xs.length k (by omega) (by omega) ha (by omega) ?_
     rw [hn,if_pos (by omega),List.drop_length]
     show xs.length+0=_
     omega
  ·have e:a=xs.length:=by omega
   rw [ae.l2_eq,dF (by omega),cF,e,List.drop_length,mc,List.append_nil]
def Bf (w:Nat)(x:Int):Bool:=decide (0≤x)&&decide (x<2 ^ w)
def sO (w:Nat)(xs:List Int):Bool:=xs.all (Bf w)
theorem Bt {w:Nat}(hw:w≤16):min w IntKind.i64.bits=w:=by simp only [IntKind.bits];omega
theorem BJ {w:Nat}(hw:w≤16):(1:Int)≤2 ^ w∧(2:Int) ^ w≤65536:=by
 have h1:(2:Nat) ^ w≤2 ^ 16:=Nat.pow_le_pow_right (by omega) hw
 have h2:0<(2:Nat) ^ w:=Nat.two_pow_pos w
 have e:((2:Int) ^ w)=((2 ^ w:Nat):Int):=by push_cast;rfl
 rw [e];omega
theorem Ii {k w:Nat}(hk:1≤k)(hw:w≤16)(x:Int):gI.f aF k x (w:Int)=some (!Bf w x):=by
 obtain ⟨k,rfl⟩:∃q,k=q+1:=⟨k - 1,by omega⟩
 rw [gI.f_eq]
 have hp:=BJ hw
 unfold Bf
 by_cases h0:x<0
 ·rw [dT h0,dF (show¬(0≤x) by omega)];rfl
 ·rw [dF h0,dT (show 0≤x by omega),dF (show¬((w:Int)<0) by omega),Int.toNat_natCast,Bt hw,nh]
  simp only [Bool.not_false,cT,cF,Bool.true_and]
  have hd:x / 2 ^ w>0↔¬x<2 ^ w:=by
   rw [Int.not_lt]
   constructor
   ·intro h
    have:=(Int.le_ediv_iff_mul_le (a:=1) (b:=x) (c:=2 ^ w) (by omega)).1 (by omega)
    omega
   ·intro h
    have:=(Int.le_ediv_iff_mul_le (a:=1) (b:=x) (c:=2 ^ w) (by omega)).2 (by omega)
    omega
  by_cases hx:x<2 ^ w
  ·rw [dT hx,dF (fun h=>hd.1 h hx)];rfl
  ·rw [dF hx,dT (hd.2 hx)];rfl
theorem FW {k w:Nat}(hk:1≤k)(hw:w≤16){xs:List Int}(hl:xs.length≤1000000):∀(d i n:Nat),i+d=xs.length→d<n→
  ∃r,ar.l0 aF k n xs (w:Int) (xs.length:Int) (i:Int)=some r∧decide (r≥0)=!sO w (xs.drop i):=by
 intro d
 induction d with
 |zero=>
  intro i n h1 h2
  obtain ⟨n,rfl⟩:∃q,n=q+1:=⟨n - 1,by omega⟩
  refine ⟨-1,by rw [ar.l0_eq,dF (by omega),cF],?_⟩
  rw [show i=xs.length by omega,List.drop_length];rfl
 |succ d ih=>
  intro i n h1 h2
  obtain ⟨n,rfl⟩:∃q,n=q+1:=⟨n - 1,by omega⟩
  have hi:i<xs.length:=by omega
  have hdr:sO w (xs.drop i)=(Bf w xs[i]&&sO w (xs.drop (i+1))):=by
   rw [List.drop_eq_getElem_cons hi];rfl
  rw [ar.l0_eq,dT (by omega),cT,aP hi,bS,Ii hk hw,bS,hdr]
  cases hx:Bf w xs[i] with
  |false=>exact ⟨(i:Int),rfl,by rw [dT (by omega)];rfl⟩
  |true=>
   obtain ⟨r,e1,e2⟩:=ih (i+1) n (by omega) (by omega)
   refine ⟨r,?_,by rw [e2,Bool.true_and]⟩
   simp only [Bool.not_true,cF]
   rw [bu (by omega)];exact e1
theorem Ib {k:Nat}{xs:List Int}(hk:xs.length+5≤k)(hl:xs.length≤1000000)(w:Int):
  gf.f aF k xs w=some (decide (0≤w)&&(decide (w≤16)&&(decide ((xs.length:Int)≤4096)&&sO w.toNat xs))):=by
 obtain ⟨k,rfl⟩:∃q,k=q+1:=⟨k - 1,by omega⟩
 rw [gf.f_eq]
 by_cases h0:0≤w
 ·by_cases h1:w≤16
  ·by_cases h2:(xs.length:Int)≤4096
   ·obtain ⟨w,rfl⟩:∃q:Nat,w=(q:Int):=⟨w.toNat,by omega⟩
    obtain ⟨k,rfl⟩:∃q,k=q+2:=⟨k - 2,by omega⟩
    obtain ⟨r,e1,e2⟩:=FW (k:=k) (w:=w) (by omega) (by omega) hl xs.length 0 k (by omega) (by omega)
    rw [dT (show (w:Int)≥0 by omega),dT h1,dT h2]
    simp only [cT,Bool.true_and,Int.toNat_natCast]
    rw [bL.f_eq,ar.f_eq]
    have e1':ar.l0 aF k k xs (w:Int) (xs.length:Int) 0=some r:=e1
    rw [e1',bS,bS,e2,List.drop_zero,Bool.not_not]
   ·rw [dT (show w≥0 by omega),dT h1,dF h2];rfl
  ·rw [dT (show w≥0 by omega),dF h1];rfl
 ·rw [dF (show¬w≥0 by omega)];rfl
def xK (w:Int)(xs:List Int):Bool:=decide (0≤w)&&(decide (w≤16)&&(decide ((xs.length:Int)≤4096)&&sO w.toNat xs))
def jl (w:Int)(xs:List Int):List UInt8×Int:=if xK w xs=true then (fM w.toNat xs,0) else ([],2100)
theorem pm {w:Int}{xs:List Int}:xK w xs=true↔0≤w∧w≤16∧(xs.length:Int)≤4096∧sO w.toNat xs=true:=by
 unfold xK;simp only [Bool.and_eq_true,decide_eq_true_eq]
theorem AP {k:Nat}{xs:List Int}(hk:1200000≤k)(hl:xs.length≤1000000)(w:Int):bZ.f aF k xs w=some (jl w xs):=by
 obtain ⟨k,rfl⟩:∃q,k=q+1:=⟨k - 1,by omega⟩
 rw [bZ.f_eq,Ib (by omega) hl,bS]
 unfold jl
 show (bif !(xK w xs) then _ else _)=_
 cases hm:xK w xs with
 |false=>rfl
 |true=>
  obtain ⟨h0,h1,h2,_⟩:=pm.1 hm
  obtain ⟨w,rfl⟩:∃q:Nat,w=(q:Int):=⟨w.toNat,by omega⟩
  simp only [Bool.not_true,cF,if_true,Int.toNat_natCast]
  rw [Lt (by omega) (by omega) xs.length xs [] k (Nat.le_refl _) (by omega) (by omega) (by simp;omega)];rfl
theorem qQ {k:Nat}{xs:List Int}(hk:1200000≤k)(hl:xs.length≤1000000)(w:Int):ae.f aF k xs w=some (jl w xs):=by
 obtain ⟨k,rfl⟩:∃q,k=q+1:=⟨k - 1,by omega⟩
 rw [ae.f_eq]
 unfold jl xK
 by_cases h0:w<0
 ·rw [dT h0,dF (show¬0≤w by omega)];rfl
 ·by_cases h1:w>16
  ·rw [dF h0,dT h1,dT (show 0≤w by omega),dF (show¬w≤16 by omega)];rfl
  ·by_cases h2:(xs.length:Int)>4096
   ·rw [dF h0,dF h1,dT h2,dT (show 0≤w by omega),dT (show w≤16 by omega),dF (show¬(xs.length:Int)≤4096 by omega)];rfl
   ·obtain ⟨w,rfl⟩:∃q:Nat,w=(q:Int):=⟨w.toNat,by omega⟩
    have hw:w≤16:=by omega
    have hp:=BJ hw
    rw [dF h0,dF h1,dF h2,dT (show 0≤(w:Int) by omega),dT (show (w:Int)≤16 by omega),dT (show (xs.length:Int)≤4096 by omega)]
    simp only [Bool.not_false,cT,cF,Bool.true_and,Int.toNat_natCast]
    have key:=jF (F:=fun n i=>ae.l0 aF k n xs (w:Int) (i:Int)) (p:=fun i=>match xs[i]? with|some x=>Bf w x|none=>false) (N:=xs.length)
     (E:=some (fM w xs,0)) (Z:=some ([],2100)) (fun n i hi _=>by
      show ae.l0 aF k (n+1) xs (w:Int) (i:Int)=_
      rw [ae.l0_eq,dT (by omega),cT,aP hi,bS,bS,dF (show¬((w:Int)<0) by omega),Int.toNat_natCast,Bt hw,Int.one_mul,aK (2 ^ w) (by omega),bu (by omega),List.getElem?_eq_getElem hi]
      simp only [cF]
      unfold Bf
      by_cases hx0:xs[i]<0
      ·rw [dT hx0,dF (show¬0≤xs[i] by omega)];rfl
      ·by_cases hx1:xs[i]<2 ^ w
       ·rw [dF hx0,dF (show¬xs[i]≥2 ^ w by omega),dT (show 0≤xs[i] by omega),dT hx1];rfl
       ·rw [dF hx0,dT (show xs[i]≥2 ^ w by omega),dT (show 0≤xs[i] by omega),dF hx1];rfl) (fun _ n=>by
      show ae.l0 aF k (n+1) xs (w:Int) (xs.length:Int)=_
      rw [ae.l0_eq,dF (by omega),cF]
      have:=CY (k:=k) (w:=w) (by omega) hw (xs:=xs) (by omega) xs.length 0 [] k (by omega) (by omega) (by omega) (by simp;omega)
      rw [List.drop_zero,List.nil_append] at this
      exact this) k (by omega)
    have hall:((List.range xs.length).all fun i=>match xs[i]? with|some x=>Bf w x|none=>false)=sO w xs:=by
     rw [Bool.eq_iff_iff,ko]
     unfold sO
     rw [List.all_eq_true]
     constructor
     ·intro h x hx
      obtain ⟨i,hi,rfl⟩:=List.mem_iff_getElem.1 hx
      have:=h i hi
      rw [List.getElem?_eq_getElem hi] at this
      exact this
     ·intro h i hi
      rw [List.getElem?_eq_getElem hi]
      exact h _ (List.getElem_mem hi)
    rw [hall] at key
    refine Eq.trans key ?_
    cases sO w xs<;>rfl
theorem IU {c:Int}(h0:0≤c)(h1:c<4294967296):aB .and .u64 c 4294967295=c:=by
 rw [jy]
 have e1:(4294967295 % (2 ^ IntKind.u64.bits:Int)).toNat=2 ^ 32 - 1:=by decide
 have e2:(c % (2 ^ IntKind.u64.bits:Int)).toNat=c.toNat:=by simp only [IntKind.bits];omega
 rw [e1,e2,Nat.and_two_pow_sub_one_eq_mod,qW _ (by omega)]
 omega
theorem Oy {k:Nat}(hk:2≤k){c:Int}(h0:0≤c)(h1:c<4294967296):fU.f aF k 1 c=some (0,c):=by
 obtain ⟨k,rfl⟩:∃q,k=q+2:=⟨k - 2,by omega⟩
 have m32:min 32 IntKind.u64.bits=32:=rfl
 have f1:Int.fdiv 1 (2 ^ 32)=0:=by decide
 have f0:Int.fdiv 0 (2 ^ 32)=0:=by decide
 have fc:Int.fdiv c (2 ^ 32)=0:=by rw [nh];omega
 have a1:aB .and .u64 1 4294967295=1:=by decide
 have a0:aB .and .u64 0 4294967295=0:=by decide
 have w0:IntKind.u64.wrap 0=0:=by decide
 rw [fU.f_eq,fX.f_eq,m32,f1,fc,a1,IU h0 h1]
 simp only [Int.zero_mul,Int.mul_zero,Int.one_mul,w0,qW c (by omega),fc,Int.add_zero,a0,f0,bS]
theorem KZ {k:Nat}(x:Int){c:Nat}(hc:c≤1000000):∀(d n q:Nat),c≤n+d→n≤c→(1≤n∨c=0)→d<q→
  az.l0 aF k q (n:Int) (List.replicate n x++List.replicate (c - n) 0)=some (List.replicate c x):=by
 intro d
 induction d using Nat.strongRecOn with
 |_ d ih=>
  intro n q h1 h2 h3 h4
  obtain ⟨q,rfl⟩:∃z,q=z+1:=⟨q - 1,by omega⟩
  have hlen:(List.replicate n x++List.replicate (c - n) (0:Int)).length=c:=by rw [List.length_append,List.length_replicate,List.length_replicate];omega
  rw [az.l0_eq,hlen]
  by_cases hn:n<c
  ·rw [dT (by omega),cT,dT (show 0≤(n:Int) by omega),dT (by omega)]
   simp only [Bool.and_self,cT,Int.toNat_natCast,List.drop_zero,Nat.zero_add]
   have b1:Nat.ble (n+(c - n)) c=true:=Nat.ble_eq_true_of_le (by omega)
   have b2:Nat.ble n c=true:=Nat.ble_eq_true_of_le (by omega)
   have tk:List.take n (List.replicate n x++List.replicate (c - n) (0:Int))=List.replicate n x:=by
    rw [List.take_append_of_le_length (by simp)];simp
   rw [b1,b2,cT,cT,tk,bS,List.length_replicate]
   have hm:min n (c - n)≤c - n:=Nat.min_le_right _ _
   have t2:List.take (c - n) (List.replicate n x)=List.replicate (min n (c - n)) x:=by rw [List.take_replicate,Nat.min_comm]
   have dr:List.drop (n+min n (c - n)) (List.replicate n x++List.replicate (c - n) (0:Int))=List.replicate (c - (n+min n (c - n))) 0:=by
    rw [List.drop_append,List.length_replicate,List.drop_of_length_le (by simp),List.nil_append,Nat.add_sub_cancel_left,List.drop_replicate]
    congr 1;omega
   rw [t2,dr,List.replicate_append_replicate,aK _ (by omega),show ((n:Int)+((min n (c - n):Nat):Int))=((n+min n (c - n):Nat):Int) by push_cast;rfl]
   exact ih (d - min n (c - n)) (by omega) _ q (by omega) (by omega) (.inl (by omega)) (by omega)
  ·have e:n=c:=by omega
   subst e
   rw [dF (by omega),cF,Nat.sub_self]
   simp
theorem Do {k c:Nat}(hk:c+10≤k)(hc:c≤1000000)(x:Int):az.f aF k [x] (c:Int)=some (List.replicate c x):=by
 obtain ⟨k,rfl⟩:∃q,k=q+1:=⟨k - 1,by omega⟩
 have hl1:IntKind.u64.wrap ((([x]:List Int)).length:Int)=1:=rfl
 rw [az.f_eq,dF (by omega),cF,ly,az.j3_eq,hl1,qW (c:Int) (by omega),Oy (by omega) (by omega) (by omega),bS]
 dsimp only
 rw [dF (show¬((0:Int)>0) by omega),dF (show¬((c:Int)>9223372036854775807) by omega)]
 simp only [Bool.not_false,cT,cF]
 rw [ly,az.j6_eq,aK (c:Int) (by omega),BEq.rfl,dT (show 0≤(c:Int) by omega),dT (show (c:Int)*8≤140737488355328 by omega)]
 simp only [Bool.and_self,cT,Int.toNat_natCast,List.length_replicate,Nat.zero_add,List.take_zero,List.nil_append]
 have b1:Nat.ble c c=true:=Nat.ble_eq_true_of_le (Nat.le_refl _)
 have hL:List.take c [x]++List.drop (min ([x]:List Int).length c) (List.replicate c (0:Int))=List.replicate (min 1 c) x++List.replicate (c - min 1 c) 0:=by
  rw [List.drop_replicate]
  cases c with
  |zero=>rfl
  |succ c=>simp
 rw [b1,cT,hL]
 exact KZ x hc c (min 1 c) k (by omega) (by omega) (by omega) (by omega)
theorem rk (s:List UInt8)(a:Nat):ge s (a:Int)=(0,0,300)∨∃(h:Int) (e:Nat),ge s (a:Int)=(h,(e:Int),0)∧may h=true∧a<e∧e≤s.length∧pv h=(s.take e).drop a:=by
 have key:∀(f:Nat) (x:Int) (i:Nat),Ae s a f x i=(0,0,300)∨∃(h:Int) (e:Nat),Ae s a f x i=(h,(e:Int),0)∧may h=true∧a<e∧e≤s.length∧pv h=(s.take e).drop a:=by
  intro f
  induction f with
  |zero=>intro x i;exact .inl rfl
  |succ f ih=>
   intro x i
   rw [Ae]
   split
   ·exact .inl rfl
   ·rename_i b hb
    have hlt:=(List.getElem?_eq_some_iff.mp hb).1
    split
    ·exact ih _ _
    ·split
     ·rename_i h
      exact .inr ⟨_,a+i+1,rfl,h.1,by omega,by omega,h.2⟩
     ·exact .inl rfl
 unfold ge
 split
 ·rw [Int.toNat_natCast];exact key 5 0 0
 ·exact .inl rfl
theorem wj {k:Nat}(hk:1≤k)(r:List UInt8)(w:Int)(out:List Int)(n:Int):cg.f aF k r w out true n=some ([],(r,w,out,true)):=by
 obtain ⟨k,rfl⟩:∃q,k=q+1:=⟨k - 1,by omega⟩
 rw [cg.f_eq];rfl
theorem yB {k:Nat}(hk:1≤k)(r:List UInt8)(w:Int)(out:List Int)(n:Nat):cg.f aF k r w out false (n:Int)=
  some (if n≤r.length then (r.take n,(r.drop n,w,out,false)) else ([],(r,w,out,true))):=by
 obtain ⟨k,rfl⟩:∃q,k=q+1:=⟨k - 1,by omega⟩
 rw [cg.f_eq]
 by_cases h:n≤r.length
 ·rw [dF (show¬((n:Int)>(r.length:Int)) by omega),dT (show 0≤(n:Int) by omega),dT (show (n:Int)≤((r.length:Nat):Int) by omega),if_pos h]
  simp only [Bool.not_false,cT,cF,Bool.and_self,Int.toNat_natCast,List.drop_zero,List.take_length]
 ·rw [dT (show (n:Int)>(r.length:Int) by omega),if_neg h];rfl
def mJ (w:Nat)(r:List UInt8)(out:List Int)(bad:Bool)(many left:Nat):List UInt8×List Int×Bool:=
 if bad=true∨r.length<(fQ w).toNat then (r,out,true)
 else if left<many then (r.drop (fQ w).toNat,out,true)
 else (r.drop (fQ w).toNat,out++List.replicate many (dG (r.take (fQ w).toNat)),false)
theorem B6 {k w:Nat}(hk:1000100≤k)(hw:w≤16)(r:List UInt8)(out:List Int)(bad:Bool){many left:Nat}(hl:left≤1000000)(ho:out.length≤1000000):
  eA.f aF k r (w:Int) out bad (many:Int) (left:Int)=some ((mJ w r out bad many left).1,(w:Int),(mJ w r out bad many left).2.1,(mJ w r out bad many left).2.2):=by
 obtain ⟨k,rfl⟩:∃q,k=q+1:=⟨k - 1,by omega⟩
 have hbb:fQ (w:Int)=((fQ (w:Int)).toNat:Int):=by unfold fQ;omega
 have hb2:(fQ (w:Int)).toNat≤2:=by unfold fQ;omega
 rw [eA.f_eq,ki (by omega) (by omega) (by omega),bS]
 unfold mJ
 cases bad with
 |true=>
  rw [wj (by omega),bS]
  dsimp only
  rw [eE (by omega) _ (by simp),bS,if_pos (.inl rfl)];rfl
 |false=>
  rw [hbb,yB (by omega),bS,Int.toNat_natCast]
  by_cases h:(fQ (w:Int)).toNat≤r.length
  ·rw [if_pos h,if_neg (by simp;omega)]
   dsimp only
   rw [eE (by omega) _ (by rw [List.length_take];omega),bS]
   by_cases hm:left<many
   ·rw [dT (show (many:Int)>(left:Int) by omega),if_pos hm];rfl
   ·rw [dF (show¬((many:Int)>(left:Int)) by omega),if_neg hm]
    simp only [Bool.not_false,cT]
    rw [Do (by omega) (by omega),bS,dT (by rw [List.length_replicate];omega),cT]
  ·rw [if_neg h,if_pos (.inr (by omega))]
   dsimp only
   rw [eE (by omega) _ (by simp),bS];rfl
def nI (s:List UInt8)(w i:Nat):Nat→Int
 |0=>0
 |j+1=>nI s w i j+(if G4 s (i*w+j)=true then 2 ^ j else 0)
theorem oN (s:List UInt8)(w i:Nat):∀j,0≤nI s w i j∧nI s w i j<2 ^ j
 |0=>by simp [nI]
 |j+1=>by
  have h:=oN s w i j
  have e:(2:Int) ^ (j+1)=2 ^ j*2:=Int.pow_succ 2 j
  rw [nI,e]
  split<;>omega
def oV (bad:Bool)(s:List UInt8)(w i j:Nat):Int:=if bad=true then 0 else nI s w i j
theorem F7 {x:Int}{j:Nat}(hj:j<16)(h0:0≤x)(h1:x<2 ^ j):aB .or .i64 x (IntKind.i64.wrap (1*2 ^ (min j IntKind.i64.bits)))=x+2 ^ j:=by
 have hp:=BJ (w:=j) (by omega)
 rw [Bt (by omega),aK (1*2 ^ j) (by omega),qI x 1 j h0 h1 (by omega) (by omega)]
 omega
theorem C6 {k w:Nat}(hw:w≤16)(hk:100≤k)(bad:Bool)(s rest:List UInt8)(out:List Int){i many:Nat}(hm:many≤600)(hi:i<8*many)(hs:bad=false→s.length=many*w)(lim:Int)(m1:Nat)(ho:out.length≤1000000):
  ap.l2 aF k m1 k s (i:Int) 0 lim (w:Int) 0 rest out bad=ap.l0 aF k m1 s lim ((i+1:Nat):Int) rest (w:Int) (out++[oV bad s w i w]) bad:=by
 have h0:(0:Int)=oV bad s w i 0:=by unfold oV;split<;>rfl
 have hb:=AI (show i≤4800 by omega) hw
 have hiw:(i+1)*w≤8*many*w:=Nat.mul_le_mul_right w hi
 rw [Nat.add_mul,Nat.one_mul,Nat.mul_assoc] at hiw
 refine Eq.trans (congrArg (fun z=>ap.l2 aF k m1 k s (i:Int) z lim (w:Int) 0 rest out bad) h0) ?_
 refine cN (F:=fun n j=>ap.l2 aF k m1 n s (i:Int) (oV bad s w i j) lim (w:Int) (j:Int) rest out bad) (N:=w) ?_ ?_ k 0 (by omega) (by omega)
 ·intro n j hj
  rw [ap.l2_eq,dT (by omega),cT]
  cases bad with
  |true=>rw [bu (by omega)];rfl
  |false=>
   have hsl:=hs rfl
   have hadd:IntKind.i64.wrap (((i*w:Nat):Int)+(j:Int))=((i*w+j:Nat):Int):=by rw [aK _ (by omega)];push_cast;rfl
   have hv:=oN s w i j
   simp only [Bool.not_false,cT]
   rw [E6 (by omega) hw,hadd,zQ (by omega) (by omega) (by omega),bS,bu (by omega)]
   unfold oV
   simp only [Bool.false_eq_true,if_false]
   cases hon:G4 s (i*w+j) with
   |true=>
    rw [cT,dF (show¬((j:Int)<0) by omega),cF,Int.toNat_natCast,F7 (by omega) hv.1 hv.2,nI,hon,if_pos rfl]
   |false=>rw [cF,nI,hon,if_neg (by simp),Int.add_zero]
 ·intro n
  rw [ap.l2_eq,dF (by omega),cF,dT (by simp only [List.length_cons,List.length_nil];omega),cT,bu (by omega)]
def zZ (w:Nat)(r:List UInt8)(out:List Int)(bad:Bool)(many left:Nat):List UInt8×List Int×Bool:=
 if (left+7) / 8<many then (r,out,true)
 else if bad=true∨r.length<many*w then (r,out++(List.range (min (8*many) left)).map (fun i=>oV true [] w i w),true)
 else (r.drop (many*w),out++(List.range (min (8*many) left)).map (fun i=>oV false (r.take (many*w)) w i w),false)
theorem oY {k w:Nat}(hw:w≤16)(hk:100000≤k)(bad:Bool)(s rest:List UInt8)(out:List Int){many lim:Nat}(hm:many≤600)(hi:lim≤8*many)(hs:bad=false→s.length=many*w)(ho:out.length≤900000):
  ap.l0 aF k k s (lim:Int) 0 rest (w:Int) out bad=some (rest,(w:Int),out++(List.range lim).map (fun i=>oV bad s w i w),bad):=by
 have h0:out=out++(List.range 0).map (fun i=>oV bad s w i w):=by simp
 refine Eq.trans (congrArg (fun z=>ap.l0 aF k k s (lim:Int) 0 rest (w:Int) z bad) h0) ?_
 refine cN (F:=fun n i=>ap.l0 aF k n s (lim:Int) (i:Int) rest (w:Int) (out++(List.range i).map (fun i=>oV bad s w i w)) bad) (N:=lim) ?_ ?_ k 0 (by omega) (by omega)
 ·intro n i hl
  rw [ap.l0_eq,dT (by omega),cT,C6 hw (by omega) bad s rest _ hm (by omega) hs (lim:Int) n (by rw [List.length_append,List.length_map,List.length_range];omega),List.range_succ,List.map_append,List.append_assoc]
  rfl
 ·intro n
  rw [ap.l0_eq,dF (by omega),cF]
theorem Dm {k w:Nat}(hk:100100≤k)(hw:w≤16)(r:List UInt8)(out:List Int)(bad:Bool){many left:Nat}(hl:left≤4096)(hm:many≤2000000000)(ho:out.length≤900000):
  ap.f aF k r (w:Int) out bad (many:Int) (left:Int)=some ((zZ w r out bad many left).1,(w:Int),(zZ w r out bad many left).2.1,(zZ w r out bad many left).2.2):=by
 obtain ⟨k,rfl⟩:∃q,k=q+1:=⟨k - 1,by omega⟩
 have e8:IntKind.i64.wrap (Int.tdiv (IntKind.i64.wrap ((IntKind.i64.wrap ((left:Int)+8)) - 1)) 8)=(((left+7) / 8:Nat):Int):=by
  rw [aK ((left:Int)+8) (by omega),aK ((left:Int)+8 - 1) (by omega),Int.tdiv_eq_ediv_of_nonneg (by omega),aK (((left:Int)+8 - 1) / 8) (by omega)]
  omega
 rw [ap.f_eq,e8]
 unfold zZ
 by_cases h1:(left+7) / 8<many
 ·rw [dT (by omega),if_pos h1];rfl
 ·have hmany:many≤600:=by omega
  have hmw:=AI (show many≤600 from hmany) hw
  rw [dF (by omega),cF,if_neg h1,E6 (by omega) hw,aK ((many:Int)*8) (by omega),Lq,show min ((many:Int)*8) (left:Int)=((min (8*many) left:Nat):Int) by omega]
  have hlim:min (8*many) left≤8*many:=Nat.min_le_left _ _
  cases bad with
  |true=>
   rw [wj (by omega),bS,if_pos (.inl rfl)]
   dsimp only
   exact oY hw (by omega) true [] r out hmany hlim (fun h=>by cases h) ho
  |false=>
   rw [yB (by omega),bS]
   by_cases h2:many*w≤r.length
   ·rw [if_pos h2,if_neg (by simp;omega)]
    dsimp only
    exact oY hw (by omega) false _ _ out hmany hlim (fun _=>by rw [List.length_take];omega) ho
   ·rw [if_neg h2,if_pos (.inr (by omega))]
    dsimp only
    exact oY hw (by omega) true [] r out hmany hlim (fun h=>by cases h) ho
def ug (w:Int)(s:List UInt8)(count:Int)(out:List Int)(bad:Bool):List Int×Int:=
 if bad=false∧jl w out=(s,0)∧(out.length:Int)=count then (out,0) else ([],2100)
theorem zS (w:Int)(s:List UInt8)(count:Int)(out:List Int):
  (bif (!((jl w out).2 != 0)) then
   bif (!((jl w out).1 != s)) then
    bif (((out).length:Int) != count) then some (([]:List Int),(2100:Int)) else some (out,0)
   else some (([]:List Int),2100)
  else some (([]:List Int),2100))=some (ug w s count out false):=by
 unfold ug
 rcases hp:jl w out with ⟨u,e⟩
 dsimp only
 by_cases h1:e=0
 ·subst h1
  by_cases h2:u=s
  ·subst h2
   by_cases h3:(out.length:Int)=count
   ·rw [if_pos ⟨rfl,rfl,h3⟩,show ((out.length:Int) != count)=false by simpa using h3]
    simp only [bne_self_eq_false,Bool.not_false,cT,cF]
   ·rw [if_neg (fun h=>h3 h.2.2),show ((out.length:Int) != count)=true by simpa using h3]
    simp only [bne_self_eq_false,Bool.not_false,cT]
  ·rw [if_neg (fun h=>h2 (Prod.mk.inj h.2.1).1),show (u != s)=true by simpa using h2]
   simp only [bne_self_eq_false,Bool.not_false,Bool.not_true,cT,cF]
 ·rw [if_neg (fun h=>h1 (Prod.mk.inj h.2.1).2),show (e != 0)=true by simpa using h1]
  simp only [Bool.not_true,cF]
theorem uc {k:Nat}(hk:1200000≤k)(n:Nat)(s:List UInt8)(w:Int)(count:Int)(r:List UInt8)(w':Int)(out:List Int)(bad:Bool)(ho:out.length≤1000000)(h:bad=true∨¬(out.length:Int)<count):
  aZ.l0 aF k (n+1) s w count r w' out bad=some (ug w s count out bad):=by
 rw [aZ.l0_eq]
 cases bad with
 |true=>
  simp only [Bool.not_true,cF]
  rw [AP hk ho,bS]
  unfold ug
  rw [if_neg (by simp)]
 |false=>
  simp only [Bool.not_false,cT]
  rw [dF (by simpa using h),cF,AP hk ho,bS]
  exact zS w s count out
def gB (w:Nat)(r:List UInt8)(out:List Int)(left:Nat):List UInt8×List Int×Bool:=
 let g:=ge r 0
 let t:=if g.1 % 2=0 then mJ w (r.drop g.2.1.toNat) out (g.2.2 != 0) (g.1 / 2).toNat left else zZ w (r.drop g.2.1.toNat) out (g.2.2 != 0) (g.1 / 2).toNat left
 (t.1,t.2.1,t.2.2||decide (g.1<2))
theorem Bn (r:List UInt8):∃(h:Int) (e:Nat) (c:Int),ge r 0=(h,(e:Int),c)∧0≤h∧h≤2147483647∧e≤r.length∧(h<2∨c=0):=by
 rcases rk r 0 with e|⟨h,e,h1,h2,h3,h4,h5⟩
 ·exact ⟨0,0,300,e,by omega,by omega,Nat.zero_le _,.inl (by omega)⟩
 ·obtain ⟨q1,q2⟩:=dO.1 h2
  exact ⟨h,e,0,h1,q1,q2,h4,.inr rfl⟩
theorem yA {k w:Nat}(hk:1200000≤k)(hw:w≤16)(n:Nat)(s:List UInt8){count:Nat}(hc:count≤4096)(r:List UInt8)(out:List Int)(hr:(r.length:Int)≤9223372036854775000)(h:out.length<count):
  aZ.l0 aF k (n+1) s (w:Int) (count:Int) r (w:Int) out false=
   aZ.l0 aF k n s (w:Int) (count:Int) (gB w r out (count - out.length)).1 (w:Int) (gB w r out (count - out.length)).2.1 (gB w r out (count - out.length)).2.2:=by
 obtain ⟨g,e,c,hg,g0,g1,he,_⟩:=Bn r
 have hleft:IntKind.i64.wrap ((count:Int) - (out.length:Int))=((count - out.length:Nat):Int):=by rw [aK _ (by omega)];omega
 have hmany:IntKind.i64.wrap (Int.tdiv g 2)=(((g / 2).toNat:Nat):Int):=by rw [Int.tdiv_eq_ediv_of_nonneg g0,aK _ (by omega)];omega
 have hmod:Int.tmod g 2=g % 2:=Int.tmod_eq_emod_of_nonneg g0
 have j12:∀(t:List UInt8×List Int×Bool),aZ.j12 aF k n s (w:Int) (count:Int) g t.1 (w:Int) t.2.1 t.2.2=aZ.l0 aF k n s (w:Int) (count:Int) t.1 (w:Int) t.2.1 (t.2.2||decide (g<2)):=by
  rintro ⟨t1,t2,b⟩
  rw [aZ.j12_eq]
  cases b<;>rfl
 unfold gB
 rw [aZ.l0_eq,hg]
 simp only [Bool.not_false,cT]
 rw [dT (by omega),cT,vR (by omega) r hr,hg,bS]
 dsimp only
 rw [dT (by omega),dT (by omega)]
 simp only [Bool.and_self,cT,List.take_length,Int.toNat_natCast]
 rw [hmod,hleft,hmany]
 by_cases hm:g % 2=0
 ·rw [if_pos hm,show (g % 2==0)=true by simpa using hm,cT,B6 (by omega) hw _ _ _ (by omega) (by omega),bS]
  dsimp only
  rw [ly,j12]
 ·rw [if_neg hm,show (g % 2==0)=false by simpa using hm,cF,Dm (by omega) hw _ _ _ (by omega) (by omega) (by omega),bS]
  dsimp only
  rw [ly,j12]
theorem wM {w:Nat}(r:List UInt8)(out:List Int){left:Nat}(hl:1≤left):(gB w r out left).2.1.length≤out.length+left∧((gB w r out left).2.2=false→out.length<(gB w r out left).2.1.length)∧(gB w r out left).1.length≤r.length:=by
 obtain ⟨g,e,c,hg,g0,g1,he,h2⟩:=Bn r
 unfold gB
 rw [hg]
 dsimp only
 rw [Int.toNat_natCast]
 have hd:(r.drop e).length≤r.length:=by rw [List.length_drop];omega
 split
 ·unfold mJ
  split
  ·exact ⟨by simp,fun h=>by simp at h,hd⟩
  ·split
   ·exact ⟨by simp,fun h=>by simp at h,by rw [List.length_drop];omega⟩
   ·rename_i hm
    refine ⟨by rw [List.length_append,List.length_replicate];omega,fun h=>?_,by rw [List.length_drop];omega⟩
    simp only [Bool.false_or,decide_eq_false_iff_not] at h
    rw [List.length_append,List.length_replicate];omega
 ·unfold zZ
  split
  ·exact ⟨by simp,fun h=>by simp at h,hd⟩
  ·split
   ·refine ⟨by rw [List.length_append,List.length_map,List.length_range];omega,fun h=>by simp at h,hd⟩
   ·refine ⟨by rw [List.length_append,List.length_map,List.length_range];omega,fun h=>?_,by rw [List.length_drop];omega⟩
    simp only [Bool.false_or,decide_eq_false_iff_not] at h
    rw [List.length_append,List.length_map,List.length_range];omega
def sy (w:Int)(s:List UInt8)(count:Int)(res:List Int×Int):Prop:=res=([],2100)∨∃xs,res=(xs,0)∧jl w xs=(s,0)∧(xs.length:Int)=count
theorem q8 (w:Int)(s:List UInt8)(count:Int)(out:List Int)(bad:Bool):sy w s count (ug w s count out bad):=by
 unfold ug sy
 split
 ·rename_i h;exact .inr ⟨out,rfl,h.2⟩
 ·exact .inl rfl
theorem CC {k w:Nat}(hk:1200000≤k)(hw:w≤16)(s:List UInt8){count:Nat}(hc:count≤4096):∀(m:Nat) (r:List UInt8) (out:List Int) (bad:Bool) (n:Nat),count≤out.length+m→out.length≤count→m+1<n→(r.length:Int)≤9223372036854775000→
  ∃res,aZ.l0 aF k n s (w:Int) (count:Int) r (w:Int) out bad=some res∧sy (w:Int) s (count:Int) res:=by
 intro m
 induction m using Nat.strongRecOn with
 |_ m ih=>
  intro r out bad n h1 h2 h3 h4
  obtain ⟨n,rfl⟩:∃q,n=q+1:=⟨n - 1,by omega⟩
  by_cases hs:bad=true∨¬(out.length:Int)<(count:Int)
  ·exact ⟨_,uc hk n s w count r w out bad (by omega) hs,q8 _ _ _ _ _⟩
  ·have hb:bad=false:=by cases bad<;>simp at hs ⊢
   subst hb
   have hlt:out.length<count:=by
    rcases Nat.lt_or_ge out.length count with h|h
    ·exact h
    ·exact absurd (.inr (by omega)) hs
   rw [yA hk hw n s hc r out h4 hlt]
   obtain ⟨q1,q2,q3⟩:=wM (w:=w) r out (left:=count - out.length) (by omega)
   cases hbad:(gB w r out (count - out.length)).2.2 with
   |true=>
    obtain ⟨n,rfl⟩:∃q,n=q+1:=⟨n - 1,by omega⟩
    exact ⟨_,uc hk n s w count _ w _ true (by omega) (.inl rfl),q8 _ _ _ _ _⟩
   |false=>
    have:=q2 hbad
    exact ih (count - (gB w r out (count - out.length)).2.1.length) (by omega) _ _ false n (by omega) (by omega) (by omega) (by omega)
theorem qZ {k:Nat}(hk:1300000≤k)(s:List UInt8)(hs:(s.length:Int)≤9223372036854775000)(w count:Int):∃res,aZ.f aF k s w count=some res∧sy w s count res:=by
 obtain ⟨k,rfl⟩:∃q,k=q+1:=⟨k - 1,by omega⟩
 rw [aZ.f_eq]
 by_cases h0:w<0
 ·rw [dT h0];exact ⟨_,rfl,.inl rfl⟩
 ·by_cases h1:w>16
  ·rw [dF h0,dT h1];exact ⟨_,rfl,.inl rfl⟩
  ·by_cases h2:count<0
   ·rw [dF h0,dF h1,dT h2];exact ⟨_,rfl,.inl rfl⟩
   ·by_cases h3:count>4096
    ·rw [dF h0,dF h1,dF h2,dT h3];exact ⟨_,rfl,.inl rfl⟩
    ·rw [dF h0,dF h1,dF h2,dF h3]
     simp only [Bool.not_false,cT,cF]
     obtain ⟨w,rfl⟩:∃q:Nat,w=(q:Int):=⟨w.toNat,by omega⟩
     obtain ⟨count,rfl⟩:∃q:Nat,count=(q:Int):=⟨count.toNat,by omega⟩
     exact CC (by omega) (by omega) s (by omega) count s [] false k (by simp) (by simp) (by omega) hs
theorem E5 {w:Nat}(hw:w≤16)(x:Int):(wd x w).length=(fQ (w:Int)).toNat:=by
 rw [AY hw];unfold wd
 split
 ·rfl
 ·split<;>rfl
theorem IL (x:Int):(val (Gx x):Int)=x % 256:=by
 have e:(val (Gx x):Int)=((UInt8.ofNat (IntKind.u8.wrap (Int.fdiv x 1)).toNat).toNat:Int)+256*0:=by
  simp only [Gx,ag,List.map_cons,List.map_nil,val,Int.natCast_add,Int.natCast_mul];rfl
 rw [e]
 simp only [qi,dL _ _ (show (0:Int)≤1 by decide)]
 omega
theorem Ie (x:Int):(val (LV x):Int)=x % 65536:=by
 have e:(val (LV x):Int)=((UInt8.ofNat (IntKind.u8.wrap (Int.fdiv x 1)).toNat).toNat:Int)+256*(((UInt8.ofNat (IntKind.u8.wrap (Int.fdiv x (2 ^ 8))).toNat).toNat:Int)+256*0):=by
  simp only [LV,ag,List.map_cons,List.map_nil,val,Int.natCast_add,Int.natCast_mul];rfl
 rw [e]
 simp only [qi,dL _ _ (show (0:Int)≤1 by decide),dL _ _ (show (0:Int)≤2 ^ 8 by decide)]
 have p8:(2:Int) ^ 8=256:=by decide
 rw [p8]
 omega
theorem zo {w:Nat}(hw:w≤16){x:Int}(h:Bf w x=true):dG (wd x w)=x:=by
 unfold Bf at h
 simp only [Bool.and_eq_true,decide_eq_true_eq] at h
 have hp:=BJ hw
 unfold dG wd
 split
 ·rename_i e;subst e
  have:x=0:=by have:=h.2;simp at this;omega
  subst this;rfl
 ·split
  ·rename_i h8
   have h2:(2:Int) ^ w≤256:=by
    have h1:(2:Nat) ^ w≤2 ^ 8:=Nat.pow_le_pow_right (by omega) h8
    have e:((2:Int) ^ w)=((2 ^ w:Nat):Int):=by push_cast;rfl
    rw [e];omega
   rw [IL,aK _ (by omega)];omega
  ·rw [Ie,aK _ (by omega)];omega
theorem tc (xs:List Int)(w:Nat):∀(n i j:Nat),i<n→j<w→(ib xs w n)[i*w+j]?=some (uf xs i j)
 |n+1,i,j,hi,hj=>by
  have hl:=e7 xs w n
  rw [jQ]
  by_cases h:i<n
  ·have h1:(i+1)*w≤n*w:=Nat.mul_le_mul_right w h
   rw [Nat.add_mul,Nat.one_mul] at h1
   rw [List.getElem?_append_left (by rw [hl];omega)]
   exact tc xs w n i j h hj
  ·have e:i=n:=by omega
   subst e
   rw [List.getElem?_append_right (by rw [hl];omega),hl,Nat.add_sub_cancel_left,List.getElem?_map,List.getElem?_range hj];rfl
theorem NW {x:Int}{j:Nat}(hj:j<16):tb x j=decide (x / 2 ^ j % 2=1):=by
 unfold tb
 have e:=tB (Int.fdiv x (2 ^ (min j IntKind.i64.bits))) 1 (by omega)
 rw [show ((2:Int) ^ 1 - 1)=1 from rfl] at e
 rw [e,Bt (by omega),nh]
 rw [show ((2:Int) ^ 1)=2 from rfl]
 by_cases h:x / 2 ^ j % 2=1
 ·rw [dT h];simpa using h
 ·rw [dF h];simpa using h
theorem GP (x:Int){p:Int}(hp:0<p):x % (p*2)=x % p+p*(x / p % 2):=by
 have h1:x % p+p*(x / p)=x:=Int.emod_add_mul_ediv x p
 have h2:x / p=x / p % 2+2*(x / p / 2):=(Int.emod_add_mul_ediv (x / p) 2).symm
 have h3:p*(x / p)=p*(x / p % 2)+p*2*(x / p / 2):=by
  calc p*(x / p)=p*(x / p % 2+2*(x / p / 2)):=by rw [←h2]
   _=_:=by rw [Int.mul_add,Int.mul_assoc]
 have h4:x=(x % p+p*(x / p % 2))+p*2*(x / p / 2):=by omega
 have r1:=Int.emod_nonneg x (show p≠0 by omega)
 have r2:=Int.emod_lt_of_pos x hp
 have h5:x / p % 2=0∨x / p % 2=1:=by omega
 have h6:0≤x % p+p*(x / p % 2)∧x % p+p*(x / p % 2)<p*2:=by
  rcases h5 with e|e
  ·rw [e,Int.mul_zero];omega
  ·rw [e,Int.mul_one];omega
 calc x % (p*2)=((x % p+p*(x / p % 2))+p*2*(x / p / 2)) % (p*2):=by rw [←h4]
  _=(x % p+p*(x / p % 2)) % (p*2):=Int.add_mul_emod_self_left _ _ _
  _=_:=Int.emod_eq_of_lt h6.1 h6.2
theorem BG {s:List UInt8}{w i:Nat}{x:Int}(hx:0≤x):∀j,j≤16→(∀q,q<j→G4 s (i*w+q)=tb x q)→nI s w i j=x % 2 ^ j
 |0,_,_=>by simp [nI]
 |j+1,hj,h=>by
  rw [nI,BG hx j (by omega) fun q hq=>h q (by omega),h j (by omega),NW (by omega)]
  have e:(2:Int) ^ (j+1)=2 ^ j*2:=Int.pow_succ 2 j
  have hp:(0:Int)<2 ^ j:=Int.pow_pos (by omega)
  have hm:x % (2 ^ j*2)=x % 2 ^ j+2 ^ j*(x / 2 ^ j % 2):=GP x hp
  rw [e,hm]
  have h2:x / 2 ^ j % 2=0∨x / 2 ^ j % 2=1:=by omega
  rcases h2 with h2|h2
  ·rw [h2,Int.mul_zero];simp
  ·rw [h2,Int.mul_one];simp
theorem Db {w:Nat}(hw:w≤16){xs:List Int}(hok:sO w xs=true){i:Nat}(hi:i<xs.length):oV false (dQ (rows xs w)) w i w=xs[i]:=by
 have hx:=List.all_eq_true.1 hok xs[i] (List.getElem_mem hi)
 unfold Bf at hx
 simp only [Bool.and_eq_true,decide_eq_true_eq] at hx
 have hp:=ns xs.length
 unfold oV
 simp only [Bool.false_eq_true,if_false]
 rw [BG hx.1 w hw fun q hq=>?_]
 ·exact Int.emod_eq_of_lt hx.1 hx.2
 ·have hg:=tc xs w (fq xs.length) i q (by omega) hq
  obtain ⟨hlt,hge⟩:=List.getElem?_eq_some_iff.mp hg
  rw [ER (rows xs w) hlt]
  rw [←ri hi];exact hge
theorem xM:∀(m:Nat) (l:List Int),l.length≤m→dl l=l.length∨dl l % 8=0
 |0,l,h=>by
  have:l=[]:=List.eq_nil_of_length_eq_zero (by omega)
  subst this;exact .inl rfl
 |m+1,l,h=>by
  rw [u7]
  split
  ·exact .inr rfl
  ·split
   ·exact .inl rfl
   ·rcases xM m (l.drop 8) (by rw [List.length_drop];omega) with e|e
    ·rw [List.length_drop] at e;left;omega
    ·right;omega
theorem wQ {xs:List Int}:xs.take (same xs)=List.replicate (same xs) (xs.headD 0):=by
 refine List.ext_getElem? fun i=>?_
 by_cases h:i<same xs
 ·obtain ⟨x,h0,h1⟩:=vb h
  have e:xs.headD 0=x:=by
   cases xs with
   |nil=>simp at h0
   |cons y l=>simpa using h0
  rw [List.getElem?_take_of_lt h,h1,List.getElem?_replicate_of_lt h,e]
 ·have hl:=jc xs
  rw [List.getElem?_eq_none (by rw [List.length_take];omega),List.getElem?_eq_none (by rw [List.length_replicate];omega)]
theorem rp {x:Int}(h:may x=true)(d:List UInt8):ge (pv x++d) 0=(x,((pv x).length:Int),0):=by
 have:=o4 [] d x h
 simpa using this
theorem CM {w:Nat}(hw:w≤16){ys:List Int}(hx:ys≠[])(hl:ys.length≤4096)(hok:sO w ys=true)(h8:8≤same ys)(t:List UInt8)(out:List Int){left:Nat}(hleft:same ys≤left):
  gB w (fM w ys++t) out left=(fM w (ys.drop (same ys))++t,out++ys.take (same ys),false):=by
 have hle:=jc ys
 have hm:may (2*(same ys:Int))=true:=dO.2 (by omega)
 have hd:Bf w (ys.headD 0)=true:=by
  cases ys with
  |nil=>exact absurd rfl hx
  |cons x l=>exact List.all_eq_true.1 hok x List.mem_cons_self
 have hwl:=E5 hw (ys.headD 0)
 rw [mK hx h8]
 simp only [List.append_assoc]
 unfold gB
 rw [rp hm]
 dsimp only
 rw [if_pos (by omega),Int.toNat_natCast,List.drop_left,show (2*(same ys:Int) / 2).toNat=same ys by omega]
 unfold mJ
 rw [if_neg (by simp only [bne_self_eq_false,Bool.false_eq_true,false_or];rw [List.length_append,hwl];omega),if_neg (by omega),←hwl,List.take_left,List.drop_left,zo hw hd,wQ]
 rw [dF (show¬(2*(same ys:Int)<2) by omega)];rfl
theorem DG {w:Nat}(hw:w≤16){ys:List Int}(hx:ys≠[])(hl:ys.length≤4096)(hok:sO w ys=true)(h8:same ys<8)(t:List UInt8)(out:List Int){left:Nat}(hleft:dl ys≤left):
  gB w (fM w ys++t) out left=(fM w (ys.drop (dl ys))++t,out++(List.range (min (fq (dl ys)) left)).map (fun i=>oV false (dQ (rows (ys.take (dl ys)) w)) w i w),false):=by
 have hg:=qN ys
 have hgp:=jS hx h8
 have hm:may (2*(((dl ys+7) / 8:Nat):Int)+1)=true:=dO.2 (by omega)
 have htl:(ys.take (dl ys)).length=dl ys:=by rw [List.length_take];omega
 have hrl:(dQ (rows (ys.take (dl ys)) w)).length=(dl ys+7) / 8*w:=by
  rw [nk,iJ,htl]
  unfold fq
  rw [Nat.mul_assoc];omega
 rw [mB hx h8]
 simp only [List.append_assoc]
 unfold gB
 rw [rp hm]
 dsimp only
 rw [if_neg (by omega),Int.toNat_natCast,List.drop_left,show ((2*(((dl ys+7) / 8:Nat):Int)+1) / 2).toNat=(dl ys+7) / 8 by omega]
 unfold zZ
 rw [if_neg (by omega),if_neg (by simp only [bne_self_eq_false,Bool.false_eq_true,false_or];rw [List.length_append,hrl];omega),←hrl,List.take_left,List.drop_left]
 rw [dF (show¬(2*(((dl ys+7) / 8:Nat):Int)+1<2) by omega)];rfl
theorem zm {w:Nat}(hw:w≤16){ys:List Int}(hok:sO w ys=true){g:Nat}(hg:g≤ys.length):(List.range g).map (fun i=>oV false (dQ (rows (ys.take g) w)) w i w)=ys.take g:=by
 have htl:(ys.take g).length=g:=by rw [List.length_take];omega
 have hok2:sO w (ys.take g)=true:=by
  unfold sO
  rw [List.all_eq_true]
  intro x hx
  exact List.all_eq_true.1 hok x (List.mem_of_mem_take hx)
 refine List.ext_getElem (by simp [htl]) fun i h1 h2=>?_
 rw [List.getElem_map,List.getElem_range]
 exact Db hw hok2 (by simpa using h2)
def B7 (w count:Nat):Nat→List UInt8→List Int→Option (List UInt8×List Int)
 |0,_,_=>none
 |f+1,r,out=>if count≤out.length then some (r,out) else
  if (gB w r out (count - out.length)).2.2=true then none else B7 w count f (gB w r out (count - out.length)).1 (gB w r out (count - out.length)).2.1
theorem pX {w:Nat}{xs:List Int}(h:sO w xs=true)(n:Nat):sO w (xs.drop n)=true:=by
 unfold sO at*
 rw [List.all_eq_true] at*
 exact fun x hx=>h x (List.mem_of_mem_drop hx)
theorem Gf {w:Nat}(hw:w≤16)(t:List UInt8):∀(m:Nat) (ys out:List Int) (count f:Nat),ys.length≤m→ys.length≤4096→sO w ys=true→out.length+ys.length=count→m<f→B7 w count f (fM w ys++t) out=some (t,out++ys):=by
 intro m
 induction m using Nat.strongRecOn with
 |_ m ih=>
  intro ys out count f h1 h2 h3 h4 h5
  obtain ⟨f,rfl⟩:∃q,f=q+1:=⟨f - 1,by omega⟩
  by_cases hx:ys=[]
  ·subst hx
   rw [B7,if_pos (by simp at h4;omega),mc,List.nil_append,List.append_nil]
  ·have hl0:ys.length≠0:=fun e=>hx (List.eq_nil_of_length_eq_zero e)
   rw [B7,if_neg (by omega),show count - out.length=ys.length by omega]
   by_cases h8:8≤same ys
   ·have hle:=jc ys
    have hdl:(ys.drop (same ys)).length=ys.length - same ys:=List.length_drop
    rw [CM hw hx h2 h3 h8 t out hle]
    dsimp only
    rw [if_neg (by simp),ih (m - same ys) (by omega) _ _ count f (by omega) (by omega) (pX h3 _) (by rw [List.length_append,List.length_take,hdl];omega) (by omega),List.append_assoc,List.take_append_drop]
   ·have hg:=qN ys
    have hgp:=jS hx (by omega)
    have hp8:=ns (dl ys)
    have hdl:(ys.drop (dl ys)).length=ys.length - dl ys:=List.length_drop
    have hmin:min (fq (dl ys)) ys.length=dl ys:=by
     rcases xM ys.length ys (Nat.le_refl _) with e|e
     ·omega
     ·have:fq (dl ys)=dl ys:=by unfold fq;omega
      omega
    rw [DG hw hx h2 h3 (by omega) t out hg]
    dsimp only
    rw [if_neg (by simp),hmin,zm hw h3 hg,ih (m - dl ys) (by omega) _ _ count f (by omega) (by omega) (pX h3 _) (by rw [List.length_append,List.length_take,hdl];omega) (by omega),List.append_assoc,List.take_append_drop]
theorem IB {k w:Nat}(hk:1200000≤k)(hw:w≤16)(s:List UInt8){count:Nat}(hc:count≤4096):∀(f:Nat) (r:List UInt8) (out:List Int) (r':List UInt8) (out':List Int) (n:Nat),B7 w count f r out=some (r',out')→f≤n→(r.length:Int)≤9223372036854775000→out.length≤4096→
  aZ.l0 aF k n s (w:Int) (count:Int) r (w:Int) out false=some (ug (w:Int) s (count:Int) out' false):=by
 intro f
 induction f with
 |zero=>intro r out r' out' n h;cases h
 |succ f ih=>
  intro r out r' out' n h h1 h2 h3
  obtain ⟨n,rfl⟩:∃q,n=q+1:=⟨n - 1,by omega⟩
  rw [B7] at h
  by_cases hs:count≤out.length
  ·rw [if_pos hs] at h
   cases h
   exact uc hk n s w count r w out false (by omega) (.inr (by omega))
  ·rw [if_neg hs] at h
   obtain ⟨q1,q2,q3⟩:=wM (w:=w) r out (left:=count - out.length) (by omega)
   rw [yA hk hw n s hc r out h2 (by omega)]
   cases hb:(gB w r out (count - out.length)).2.2 with
   |true=>rw [hb,if_pos rfl] at h;cases h
   |false=>
    rw [hb,if_neg (by simp)] at h
    exact ih _ _ r' out' n h (by omega) (by omega) (by omega)
theorem xg {k:Nat}(hk:1300000≤k){w:Int}{xs:List Int}{s:List UInt8}(h:jl w xs=(s,0))(hs:(s.length:Int)≤9223372036854775000):aZ.f aF k s w (xs.length:Int)=some (xs,0):=by
 have hm:xK w xs=true:=by
  unfold jl at h
  split at h
  ·assumption
  ·cases h
 obtain ⟨h0,h1,h2,h3⟩:=pm.1 hm
 obtain ⟨w,rfl⟩:∃q:Nat,w=(q:Int):=⟨w.toNat,by omega⟩
 have he:fM w xs=s:=by
  unfold jl at h
  rw [if_pos hm] at h
  exact (Prod.mk.inj h).1
 obtain ⟨k,rfl⟩:∃q,k=q+1:=⟨k - 1,by omega⟩
 rw [aZ.f_eq,dF (show¬((w:Int)<0) by omega),dF (show¬((w:Int)>16) by omega),dF (show¬((xs.length:Int)<0) by omega),dF (show¬((xs.length:Int)>4096) by omega)]
 simp only [Bool.not_false,cT,cF]
 have hd:=Gf (w:=w) (by omega) [] xs.length xs [] xs.length (xs.length+1) (Nat.le_refl _) (by omega) h3 (by simp) (by omega)
 rw [List.append_nil,List.nil_append,he] at hd
 rw [IB (by omega) (by omega) s (by omega) _ _ _ _ _ k hd (by omega) hs (by simp)]
 unfold ug
 rw [if_pos ⟨rfl,h,rfl⟩]
theorem HA (h:Int):aB .and .i64 h 1=h % 2:=by
 have e:=tB h 1 (by omega)
 rw [show ((2:Int) ^ 1 - 1)=1 from rfl,show ((2:Int) ^ 1)=2 from rfl] at e
 exact e
theorem zb {k:Nat}(hk:1300000≤k)(n:Nat)(s:List UInt8)(w count at_:Int)(out:List Int)(ho:out.length≤1000000)(h:¬at_<(s.length:Int)∨¬(out.length:Int)<count):
  aa.l0 aF k (n+1) s w count at_ out=some (ug w s count out false):=by
 rw [aa.l0_eq]
 by_cases h1:at_<(s.length:Int)
 ·rw [dT h1,cT,dF (by rcases h with h|h;exact absurd h1 h;exact h),cF,qQ (by omega) ho,bS]
  exact zS w s count out
 ·rw [dF h1,cF,qQ (by omega) ho,bS]
  exact zS w s count out
def RK (h:Int):Nat:=if h % 2=1 then 8*(h / 2).toNat else (h / 2).toNat
def RS (w:Nat)(h:Int):Nat:=if h % 2=1 then (h / 2).toNat*w else (fQ (w:Int)).toNat
def RV (w:Nat)(h:Int)(p:List UInt8)(i:Nat):Int:=if h % 2=1 then nI p w i w else dG p
def jK (s:List UInt8)(e n:Nat):List UInt8:=(s.take (e+n)).drop e
theorem rr {s:List UInt8}{e n:Nat}(h:e+n≤s.length):(jK s e n).length=n:=by
 unfold jK;rw [List.length_drop,List.length_take];omega
theorem LD {k w:Nat}(hk:100≤k)(hw:w≤16)(m1 m2:Nat){s:List UInt8}(hsl:(s.length:Int)≤9223372036854775000)(count:Int){h:Int}{e:Nat}(hR:e+RS w h≤s.length)(hK:RK h≤4104)(hh:0≤h){i:Nat}(hi:i<RK h)(x:Int)(hx:x=if h % 2=1 then 0 else dG (jK s e (RS w h)))
  (out:List Int) (ho:out.length≤900000):
  aa.l4 aF k m1 m2 k s (w:Int) count h (e:Int) (RK h:Int) (RS w h:Int) (i:Int) x 0 out=
   aa.l2 aF k m1 m2 s (w:Int) count h (e:Int) (RK h:Int) (RS w h:Int) ((i+1:Nat):Int) (out++[RV w h (jK s e (RS w h)) i]):=by
 have fin:∀v,IntKind.i64.wrap ((i:Int)+1)=((i+1:Nat):Int)∧decide (((out).length+(([v]:List Int)).length)*8≤140737488355328)=true:=by
  intro v
  exact ⟨bu (by omega),dT (by simp only [List.length_cons,List.length_nil];omega)⟩
 by_cases hodd:h % 2=1
 ·rw [if_pos hodd] at hx
  subst hx
  have hK':RK h=8*(h / 2).toNat:=by unfold RK;rw [if_pos hodd]
  have hS':RS w h=(h / 2).toNat*w:=by unfold RS;rw [if_pos hodd]
  have hb:=AI (show i≤4104 by omega) hw
  have hiw:(i+1)*w≤8*(h / 2).toNat*w:=Nat.mul_le_mul_right w (by omega)
  rw [Nat.add_mul,Nat.one_mul,Nat.mul_assoc,←hS'] at hiw
  have hcl:=rr hR
  unfold RV
  rw [if_pos hodd]
  have h0:(0:Int)=nI (jK s e (RS w h)) w i 0:=rfl
  refine cN (F:=fun n j=>aa.l4 aF k m1 m2 n s (w:Int) count h (e:Int) (RK h:Int) (RS w h:Int) (i:Int) (nI (jK s e (RS w h)) w i j) (j:Int) out) (N:=w) ?_ ?_ k 0 (by omega) (by omega)
  ·intro n j hj
   have hadd:IntKind.i64.wrap (((i*w:Nat):Int)+(j:Int))=((i*w+j:Nat):Int):=by rw [aK _ (by omega)];push_cast;rfl
   have hv:=oN (jK s e (RS w h)) w i j
   have hes:IntKind.i64.wrap ((e:Int)+(RS w h:Int))=((e+RS w h:Nat):Int):=by rw [aK _ (by omega)];push_cast;rfl
   rw [aa.l4_eq,dT (by omega),cT,HA,hodd,BEq.rfl,cT,hes,dT (by omega),dT (by omega),dT (by omega),dT (by omega)]
   simp only [Bool.and_self,cT,Int.toNat_natCast]
   rw [E6 (by omega) hw,hadd]
   show ((eB.f aF k (jK s e (RS w h)) ((i*w+j:Nat):Int)).bind _)=_
   rw [KE (by omega) (by omega) (by omega),bS,bu (by omega)]
   cases hon:G4 (jK s e (RS w h)) (i*w+j) with
   |true=>rw [cT,dF (show¬((j:Int)<0) by omega),cF,F7 (by omega) hv.1 hv.2,nI,hon,if_pos rfl]
   |false=>rw [cF,nI,hon,if_neg (by simp),Int.add_zero]
  ·intro n
   rw [aa.l4_eq,dF (by omega),cF,(fin _).2,cT,(fin 0).1]
 ·rw [if_neg hodd] at hx
  have h2:(h % 2==1)=false:=by simpa using hodd
  unfold RV
  rw [if_neg hodd,←hx]
  obtain ⟨k',hk'⟩:∃q,k=q+1:=⟨k - 1,by omega⟩
  have key:aa.l4 aF k m1 m2 (k'+1) s (w:Int) count h (e:Int) (RK h:Int) (RS w h:Int) (i:Int) x 0 out=
    aa.l2 aF k m1 m2 s (w:Int) count h (e:Int) (RK h:Int) (RS w h:Int) ((i+1:Nat):Int) (out++[x]):=by
   rw [aa.l4_eq,HA,h2]
   simp only [cF]
   rw [(fin x).2,cT,(fin x).1]
   cases decide ((0:Int)<(w:Int))<;>rfl
  rw [←hk'] at key
  exact key
theorem KA {k w:Nat}(hk:100000≤k)(hw:w≤16)(m1:Nat){s:List UInt8}(hsl:(s.length:Int)≤9223372036854775000){count:Nat}(hc:count≤4096){h:Int}{e:Nat}(hR:e+RS w h≤s.length)(hK:RK h≤4104)(hh:0≤h)(out:List Int)(ho:out.length<count):
  aa.l2 aF k m1 k s (w:Int) (count:Int) h (e:Int) (RK h:Int) (RS w h:Int) 0 out=
   aa.l0 aF k m1 s (w:Int) (count:Int) ((e+RS w h:Nat):Int) (out++(List.range (min (RK h) (count - out.length))).map (RV w h (jK s e (RS w h)))):=by
 have h0:out=out++(List.range 0).map (RV w h (jK s e (RS w h))):=by simp
 have hes:IntKind.i64.wrap ((e:Int)+(RS w h:Int))=((e+RS w h:Nat):Int):=by rw [aK _ (by omega)];push_cast;rfl
 refine Eq.trans (congrArg (fun z=>aa.l2 aF k m1 k s (w:Int) (count:Int) h (e:Int) (RK h:Int) (RS w h:Int) 0 z) h0) ?_
 refine cN (F:=fun n i=>aa.l2 aF k m1 n s (w:Int) (count:Int) h (e:Int) (RK h:Int) (RS w h:Int) (i:Int) (out++(List.range i).map (RV w h (jK s e (RS w h))))) (N:=min (RK h) (count - out.length)) ?_ ?_ k 0 (by omega) (by omega)
 ·intro n i hi
  have hlen:(out++(List.range i).map (RV w h (jK s e (RS w h)))).length=out.length+i:=by rw [List.length_append,List.length_map,List.length_range]
  have hl4:=fun x hx=>LD (k:=k) (w:=w) (by omega) hw m1 n hsl (count:Int) hR hK hh (i:=i) (by omega) x hx (out++(List.range i).map (RV w h (jK s e (RS w h)))) (by rw [hlen];omega)
  rw [aa.l2_eq,dT (by omega),cT,dT (by rw [hlen];omega),cT,HA,List.range_succ,List.map_append,←List.append_assoc]
  by_cases hodd:h % 2=1
  ·have h2:(h % 2==0)=false:=by rw [hodd];rfl
   rw [h2,cF,ly,aa.j21_eq]
   exact hl4 0 (by rw [if_pos hodd])
  ·have h2:(h % 2==0)=true:=by have:h % 2=0:=(by omega);rw [this];rfl
   have hS:(RS w h)≤2:=by unfold RS fQ;rw [if_neg hodd];omega
   rw [h2,cT,hes,dT (by omega),dT (by omega),dT (by omega),dT (by omega)]
   simp only [Bool.and_self,cT,Int.toNat_natCast]
   show ((bh.f aF k (jK s e (RS w h))).bind _)=_
   rw [lx (by omega) _ (by rw [rr hR];omega),bS,ly,aa.j21_eq]
   exact hl4 _ (by rw [if_neg hodd])
 ·intro n
  have hlen:(out++(List.range (min (RK h) (count - out.length))).map (RV w h (jK s e (RS w h)))).length=out.length+min (RK h) (count - out.length):=by rw [List.length_append,List.length_map,List.length_range]
  rw [aa.l2_eq,hes]
  by_cases hx:min (RK h) (count - out.length)<RK h
  ·rw [dT (by omega),cT,dF (by rw [hlen];omega),cF]
  ·rw [dF (by omega),cF]
theorem u1 {k w:Nat}(hk:1300000≤k)(hw:w≤16)(n:Nat){s:List UInt8}(hsl:(s.length:Int)≤9223372036854775000){count:Nat}(hc:count≤4096){a e:Nat}{h:Int}(ha:a<s.length)(hg:ge s (a:Int)=(h,(e:Int),0))(hm:may h=true)(he:e≤s.length)(out:List Int)(ho:out.length<count):
  aa.l0 aF k (n+1) s (w:Int) (count:Int) (a:Int) out=
   if 4104<RK h∨s.length<e+RS w h then some ([],2100)
   else aa.l0 aF k n s (w:Int) (count:Int) ((e+RS w h:Nat):Int) (out++(List.range (min (RK h) (count - out.length))).map (RV w h (jK s e (RS w h)))):=by
 obtain ⟨g0,g1⟩:=dO.1 hm
 have hbb:fQ (w:Int)=((fQ (w:Int)).toNat:Int):=by unfold fQ;omega
 have hhalf:IntKind.i64.wrap (Int.tdiv h 2)=(((h / 2).toNat:Nat):Int):=by rw [Int.tdiv_eq_ediv_of_nonneg g0,aK _ (by omega)];omega
 have hmulb:(h / 2).toNat*w≤1073741823*16:=Nat.mul_le_mul (by omega) hw
 have hmul:IntKind.i64.wrap ((((h / 2).toNat:Nat):Int)*(w:Int))=(((h / 2).toNat*w:Nat):Int):=by
  rw [show ((((h / 2).toNat:Nat):Int)*(w:Int))=(((h / 2).toNat*w:Nat):Int) by push_cast;rfl]
  exact aK _ (by omega)
 have j13:aa.j13 aF k n s (w:Int) (count:Int) h (e:Int) (RK h:Int) (RS w h:Int) out=
   if 4104<RK h∨s.length<e+RS w h then some ([],2100)
   else aa.l0 aF k n s (w:Int) (count:Int) ((e+RS w h:Nat):Int) (out++(List.range (min (RK h) (count - out.length))).map (RV w h (jK s e (RS w h)))):=by
  rw [aa.j13_eq,aK ((s.length:Int) - (e:Int)) (by omega)]
  by_cases h1:4104<RK h
  ·rw [dT (by omega),if_pos (.inl h1)];rfl
  ·by_cases h2:s.length<e+RS w h
   ·rw [dF (by omega),dT (by omega),if_pos (.inr h2)];rfl
   ·rw [dF (by omega),dF (by omega),if_neg (by omega)]
    simp only [Bool.not_false,cT,cF]
    exact KA (by omega) hw n hsl hc (by omega) (by omega) g0 out ho
 rw [aa.l0_eq,dT (by omega),cT,dT (by omega),cT,oa (by omega) s hsl,hg,bS]
 dsimp only
 rw [bne_self_eq_false,cF,rO (by omega) (by omega) (by omega),bS,HA,hhalf,hmul]
 by_cases hodd:h % 2=1
 ·have e1:(RK h:Int)=IntKind.i64.wrap (8*(((h / 2).toNat:Nat):Int)):=by unfold RK;rw [if_pos hodd,aK _ (by omega)];push_cast;rfl
  have e2:(RS w h:Int)=(((h / 2).toNat*w:Nat):Int):=by unfold RS;rw [if_pos hodd]
  rw [hodd,BEq.rfl,cT,ly,←e1,←e2]
  exact j13
 ·have e1:(RK h:Int)=(((h / 2).toNat:Nat):Int):=by unfold RK;rw [if_neg hodd]
  have e2:(RS w h:Int)=fQ (w:Int):=by unfold RS;rw [if_neg hodd];exact hbb.symm
  rw [show (h % 2==1)=false by simpa using hodd,cF,ly,←e1,←e2]
  exact j13
theorem Df {k w:Nat}(hk:1300000≤k)(hw:w≤16){s:List UInt8}(hsl:(s.length:Int)≤9223372036854775000){count:Nat}(hc:count≤4096):∀(m a:Nat) (out:List Int) (n:Nat),s.length≤a+m→out.length≤count→m<n→
  ∃res,aa.l0 aF k n s (w:Int) (count:Int) (a:Int) out=some res∧sy (w:Int) s (count:Int) res:=by
 intro m
 induction m using Nat.strongRecOn with
 |_ m ih=>
  intro a out n h1 h2 h3
  obtain ⟨n,rfl⟩:∃q,n=q+1:=⟨n - 1,by omega⟩
  by_cases hs:a<s.length∧out.length<count
  ·rcases rk s a with hg|⟨h,e,hg,hm,he1,he2,_⟩
   ·refine ⟨([],2100),?_,.inl rfl⟩
    rw [aa.l0_eq,dT (by omega),cT,dT (by omega),cT,oa (by omega) s hsl,hg,bS]
    rfl
   ·rw [u1 hk hw n hsl hc hs.1 hg hm he2 out hs.2]
    by_cases hz:4104<RK h∨s.length<e+RS w h
    ·rw [if_pos hz];exact ⟨_,rfl,.inl rfl⟩
    ·rw [if_neg hz]
     exact ih (s.length - (e+RS w h)) (by omega) _ _ n (by omega) (by rw [List.length_append,List.length_map,List.length_range];omega) (by omega)
  ·exact ⟨_,zb hk n s w count a out (by omega) (by omega),q8 _ _ _ _ _⟩
theorem xP {k:Nat}(s:List UInt8)(hk:1400000+s.length≤k)(hs:(s.length:Int)≤9223372036854775000)(w count:Int):∃res,aa.f aF k s w count=some res∧sy w s count res:=by
 obtain ⟨k,rfl⟩:∃q,k=q+1:=⟨k - 1,by omega⟩
 rw [aa.f_eq]
 by_cases h0:w<0
 ·rw [dT h0];exact ⟨_,rfl,.inl rfl⟩
 ·by_cases h1:w>16
  ·rw [dF h0,dT h1];exact ⟨_,rfl,.inl rfl⟩
  ·by_cases h2:count<0
   ·rw [dF h0,dF h1,dT h2];exact ⟨_,rfl,.inl rfl⟩
   ·by_cases h3:count>4096
    ·rw [dF h0,dF h1,dF h2,dT h3];exact ⟨_,rfl,.inl rfl⟩
    ·rw [dF h0,dF h1,dF h2,dF h3]
     simp only [Bool.not_false,cT,cF]
     obtain ⟨w,rfl⟩:∃q:Nat,w=(q:Int):=⟨w.toNat,by omega⟩
     obtain ⟨count,rfl⟩:∃q:Nat,count=(q:Int):=⟨count.toNat,by omega⟩
     exact Df (by omega) (by omega) hs (by omega) s.length 0 [] k (by omega) (by simp) (by omega)
theorem yR (a b c:List UInt8)(n:Nat)(hn:n=b.length):jK (a++b++c) a.length n=b:=by
 unfold jK;exact nj a b c n hn
theorem I0 {k w:Nat}(hk:1300000≤k)(hw:w≤16){s:List UInt8}(hsl:(s.length:Int)≤9223372036854775000){count:Nat}(hc:count≤4096):∀(m:Nat) (pre:List UInt8) (ys out:List Int) (n:Nat),ys.length≤m→s=pre++fM w ys→sO w ys=true→out.length+ys.length=count→m<n→
  aa.l0 aF k n s (w:Int) (count:Int) (pre.length:Int) out=some (ug (w:Int) s (count:Int) (out++ys) false):=by
 intro m
 induction m using Nat.strongRecOn with
 |_ m ih=>
  intro pre ys out n h1 h2 h3 h4 h5
  obtain ⟨n,rfl⟩:∃q,n=q+1:=⟨n - 1,by omega⟩
  by_cases hx:ys=[]
  ·subst hx
   rw [zb hk n s w count _ out (by omega) (.inr (by simp at h4;omega)),List.append_nil]
  ·have hl0:ys.length≠0:=fun e=>hx (List.eq_nil_of_length_eq_zero e)
   by_cases h8:8≤same ys
   ·have hle:=jc ys
    have hm:may (2*(same ys:Int))=true:=dO.2 (by omega)
    have hd:Bf w (ys.headD 0)=true:=by
     cases ys with
     |nil=>exact absurd rfl hx
     |cons x l=>exact List.all_eq_true.1 h3 x List.mem_cons_self
    have hwl:=E5 hw (ys.headD 0)
    have hpl:=gp (2*(same ys:Int))
    have hdl:(ys.drop (same ys)).length=ys.length - same ys:=List.length_drop
    have hs2:s=pre++pv (2*(same ys:Int))++(wd (ys.headD 0) w++fM w (ys.drop (same ys))):=by rw [h2,mK hx h8];simp only [List.append_assoc]
    have hs3:s=(pre++pv (2*(same ys:Int)))++wd (ys.headD 0) w++fM w (ys.drop (same ys)):=by rw [hs2];simp only [List.append_assoc]
    have hlen:s.length=pre.length+(pv (2*(same ys:Int))).length+(wd (ys.headD 0) w).length+(fM w (ys.drop (same ys))).length:=by rw [hs3];simp only [List.length_append]
    have hg:ge s (pre.length:Int)=(2*(same ys:Int),((pre.length+(pv (2*(same ys:Int))).length:Nat):Int),0):=by
     rw [hs2,o4 _ _ _ hm];push_cast;rfl
    have hodd:¬(2*(same ys:Int)) % 2=1:=by omega
    have hK:RK (2*(same ys:Int))=same ys:=by unfold RK;rw [if_neg hodd];omega
    have hS:RS w (2*(same ys:Int))=(wd (ys.headD 0) w).length:=by unfold RS;rw [if_neg hodd,hwl]
    have hcut:jK s (pre.length+(pv (2*(same ys:Int))).length) (wd (ys.headD 0) w).length=wd (ys.headD 0) w:=by
     have:=yR (pre++pv (2*(same ys:Int))) (wd (ys.headD 0) w) (fM w (ys.drop (same ys))) _ rfl
     rw [List.length_append,←hs3] at this;exact this
    rw [u1 hk hw n hsl hc (by omega) hg hm (by omega) out (by omega),hK,hS,if_neg (by omega),hcut,show min (same ys) (count - out.length)=same ys by omega]
    have hv:(List.range (same ys)).map (RV w (2*(same ys:Int)) (wd (ys.headD 0) w))=ys.take (same ys):=by
     rw [wQ]
     refine List.ext_getElem (by simp) fun i q1 q2=>?_
     rw [List.getElem_map,List.getElem_replicate]
     unfold RV
     rw [if_neg hodd,zo hw hd]
    rw [hv,show pre.length+(pv (2*(same ys:Int))).length+(wd (ys.headD 0) w).length=((pre++pv (2*(same ys:Int)))++wd (ys.headD 0) w).length by simp only [List.length_append],
     ih (m - same ys) (by omega) _ (ys.drop (same ys)) _ n (by omega) hs3 (pX h3 _) (by rw [List.length_append,List.length_take,hdl];omega) (by omega),List.append_assoc,List.take_append_drop]
   ·have hg':=qN ys
    have hgp:=jS hx (by omega)
    have hp8:=ns (dl ys)
    have hm:may (2*(((dl ys+7) / 8:Nat):Int)+1)=true:=dO.2 (by omega)
    have hpl:=gp (2*(((dl ys+7) / 8:Nat):Int)+1)
    have hdl:(ys.drop (dl ys)).length=ys.length - dl ys:=List.length_drop
    have htl:(ys.take (dl ys)).length=dl ys:=by rw [List.length_take];omega
    have hrl:(dQ (rows (ys.take (dl ys)) w)).length=(dl ys+7) / 8*w:=by
     rw [nk,iJ,htl]
     unfold fq
     rw [Nat.mul_assoc];omega
    have hs2:s=pre++pv (2*(((dl ys+7) / 8:Nat):Int)+1)++(dQ (rows (ys.take (dl ys)) w)++fM w (ys.drop (dl ys))):=by rw [h2,mB hx (by omega)];simp only [List.append_assoc]
    have hs3:s=(pre++pv (2*(((dl ys+7) / 8:Nat):Int)+1))++dQ (rows (ys.take (dl ys)) w)++fM w (ys.drop (dl ys)):=by rw [hs2];simp only [List.append_assoc]
    have hlen:s.length=pre.length+(pv (2*(((dl ys+7) / 8:Nat):Int)+1)).length+(dQ (rows (ys.take (dl ys)) w)).length+(fM w (ys.drop (dl ys))).length:=by rw [hs3];simp only [List.length_append]
    have hg:ge s (pre.length:Int)=(2*(((dl ys+7) / 8:Nat):Int)+1,((pre.length+(pv (2*(((dl ys+7) / 8:Nat):Int)+1)).length:Nat):Int),0):=by
     rw [hs2,o4 _ _ _ hm];push_cast;rfl
    have hodd:(2*(((dl ys+7) / 8:Nat):Int)+1) % 2=1:=by omega
    have hhalf:((2*(((dl ys+7) / 8:Nat):Int)+1) / 2).toNat=(dl ys+7) / 8:=by omega
    have hK:RK (2*(((dl ys+7) / 8:Nat):Int)+1)=fq (dl ys):=by unfold RK fq;rw [if_pos hodd,hhalf]
    have hS:RS w (2*(((dl ys+7) / 8:Nat):Int)+1)=(dQ (rows (ys.take (dl ys)) w)).length:=by unfold RS;rw [if_pos hodd,hhalf,hrl]
    have hcut:jK s (pre.length+(pv (2*(((dl ys+7) / 8:Nat):Int)+1)).length) (dQ (rows (ys.take (dl ys)) w)).length=dQ (rows (ys.take (dl ys)) w):=by
     have:=yR (pre++pv (2*(((dl ys+7) / 8:Nat):Int)+1)) (dQ (rows (ys.take (dl ys)) w)) (fM w (ys.drop (dl ys))) _ rfl
     rw [List.length_append,←hs3] at this;exact this
    have hmin:min (fq (dl ys)) (count - out.length)=dl ys:=by
     rcases xM ys.length ys (Nat.le_refl _) with e|e
     ·omega
     ·have:fq (dl ys)=dl ys:=by unfold fq;omega
      omega
    rw [u1 hk hw n hsl hc (by omega) hg hm (by omega) out (by omega),hK,hS,if_neg (by omega),hcut,hmin]
    have hv:(List.range (dl ys)).map (RV w (2*(((dl ys+7) / 8:Nat):Int)+1) (dQ (rows (ys.take (dl ys)) w)))=ys.take (dl ys):=by
     refine Eq.trans (List.map_congr_left fun i _=>?_) (zm hw h3 hg')
     unfold RV oV
     rw [if_pos hodd];rfl
    rw [hv,show pre.length+(pv (2*(((dl ys+7) / 8:Nat):Int)+1)).length+(dQ (rows (ys.take (dl ys)) w)).length=((pre++pv (2*(((dl ys+7) / 8:Nat):Int)+1))++dQ (rows (ys.take (dl ys)) w)).length by simp only [List.length_append],
     ih (m - dl ys) (by omega) _ (ys.drop (dl ys)) _ n (by omega) hs3 (pX h3 _) (by rw [List.length_append,List.length_take,hdl];omega) (by omega),List.append_assoc,List.take_append_drop]
theorem wN {w:Int}{xs:List Int}{s:List UInt8}(h:jl w xs=(s,0)):0≤w∧w≤16∧(xs.length:Int)≤4096∧sO w.toNat xs=true∧fM w.toNat xs=s:=by
 unfold jl at h
 split at h
 ·rename_i hm
  obtain ⟨h0,h1,h2,h3⟩:=pm.1 hm
  exact ⟨h0,h1,h2,h3,(Prod.mk.inj h).1⟩
 ·cases h
theorem oR {k:Nat}{w:Int}{xs:List Int}{s:List UInt8}(hk:1400000≤k)(h:jl w xs=(s,0))(hs:(s.length:Int)≤9223372036854775000):aa.f aF k s w (xs.length:Int)=some (xs,0):=by
 obtain ⟨h0,h1,h2,h3,he⟩:=wN h
 obtain ⟨w,rfl⟩:∃q:Nat,w=(q:Int):=⟨w.toNat,by omega⟩
 obtain ⟨k,rfl⟩:∃q,k=q+1:=⟨k - 1,by omega⟩
 rw [aa.f_eq,dF (show¬((w:Int)<0) by omega),dF (show¬((w:Int)>16) by omega),dF (show¬((xs.length:Int)<0) by omega),dF (show¬((xs.length:Int)>4096) by omega)]
 simp only [Bool.not_false,cT,cF]
 have:=I0 (k:=k) (w:=w) (by omega) (by omega) hs (count:=xs.length) (by omega) xs.length [] xs [] k (Nat.le_refl _) he.symm h3 (by simp) (by omega)
 refine Eq.trans this ?_
 unfold ug
 rw [List.nil_append,if_pos ⟨rfl,h,rfl⟩]
theorem zB {k:Nat}(s:List UInt8)(hk:1400000+s.length≤k)(hs:(s.length:Int)≤9223372036854775000)(w count:Int):∃res,aZ.f aF k s w count=some res∧aa.f aF k s w count=some res∧sy w s count res:=by
 obtain ⟨r1,e1,g1⟩:=qZ (k:=k) (by omega) s hs w count
 obtain ⟨r2,e2,g2⟩:=xP (k:=k) s hk hs w count
 rcases g1 with rfl|⟨xs,rfl,h1,h2⟩
 ·rcases g2 with rfl|⟨zs,rfl,h3,h4⟩
  ·exact ⟨_,e1,e2,.inl rfl⟩
  ·have:=xg (k:=k) (by omega) h3 hs
   rw [h4,e1] at this
   cases this
 ·have:=oR (k:=k) (by omega) h1 hs
  rw [h2] at this
  exact ⟨_,e1,this,.inr ⟨xs,rfl,h1,h2⟩⟩
theorem wk {w:Int}{xs:List Int}(h:4096<xs.length):jl w xs=([],2100):=by
 unfold jl xK
 rw [dF (show¬((xs.length:Int)≤4096) by omega)]
 simp
theorem I4 {k:Nat}(hk:1200010≤k)(xs:List Int)(w:Int):bZ.f aF k xs w=some (jl w xs):=by
 by_cases h:xs.length≤4096
 ·exact AP (by omega) (by omega) w
 ·rw [wk (by omega)]
  obtain ⟨k,rfl⟩:∃q,k=q+2:=⟨k - 2,by omega⟩
  have:gf.f aF (k+1) xs w=some false:=by
   rw [gf.f_eq,dF (show¬((xs.length:Int)≤4096) by omega)]
   cases decide (w≥0)<;>cases decide (w≤16)<;>rfl
  rw [bZ.f_eq,this,bS];rfl
theorem uQ {k:Nat}(hk:1200010≤k)(xs:List Int)(w:Int):ae.f aF k xs w=some (jl w xs):=by
 by_cases h:xs.length≤4096
 ·exact qQ (by omega) (by omega) w
 ·rw [wk (by omega)]
  obtain ⟨k,rfl⟩:∃q,k=q+1:=⟨k - 1,by omega⟩
  rw [ae.f_eq,dT (show (xs.length:Int)>4096 by omega)]
  cases decide (w<0)<;>cases decide (w>16)<;>rfl
theorem zz {w:Nat}(hw:w≤16):∀(m:Nat) (xs:List Int),xs.length≤m→xs.length≤4096→(fM w xs).length≤25*xs.length:=by
 intro m
 induction m using Nat.strongRecOn with
 |_ m ih=>
  intro xs h1 h2
  by_cases hx:xs=[]
  ·subst hx;rw [mc];simp
  ·have hl0:xs.length≠0:=fun e=>hx (List.eq_nil_of_length_eq_zero e)
   by_cases h8:8≤same xs
   ·have hle:=jc xs
    have hpl:=gp (2*(same xs:Int))
    have hwl:=qT (xs.headD 0) w
    have hdl:(xs.drop (same xs)).length=xs.length - same xs:=List.length_drop
    have:=ih (m - same xs) (by omega) (xs.drop (same xs)) (by omega) (by omega)
    rw [mK hx h8,List.length_append,List.length_append];omega
   ·have hg:=qN xs
    have hgp:=jS hx (by omega)
    have hpl:=gp (2*(((dl xs+7) / 8:Nat):Int)+1)
    have hrl:=oZ hw (xs.take (dl xs))
    have htl:(xs.take (dl xs)).length=dl xs:=by rw [List.length_take];omega
    have hdl:(xs.drop (dl xs)).length=xs.length - dl xs:=List.length_drop
    have:=ih (m - dl xs) (by omega) (xs.drop (dl xs)) (by omega) (by omega)
    rw [mB hx (by omega),List.length_append,List.length_append];omega
def mk (w:Nat)(x:Int):Int:=aB .and .i64 x (2 ^ w - 1)
theorem Ig {w:Nat}(hw:w≤16){ys:List Int}(hl:ys.length≤4096)(ho:sO w ys=true):jl (w:Int) ys=(fM w ys,0):=by
 have hm:xK (w:Int) ys=true:=pm.2 ⟨by omega,by omega,by omega,by rw [Int.toNat_natCast];exact ho⟩
 unfold jl
 rw [if_pos hm,Int.toNat_natCast]
end Go.Proofs.YtjkokaockhecnaaGreatDoorP
