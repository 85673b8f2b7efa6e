/- What the functions below the laws answer, in plain lists and numbers; no condition but the sizes that a machine has. -/
import Derived.Test.YtjkokaockhecnaaGreatDoorPPg0
import Derived.Laws.BitsLemmas
import Derived.KernelRfl
namespace Go.Proofs.YtjkokaockhecnaaGreatDoorP
open Go Go.Proofs.YtjkokaockhecnaaGreatDoorA
def same:List Int→Nat
 |[]=>0
 |x :: l=>1+(l.takeWhile (·==x)).length
theorem jp:∀xs:List Int,same xs≤xs.length
 |[]=>Nat.le_refl _
 |x :: l=>by
  have:(l.takeWhile (·==x)).length≤l.length:=(List.takeWhile_prefix _).length_le
  simp only [same,List.length_cons];omega
theorem ox {xs:List Int}(h:xs≠[]):1≤same xs:=by
 cases xs with
 |nil=>exact absurd rfl h
 |cons x l=>simp only [same];omega
theorem mU (x:Int):∀(l:List Int) (i:Nat),i<(l.takeWhile (·==x)).length→l[i]?=some x
 |[],i,h=>by simp at h
 |y :: l,i,h=>by
  rw [List.takeWhile_cons] at h
  cases e:(y==x) with
  |false=>rw [e] at h;simp at h
  |true=>
   rw [e] at h
   have e':y=x:=by simpa using e
   subst e'
   cases i with
   |zero=>rfl
   |succ i=>exact mU y l i (by simpa using h)
theorem lO (x:Int):∀(l:List Int),(l.takeWhile (·==x)).length<l.length→∃y,l[(l.takeWhile (·==x)).length]?=some y∧y≠x
 |[],h=>by simp at h
 |y :: l,h=>by
  rw [List.takeWhile_cons] at h ⊢
  cases e:(y==x) with
  |false=>exact ⟨y,by simp,by simpa using e⟩
  |true=>
   rw [e] at h
   obtain ⟨z,h1,h2⟩:=lO x l (by simpa using h)
   exact ⟨z,by simpa using h1,h2⟩
theorem se {xs:List Int}{i:Nat}(h:i<same xs):∃x,xs[0]?=some x∧xs[i]?=some x:=by
 cases xs with
 |nil=>simp [same] at h
 |cons x l=>
  refine ⟨x,rfl,?_⟩
  cases i with
  |zero=>rfl
  |succ i=>exact mU x l i (by simp only [same] at h;omega)
theorem uj {xs:List Int}(h:same xs<xs.length):∃x y,xs[0]?=some x∧xs[same xs]?=some y∧y≠x:=by
 cases xs with
 |nil=>simp [same] at h
 |cons x l=>
  simp only [same,List.length_cons] at h ⊢
  obtain ⟨y,h1,h2⟩:=lO x l (by omega)
  refine ⟨x,y,rfl,?_,h2⟩
  rw [Nat.add_comm,List.getElem?_cons_succ];exact h1
theorem eQ {α:Type}{l:List α}{i:Nat}{x:α}(h:l[i]?=some x):rd l (i:Int)=some x:=by
 obtain ⟨hl,rfl⟩:=List.getElem?_eq_some_iff.mp h
 exact aM hl
theorem G8 {x y:Int}(h:x≠y):(x != y)=true:=by simpa using h
theorem yS {k:Nat}{xs:List Int}(hk:xs.length+3≤k)(hl:xs.length≤1000000000):b6.f aG k xs=some (same xs:Int):=by
 obtain ⟨k,rfl⟩:∃q,k=q+1:=⟨k - 1,by omega⟩
 rw [b6.f_eq]
 by_cases hz:xs=[]
 ·subst hz
  obtain ⟨k,rfl⟩:∃q,k=q+1:=⟨k - 1,by simp at hk;omega⟩
  rw [b6.l0_eq,dF (by simp),cF];rfl
 ·have hle:=jp xs
  refine sM (F:=fun n i=>b6.l0 aG k n xs (xs.length:Int) (i:Int)) (G:=fun _=>some (same xs:Int)) (N:=same xs) ?_ ?_ k 0 (by omega) (by omega)
  ·intro n i hi
   obtain ⟨x,h0,h1⟩:=se hi
   refine .inl ⟨?_,rfl⟩
   rw [b6.l0_eq,dT (by omega),cT,eQ h1,bS,show (0:Int)=((0:Nat):Int) from rfl,eQ h0,bS]
   simp only [bne_self_eq_false,cF]
   rw [bu (by omega)]
  ·intro n
   by_cases e:same xs=xs.length
   ·rw [b6.l0_eq,dF (by omega),cF,e]
   ·obtain ⟨x,y,h0,h1,h2⟩:=uj (xs:=xs) (by omega)
    rw [b6.l0_eq,dT (by omega),cT,eQ h1,bS,show (0:Int)=((0:Nat):Int) from rfl,eQ h0,bS,G8 h2,cT]
theorem ud {α:Type}(l:List α)(a i:Nat):(l.drop a)[i]?=l[a+i]?:=by rw [List.getElem?_drop]
theorem Cd {k:Nat}{xs:List Int}{a:Nat}(ha:a<xs.length)(hk:xs.length+3≤k)(hl:xs.length≤1000000000):bi.f aG k xs (a:Int)=some (same (xs.drop a):Int):=by
 obtain ⟨k,rfl⟩:∃q,k=q+1:=⟨k - 1,by omega⟩
 have hd:xs.drop a≠[]:=fun e=>by have:=congrArg List.length e;rw [List.length_drop] at this;simp at this;omega
 have hle:=jp (xs.drop a)
 have hpos:=ox hd
 rw [List.length_drop] at hle
 rw [bi.f_eq]
 refine sM (F:=fun n i=>bi.l0 aG k n xs (a:Int) (i:Int)) (G:=fun _=>some (same (xs.drop a):Int)) (N:=same (xs.drop a)) ?_ ?_ k 1 hpos (by omega)
 ·intro n i hi
  obtain ⟨x,h0,h1⟩:=se hi
  rw [ud] at h0 h1
  refine .inl ⟨?_,rfl⟩
  rw [bi.l0_eq,bb ((a:Int)+(i:Int)) (by omega),dT (by omega),cT,show ((a:Int)+(i:Int))=((a+i:Nat):Int) by push_cast;rfl,eQ h1,bS,show a=a+0 from rfl,eQ h0,bS]
  simp only [BEq.rfl,cT]
  rw [bu (by omega)]
 ·intro n
  by_cases e:a+same (xs.drop a)=xs.length
  ·rw [bi.l0_eq,bb ((a:Int)+(same (xs.drop a):Int)) (by omega),dF (by omega),cF]
  ·obtain ⟨x,y,h0,h1,h2⟩:=uj (xs:=xs.drop a) (by rw [List.length_drop];omega)
   rw [ud] at h0 h1
   rw [bi.l0_eq,bb ((a:Int)+(same (xs.drop a):Int)) (by omega),dT (by omega),cT,show ((a:Int)+(same (xs.drop a):Int))=((a+same (xs.drop a):Nat):Int) by push_cast;rfl,eQ h1,bS]
   have h0':rd xs (a:Int)=some x:=eQ h0
   rw [h0',bS]
   have:(y==x)=false:=by simpa using h2
   rw [this,cF]
def tb (x:Int)(j:Nat):Bool:=(aH .and .i64 (Int.fdiv x (2 ^ (min j IntKind.i64.bits))) 1)==1
def sX (xs:List Int)(i j:Nat):Bool:=match xs[i]? with|some x=>tb x j|none=>false
def gR (xs:List Int)(w i:Nat):List Bool:=(List.range i).flatMap fun i=>(List.range w).map fun j=>sX xs i j
theorem ju (xs:List Int)(w i:Nat):gR xs w (i+1)=gR xs w i++(List.range w).map fun j=>sX xs i j:=by
 simp [gR,List.range_succ]
theorem eN (xs:List Int)(w:Nat):∀i,(gR xs w i).length=i*w
 |0=>by simp [gR]
 |i+1=>by rw [ju,List.length_append,eN xs w i,List.length_map,List.length_range,Nat.add_mul,Nat.one_mul]
def gf (n:Nat):Nat:=8*((n+7) / 8)
theorem oh (n:Nat):n≤gf n∧gf n≤n+7:=by unfold gf;omega
def rows (xs:List Int)(w:Nat):List Bool:=gR xs w (gf xs.length)
theorem jz (xs:List Int)(w:Nat):(rows xs w).length=gf xs.length*w:=eN xs w _
def t6 (xs:List Int)(w i j:Nat):List Bool:=gR xs w i++(List.range j).map fun j=>sX xs i j
theorem tc (xs:List Int)(w i j:Nat):(t6 xs w i j).length=i*w+j:=by
 unfold t6;rw [List.length_append,eN,List.length_map,List.length_range]
theorem vL (xs:List Int)(w i j:Nat):t6 xs w i (j+1)=t6 xs w i j++[sX xs i j]:=by
 unfold t6;rw [List.range_succ,List.map_append,List.append_assoc];rfl
theorem wy (xs:List Int)(w i:Nat):t6 xs w i w=t6 xs w (i+1) 0:=by
 unfold t6;rw [ju];simp
theorem wv (xs:List Int)(w i:Nat):t6 xs w i 0=gR xs w i:=by unfold t6;simp
theorem o4 {xs:List Int}{i:Nat}(h:i<xs.length)(j:Nat):sX xs i j=tb xs[i] j:=by unfold sX;rw [List.getElem?_eq_getElem h]
theorem ua {xs:List Int}{i:Nat}(h:xs.length≤i)(j:Nat):sX xs i j=false:=by unfold sX;rw [List.getElem?_eq_none h]
theorem y5 {i w a:Nat}(h1:i≤a)(h2:w≤16):i*w≤a*16:=Nat.mul_le_mul h1 h2
theorem EE {i w:Nat}(h1:i≤10000)(h2:w≤16):IntKind.i64.wrap ((i:Int)*(w:Int))=((i*w:Nat):Int):=by
 have:=y5 h1 h2
 rw [show ((i:Int)*(w:Int))=((i*w:Nat):Int) by push_cast;rfl]
 exact bb _ (by omega)
theorem pn {n:Nat}(h:n≤10000):IntKind.i64.wrap ((IntKind.i64.wrap (Int.tdiv (IntKind.i64.wrap ((n:Int)+7)) 8))*8)=(gf n:Int):=by
 rw [bb ((n:Int)+7) (by omega),Int.tdiv_eq_ediv_of_nonneg (by omega),bb (((n:Int)+7) / 8) (by omega),bb _ (by omega)]
 unfold gf;omega
theorem D8 {k w:Nat}{xs:List Int}(hk:170000≤k)(hl:xs.length≤4096)(hw:w≤16):aE.f aG k xs (w:Int)=some (ge (rows xs w)):=by
 obtain ⟨k,rfl⟩:∃q,k=q+1:=⟨k - 1,by omega⟩
 have hp:=oh xs.length
 rw [aE.f_eq]
 have h0:([]:List Bool)=t6 xs w 0 0:=rfl
 rw [h0]
 refine di (F:=fun n i=>aE.l0 aG k n xs (w:Int) (i:Int) (t6 xs w i 0)) (N:=gf xs.length) ?_ ?_ k 0 (by omega) (by omega)
 ·intro n i hi
  rw [aE.l0_eq,pn (by omega),dT (by omega),cT]
  refine di (F:=fun m j=>aE.l2 aG k n m xs (w:Int) (i:Int) (j:Int) (t6 xs w i j)) (N:=w) ?_ ?_ k 0 (by omega) (by omega)
  ·intro m j hj
   have hb:=y5 (show i≤4104 by omega) hw
   have hlen:=tc xs w i j
   rw [aE.l2_eq,dT (by omega),cT,vL]
   by_cases hx:i<xs.length
   ·rw [dT (by omega),cT,aM hx,bS,dF (show¬((j:Int)<0) by omega),cF,Int.toNat_natCast,o4 hx,dT (by simp only [List.length_cons,List.length_nil,hlen];omega),cT,bu (by omega)]
    rfl
   ·rw [dF (by omega),cF,ua (by omega),dT (by simp only [List.length_cons,List.length_nil,hlen];omega),cT,bu (by omega)]
  ·intro m
   rw [aE.l2_eq,dF (by omega),cF,bu (by omega),wy]
 ·intro n
  have hb:=y5 (show gf xs.length≤4104 by omega) hw
  rw [aE.l0_eq,pn (by omega),dF (by omega),cF,wv]
  have:=zM (k:=k) (xs:=gR xs w (gf xs.length)) (by rw [eN];omega) (by rw [eN];omega)
  rw [this,bS];rfl
theorem zh {k:Nat}{xs:List Bool}(hk:xs.length+3≤k)(hl:xs.length≤900000):eT.f aG k xs=some (ge xs):=by
 obtain ⟨k,rfl⟩:∃q,k=q+1:=⟨k - 1,by omega⟩
 have hb:eV.f aG k ((xs.length:Nat):Int)=some (gK (xs.length:Int)):=jK (by omega) (by omega) (by omega)
 have hbb:gK (xs.length:Int)=(((xs.length+7) / 8:Nat):Int):=by unfold gK;omega
 rw [eT.f_eq,hb,bS,BEq.rfl,hbb,dT (by omega),dT (by omega)]
 simp only [Bool.and_self,cT,Int.toNat_natCast]
 have h0:(List.replicate ((xs.length+7) / 8) (0:Int))=cu xs 0:=by
  unfold cu
  refine List.ext_getElem (by simp) fun q h1 h2=>?_
  simp [ef]
 rw [h0,←re]
 refine di (F:=fun n i=>eT.l0 aG k n xs (xs.length:Int) (i:Int) (cu xs i)) (N:=xs.length) ?_ ?_ k 0 (by omega) (by omega)
 ·intro n i hi
  have hq:i / 8<(xs.length+7) / 8:=by omega
  have hlen:(cu xs i).length=(xs.length+7) / 8:=by unfold cu;rw [List.length_map,List.length_range]
  have e1:Int.tdiv (i:Int) 8=((i / 8:Nat):Int):=by rw [Int.tdiv_eq_ediv_of_nonneg (by omega)];omega
  have e2:Int.tmod (i:Int) 8=((i % 8:Nat):Int):=by rw [Int.tmod_eq_emod_of_nonneg (by omega)];omega
  rw [eT.l0_eq,dT (by omega),cT,aM hi,bS,bu (by omega)]
  cases hx:xs[i] with
  |false=>rw [cF,qA hi hx]
  |true=>
   rw [cT,e1,e2,bb ((i / 8:Nat):Int) (by omega),dT (show (0:Int)≤((i / 8:Nat):Int) by omega),dT (show ((i / 8:Nat):Int)<((cu xs i).length:Int) by omega),dF (show¬(((i % 8:Nat):Int)<0) by omega)]
   simp only [Bool.and_self,cT,cF,Int.toNat_natCast]
   rw [ie hq,show min 8 (i - 8*(i / 8))=i % 8 by omega]
   simp only [bS]
   rw [sV _ _ (by omega) (lA xs (i / 8) (i % 8)),ry hi hx]
 ·intro n
  rw [eT.l0_eq,dF (by omega),cF]
theorem D2 {α:Type}(p:List α)(m:Nat)(a v:α):(p++List.replicate (m+1) a).set p.length v=(p++[v])++List.replicate m a:=by
 rw [List.replicate_succ,List.set_append_right _ _ (Nat.le_refl _),Nat.sub_self,List.set_cons_zero,List.append_assoc];rfl
theorem un (xs:List Int)(w:Nat):∀m,gR xs w (xs.length+m)=gR xs w xs.length++List.replicate (m*w) false
 |0=>by simp
 |m+1=>by
  have e:((List.range w).map fun j=>sX xs (xs.length+m) j)=List.replicate w false:=by
   refine List.ext_getElem (by simp) fun q h1 h2=>?_
   simp [ua]
  rw [←Nat.add_assoc,ju,un xs w m,e,List.append_assoc,List.replicate_append_replicate,Nat.add_mul,Nat.one_mul]
theorem DD {k w:Nat}{xs:List Int}(hk:170000≤k)(hl:xs.length≤4096)(hw:w≤16):bB.f aG k xs (w:Int)=some (ge (rows xs w)):=by
 obtain ⟨k,rfl⟩:∃q,k=q+1:=⟨k - 1,by omega⟩
 have hp:=oh xs.length
 have hb:=y5 (show gf xs.length≤4104 by omega) hw
 have hlw:xs.length*w≤gf xs.length*w:=Nat.mul_le_mul_right w hp.1
 have e8:IntKind.i64.wrap ((IntKind.i64.wrap (((xs.length:Nat):Int)+8)) - 1)=IntKind.i64.wrap (((xs.length:Nat):Int)+7):=by
  rw [bb (((xs.length:Nat):Int)+8) (by omega)];congr 1;omega
 rw [bB.f_eq,e8,pn (by omega),EE (by omega) hw,BEq.rfl,dT (by omega),dT (by omega)]
 simp only [Bool.and_self,cT,Int.toNat_natCast]
 have h0:List.replicate (gf xs.length*w) false=t6 xs w 0 0++List.replicate (gf xs.length*w - (0*w+0)) false:=by simp [t6,gR]
 rw [h0]
 refine di (F:=fun n i=>bB.l0 aG k n (w:Int) xs (xs.length:Int) (i:Int) (t6 xs w i 0++List.replicate (gf xs.length*w - (i*w+0)) false)) (N:=xs.length) ?_ ?_ k 0 (by omega) (by omega)
 ·intro n i hi
  have hiw:(i+1)*w≤xs.length*w:=Nat.mul_le_mul_right w hi
  rw [Nat.add_mul,Nat.one_mul] at hiw
  rw [bB.l0_eq,dT (by omega),cT,aM hi,bS]
  refine di (F:=fun m j=>bB.l2 aG k n m (w:Int) (i:Int) xs[i] xs (xs.length:Int) (j:Int) (t6 xs w i j++List.replicate (gf xs.length*w - (i*w+j)) false)) (N:=w) ?_ ?_ k 0 (by omega) (by omega)
  ·intro m j hj
   have hlen:=tc xs w i j
   have hadd:IntKind.i64.wrap (((i*w:Nat):Int)+(j:Int))=((i*w+j:Nat):Int):=by rw [bb _ (by omega)];push_cast;rfl
   obtain ⟨q,hq⟩:∃q,gf xs.length*w - (i*w+j)=q+1:=⟨gf xs.length*w - (i*w+j) - 1,by omega⟩
   have hq2:gf xs.length*w - (i*w+(j+1))=q:=by omega
   have hll:(t6 xs w i j++List.replicate (q+1) false).length=i*w+j+(q+1):=by rw [List.length_append,hlen,List.length_replicate]
   have hget:(t6 xs w i j++List.replicate (q+1) false)[i*w+j]?=some false:=by
    rw [List.getElem?_append_right (by omega),hlen,Nat.sub_self];simp
   rw [bB.l2_eq,dT (by omega),cT,dF (show¬((j:Int)<0) by omega),cF,EE (by omega) hw,hadd,hq,dT (show (0:Int)≤((i*w+j:Nat):Int) by omega),dT (by rw [hll];omega)]
   simp only [Bool.and_self,cT,Int.toNat_natCast]
   rw [hget]
   simp only [bS]
   have hs:=D2 (t6 xs w i j) q false (sX xs i j)
   rw [hlen] at hs
   rw [hq2,vL,bu (by omega),←hs,o4 hi]
   rfl
  ·intro m
   have e:(i+1)*w+0=i*w+w:=by rw [Nat.add_mul,Nat.one_mul];rfl
   rw [bB.l2_eq,dF (by omega),cF,bu (by omega),wy,e]
 ·intro n
  have hz:gf xs.length*w - (xs.length*w+0)=(gf xs.length - xs.length)*w:=by rw [Nat.sub_mul];rfl
  have hr:t6 xs w xs.length 0++List.replicate (gf xs.length*w - (xs.length*w+0)) false=rows xs w:=by
   rw [hz,wv,←un]
   unfold rows
   congr 1;omega
  rw [bB.l0_eq,dF (by omega),cF,hr]
  have:=zh (k:=k) (xs:=rows xs w) (by rw [jz];omega) (by rw [jz];omega)
  rw [this,bS]
def Dj (x:Int):List UInt8:=ae [IntKind.u8.wrap (Int.fdiv x 1)]
def HQ (x:Int):List UInt8:=ae [IntKind.u8.wrap (Int.fdiv x 1),IntKind.u8.wrap (Int.fdiv x (2 ^ 8))]
def wd (x:Int)(w:Nat):List UInt8:=if w=0 then [] else if w≤8 then Dj x else HQ x
theorem IH (m:Nat)(x:Int):dD.f aG (m+12) x 0=some []:=by kernel_rfl
theorem Fp (m:Nat)(x:Int):dD.f aG (m+12) x 1=some (Dj x):=by kernel_rfl
theorem Jn (m:Nat)(x:Int):dD.f aG (m+12) x 2=some (HQ x):=by kernel_rfl
theorem JJ (m:Nat)(x:Int):aT.f aG (m+12) x 0=some []:=by kernel_rfl
theorem J4 (m:Nat)(x:Int):aT.f aG (m+12) x 1=some (Dj x):=by kernel_rfl
theorem JD (m:Nat)(x:Int):aT.f aG (m+12) x 2=some (HQ x):=by kernel_rfl
theorem yf {w:Nat}(hw:w≤16):gK (w:Int)=if w=0 then 0 else if w≤8 then 1 else 2:=by
 unfold gK
 split
 ·omega
 ·split<;>omega
theorem Ds {k w:Nat}(hk:12≤k)(hw:w≤16)(x:Int):dD.f aG k x (gK (w:Int))=some (wd x w):=by
 obtain ⟨m,rfl⟩:∃m,k=m+12:=⟨k - 12,by omega⟩
 rw [yf hw];unfold wd
 split
 ·exact IH m x
 ·split
  ·exact Fp m x
  ·exact Jn m x
theorem Ek {k w:Nat}(hk:12≤k)(hw:w≤16)(x:Int):aT.f aG k x (gK (w:Int))=some (wd x w):=by
 obtain ⟨m,rfl⟩:∃m,k=m+12:=⟨k - 12,by omega⟩
 rw [yf hw];unfold wd
 split
 ·exact JJ m x
 ·split
  ·exact J4 m x
  ·exact JD m x
theorem pF (x:Int)(w:Nat):(wd x w).length≤2:=by
 unfold wd
 split
 ·simp
 ·split
  ·exact Nat.le_succ 1
  ·exact Nat.le_refl 2
def rj:Nat→List Int→Nat
 |0,l=>l.length
 |f+1,l=>if 8≤same l then 0 else if l.length≤8 then l.length else 8+rj f (l.drop 8)
theorem yU:∀(f:Nat) (l:List Int),rj f l≤l.length
 |0,l=>Nat.le_refl _
 |f+1,l=>by
  unfold rj
  split
  ·exact Nat.zero_le _
  ·split
   ·exact Nat.le_refl _
   ·have:=yU f (l.drop 8)
    rw [List.length_drop] at this
    omega
theorem uw:∀(f g:Nat) (l:List Int),l.length≤f→l.length≤g→rj f l=rj g l
 |0,0,l,_,_=>rfl
 |0,g+1,l,h,_=>by
  have:l=[]:=List.eq_nil_of_length_eq_zero (by omega)
  subst this;simp [rj,same]
 |f+1,0,l,_,h=>by
  have:l=[]:=List.eq_nil_of_length_eq_zero (by omega)
  subst this;simp [rj,same]
 |f+1,g+1,l,h1,h2=>by
  unfold rj
  rw [uw f g (l.drop 8) (by rw [List.length_drop];omega) (by rw [List.length_drop];omega)]
def fH (l:List Int):Nat:=rj l.length l
theorem sU (l:List Int):fH l≤l.length:=yU _ _
theorem rK (l:List Int):fH l=if 8≤same l then 0 else if l.length≤8 then l.length else 8+fH (l.drop 8):=by
 cases l with
 |nil=>rfl
 |cons x l=>
  show rj (l.length+1) (x :: l)=_
  rw [rj,fH,uw l.length ((x :: l).drop 8).length _ (by rw [List.length_drop,List.length_cons];omega) (Nat.le_refl _)]
theorem k4 {l:List Int}(h:l≠[])(h8:same l<8):1≤fH l:=by
 rw [rK,if_neg (by omega)]
 have:l.length≠0:=fun e=>h (List.eq_nil_of_length_eq_zero e)
 split<;>omega
theorem zt {k:Nat}{xs:List Int}(hk:xs.length+3≤k)(hl:xs.length≤1000000):∀(d a n:Nat),xs.length≤a+d→a≤xs.length+8→d<n→
  bZ.l0 aG k n xs (a:Int)=some ((if a<xs.length then a+fH (xs.drop a) else xs.length:Nat):Int):=by
 intro d
 induction d using Nat.strongRecOn with
 |_ d ih=>
  intro a n h1 h2 h3
  obtain ⟨n,rfl⟩:∃m,n=m+1:=⟨n - 1,by omega⟩
  by_cases ha:a<xs.length
  ·have hlen:(xs.drop a).length=xs.length - a:=List.length_drop
   rw [bZ.l0_eq,dT (by omega),cT,dT (by omega),dT (by omega)]
   simp only [Bool.and_self,cT,Int.toNat_natCast,List.take_length]
   rw [yS (by rw [hlen];omega) (by rw [hlen];omega),bS,if_pos ha,rK (xs.drop a),hlen]
   by_cases h8:8≤same (xs.drop a)
   ·rw [dT (by omega),cT,if_pos h8];rfl
   ·rw [dF (by omega),cF,if_neg h8,bb ((a:Int)+8) (by omega),show ((a:Int)+8)=((a+8:Nat):Int) by push_cast;rfl,ih (d - 8) (by omega) (a+8) n (by omega) (by omega) (by omega)]
    by_cases hz:a+8<xs.length
    ·rw [if_pos hz,if_neg (by omega),List.drop_drop,Nat.add_assoc]
    ·rw [if_neg hz,if_pos (by omega)]
     congr 2;omega
  ·rw [bZ.l0_eq,dF (by omega),cF,if_neg ha]
theorem zD {k:Nat}{xs:List Int}(hk:xs.length+12≤k)(hl:xs.length≤1000000)(hx:xs≠[]):bZ.f aG k xs=some (fH xs:Int):=by
 obtain ⟨k,rfl⟩:∃q,k=q+1:=⟨k - 1,by omega⟩
 have:xs.length≠0:=fun e=>hx (List.eq_nil_of_length_eq_zero e)
 have h:=zt (k:=k) (xs:=xs) (by omega) hl xs.length 0 k (by omega) (by omega) (by omega)
 rw [if_pos (by omega),List.drop_zero,Nat.zero_add] at h
 rw [bZ.f_eq];exact h
def k7:Nat→Nat→List Int→List UInt8
 |0,_,_=>[]
 |f+1,w,xs=>
  if xs=[] then []
  else if 8≤same xs then (pv (2*(same xs:Int))++wd (xs.headD 0) w)++k7 f w (xs.drop (same xs))
  else (pv (2*(((fH xs+7) / 8:Nat):Int)+1)++ge (rows (xs.take (fH xs)) w))++k7 f w (xs.drop (fH xs))
theorem ko (w:Nat):∀(f g:Nat) (xs:List Int),xs.length≤f→xs.length≤g→k7 f w xs=k7 g w xs
 |0,0,_,_,_=>rfl
 |0,g+1,xs,h,_=>by
  have:xs=[]:=List.eq_nil_of_length_eq_zero (by omega)
  subst this;simp [k7]
 |f+1,0,xs,_,h=>by
  have:xs=[]:=List.eq_nil_of_length_eq_zero (by omega)
  subst this;simp [k7]
 |f+1,g+1,xs,h1,h2=>by
  unfold k7
  split
  ·rfl
  ·rename_i hx
   have hx':xs.length≠0:=fun e=>hx (List.eq_nil_of_length_eq_zero e)
   split
   ·have:=ox hx
    rw [ko w f g _ (by rw [List.length_drop];omega) (by rw [List.length_drop];omega)]
   ·rename_i h8
    have:=k4 hx (by omega)
    rw [ko w f g _ (by rw [List.length_drop];omega) (by rw [List.length_drop];omega)]
def iY (w:Nat)(xs:List Int):List UInt8:=k7 xs.length w xs
theorem lH (w:Nat):iY w []=[]:=rfl
theorem oO {w:Nat}{xs:List Int}(hx:xs≠[])(h8:8≤same xs):iY w xs=(pv (2*(same xs:Int))++wd (xs.headD 0) w)++iY w (xs.drop (same xs)):=by
 cases xs with
 |nil=>exact absurd rfl hx
 |cons x l=>
  show k7 (l.length+1) w (x :: l)=_
  have:=ox hx
  rw [k7,if_neg hx,if_pos h8,iY,ko w l.length ((x :: l).drop (same (x :: l))).length _ (by rw [List.length_drop,List.length_cons];omega) (Nat.le_refl _)]
theorem oM {w:Nat}{xs:List Int}(hx:xs≠[])(h8:same xs<8):iY w xs=(pv (2*(((fH xs+7) / 8:Nat):Int)+1)++ge (rows (xs.take (fH xs)) w))++iY w (xs.drop (fH xs)):=by
 cases xs with
 |nil=>exact absurd rfl hx
 |cons x l=>
  show k7 (l.length+1) w (x :: l)=_
  have:=k4 hx h8
  rw [k7,if_neg hx,if_neg (by omega),iY,ko w l.length ((x :: l).drop (fH (x :: l))).length _ (by rw [List.length_drop,List.length_cons];omega) (Nat.le_refl _)]
theorem nO {w:Nat}(hw:w≤16)(xs:List Int):(ge (rows xs w)).length≤2*xs.length+15:=by
 have hp:=oh xs.length
 have:=Nat.mul_le_mul_left (gf xs.length) hw
 rw [pq,jz];omega
theorem kO (s:List UInt8):ae (bz s)=s:=by
 unfold ae bz
 rw [List.map_map]
 refine (List.map_congr_left fun b _=>?_).trans (List.map_id s)
 show UInt8.ofNat ((b.toNat:Int)).toNat=b
 simp
theorem jv (s:List UInt8):(bz s).length=s.length:=by simp [bz]
theorem Em {xs:List Int}(h:xs≠[]):rd xs 0=some (xs.headD 0):=by
 cases xs with
 |nil=>exact absurd rfl h
 |cons x l=>exact eQ (i:=0) rfl
theorem J1 {g:Nat}(h:g≤4096):IntKind.i64.wrap ((IntKind.i64.wrap (2*(IntKind.i64.wrap (Int.tdiv (IntKind.i64.wrap ((IntKind.i64.wrap ((g:Int)+8)) - 1)) 8))))+1)=2*(((g+7) / 8:Nat):Int)+1:=by
 rw [bb ((g:Int)+8) (by omega),bb ((g:Int)+8 - 1) (by omega),Int.tdiv_eq_ediv_of_nonneg (by omega),bb (((g:Int)+8 - 1) / 8) (by omega),bb (2*(((g:Int)+8 - 1) / 8)) (by omega),bb (2*(((g:Int)+8 - 1) / 8)+1) (by omega)]
 omega
theorem Hg {k w:Nat}(hk:200000≤k)(hw:w≤16):∀(m:Nat) (xs:List Int) (out:List Int) (n:Nat),xs.length≤m→xs.length≤4096→m<n→out.length+25*xs.length≤1000000→
  bV.l0 aG k n xs (w:Int) out=some (ae out++iY w xs,0):=by
 intro m
 induction m with
 |zero=>
  intro xs out n h1 h2 h3 h4
  have:xs=[]:=List.eq_nil_of_length_eq_zero (by omega)
  subst this
  obtain ⟨n,rfl⟩:∃q,n=q+1:=⟨n - 1,by omega⟩
  rw [bV.l0_eq,dF (by simp),cF,lH,List.append_nil]
 |succ m ih=>
  intro xs out n h1 h2 h3 h4
  obtain ⟨n,rfl⟩:∃q,n=q+1:=⟨n - 1,by omega⟩
  by_cases hx:xs=[]
  ·subst hx
   rw [bV.l0_eq,dF (by simp),cF,lH,List.append_nil]
  ·have hx':xs.length≠0:=fun e=>hx (List.eq_nil_of_length_eq_zero e)
   have hle:=jp xs
   rw [bV.l0_eq,dT (by omega),cT,yS (by omega) (by omega),bS]
   by_cases h8:8≤same xs
   ·have hpl:=iJ (2*(same xs:Int))
    have hwl:=pF (xs.headD 0) w
    have hm:may (2*(same xs:Int))=true:=fe.2 (by omega)
    have hdl:(xs.drop (same xs)).length=xs.length - same xs:=List.length_drop
    rw [dT (by omega),cT,bb (2*(same xs:Int)) (by omega),jO (by omega),bS,kJ hm]
    dsimp only
    rw [Em hx,bS,jK (by omega) (by omega) (by omega),bS,Ds (by omega) hw,bS,dT (by omega),cT,dT (by rw [List.length_append];omega),cT,dT (by omega),dT (by omega)]
    simp only [Bool.and_self,cT,Int.toNat_natCast,List.take_length]
    rw [ih _ _ n (by rw [hdl];omega) (by rw [hdl];omega) (by omega) (by rw [List.length_append,jv,List.length_append,hdl];omega),eU,kO,oO hx h8,List.append_assoc]
   ·have hg:=sU xs
    have hgp:=k4 hx (by omega)
    have hgm:may (2*(((fH xs+7) / 8:Nat):Int)+1)=true:=fe.2 (by omega)
    have hpl:=iJ (2*(((fH xs+7) / 8:Nat):Int)+1)
    have htl:(xs.take (fH xs)).length=fH xs:=by rw [List.length_take];omega
    have hrl:=nO hw (xs.take (fH xs))
    rw [htl] at hrl
    have hdl:(xs.drop (fH xs)).length=xs.length - fH xs:=List.length_drop
    rw [dF (by omega),cF,zD (by omega) (by omega) hx,bS,J1 (by omega),jO (by omega),bS,kJ hgm,dT (by omega),dT (by omega)]
    simp only [Bool.and_self,cT,Int.toNat_natCast,List.take_length,List.drop_zero]
    rw [DD (by omega) (by rw [htl];omega) hw,bS,dT (by omega),cT,dT (by rw [List.length_append];omega),cT]
    rw [ih _ _ n (by rw [hdl];omega) (by rw [hdl];omega) (by omega) (by rw [List.length_append,jv,List.length_append,hdl];omega),eU,kO,oM hx (by omega),List.append_assoc]
theorem G9 {a b:Int}:(bif decide (a<b) then a else b)=min b a:=by
 by_cases h:a<b
 ·rw [dT h,cT];omega
 ·rw [dF h,cF];omega
theorem Jj {a t:Nat}(h:a≤t)(ht:t≤4096):IntKind.i64.wrap ((IntKind.i64.wrap (2*(IntKind.i64.wrap (Int.tdiv (IntKind.i64.wrap ((IntKind.i64.wrap ((t:Int) - (a:Int)))+7)) 8))))+1)=2*(((t - a+7) / 8:Nat):Int)+1:=by
 rw [bb ((t:Int) - (a:Int)) (by omega),bb ((t:Int) - (a:Int)+7) (by omega),Int.tdiv_eq_ediv_of_nonneg (by omega),bb (((t:Int) - (a:Int)+7) / 8) (by omega),bb (2*(((t:Int) - (a:Int)+7) / 8)) (by omega),bb (2*(((t:Int) - (a:Int)+7) / 8)+1) (by omega)]
 omega
theorem wV {l:List Int}(h8:same l<8):fH l=if l.length≤8 then l.length else 8+fH (l.drop 8):=by
 rw [rK,if_neg (by omega)]
theorem tN {xs:List Int}{a g:Nat}:(xs.take (a+g)).drop a=(xs.drop a).take g:=by
 rw [List.drop_take];congr 1;omega
theorem zF {k w:Nat}(hk:200000≤k)(hw:w≤16){xs:List Int}(hl:xs.length≤4096):∀(m a:Nat) (s:List UInt8) (n:Nat),xs.length≤a+m→a≤xs.length→m<n→s.length+25*(xs.length - a)≤1000000→
  ab.l2 aG k n xs (w:Int) s (a:Int)=some (s++iY w (xs.drop a),0):=by
 intro m
 induction m using Nat.strongRecOn with
 |_ m ih=>
  intro a s n h1 h2 h3 h4
  obtain ⟨n,rfl⟩:∃q,n=q+1:=⟨n - 1,by omega⟩
  by_cases ha:a<xs.length
  ·have hdl:(xs.drop a).length=xs.length - a:=List.length_drop
   have hx:xs.drop a≠[]:=fun e=>by rw [e] at hdl;simp at hdl;omega
   have hle:=jp (xs.drop a)
   have hsp:=ox hx
   rw [ab.l2_eq,dT (by omega),cT,Cd ha (by omega) (by omega),bS]
   have hrd:rd xs (a:Int)=some ((xs.drop a).headD 0):=by
    rw [aM ha]
    congr 1
    rw [List.drop_eq_getElem_cons ha];rfl
   by_cases h8:8≤same (xs.drop a)
   ·have hm:may (2*(same (xs.drop a):Int))=true:=fe.2 (by omega)
    have hpl:=iJ (2*(same (xs.drop a):Int))
    have hwl:=pF ((xs.drop a).headD 0) w
    rw [dT (by omega),cT,bb (2*(same (xs.drop a):Int)) (by omega),mW (by omega),bS,kJ hm]
    dsimp only
    rw [dT (by omega),cT,hrd,bS,wX (by omega) (by omega) (by omega),bS,Ek (by omega) hw,bS,dT (by rw [List.length_append];omega),cT,bb ((a:Int)+(same (xs.drop a):Int)) (by omega),
     show ((a:Int)+(same (xs.drop a):Int))=((a+same (xs.drop a):Nat):Int) by push_cast;rfl,
     ih (m - same (xs.drop a)) (by omega) (a+same (xs.drop a)) _ n (by omega) (by omega) (by omega) (by rw [List.length_append,List.length_append];omega),oO hx h8,List.drop_drop]
    simp only [List.append_assoc]
   ·-- groups: the tail, at the place where they end
    have hg:=sU (xs.drop a)
    have hgp:=k4 hx (by omega)
    have tail:∀(t:Nat),a<t→t=a+fH (xs.drop a)→
      ((aR.f aG k (IntKind.i64.wrap ((IntKind.i64.wrap (2*(IntKind.i64.wrap (Int.tdiv (IntKind.i64.wrap ((IntKind.i64.wrap ((t:Int) - (a:Int)))+7)) 8))))+1))).bind fun r_2=>
       bif decide ((s).length+(r_2.1).length≤9223372036854775807) then
       bif decide (0≤(t:Int))&&decide ((t:Int)≤(((xs).length:Nat):Int)) then
        bif decide (0≤(a:Int))&&decide ((a:Int)≤((((t:Int)).toNat:Nat):Int)) then
        (aE.f aG k (List.drop (((a:Int)).toNat) (List.take (((t:Int)).toNat) xs)) (w:Int)).bind fun r_3=>
        bif decide ((s++r_2.1).length+(r_3).length≤9223372036854775807) then
         ab.l2 aG k n xs (w:Int) ((s++r_2.1)++r_3) (t:Int)
        else
         none
        else
        none
       else
        none
       else
       none)=some (s++iY w (xs.drop a),0):=by
     rintro t ht rfl
     have hgm:may (2*(((fH (xs.drop a)+7) / 8:Nat):Int)+1)=true:=fe.2 (by omega)
     have hpl:=iJ (2*(((fH (xs.drop a)+7) / 8:Nat):Int)+1)
     have htl:((xs.drop a).take (fH (xs.drop a))).length=fH (xs.drop a):=by rw [List.length_take];omega
     have hrl:=nO hw ((xs.drop a).take (fH (xs.drop a)))
     rw [htl] at hrl
     rw [Jj (by omega) (by omega),Nat.add_sub_cancel_left,mW (by omega),bS,kJ hgm]
     dsimp only
     rw [dT (by omega),cT,dT (by omega),dT (by omega),dT (by omega),dT (by omega)]
     simp only [Bool.and_self,cT,Int.toNat_natCast]
     rw [tN,D8 (by omega) (by rw [htl];omega) hw,bS,dT (by rw [List.length_append];omega),cT,
      ih (m - fH (xs.drop a)) (by omega) (a+fH (xs.drop a)) _ n (by omega) (by omega) (by omega) (by rw [List.length_append,List.length_append];omega),oM hx (by omega),List.drop_drop]
     simp only [List.append_assoc]
    have l4:∀(d t q:Nat),xs.length≤t+d→t≤xs.length→a<t→d<q→t+fH (xs.drop t)=a+fH (xs.drop a)→ab.l4 aG k n q xs (w:Int) s (a:Int) (t:Int)=some (s++iY w (xs.drop a),0):=by
     intro d
     induction d using Nat.strongRecOn with
     |_ d ihd=>
      intro t q g1 g2 g3 g4 g5
      obtain ⟨q,rfl⟩:∃z,q=z+1:=⟨q - 1,by omega⟩
      rw [ab.l4_eq]
      by_cases htl:t<xs.length
      ·rw [dT (by omega),cT,Cd htl (by omega) (by omega),bS]
       have htd:(xs.drop t).length=xs.length - t:=List.length_drop
       by_cases hr:same (xs.drop t)<8
       ·have hn:=wV hr
        rw [htd] at hn
        rw [dT (by omega),cT,bb ((t:Int)+8) (by omega),G9]
        by_cases hz:t+8≤xs.length
        ·rw [show min ((t:Int)+8) (xs.length:Int)=((t+8:Nat):Int) by omega]
         refine ihd (d - 8) (by omega) (t+8) q (by omega) hz (by omega) (by omega) ?_
         rw [←g5,hn]
         by_cases e:xs.length - t≤8
         ·have e2:t+8=xs.length:=by omega
          rw [if_pos e,e2,List.drop_length]
          show xs.length+0=_
          omega
         ·rw [if_neg e,List.drop_drop];omega
        ·rw [show min ((t:Int)+8) (xs.length:Int)=((xs.length:Nat):Int) by omega]
         refine ihd 0 (by omega) xs.length q (by omega) (by omega) (by omega) (by omega) ?_
         rw [←g5,hn,if_pos (by omega),List.drop_length]
         show xs.length+0=_
         omega
       ·rw [dF (by omega),cF]
        refine tail t g3 ?_
        rw [←g5,rK,if_pos (by omega)];rfl
      ·have e:t=xs.length:=by omega
       rw [dF (by omega),cF]
       refine tail t g3 ?_
       rw [←g5,e,List.drop_length];rfl
    rw [dF (by omega),cF,bb ((a:Int)+8) (by omega),G9]
    have hn:=wV (l:=xs.drop a) (by omega)
    rw [hdl] at hn
    by_cases hz:a+8≤xs.length
    ·rw [show min ((a:Int)+8) (xs.length:Int)=((a+8:Nat):Int) by omega]
     refine l4 xs.length (a+8) k (by omega) hz (by omega) (by omega) ?_
     rw [hn]
     by_cases e:xs.length - a≤8
     ·have e2:a+8=xs.length:=by omega
      rw [if_pos e,e2,List.drop_length]
      show xs.length+0=_
      omega
     ·rw [if_neg e,List.drop_drop];omega
    ·rw [show min ((a:Int)+8) (xs.length:Int)=((xs.length:Nat):Int) by omega]
     refine l4 xs.length xs.length k (by omega) (by omega) ha (by omega) ?_
     rw [hn,if_pos (by omega),List.drop_length]
     show xs.length+0=_
     omega
  ·have e:a=xs.length:=by omega
   rw [ab.l2_eq,dF (by omega),cF,e,List.drop_length,lH,List.append_nil]
def zc (w:Nat)(x:Int):Bool:=decide (0≤x)&&decide (x<2 ^ w)
def tH (w:Nat)(xs:List Int):Bool:=xs.all (zc w)
theorem yG {w:Nat}(hw:w≤16):min w IntKind.i64.bits=w:=by simp only [IntKind.bits];omega
theorem yu {w:Nat}(hw:w≤16):(1:Int)≤2 ^ w∧(2:Int) ^ w≤65536:=by
 have h1:(2:Nat) ^ w≤2 ^ 16:=Nat.pow_le_pow_right (by omega) hw
 have h2:0<(2:Nat) ^ w:=Nat.two_pow_pos w
 have e:((2:Int) ^ w)=((2 ^ w:Nat):Int):=by push_cast;rfl
 rw [e];omega
theorem Ez {k w:Nat}(hk:1≤k)(hw:w≤16)(x:Int):gb.f aG k x (w:Int)=some (!zc w x):=by
 obtain ⟨k,rfl⟩:∃q,k=q+1:=⟨k - 1,by omega⟩
 rw [gb.f_eq]
 have hp:=yu hw
 unfold zc
 by_cases h0:x<0
 ·rw [dT h0,dF (show¬(0≤x) by omega)];rfl
 ·rw [dF h0,dT (show 0≤x by omega),dF (show¬((w:Int)<0) by omega),Int.toNat_natCast,yG hw,mz]
  simp only [Bool.not_false,cT,cF,Bool.true_and]
  have hd:x / 2 ^ w>0↔¬x<2 ^ w:=by
   rw [Int.not_lt]
   constructor
   ·intro h
    have:=(Int.le_ediv_iff_mul_le (a:=1) (b:=x) (c:=2 ^ w) (by omega)).1 (by omega)
    omega
   ·intro h
    have:=(Int.le_ediv_iff_mul_le (a:=1) (b:=x) (c:=2 ^ w) (by omega)).2 (by omega)
    omega
  by_cases hx:x<2 ^ w
  ·rw [dT hx,dF (fun h=>hd.1 h hx)];rfl
  ·rw [dF hx,dT (hd.2 hx)];rfl
theorem A2 {k w:Nat}(hk:1≤k)(hw:w≤16){xs:List Int}(hl:xs.length≤1000000):∀(d i n:Nat),i+d=xs.length→d<n→
  ∃r,ap.l0 aG k n xs (w:Int) (xs.length:Int) (i:Int)=some r∧decide (r≥0)=!tH w (xs.drop i):=by
 intro d
 induction d with
 |zero=>
  intro i n h1 h2
  obtain ⟨n,rfl⟩:∃q,n=q+1:=⟨n - 1,by omega⟩
  refine ⟨-1,by rw [ap.l0_eq,dF (by omega),cF],?_⟩
  rw [show i=xs.length by omega,List.drop_length];rfl
 |succ d ih=>
  intro i n h1 h2
  obtain ⟨n,rfl⟩:∃q,n=q+1:=⟨n - 1,by omega⟩
  have hi:i<xs.length:=by omega
  have hdr:tH w (xs.drop i)=(zc w xs[i]&&tH w (xs.drop (i+1))):=by
   rw [List.drop_eq_getElem_cons hi];rfl
  rw [ap.l0_eq,dT (by omega),cT,aM hi,bS,Ez hk hw,bS,hdr]
  cases hx:zc w xs[i] with
  |false=>exact ⟨(i:Int),rfl,by rw [dT (by omega)];rfl⟩
  |true=>
   obtain ⟨r,e1,e2⟩:=ih (i+1) n (by omega) (by omega)
   refine ⟨r,?_,by rw [e2,Bool.true_and]⟩
   simp only [Bool.not_true,cF]
   rw [bu (by omega)];exact e1
theorem EW {k:Nat}{xs:List Int}(hk:xs.length+5≤k)(hl:xs.length≤1000000)(w:Int):
  fG.f aG k xs w=some (decide (0≤w)&&(decide (w≤16)&&(decide ((xs.length:Int)≤4096)&&tH w.toNat xs))):=by
 obtain ⟨k,rfl⟩:∃q,k=q+1:=⟨k - 1,by omega⟩
 rw [fG.f_eq]
 by_cases h0:0≤w
 ·by_cases h1:w≤16
  ·by_cases h2:(xs.length:Int)≤4096
   ·obtain ⟨w,rfl⟩:∃q:Nat,w=(q:Int):=⟨w.toNat,by omega⟩
    obtain ⟨k,rfl⟩:∃q,k=q+2:=⟨k - 2,by omega⟩
    obtain ⟨r,e1,e2⟩:=A2 (k:=k) (w:=w) (by omega) (by omega) hl xs.length 0 k (by omega) (by omega)
    rw [dT (show (w:Int)≥0 by omega),dT h1,dT h2]
    simp only [cT,Bool.true_and,Int.toNat_natCast]
    rw [bF.f_eq,ap.f_eq]
    have e1':ap.l0 aG k k xs (w:Int) (xs.length:Int) 0=some r:=e1
    rw [e1',bS,bS,e2,List.drop_zero,Bool.not_not]
   ·rw [dT (show w≥0 by omega),dT h1,dF h2];rfl
  ·rw [dT (show w≥0 by omega),dF h1];rfl
 ·rw [dF (show¬w≥0 by omega)];rfl
def vf (w:Int)(xs:List Int):Bool:=decide (0≤w)&&(decide (w≤16)&&(decide ((xs.length:Int)≤4096)&&tH w.toNat xs))
def kz (w:Int)(xs:List Int):List UInt8×Int:=if vf w xs=true then (iY w.toNat xs,0) else ([],2100)
theorem sT {w:Int}{xs:List Int}:vf w xs=true↔0≤w∧w≤16∧(xs.length:Int)≤4096∧tH w.toNat xs=true:=by
 unfold vf;simp only [Bool.and_eq_true,decide_eq_true_eq]
theorem yg {k:Nat}{xs:List Int}(hk:1200000≤k)(hl:xs.length≤1000000)(w:Int):bV.f aG k xs w=some (kz w xs):=by
 obtain ⟨k,rfl⟩:∃q,k=q+1:=⟨k - 1,by omega⟩
 rw [bV.f_eq,EW (by omega) hl,bS]
 unfold kz
 show (bif !(vf w xs) then _ else _)=_
 cases hm:vf w xs with
 |false=>rfl
 |true=>
  obtain ⟨h0,h1,h2,_⟩:=sT.1 hm
  obtain ⟨w,rfl⟩:∃q:Nat,w=(q:Int):=⟨w.toNat,by omega⟩
  simp only [Bool.not_true,cF,if_true,Int.toNat_natCast]
  rw [Hg (by omega) (by omega) xs.length xs [] k (Nat.le_refl _) (by omega) (by omega) (by simp;omega)];rfl
theorem zS {k:Nat}{xs:List Int}(hk:1200000≤k)(hl:xs.length≤1000000)(w:Int):ab.f aG k xs w=some (kz w xs):=by
 obtain ⟨k,rfl⟩:∃q,k=q+1:=⟨k - 1,by omega⟩
 rw [ab.f_eq]
 unfold kz vf
 by_cases h0:w<0
 ·rw [dT h0,dF (show¬0≤w by omega)];rfl
 ·by_cases h1:w>16
  ·rw [dF h0,dT h1,dT (show 0≤w by omega),dF (show¬w≤16 by omega)];rfl
  ·by_cases h2:(xs.length:Int)>4096
   ·rw [dF h0,dF h1,dT h2,dT (show 0≤w by omega),dT (show w≤16 by omega),dF (show¬(xs.length:Int)≤4096 by omega)];rfl
   ·obtain ⟨w,rfl⟩:∃q:Nat,w=(q:Int):=⟨w.toNat,by omega⟩
    have hw:w≤16:=by omega
    have hp:=yu hw
    rw [dF h0,dF h1,dF h2,dT (show 0≤(w:Int) by omega),dT (show (w:Int)≤16 by omega),dT (show (xs.length:Int)≤4096 by omega)]
    simp only [Bool.not_false,cT,cF,Bool.true_and,Int.toNat_natCast]
    have key:=iQ (F:=fun n i=>ab.l0 aG k n xs (w:Int) (i:Int)) (p:=fun i=>match xs[i]? with|some x=>zc w x|none=>false) (N:=xs.length)
     (E:=some (iY w xs,0)) (Z:=some ([],2100)) (fun n i hi _=>by
      show ab.l0 aG k (n+1) xs (w:Int) (i:Int)=_
      rw [ab.l0_eq,dT (by omega),cT,aM hi,bS,bS,dF (show¬((w:Int)<0) by omega),Int.toNat_natCast,yG hw,Int.one_mul,bb (2 ^ w) (by omega),bu (by omega),List.getElem?_eq_getElem hi]
      simp only [cF]
      unfold zc
      by_cases hx0:xs[i]<0
      ·rw [dT hx0,dF (show¬0≤xs[i] by omega)];rfl
      ·by_cases hx1:xs[i]<2 ^ w
       ·rw [dF hx0,dF (show¬xs[i]≥2 ^ w by omega),dT (show 0≤xs[i] by omega),dT hx1];rfl
       ·rw [dF hx0,dT (show xs[i]≥2 ^ w by omega),dT (show 0≤xs[i] by omega),dF hx1];rfl) (fun _ n=>by
      show ab.l0 aG k (n+1) xs (w:Int) (xs.length:Int)=_
      rw [ab.l0_eq,dF (by omega),cF]
      have:=zF (k:=k) (w:=w) (by omega) hw (xs:=xs) (by omega) xs.length 0 [] k (by omega) (by omega) (by omega) (by simp;omega)
      rw [List.drop_zero,List.nil_append] at this
      exact this) k (by omega)
    have hall:((List.range xs.length).all fun i=>match xs[i]? with|some x=>zc w x|none=>false)=tH w xs:=by
     rw [Bool.eq_iff_iff,jQ]
     unfold tH
     rw [List.all_eq_true]
     constructor
     ·intro h x hx
      obtain ⟨i,hi,rfl⟩:=List.mem_iff_getElem.1 hx
      have:=h i hi
      rw [List.getElem?_eq_getElem hi] at this
      exact this
     ·intro h i hi
      rw [List.getElem?_eq_getElem hi]
      exact h _ (List.getElem_mem hi)
    rw [hall] at key
    refine Eq.trans key ?_
    cases tH w xs<;>rfl
theorem EH {c:Int}(h0:0≤c)(h1:c<4294967296):aH .and .u64 c 4294967295=c:=by
 rw [kR]
 have e1:(4294967295 % (2 ^ IntKind.u64.bits:Int)).toNat=2 ^ 32 - 1:=by decide
 have e2:(c % (2 ^ IntKind.u64.bits:Int)).toNat=c.toNat:=by simp only [IntKind.bits];omega
 rw [e1,e2,Nat.and_two_pow_sub_one_eq_mod,qR _ (by omega)]
 omega
theorem JM {k:Nat}(hk:2≤k){c:Int}(h0:0≤c)(h1:c<4294967296):fp.f aG k 1 c=some (0,c):=by
 obtain ⟨k,rfl⟩:∃q,k=q+2:=⟨k - 2,by omega⟩
 have m32:min 32 IntKind.u64.bits=32:=rfl
 have f1:Int.fdiv 1 (2 ^ 32)=0:=by decide
 have f0:Int.fdiv 0 (2 ^ 32)=0:=by decide
 have fc:Int.fdiv c (2 ^ 32)=0:=by rw [mz];omega
 have a1:aH .and .u64 1 4294967295=1:=by decide
 have a0:aH .and .u64 0 4294967295=0:=by decide
 have w0:IntKind.u64.wrap 0=0:=by decide
 rw [fp.f_eq,fA.f_eq,m32,f1,fc,a1,EH h0 h1]
 simp only [Int.zero_mul,Int.mul_zero,Int.one_mul,w0,qR c (by omega),fc,Int.add_zero,a0,f0,bS]
theorem HF {k:Nat}(x:Int){c:Nat}(hc:c≤1000000):∀(d n q:Nat),c≤n+d→n≤c→(1≤n∨c=0)→d<q→
  ax.l0 aG k q (n:Int) (List.replicate n x++List.replicate (c - n) 0)=some (List.replicate c x):=by
 intro d
 induction d using Nat.strongRecOn with
 |_ d ih=>
  intro n q h1 h2 h3 h4
  obtain ⟨q,rfl⟩:∃z,q=z+1:=⟨q - 1,by omega⟩
  have hlen:(List.replicate n x++List.replicate (c - n) (0:Int)).length=c:=by rw [List.length_append,List.length_replicate,List.length_replicate];omega
  rw [ax.l0_eq,hlen]
  by_cases hn:n<c
  ·rw [dT (by omega),cT,dT (show 0≤(n:Int) by omega),dT (by omega)]
   simp only [Bool.and_self,cT,Int.toNat_natCast,List.drop_zero,Nat.zero_add]
   have b1:Nat.ble (n+(c - n)) c=true:=Nat.ble_eq_true_of_le (by omega)
   have b2:Nat.ble n c=true:=Nat.ble_eq_true_of_le (by omega)
   have tk:List.take n (List.replicate n x++List.replicate (c - n) (0:Int))=List.replicate n x:=by
    rw [List.take_append_of_le_length (by simp)];simp
   rw [b1,b2,cT,cT,tk,bS,List.length_replicate]
   have hm:min n (c - n)≤c - n:=Nat.min_le_right _ _
   have t2:List.take (c - n) (List.replicate n x)=List.replicate (min n (c - n)) x:=by rw [List.take_replicate,Nat.min_comm]
   have dr:List.drop (n+min n (c - n)) (List.replicate n x++List.replicate (c - n) (0:Int))=List.replicate (c - (n+min n (c - n))) 0:=by
    rw [List.drop_append,List.length_replicate,List.drop_of_length_le (by simp),List.nil_append,Nat.add_sub_cancel_left,List.drop_replicate]
    congr 1;omega
   rw [t2,dr,List.replicate_append_replicate,bb _ (by omega),show ((n:Int)+((min n (c - n):Nat):Int))=((n+min n (c - n):Nat):Int) by push_cast;rfl]
   exact ih (d - min n (c - n)) (by omega) _ q (by omega) (by omega) (.inl (by omega)) (by omega)
  ·have e:n=c:=by omega
   subst e
   rw [dF (by omega),cF,Nat.sub_self]
   simp
theorem zI {k c:Nat}(hk:c+10≤k)(hc:c≤1000000)(x:Int):ax.f aG k [x] (c:Int)=some (List.replicate c x):=by
 obtain ⟨k,rfl⟩:∃q,k=q+1:=⟨k - 1,by omega⟩
 have hl1:IntKind.u64.wrap ((([x]:List Int)).length:Int)=1:=rfl
 rw [ax.f_eq,dF (by omega),cF,sa,ax.j3_eq,hl1,qR (c:Int) (by omega),JM (by omega) (by omega) (by omega),bS]
 dsimp only
 rw [dF (show¬((0:Int)>0) by omega),dF (show¬((c:Int)>9223372036854775807) by omega)]
 simp only [Bool.not_false,cT,cF]
 rw [sa,ax.j6_eq,bb (c:Int) (by omega),BEq.rfl,dT (show 0≤(c:Int) by omega),dT (show (c:Int)*8≤140737488355328 by omega)]
 simp only [Bool.and_self,cT,Int.toNat_natCast,List.length_replicate,Nat.zero_add,List.take_zero,List.nil_append]
 have b1:Nat.ble c c=true:=Nat.ble_eq_true_of_le (Nat.le_refl _)
 have hL:List.take c [x]++List.drop (min ([x]:List Int).length c) (List.replicate c (0:Int))=List.replicate (min 1 c) x++List.replicate (c - min 1 c) 0:=by
  rw [List.drop_replicate]
  cases c with
  |zero=>rfl
  |succ c=>simp
 rw [b1,cT,hL]
 exact HF x hc c (min 1 c) k (by omega) (by omega) (by omega) (by omega)
theorem vD (s:List UInt8)(a:Nat):jJ s (a:Int)=(0,0,300)∨∃(h:Int) (e:Nat),jJ s (a:Int)=(h,(e:Int),0)∧may h=true∧a<e∧e≤s.length∧pv h=(s.take e).drop a:=by
 have key:∀(f:Nat) (x:Int) (i:Nat),Aj s a f x i=(0,0,300)∨∃(h:Int) (e:Nat),Aj s a f x i=(h,(e:Int),0)∧may h=true∧a<e∧e≤s.length∧pv h=(s.take e).drop a:=by
  intro f
  induction f with
  |zero=>intro x i;exact .inl rfl
  |succ f ih=>
   intro x i
   rw [Aj]
   split
   ·exact .inl rfl
   ·rename_i b hb
    have hlt:=(List.getElem?_eq_some_iff.mp hb).1
    split
    ·exact ih _ _
    ·split
     ·rename_i h
      exact .inr ⟨_,a+i+1,rfl,h.1,by omega,by omega,h.2⟩
     ·exact .inl rfl
 unfold jJ
 split
 ·rw [Int.toNat_natCast];exact key 5 0 0
 ·exact .inl rfl
theorem uD {k:Nat}(hk:1≤k)(r:List UInt8)(w:Int)(out:List Int)(n:Int):cd.f aG k r w out true n=some ([],(r,w,out,true)):=by
 obtain ⟨k,rfl⟩:∃q,k=q+1:=⟨k - 1,by omega⟩
 rw [cd.f_eq];rfl
theorem wx {k:Nat}(hk:1≤k)(r:List UInt8)(w:Int)(out:List Int)(n:Nat):cd.f aG k r w out false (n:Int)=
  some (if n≤r.length then (r.take n,(r.drop n,w,out,false)) else ([],(r,w,out,true))):=by
 obtain ⟨k,rfl⟩:∃q,k=q+1:=⟨k - 1,by omega⟩
 rw [cd.f_eq]
 by_cases h:n≤r.length
 ·rw [dF (show¬((n:Int)>(r.length:Int)) by omega),dT (show 0≤(n:Int) by omega),dT (show (n:Int)≤((r.length:Nat):Int) by omega),if_pos h]
  simp only [Bool.not_false,cT,cF,Bool.and_self,Int.toNat_natCast,List.drop_zero,List.take_length]
 ·rw [dT (show (n:Int)>(r.length:Int) by omega),if_neg h];rfl
def mg (w:Nat)(r:List UInt8)(out:List Int)(bad:Bool)(many left:Nat):List UInt8×List Int×Bool:=
 if bad=true∨r.length<(gK w).toNat then (r,out,true)
 else if left<many then (r.drop (gK w).toNat,out,true)
 else (r.drop (gK w).toNat,out++List.replicate many (ja (r.take (gK w).toNat)),false)
theorem Ac {k w:Nat}(hk:1000100≤k)(hw:w≤16)(r:List UInt8)(out:List Int)(bad:Bool){many left:Nat}(hl:left≤1000000)(ho:out.length≤1000000):
  ek.f aG k r (w:Int) out bad (many:Int) (left:Int)=some ((mg w r out bad many left).1,(w:Int),(mg w r out bad many left).2.1,(mg w r out bad many left).2.2):=by
 obtain ⟨k,rfl⟩:∃q,k=q+1:=⟨k - 1,by omega⟩
 have hbb:gK (w:Int)=((gK (w:Int)).toNat:Int):=by unfold gK;omega
 have hb2:(gK (w:Int)).toNat≤2:=by unfold gK;omega
 rw [ek.f_eq,jK (by omega) (by omega) (by omega),bS]
 unfold mg
 cases bad with
 |true=>
  rw [uD (by omega),bS]
  dsimp only
  rw [g9 (by omega) _ (by simp),bS,if_pos (.inl rfl)];rfl
 |false=>
  rw [hbb,wx (by omega),bS,Int.toNat_natCast]
  by_cases h:(gK (w:Int)).toNat≤r.length
  ·rw [if_pos h,if_neg (by simp;omega)]
   dsimp only
   rw [g9 (by omega) _ (by rw [List.length_take];omega),bS]
   by_cases hm:left<many
   ·rw [dT (show (many:Int)>(left:Int) by omega),if_pos hm];rfl
   ·rw [dF (show¬((many:Int)>(left:Int)) by omega),if_neg hm]
    simp only [Bool.not_false,cT]
    rw [zI (by omega) (by omega),bS,dT (by rw [List.length_replicate];omega),cT]
  ·rw [if_neg h,if_pos (.inr (by omega))]
   dsimp only
   rw [g9 (by omega) _ (by simp),bS];rfl
def tA (s:List UInt8)(w i:Nat):Nat→Int
 |0=>0
 |j+1=>tA s w i j+(if Gm s (i*w+j)=true then 2 ^ j else 0)
theorem td (s:List UInt8)(w i:Nat):∀j,0≤tA s w i j∧tA s w i j<2 ^ j
 |0=>by simp [tA]
 |j+1=>by
  have h:=td s w i j
  have e:(2:Int) ^ (j+1)=2 ^ j*2:=Int.pow_succ 2 j
  rw [tA,e]
  split<;>omega
def oi (bad:Bool)(s:List UInt8)(w i j:Nat):Int:=if bad=true then 0 else tA s w i j
theorem G2 {x:Int}{j:Nat}(hj:j<16)(h0:0≤x)(h1:x<2 ^ j):aH .or .i64 x (IntKind.i64.wrap (1*2 ^ (min j IntKind.i64.bits)))=x+2 ^ j:=by
 have hp:=yu (w:=j) (by omega)
 rw [yG (by omega),bb (1*2 ^ j) (by omega),o9 x 1 j h0 h1 (by omega) (by omega)]
 omega
theorem zi {k w:Nat}(hw:w≤16)(hk:100≤k)(bad:Bool)(s rest:List UInt8)(out:List Int){i many:Nat}(hm:many≤600)(hi:i<8*many)(hs:bad=false→s.length=many*w)(lim:Int)(m1:Nat)(ho:out.length≤1000000):
  am.l2 aG k m1 k s (i:Int) 0 lim (w:Int) 0 rest out bad=am.l0 aG k m1 s lim ((i+1:Nat):Int) rest (w:Int) (out++[oi bad s w i w]) bad:=by
 have h0:(0:Int)=oi bad s w i 0:=by unfold oi;split<;>rfl
 have hb:=y5 (show i≤4800 by omega) hw
 have hiw:(i+1)*w≤8*many*w:=Nat.mul_le_mul_right w hi
 rw [Nat.add_mul,Nat.one_mul,Nat.mul_assoc] at hiw
 refine Eq.trans (congrArg (fun z=>am.l2 aG k m1 k s (i:Int) z lim (w:Int) 0 rest out bad) h0) ?_
 refine di (F:=fun n j=>am.l2 aG k m1 n s (i:Int) (oi bad s w i j) lim (w:Int) (j:Int) rest out bad) (N:=w) ?_ ?_ k 0 (by omega) (by omega)
 ·intro n j hj
  rw [am.l2_eq,dT (by omega),cT]
  cases bad with
  |true=>rw [bu (by omega)];rfl
  |false=>
   have hsl:=hs rfl
   have hadd:IntKind.i64.wrap (((i*w:Nat):Int)+(j:Int))=((i*w+j:Nat):Int):=by rw [bb _ (by omega)];push_cast;rfl
   have hv:=td s w i j
   simp only [Bool.not_false,cT]
   rw [EE (by omega) hw,hadd,xK (by omega) (by omega) (by omega),bS,bu (by omega)]
   unfold oi
   simp only [Bool.false_eq_true,if_false]
   cases hon:Gm s (i*w+j) with
   |true=>
    rw [cT,dF (show¬((j:Int)<0) by omega),cF,Int.toNat_natCast,G2 (by omega) hv.1 hv.2,tA,hon,if_pos rfl]
   |false=>rw [cF,tA,hon,if_neg (by simp),Int.add_zero]
 ·intro n
  rw [am.l2_eq,dF (by omega),cF,dT (by simp only [List.length_cons,List.length_nil];omega),cT,bu (by omega)]
def yk (w:Nat)(r:List UInt8)(out:List Int)(bad:Bool)(many left:Nat):List UInt8×List Int×Bool:=
 if (left+7) / 8<many then (r,out,true)
 else if bad=true∨r.length<many*w then (r,out++(List.range (min (8*many) left)).map (fun i=>oi true [] w i w),true)
 else (r.drop (many*w),out++(List.range (min (8*many) left)).map (fun i=>oi false (r.take (many*w)) w i w),false)
theorem nP {k w:Nat}(hw:w≤16)(hk:100000≤k)(bad:Bool)(s rest:List UInt8)(out:List Int){many lim:Nat}(hm:many≤600)(hi:lim≤8*many)(hs:bad=false→s.length=many*w)(ho:out.length≤900000):
  am.l0 aG k k s (lim:Int) 0 rest (w:Int) out bad=some (rest,(w:Int),out++(List.range lim).map (fun i=>oi bad s w i w),bad):=by
 have h0:out=out++(List.range 0).map (fun i=>oi bad s w i w):=by simp
 refine Eq.trans (congrArg (fun z=>am.l0 aG k k s (lim:Int) 0 rest (w:Int) z bad) h0) ?_
 refine di (F:=fun n i=>am.l0 aG k n s (lim:Int) (i:Int) rest (w:Int) (out++(List.range i).map (fun i=>oi bad s w i w)) bad) (N:=lim) ?_ ?_ k 0 (by omega) (by omega)
 ·intro n i hl
  rw [am.l0_eq,dT (by omega),cT,zi hw (by omega) bad s rest _ hm (by omega) hs (lim:Int) n (by rw [List.length_append,List.length_map,List.length_range];omega),List.range_succ,List.map_append,List.append_assoc]
  rfl
 ·intro n
  rw [am.l0_eq,dF (by omega),cF]
theorem zp {k w:Nat}(hk:100100≤k)(hw:w≤16)(r:List UInt8)(out:List Int)(bad:Bool){many left:Nat}(hl:left≤4096)(hm:many≤2000000000)(ho:out.length≤900000):
  am.f aG k r (w:Int) out bad (many:Int) (left:Int)=some ((yk w r out bad many left).1,(w:Int),(yk w r out bad many left).2.1,(yk w r out bad many left).2.2):=by
 obtain ⟨k,rfl⟩:∃q,k=q+1:=⟨k - 1,by omega⟩
 have e8:IntKind.i64.wrap (Int.tdiv (IntKind.i64.wrap ((IntKind.i64.wrap ((left:Int)+8)) - 1)) 8)=(((left+7) / 8:Nat):Int):=by
  rw [bb ((left:Int)+8) (by omega),bb ((left:Int)+8 - 1) (by omega),Int.tdiv_eq_ediv_of_nonneg (by omega),bb (((left:Int)+8 - 1) / 8) (by omega)]
  omega
 rw [am.f_eq,e8]
 unfold yk
 by_cases h1:(left+7) / 8<many
 ·rw [dT (by omega),if_pos h1];rfl
 ·have hmany:many≤600:=by omega
  have hmw:=y5 (show many≤600 from hmany) hw
  rw [dF (by omega),cF,if_neg h1,EE (by omega) hw,bb ((many:Int)*8) (by omega),G9,show min ((many:Int)*8) (left:Int)=((min (8*many) left:Nat):Int) by omega]
  have hlim:min (8*many) left≤8*many:=Nat.min_le_left _ _
  cases bad with
  |true=>
   rw [uD (by omega),bS,if_pos (.inl rfl)]
   dsimp only
   exact nP hw (by omega) true [] r out hmany hlim (fun h=>by cases h) ho
  |false=>
   rw [wx (by omega),bS]
   by_cases h2:many*w≤r.length
   ·rw [if_pos h2,if_neg (by simp;omega)]
    dsimp only
    exact nP hw (by omega) false _ _ out hmany hlim (fun _=>by rw [List.length_take];omega) ho
   ·rw [if_neg h2,if_pos (.inr (by omega))]
    dsimp only
    exact nP hw (by omega) true [] r out hmany hlim (fun h=>by cases h) ho
def zP (w:Int)(s:List UInt8)(count:Int)(out:List Int)(bad:Bool):List Int×Int:=
 if bad=false∧kz w out=(s,0)∧(out.length:Int)=count then (out,0) else ([],2100)
theorem GW (w:Int)(s:List UInt8)(count:Int)(out:List Int):
  (bif (!((kz w out).2 != 0)) then
   bif (!((kz w out).1 != s)) then
    bif (((out).length:Int) != count) then some (([]:List Int),(2100:Int)) else some (out,0)
   else some (([]:List Int),2100)
  else some (([]:List Int),2100))=some (zP w s count out false):=by
 unfold zP
 rcases hp:kz w out with ⟨u,e⟩
 dsimp only
 by_cases h1:e=0
 ·subst h1
  by_cases h2:u=s
  ·subst h2
   by_cases h3:(out.length:Int)=count
   ·rw [if_pos ⟨rfl,rfl,h3⟩,show ((out.length:Int) != count)=false by simpa using h3]
    simp only [bne_self_eq_false,Bool.not_false,cT,cF]
   ·rw [if_neg (fun h=>h3 h.2.2),show ((out.length:Int) != count)=true by simpa using h3]
    simp only [bne_self_eq_false,Bool.not_false,cT]
  ·rw [if_neg (fun h=>h2 (Prod.mk.inj h.2.1).1),show (u != s)=true by simpa using h2]
   simp only [bne_self_eq_false,Bool.not_false,Bool.not_true,cT,cF]
 ·rw [if_neg (fun h=>h1 (Prod.mk.inj h.2.1).2),show (e != 0)=true by simpa using h1]
  simp only [Bool.not_true,cF]
theorem Au {k:Nat}(hk:1200000≤k)(n:Nat)(s:List UInt8)(w:Int)(count:Int)(r:List UInt8)(w':Int)(out:List Int)(bad:Bool)(ho:out.length≤1000000)(h:bad=true∨¬(out.length:Int)<count):
  bg.l0 aG k (n+1) s w count r w' out bad=some (zP w s count out bad):=by
 rw [bg.l0_eq]
 cases bad with
 |true=>
  simp only [Bool.not_true,cF]
  rw [yg hk ho,bS]
  unfold zP
  rw [if_neg (by simp)]
 |false=>
  simp only [Bool.not_false,cT]
  rw [dF (by simpa using h),cF,yg hk ho,bS]
  exact GW w s count out
def ib (w:Nat)(r:List UInt8)(out:List Int)(left:Nat):List UInt8×List Int×Bool:=
 let g:=jJ r 0
 let t:=if g.1 % 2=0 then mg w (r.drop g.2.1.toNat) out (g.2.2 != 0) (g.1 / 2).toNat left else yk w (r.drop g.2.1.toNat) out (g.2.2 != 0) (g.1 / 2).toNat left
 (t.1,t.2.1,t.2.2||decide (g.1<2))
theorem yw (r:List UInt8):∃(h:Int) (e:Nat) (c:Int),jJ r 0=(h,(e:Int),c)∧0≤h∧h≤2147483647∧e≤r.length∧(h<2∨c=0):=by
 rcases vD r 0 with e|⟨h,e,h1,h2,h3,h4,h5⟩
 ·exact ⟨0,0,300,e,by omega,by omega,Nat.zero_le _,.inl (by omega)⟩
 ·obtain ⟨q1,q2⟩:=fe.1 h2
  exact ⟨h,e,0,h1,q1,q2,h4,.inr rfl⟩
theorem CH {k w:Nat}(hk:1200000≤k)(hw:w≤16)(n:Nat)(s:List UInt8){count:Nat}(hc:count≤4096)(r:List UInt8)(out:List Int)(hr:(r.length:Int)≤9223372036854775000)(h:out.length<count):
  bg.l0 aG k (n+1) s (w:Int) (count:Int) r (w:Int) out false=
   bg.l0 aG k n s (w:Int) (count:Int) (ib w r out (count - out.length)).1 (w:Int) (ib w r out (count - out.length)).2.1 (ib w r out (count - out.length)).2.2:=by
 obtain ⟨g,e,c,hg,g0,g1,he,_⟩:=yw r
 have hleft:IntKind.i64.wrap ((count:Int) - (out.length:Int))=((count - out.length:Nat):Int):=by rw [bb _ (by omega)];omega
 have hmany:IntKind.i64.wrap (Int.tdiv g 2)=(((g / 2).toNat:Nat):Int):=by rw [Int.tdiv_eq_ediv_of_nonneg g0,bb _ (by omega)];omega
 have hmod:Int.tmod g 2=g % 2:=Int.tmod_eq_emod_of_nonneg g0
 have j12:∀(t:List UInt8×List Int×Bool),bg.j12 aG k n s (w:Int) (count:Int) g t.1 (w:Int) t.2.1 t.2.2=bg.l0 aG k n s (w:Int) (count:Int) t.1 (w:Int) t.2.1 (t.2.2||decide (g<2)):=by
  rintro ⟨t1,t2,b⟩
  rw [bg.j12_eq]
  cases b<;>rfl
 unfold ib
 rw [bg.l0_eq,hg]
 simp only [Bool.not_false,cT]
 rw [dT (by omega),cT,tI (by omega) r hr,hg,bS]
 dsimp only
 rw [dT (by omega),dT (by omega)]
 simp only [Bool.and_self,cT,List.take_length,Int.toNat_natCast]
 rw [hmod,hleft,hmany]
 by_cases hm:g % 2=0
 ·rw [if_pos hm,show (g % 2==0)=true by simpa using hm,cT,Ac (by omega) hw _ _ _ (by omega) (by omega),bS]
  dsimp only
  rw [sa,j12]
 ·rw [if_neg hm,show (g % 2==0)=false by simpa using hm,cF,zp (by omega) hw _ _ _ (by omega) (by omega) (by omega),bS]
  dsimp only
  rw [sa,j12]
theorem zO {w:Nat}(r:List UInt8)(out:List Int){left:Nat}(hl:1≤left):(ib w r out left).2.1.length≤out.length+left∧((ib w r out left).2.2=false→out.length<(ib w r out left).2.1.length)∧(ib w r out left).1.length≤r.length:=by
 obtain ⟨g,e,c,hg,g0,g1,he,h2⟩:=yw r
 unfold ib
 rw [hg]
 dsimp only
 rw [Int.toNat_natCast]
 have hd:(r.drop e).length≤r.length:=by rw [List.length_drop];omega
 split
 ·unfold mg
  split
  ·exact ⟨by simp,fun h=>by simp at h,hd⟩
  ·split
   ·exact ⟨by simp,fun h=>by simp at h,by rw [List.length_drop];omega⟩
   ·rename_i hm
    refine ⟨by rw [List.length_append,List.length_replicate];omega,fun h=>?_,by rw [List.length_drop];omega⟩
    simp only [Bool.false_or,decide_eq_false_iff_not] at h
    rw [List.length_append,List.length_replicate];omega
 ·unfold yk
  split
  ·exact ⟨by simp,fun h=>by simp at h,hd⟩
  ·split
   ·refine ⟨by rw [List.length_append,List.length_map,List.length_range];omega,fun h=>by simp at h,hd⟩
   ·refine ⟨by rw [List.length_append,List.length_map,List.length_range];omega,fun h=>?_,by rw [List.length_drop];omega⟩
    simp only [Bool.false_or,decide_eq_false_iff_not] at h
    rw [List.length_append,List.length_map,List.length_range];omega
theorem HC {w:Nat}(hw:w≤16)(x:Int):(wd x w).length=(gK (w:Int)).toNat:=by
 rw [yf hw];unfold wd
 split
 ·rfl
 ·split<;>rfl
theorem EL (x:Int):(val (Dj x):Int)=x % 256:=by
 have e:(val (Dj x):Int)=((UInt8.ofNat (IntKind.u8.wrap (Int.fdiv x 1)).toNat).toNat:Int)+256*0:=by
  simp only [Dj,ae,List.map_cons,List.map_nil,val,Int.natCast_add,Int.natCast_mul];rfl
 rw [e]
 simp only [ot,dI _ _ (show (0:Int)≤1 by decide)]
 omega
theorem Ej (x:Int):(val (HQ x):Int)=x % 65536:=by
 have e:(val (HQ x):Int)=((UInt8.ofNat (IntKind.u8.wrap (Int.fdiv x 1)).toNat).toNat:Int)+256*(((UInt8.ofNat (IntKind.u8.wrap (Int.fdiv x (2 ^ 8))).toNat).toNat:Int)+256*0):=by
  simp only [HQ,ae,List.map_cons,List.map_nil,val,Int.natCast_add,Int.natCast_mul];rfl
 rw [e]
 simp only [ot,dI _ _ (show (0:Int)≤1 by decide),dI _ _ (show (0:Int)≤2 ^ 8 by decide)]
 have p8:(2:Int) ^ 8=256:=by decide
 rw [p8]
 omega
theorem AI {w:Nat}(hw:w≤16){x:Int}(h:zc w x=true):ja (wd x w)=x:=by
 unfold zc at h
 simp only [Bool.and_eq_true,decide_eq_true_eq] at h
 have hp:=yu hw
 unfold ja wd
 split
 ·rename_i e;subst e
  have:x=0:=by have:=h.2;simp at this;omega
  subst this;rfl
 ·split
  ·rename_i h8
   have h2:(2:Int) ^ w≤256:=by
    have h1:(2:Nat) ^ w≤2 ^ 8:=Nat.pow_le_pow_right (by omega) h8
    have e:((2:Int) ^ w)=((2 ^ w:Nat):Int):=by push_cast;rfl
    rw [e];omega
   rw [EL,bb _ (by omega)];omega
  ·rw [Ej,bb _ (by omega)];omega
theorem rB (xs:List Int)(w:Nat):∀(n i j:Nat),i<n→j<w→(gR xs w n)[i*w+j]?=some (sX xs i j)
 |n+1,i,j,hi,hj=>by
  have hl:=eN xs w n
  rw [ju]
  by_cases h:i<n
  ·have h1:(i+1)*w≤n*w:=Nat.mul_le_mul_right w h
   rw [Nat.add_mul,Nat.one_mul] at h1
   rw [List.getElem?_append_left (by rw [hl];omega)]
   exact rB xs w n i j h hj
  ·have e:i=n:=by omega
   subst e
   rw [List.getElem?_append_right (by rw [hl];omega),hl,Nat.add_sub_cancel_left,List.getElem?_map,List.getElem?_range hj];rfl
theorem Je {x:Int}{j:Nat}(hj:j<16):tb x j=decide (x / 2 ^ j % 2=1):=by
 unfold tb
 have e:=rA (Int.fdiv x (2 ^ (min j IntKind.i64.bits))) 1 (by omega)
 rw [show ((2:Int) ^ 1 - 1)=1 from rfl] at e
 rw [e,yG (by omega),mz]
 rw [show ((2:Int) ^ 1)=2 from rfl]
 by_cases h:x / 2 ^ j % 2=1
 ·rw [dT h];simpa using h
 ·rw [dF h];simpa using h
theorem CB (x:Int){p:Int}(hp:0<p):x % (p*2)=x % p+p*(x / p % 2):=by
 have h1:x % p+p*(x / p)=x:=Int.emod_add_mul_ediv x p
 have h2:x / p=x / p % 2+2*(x / p / 2):=(Int.emod_add_mul_ediv (x / p) 2).symm
 have h3:p*(x / p)=p*(x / p % 2)+p*2*(x / p / 2):=by
  calc p*(x / p)=p*(x / p % 2+2*(x / p / 2)):=by rw [←h2]
   _=_:=by rw [Int.mul_add,Int.mul_assoc]
 have h4:x=(x % p+p*(x / p % 2))+p*2*(x / p / 2):=by omega
 have r1:=Int.emod_nonneg x (show p≠0 by omega)
 have r2:=Int.emod_lt_of_pos x hp
 have h5:x / p % 2=0∨x / p % 2=1:=by omega
 have h6:0≤x % p+p*(x / p % 2)∧x % p+p*(x / p % 2)<p*2:=by
  rcases h5 with e|e
  ·rw [e,Int.mul_zero];omega
  ·rw [e,Int.mul_one];omega
 calc x % (p*2)=((x % p+p*(x / p % 2))+p*2*(x / p / 2)) % (p*2):=by rw [←h4]
  _=(x % p+p*(x / p % 2)) % (p*2):=Int.add_mul_emod_self_left _ _ _
  _=_:=Int.emod_eq_of_lt h6.1 h6.2
theorem yC {s:List UInt8}{w i:Nat}{x:Int}(hx:0≤x):∀j,j≤16→(∀q,q<j→Gm s (i*w+q)=tb x q)→tA s w i j=x % 2 ^ j
 |0,_,_=>by simp [tA]
 |j+1,hj,h=>by
  rw [tA,yC hx j (by omega) fun q hq=>h q (by omega),h j (by omega),Je (by omega)]
  have e:(2:Int) ^ (j+1)=2 ^ j*2:=Int.pow_succ 2 j
  have hp:(0:Int)<2 ^ j:=Int.pow_pos (by omega)
  have hm:x % (2 ^ j*2)=x % 2 ^ j+2 ^ j*(x / 2 ^ j % 2):=CB x hp
  rw [e,hm]
  have h2:x / 2 ^ j % 2=0∨x / 2 ^ j % 2=1:=by omega
  rcases h2 with h2|h2
  ·rw [h2,Int.mul_zero];simp
  ·rw [h2,Int.mul_one];simp
theorem zQ {w:Nat}(hw:w≤16){xs:List Int}(hok:tH w xs=true){i:Nat}(hi:i<xs.length):oi false (ge (rows xs w)) w i w=xs[i]:=by
 have hx:=List.all_eq_true.1 hok xs[i] (List.getElem_mem hi)
 unfold zc at hx
 simp only [Bool.and_eq_true,decide_eq_true_eq] at hx
 have hp:=oh xs.length
 unfold oi
 simp only [Bool.false_eq_true,if_false]
 rw [yC hx.1 w hw fun q hq=>?_]
 ·exact Int.emod_eq_of_lt hx.1 hx.2
 ·have hg:=rB xs w (gf xs.length) i q (by omega) hq
  obtain ⟨hlt,hge⟩:=List.getElem?_eq_some_iff.mp hg
  rw [Bf (rows xs w) hlt]
  rw [←o4 hi];exact hge
theorem yZ:∀(m:Nat) (l:List Int),l.length≤m→fH l=l.length∨fH l % 8=0
 |0,l,h=>by
  have:l=[]:=List.eq_nil_of_length_eq_zero (by omega)
  subst this;exact .inl rfl
 |m+1,l,h=>by
  rw [rK]
  split
  ·exact .inr rfl
  ·split
   ·exact .inl rfl
   ·rcases yZ m (l.drop 8) (by rw [List.length_drop];omega) with e|e
    ·rw [List.length_drop] at e;left;omega
    ·right;omega
theorem ze {xs:List Int}:xs.take (same xs)=List.replicate (same xs) (xs.headD 0):=by
 refine List.ext_getElem? fun i=>?_
 by_cases h:i<same xs
 ·obtain ⟨x,h0,h1⟩:=se h
  have e:xs.headD 0=x:=by
   cases xs with
   |nil=>simp at h0
   |cons y l=>simpa using h0
  rw [List.getElem?_take_of_lt h,h1,List.getElem?_replicate_of_lt h,e]
 ·have hl:=jp xs
  rw [List.getElem?_eq_none (by rw [List.length_take];omega),List.getElem?_eq_none (by rw [List.length_replicate];omega)]
theorem qF {x:Int}(h:may x=true)(d:List UInt8):jJ (pv x++d) 0=(x,((pv x).length:Int),0):=by
 have:=ya [] d x h
 simpa using this
theorem zW {w:Nat}(hw:w≤16){ys:List Int}(hx:ys≠[])(hl:ys.length≤4096)(hok:tH w ys=true)(h8:8≤same ys)(t:List UInt8)(out:List Int){left:Nat}(hleft:same ys≤left):
  ib w (iY w ys++t) out left=(iY w (ys.drop (same ys))++t,out++ys.take (same ys),false):=by
 have hle:=jp ys
 have hm:may (2*(same ys:Int))=true:=fe.2 (by omega)
 have hd:zc w (ys.headD 0)=true:=by
  cases ys with
  |nil=>exact absurd rfl hx
  |cons x l=>exact List.all_eq_true.1 hok x List.mem_cons_self
 have hwl:=HC hw (ys.headD 0)
 rw [oO hx h8]
 simp only [List.append_assoc]
 unfold ib
 rw [qF hm]
 dsimp only
 rw [if_pos (by omega),Int.toNat_natCast,List.drop_left,show (2*(same ys:Int) / 2).toNat=same ys by omega]
 unfold mg
 rw [if_neg (by simp only [bne_self_eq_false,Bool.false_eq_true,false_or];rw [List.length_append,hwl];omega),if_neg (by omega),←hwl,List.take_left,List.drop_left,AI hw hd,ze]
 rw [dF (show¬(2*(same ys:Int)<2) by omega)];rfl
theorem zE {w:Nat}(hw:w≤16){ys:List Int}(hx:ys≠[])(hl:ys.length≤4096)(hok:tH w ys=true)(h8:same ys<8)(t:List UInt8)(out:List Int){left:Nat}(hleft:fH ys≤left):
  ib w (iY w ys++t) out left=(iY w (ys.drop (fH ys))++t,out++(List.range (min (gf (fH ys)) left)).map (fun i=>oi false (ge (rows (ys.take (fH ys)) w)) w i w),false):=by
 have hg:=sU ys
 have hgp:=k4 hx h8
 have hm:may (2*(((fH ys+7) / 8:Nat):Int)+1)=true:=fe.2 (by omega)
 have htl:(ys.take (fH ys)).length=fH ys:=by rw [List.length_take];omega
 have hrl:(ge (rows (ys.take (fH ys)) w)).length=(fH ys+7) / 8*w:=by
  rw [pq,jz,htl]
  unfold gf
  rw [Nat.mul_assoc];omega
 rw [oM hx h8]
 simp only [List.append_assoc]
 unfold ib
 rw [qF hm]
 dsimp only
 rw [if_neg (by omega),Int.toNat_natCast,List.drop_left,show ((2*(((fH ys+7) / 8:Nat):Int)+1) / 2).toNat=(fH ys+7) / 8 by omega]
 unfold yk
 rw [if_neg (by omega),if_neg (by simp only [bne_self_eq_false,Bool.false_eq_true,false_or];rw [List.length_append,hrl];omega),←hrl,List.take_left,List.drop_left]
 rw [dF (show¬(2*(((fH ys+7) / 8:Nat):Int)+1<2) by omega)];rfl
theorem CM {w:Nat}(hw:w≤16){ys:List Int}(hok:tH w ys=true){g:Nat}(hg:g≤ys.length):(List.range g).map (fun i=>oi false (ge (rows (ys.take g) w)) w i w)=ys.take g:=by
 have htl:(ys.take g).length=g:=by rw [List.length_take];omega
 have hok2:tH w (ys.take g)=true:=by
  unfold tH
  rw [List.all_eq_true]
  intro x hx
  exact List.all_eq_true.1 hok x (List.mem_of_mem_take hx)
 refine List.ext_getElem (by simp [htl]) fun i h1 h2=>?_
 rw [List.getElem_map,List.getElem_range]
 exact zQ hw hok2 (by simpa using h2)
def zA (w count:Nat):Nat→List UInt8→List Int→Option (List UInt8×List Int)
 |0,_,_=>none
 |f+1,r,out=>if count≤out.length then some (r,out) else
  if (ib w r out (count - out.length)).2.2=true then none else zA w count f (ib w r out (count - out.length)).1 (ib w r out (count - out.length)).2.1
theorem vW {w:Nat}{xs:List Int}(h:tH w xs=true)(n:Nat):tH w (xs.drop n)=true:=by
 unfold tH at*
 rw [List.all_eq_true] at*
 exact fun x hx=>h x (List.mem_of_mem_drop hx)
theorem By {w:Nat}(hw:w≤16)(t:List UInt8):∀(m:Nat) (ys out:List Int) (count f:Nat),ys.length≤m→ys.length≤4096→tH w ys=true→out.length+ys.length=count→m<f→zA w count f (iY w ys++t) out=some (t,out++ys):=by
 intro m
 induction m using Nat.strongRecOn with
 |_ m ih=>
  intro ys out count f h1 h2 h3 h4 h5
  obtain ⟨f,rfl⟩:∃q,f=q+1:=⟨f - 1,by omega⟩
  by_cases hx:ys=[]
  ·subst hx
   rw [zA,if_pos (by simp at h4;omega),lH,List.nil_append,List.append_nil]
  ·have hl0:ys.length≠0:=fun e=>hx (List.eq_nil_of_length_eq_zero e)
   rw [zA,if_neg (by omega),show count - out.length=ys.length by omega]
   by_cases h8:8≤same ys
   ·have hle:=jp ys
    have hdl:(ys.drop (same ys)).length=ys.length - same ys:=List.length_drop
    rw [zW hw hx h2 h3 h8 t out hle]
    dsimp only
    rw [if_neg (by simp),ih (m - same ys) (by omega) _ _ count f (by omega) (by omega) (vW h3 _) (by rw [List.length_append,List.length_take,hdl];omega) (by omega),List.append_assoc,List.take_append_drop]
   ·have hg:=sU ys
    have hgp:=k4 hx (by omega)
    have hp8:=oh (fH ys)
    have hdl:(ys.drop (fH ys)).length=ys.length - fH ys:=List.length_drop
    have hmin:min (gf (fH ys)) ys.length=fH ys:=by
     rcases yZ ys.length ys (Nat.le_refl _) with e|e
     ·omega
     ·have:gf (fH ys)=fH ys:=by unfold gf;omega
      omega
    rw [zE hw hx h2 h3 (by omega) t out hg]
    dsimp only
    rw [if_neg (by simp),hmin,CM hw h3 hg,ih (m - fH ys) (by omega) _ _ count f (by omega) (by omega) (vW h3 _) (by rw [List.length_append,List.length_take,hdl];omega) (by omega),List.append_assoc,List.take_append_drop]
theorem E4 {k w:Nat}(hk:1200000≤k)(hw:w≤16)(s:List UInt8){count:Nat}(hc:count≤4096):∀(f:Nat) (r:List UInt8) (out:List Int) (r':List UInt8) (out':List Int) (n:Nat),zA w count f r out=some (r',out')→f≤n→(r.length:Int)≤9223372036854775000→out.length≤4096→
  bg.l0 aG k n s (w:Int) (count:Int) r (w:Int) out false=some (zP (w:Int) s (count:Int) out' false):=by
 intro f
 induction f with
 |zero=>intro r out r' out' n h;cases h
 |succ f ih=>
  intro r out r' out' n h h1 h2 h3
  obtain ⟨n,rfl⟩:∃q,n=q+1:=⟨n - 1,by omega⟩
  rw [zA] at h
  by_cases hs:count≤out.length
  ·rw [if_pos hs] at h
   cases h
   exact Au hk n s w count r w out false (by omega) (.inr (by omega))
  ·rw [if_neg hs] at h
   obtain ⟨q1,q2,q3⟩:=zO (w:=w) r out (left:=count - out.length) (by omega)
   rw [CH hk hw n s hc r out h2 (by omega)]
   cases hb:(ib w r out (count - out.length)).2.2 with
   |true=>rw [hb,if_pos rfl] at h;cases h
   |false=>
    rw [hb,if_neg (by simp)] at h
    exact ih _ _ r' out' n h (by omega) (by omega) (by omega)
theorem yM {k:Nat}(hk:1300000≤k){w:Int}{xs:List Int}{s:List UInt8}(h:kz w xs=(s,0))(hs:(s.length:Int)≤9223372036854775000):bg.f aG k s w (xs.length:Int)=some (xs,0):=by
 have hm:vf w xs=true:=by
  unfold kz at h
  split at h
  ·assumption
  ·cases h
 obtain ⟨h0,h1,h2,h3⟩:=sT.1 hm
 obtain ⟨w,rfl⟩:∃q:Nat,w=(q:Int):=⟨w.toNat,by omega⟩
 have he:iY w xs=s:=by
  unfold kz at h
  rw [if_pos hm] at h
  exact (Prod.mk.inj h).1
 obtain ⟨k,rfl⟩:∃q,k=q+1:=⟨k - 1,by omega⟩
 rw [bg.f_eq,dF (show¬((w:Int)<0) by omega),dF (show¬((w:Int)>16) by omega),dF (show¬((xs.length:Int)<0) by omega),dF (show¬((xs.length:Int)>4096) by omega)]
 simp only [Bool.not_false,cT,cF]
 have hd:=By (w:=w) (by omega) [] xs.length xs [] xs.length (xs.length+1) (Nat.le_refl _) (by omega) h3 (by simp) (by omega)
 rw [List.append_nil,List.nil_append,he] at hd
 rw [E4 (by omega) (by omega) s (by omega) _ _ _ _ _ k hd (by omega) hs (by simp)]
 unfold zP
 rw [if_pos ⟨rfl,h,rfl⟩]
def RS (w:Nat)(h:Int):Nat:=if h % 2=1 then (h / 2).toNat*w else (gK (w:Int)).toNat
theorem uy {w:Int}{xs:List Int}(h:4096<xs.length):kz w xs=([],2100):=by
 unfold kz vf
 rw [dF (show¬((xs.length:Int)≤4096) by omega)]
 simp
theorem Ea {k:Nat}(hk:1200010≤k)(xs:List Int)(w:Int):bV.f aG k xs w=some (kz w xs):=by
 by_cases h:xs.length≤4096
 ·exact yg (by omega) (by omega) w
 ·rw [uy (by omega)]
  obtain ⟨k,rfl⟩:∃q,k=q+2:=⟨k - 2,by omega⟩
  have:fG.f aG (k+1) xs w=some false:=by
   rw [fG.f_eq,dF (show¬((xs.length:Int)≤4096) by omega)]
   cases decide (w≥0)<;>cases decide (w≤16)<;>rfl
  rw [bV.f_eq,this,bS];rfl
theorem sS {k:Nat}(hk:1200010≤k)(xs:List Int)(w:Int):ab.f aG k xs w=some (kz w xs):=by
 by_cases h:xs.length≤4096
 ·exact zS (by omega) (by omega) w
 ·rw [uy (by omega)]
  obtain ⟨k,rfl⟩:∃q,k=q+1:=⟨k - 1,by omega⟩
  rw [ab.f_eq,dT (show (xs.length:Int)>4096 by omega)]
  cases decide (w<0)<;>cases decide (w>16)<;>rfl
theorem wz {w:Nat}(hw:w≤16):∀(m:Nat) (xs:List Int),xs.length≤m→xs.length≤4096→(iY w xs).length≤25*xs.length:=by
 intro m
 induction m using Nat.strongRecOn with
 |_ m ih=>
  intro xs h1 h2
  by_cases hx:xs=[]
  ·subst hx;rw [lH];simp
  ·have hl0:xs.length≠0:=fun e=>hx (List.eq_nil_of_length_eq_zero e)
   by_cases h8:8≤same xs
   ·have hle:=jp xs
    have hpl:=iJ (2*(same xs:Int))
    have hwl:=pF (xs.headD 0) w
    have hdl:(xs.drop (same xs)).length=xs.length - same xs:=List.length_drop
    have:=ih (m - same xs) (by omega) (xs.drop (same xs)) (by omega) (by omega)
    rw [oO hx h8,List.length_append,List.length_append];omega
   ·have hg:=sU xs
    have hgp:=k4 hx (by omega)
    have hpl:=iJ (2*(((fH xs+7) / 8:Nat):Int)+1)
    have hrl:=nO hw (xs.take (fH xs))
    have htl:(xs.take (fH xs)).length=fH xs:=by rw [List.length_take];omega
    have hdl:(xs.drop (fH xs)).length=xs.length - fH xs:=List.length_drop
    have:=ih (m - fH xs) (by omega) (xs.drop (fH xs)) (by omega) (by omega)
    rw [oM hx (by omega),List.length_append,List.length_append];omega
def mk (w:Nat)(x:Int):Int:=aH .and .i64 x (2 ^ w - 1)
theorem Fe {w:Nat}(hw:w≤16){ys:List Int}(hl:ys.length≤4096)(ho:tH w ys=true):kz (w:Int) ys=(iY w ys,0):=by
 have hm:vf (w:Int) ys=true:=sT.2 ⟨by omega,by omega,by omega,by rw [Int.toNat_natCast];exact ho⟩
 unfold kz
 rw [if_pos hm,Int.toNat_natCast]
end Go.Proofs.YtjkokaockhecnaaGreatDoorP
