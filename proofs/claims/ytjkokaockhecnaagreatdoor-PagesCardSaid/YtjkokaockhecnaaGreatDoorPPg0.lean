/- What the functions below the laws answer, in plain lists and numbers; no condition but the sizes that a machine has. -/
import Derived.Test.YtjkokaockhecnaaGreatDoorPLoop
import Derived.Laws.BitsLemmas
import Derived.KernelRfl
import Derived.Lib.ItoaNum
import Derived.Lib.Join
import Derived.Test.YtjkokaockhecnaaGreatDoorRoom
namespace Go.Proofs.YtjkokaockhecnaaGreatDoorP
open Go Go.Proofs.YtjkokaockhecnaaGreatDoorA
def fits:Nat→hZ→Prop
 |0,_=>False
 |d+1,a=>a.kids.length≤d∧∀k∈a.kids,fits d k
def fQ (n:Int):Int:=(n+7) / 8
theorem BK {n:Int}(h0:0≤n)(h1:n≤1000000):IntKind.i64.wrap (Int.tdiv (IntKind.i64.wrap (n+7)) 8)=fQ n:=by
 unfold fQ
 rw [aK (n+7) (by omega),Int.tdiv_eq_ediv_of_nonneg (by omega),aK _ (by omega)]
theorem rO {k:Nat}(hk:1≤k){n:Int}(h0:0≤n)(h1:n≤1000000):bT.f aF k n=some (fQ n):=by
 obtain ⟨k,rfl⟩:∃m,k=m+1:=⟨k - 1,by omega⟩
 rw [bT.f_eq,BK h0 h1]
theorem ki {k:Nat}(hk:1≤k){n:Int}(h0:0≤n)(h1:n≤1000000):fp.f aF k n=some (fQ n):=by
 obtain ⟨k,rfl⟩:∃m,k=m+1:=⟨k - 1,by omega⟩
 rw [fp.f_eq,BK h0 h1]
def G4 (s:List UInt8)(i:Nat):Bool:=
 match s[i / 8]? with
 |some b=>(aB .and .u8 (Int.fdiv (b.toNat:Int) (2 ^ (min (i % 8) IntKind.u8.bits))) 1)==1
 |none=>false
theorem EW {s:List UInt8}{i:Nat}(h:i / 8<s.length)(hi:i≤1000000):
  ((rd s (IntKind.i64.wrap (Int.tdiv (i:Int) 8))).bind fun b_1=>
   bif decide (Int.tmod (i:Int) 8<0) then none else
   some ((aB .and .u8 (Int.fdiv (b_1.toNat:Int) (2 ^ (min (Int.tmod (i:Int) 8).toNat IntKind.u8.bits))) 1)==1))=some (G4 s i):=by
 have e1:Int.tdiv (i:Int) 8=((i / 8:Nat):Int):=by rw [Int.tdiv_eq_ediv_of_nonneg (by omega)];omega
 have e2:Int.tmod (i:Int) 8=((i % 8:Nat):Int):=by rw [Int.tmod_eq_emod_of_nonneg (by omega)];omega
 have h3:¬(((i % 8:Nat):Int)<0):=by omega
 rw [e1,e2,aK _ (by omega),aP h,bS,decide_eq_false h3,cF,Int.toNat_natCast]
 unfold G4
 rw [List.getElem?_eq_getElem h]
theorem KE {k:Nat}(hk:1≤k){s:List UInt8}{i:Nat}(h:i / 8<s.length)(hi:i≤1000000):eB.f aF k s (i:Int)=some (G4 s i):=by
 obtain ⟨k,rfl⟩:∃m,k=m+1:=⟨k - 1,by omega⟩
 rw [eB.f_eq];exact EW h hi
theorem zQ {k:Nat}(hk:1≤k){s:List UInt8}{i:Nat}(h:i / 8<s.length)(hi:i≤1000000):pN.f aF k s (i:Int)=some (G4 s i):=by
 obtain ⟨k,rfl⟩:∃m,k=m+1:=⟨k - 1,by omega⟩
 rw [pN.f_eq];exact EW h hi
theorem ut {α:Type}{l:List α}{j:Nat}{d:α}(h:j<l.length):l.getD j d=l[j]:=by simp [List.getD,h]
def ya (t:List bc)(a:Int)(j:Nat):Int:=(bH t a).getD j 0
theorem nD {t:List bc}{a:Int}{j:Nat}(h:j<(bH t a).length):(bH t a)[j]?=some (ya t a j):=by
 unfold ya;rw [ut h,List.getElem?_eq_getElem h]
theorem Ei {t:List bc}(hm:jd t=true){i j:Nat}(hj:j<(bH t (i:Int)).length):∃q:Nat,ya t (i:Int) j=(q:Int)∧i<q∧q<t.length:=by
 have hmem:ya t (i:Int) j∈bH t (i:Int):=by unfold ya;rw [ut hj];exact List.getElem_mem hj
 obtain ⟨q,h1,_,h3,h4⟩:=nB.1 hmem
 have:=(iP hm).up h1
 exact ⟨q,h4,by omega,h1⟩
def part (x:hZ)(i c:Int):hZ:=.mk x.layout (x.offset+i) c x.valid x.ends x.data x.kids
theorem FA {k:Nat}(hk:1≤k)(x:Int):eD.f aF k x=some x:=by
 obtain ⟨k,rfl⟩:∃m,k=m+1:=⟨k - 1,by omega⟩
 rw [eD.f_eq]
def lV:Nat→Nat→List Int
 |0,_=>[]
 |f+1,n=>if n<10 then [48+(n:Int)] else lV f (n / 10)++[48+((n % 10:Nat):Int)]
theorem zc:∀f n,(lV f n).length≤f
 |0,_=>Nat.le_refl _
 |f+1,n=>by
  unfold lV
  split
  ·simp
  ·have:=zc f (n / 10)
   simp;omega
theorem wE:∀(f g n:Nat),n<10 ^ f→n<10 ^ g→0<f→0<g→lV f n=lV g n
 |0,_,_,_,_,h,_=>by omega
 |_,0,_,_,_,_,h=>by omega
 |f+1,g+1,n,hf,hg,_,_=>by
  unfold lV
  by_cases h:n<10
  ·rw [if_pos h,if_pos h]
  ·rw [if_neg h,if_neg h]
   have f0:0<f:=by
    rcases Nat.eq_zero_or_pos f with e|e
    ·subst e;omega
    ·exact e
   have g0:0<g:=by
    rcases Nat.eq_zero_or_pos g with e|e
    ·subst e;omega
    ·exact e
   rw [wE f g (n / 10) (by rw [Nat.pow_succ] at hf;omega) (by rw [Nat.pow_succ] at hg;omega) f0 g0]
def nG (n:Nat):List UInt8:=ag (lV 20 n)
theorem qc (n:Nat):(nG n).length≤20:=by unfold nG;rw [kc];exact zc 20 n
def wz (x:Int)(l:List Int):List UInt8:=ag (if x<0 then 45 :: l else l)
theorem Fa (n:Nat):IntKind.u8.wrap (IntKind.u64.wrap (48+(Int.tmod (n:Int) 10)))=48+((n % 10:Nat):Int):=by
 rw [Int.tmod_eq_emod_of_nonneg (by omega),qW _ (by omega),zL];omega
theorem D4 {n:Nat}(h:n≤18446744073709551615):IntKind.u64.wrap (Int.tdiv (n:Int) 10)=((n / 10:Nat):Int):=by
 rw [Int.tdiv_eq_ediv_of_nonneg (by omega),qW _ (by omega)];omega
theorem rJ {k n:Nat}(x:Int){out:List Int}(h0:out≠[])(hl:out.length≤1000):aC.l0 aF k (n+1) x 0 out=some (wz x out):=by
 have e1:(((out.length:Nat):Int)==0)=false:=by
  rw [beq_eq_false_iff_ne];intro h;exact h0 (List.length_eq_zero_iff.1 (by omega))
 rw [aC.l0_eq,dF (by omega),Bool.not_false,cT,e1,cF]
 unfold wz
 by_cases h:x<0
 ·rw [dT h,cT,if_pos h,dT (by simp;omega),cT];rfl
 ·rw [dF h,cF,if_neg h]
theorem vq (k:Nat)(x:Int):∀(f m:Nat) (out:List Int) (n:Nat),0<m→m<10 ^ f→m≤18446744073709551615→f+1≤n→out.length+f≤900→aC.l0 aF k n x (m:Int) out=some (wz x (lV f m++out))
 |0,m,_,_,h0,h1,_,_,_=>by simp at h1;omega
 |f+1,m,out,n,h0,h1,h2,h3,h4=>by
  obtain ⟨n,rfl⟩:∃q,n=q+1:=⟨n - 1,by omega⟩
  rw [aC.l0_eq,dT (show (m:Int)>0 by omega),Bool.not_true,cF,Fa,D4 h2,dT (by simp;omega),cT]
  by_cases h:m<10
  ·have e:m / 10=0:=by omega
   obtain ⟨n,rfl⟩:∃q,n=q+1:=⟨n - 1,by omega⟩
   rw [e,show ((0:Nat):Int)=0 from rfl,rJ x (by simp) (by simp;omega)]
   unfold lV
   rw [if_pos h,show m % 10=m by omega]
  ·rw [vq k x f (m / 10) _ n (by omega) (by rw [Nat.pow_succ] at h1;omega) (by omega) (by omega) (by simp;omega)]
   conv=>rhs;unfold lV
   rw [if_neg h,List.append_assoc]
theorem tV {k:Nat}(hk:100≤k)(x:Int){m:Nat}(hm:m≤18446744073709551615):aC.j4 aF k x (m:Int)=some (wz x (lV 20 m)):=by
 rw [aC.j4_eq]
 by_cases h:0<m
 ·rw [vq k x 20 m [] k h (by omega) hm (by omega) (by simp),List.append_nil]
 ·obtain rfl:m=0:=by omega
  obtain ⟨q,rfl⟩:∃q,k=q+2:=⟨k - 2,by omega⟩
  rw [show ((0:Nat):Int)=0 from rfl]
  conv=>lhs;rw [aC.l0_eq]
  rw [dF (by omega),Bool.not_false,cT,show ((([]:List Int).length:Int)==0)=true from rfl,cT,dT (by simp),cT]
  have e:IntKind.u64.wrap (Int.tdiv 0 10)=0:=by decide
  have e2:IntKind.u8.wrap (IntKind.u64.wrap (48+(Int.tmod 0 10)))=48:=by decide
  rw [e,e2,rJ x (by simp) (by simp)]
  rfl
def cB (x:Int):List UInt8:=if x<0 then 45 :: nG x.natAbs else nG x.toNat
theorem lX (x:Int):(cB x).length≤21:=by
 unfold cB
 split
 ·have:=qc x.natAbs;simp;omega
 ·have:=qc x.toNat;omega
theorem uv {k:Nat}(hk:101≤k){x:Int}(h0:-9223372036854775808≤x)(h1:x≤9223372036854775807):aC.f aF k x=some (cB x):=by
 obtain ⟨k,rfl⟩:∃m,k=m+1:=⟨k - 1,by omega⟩
 rw [aC.f_eq]
 unfold cB
 by_cases h:x<0
 ·rw [dT h,cT,if_pos h]
  have e1:IntKind.u64.wrap ((IntKind.u64.wrap (IntKind.i64.wrap (0 - (IntKind.i64.wrap (x+1)))))+1)=((x.natAbs:Nat):Int):=by
   rw [aK (x+1) (by omega),aK (0 - (x+1)) (by omega),qW (0 - (x+1)) (by omega),qW _ (by omega)];omega
  rw [ir,e1,tV (by omega) x (by omega)]
  unfold wz nG
  rw [if_pos h]
  rfl
 ·rw [dF h,cF,if_neg h]
  have e1:IntKind.u64.wrap x=((x.toNat:Nat):Int):=by rw [qW _ (by omega)];omega
  rw [ir,e1,tV (by omega) x (by omega)]
  unfold wz nG
  rw [if_neg h]
theorem Dl {m:Nat}:IntKind.u8.wrap (IntKind.i64.wrap (48 - (Int.tmod (-(m:Int)) 10)))=48+((m % 10:Nat):Int):=by
 have e:Int.tmod (-(m:Int)) 10=-(((m % 10:Nat):Int)):=by
  rw [Int.neg_tmod,Int.tmod_eq_emod_of_nonneg (by omega)];omega
 rw [e,aK _ (by omega),zL];omega
theorem HN {m:Nat}(h:m≤9223372036854775808):IntKind.i64.wrap (Int.tdiv (-(m:Int)) 10)=-((m / 10:Nat):Int):=by
 rw [Int.neg_tdiv,Int.tdiv_eq_ediv_of_nonneg (by omega),aK _ (by omega)];omega
theorem wA (k:Nat):∀(f m:Nat) (s:List UInt8) (n:Nat),0<m→m<10 ^ f→m≤9223372036854775808→f+1≤n→s.length+f≤900→aW.l0 aF k n (-(m:Int)) s=some (45 :: (ag (lV f m)++s))
 |0,m,_,_,h0,h1,_,_,_=>by simp at h1;omega
 |f+1,m,s,n,h0,h1,h2,h3,h4=>by
  obtain ⟨n,rfl⟩:∃q,n=q+1:=⟨n - 1,by omega⟩
  rw [aW.l0_eq,dT (show -(m:Int)<0 by omega),cT,Dl,HN h2,dT (by simp [ag];omega),cT]
  by_cases h:m<10
  ·have e:m / 10=0:=by omega
   obtain ⟨n,rfl⟩:∃q,n=q+1:=⟨n - 1,by omega⟩
   rw [e,show -((0:Nat):Int)=0 from rfl,aW.l0_eq,dF (by omega),cF,dT (by simp [ag];omega),cT]
   unfold lV
   rw [if_pos h,show m % 10=m by omega]
   rfl
  ·rw [wA k f (m / 10) _ n (by omega) (by rw [Nat.pow_succ] at h1;omega) (by omega) (by omega) (by simp [ag];omega)]
   conv=>rhs;unfold lV
   rw [if_neg h,fj,List.append_assoc]
theorem nu {k:Nat}(hk:110≤k){x:Int}(h0:-9223372036854775808≤x)(h1:x≤9223372036854775807):aW.f aF k x=some (cB x):=by
 obtain ⟨k,rfl⟩:∃m,k=m+1:=⟨k - 1,by omega⟩
 rw [aW.f_eq]
 by_cases h:0≤x
 ·rw [dT h,cT,uv (by omega) h0 h1,bS]
 ·rw [dF h,cF]
  have e:x=-((x.natAbs:Nat):Int):=by omega
  have:=wA k 20 x.natAbs [] k (by omega) (by omega) (by omega) (by omega) (by simp)
  rw [←e] at this
  rw [this]
  unfold cB nG
  rw [if_pos (by omega),List.append_nil]
def gd (x:Int):List UInt8:=[105]++cB x++[59]
def jz (b:Bool):List UInt8:=if b then [116] else [102]
def ct (s:List UInt8):List UInt8:=[115]++nG s.length++[58]++s
def gC (vs:List (List UInt8)):List UInt8:=[91]++vs.flatten++[93]
def dA (vs:List (List UInt8)):List UInt8:=[123]++vs.flatten++[125]
theorem D9 {k:Nat}(hk:111≤k){x:Int}(h0:-9223372036854775808≤x)(h1:x≤9223372036854775807):fu.f aF k x=some (gd x):=by
 obtain ⟨k,rfl⟩:∃m,k=m+1:=⟨k - 1,by omega⟩
 have hl:=lX x
 rw [fu.f_eq,nu (by omega) h0 h1,bS,dT (by simp;omega),cT,dT (by simp;omega),cT]
 rfl
theorem BH {k:Nat}(hk:1≤k)(b:Bool):eZ.f aF k b=some (jz b):=by
 obtain ⟨k,rfl⟩:∃m,k=m+1:=⟨k - 1,by omega⟩
 rw [eZ.f_eq];cases b<;>rfl
theorem za {k:Nat}(hk:111≤k){s:List UInt8}(hs:s.length≤1000000000000):eC.f aF k s=some (ct s):=by
 obtain ⟨k,rfl⟩:∃m,k=m+1:=⟨k - 1,by omega⟩
 have hl:=qc s.length
 have e:cB (s.length:Int)=nG s.length:=by unfold cB;rw [if_neg (by omega),Int.toNat_natCast]
 rw [eC.f_eq,uv (by omega) (by omega) (by omega),bS,e,dT (by simp;omega),cT,dT (by simp;omega),cT,dT (by simp;omega),cT]
 rfl
def T (g:Nat→Nat)(p c:Nat):Nat:=((List.range' p c).map g).sum
theorem AC:∀(f n:Nat),n<10 ^ f→0<f→ag (lV f n)=Lib.decDigits n
 |0,_,_,h=>by omega
 |f+1,n,hf,_=>by
  rw [Lib.decDigits]
  unfold lV
  by_cases h:n<10
  ·rw [if_pos h,dif_pos h]
   unfold ag
   simp only [List.map_cons,List.map_nil,List.cons.injEq,and_true]
   congr 1
  ·rw [if_neg h,dif_neg h]
   have f0:0<f:=by
    rcases Nat.eq_zero_or_pos f with e|e
    ·subst e;omega
    ·exact e
   rw [fj,AC f (n / 10) (by rw [Nat.pow_succ] at hf;omega) f0]
   congr 1
theorem Jc {x:Int}(h0:-9223372036854775808≤x)(h1:x≤9223372036854775807):Lib.itoa x=cB x:=by
 unfold Lib.itoa cB nG
 have e:(10:Nat) ^ 20=100000000000000000000:=by decide
 split
 ·rw [AC 20 _ (by omega) (by omega)]
 ·rw [AC 20 _ (by omega) (by omega)]
theorem kB (n:Nat):cB (n:Int)=nG n:=by
 unfold cB
 rw [if_neg (by omega),Int.toNat_natCast]
def nH:Nat→Nat→List Nat
 |0,_=>[]
 |f+1,n=>if n<10 then [n] else nH f (n / 10)++[n % 10]
def dI (l:List Nat):Nat:=l.foldl (fun a d=>10*a+d) 0
theorem mM (l:List Nat)(d:Nat):dI (l++[d])=10*dI l+d:=by unfold dI;rw [List.foldl_append];rfl
theorem wZ:∀f n,lV f n=List.map (fun (d:Nat)=>(48:Int)+(d:Int)) (nH f n)
 |0,_=>rfl
 |f+1,n=>by
  unfold lV nH
  split
  ·rfl
  ·rw [wZ f (n / 10),List.map_append];rfl
theorem mz:∀f n,n<10 ^ f→0<f→dI (nH f n)=n∧(∀d∈nH f n,d<10)∧nH f n≠[]
 |0,_,_,h=>by omega
 |f+1,n,hf,_=>by
  unfold nH
  by_cases h:n<10
  ·rw [if_pos h]
   refine ⟨by simp [dI],fun d hd=>?_,by simp⟩
   rw [List.mem_singleton.1 hd];exact h
  ·rw [if_neg h]
   have f0:0<f:=by
    rcases Nat.eq_zero_or_pos f with e|e
    ·subst e;omega
    ·exact e
   obtain ⟨h1,h2,h3⟩:=mz f (n / 10) (by rw [Nat.pow_succ] at hf;omega) f0
   refine ⟨by rw [mM,h1];omega,fun d hd=>?_,by simp⟩
   rcases List.mem_append.1 hd with hd|hd
   ·exact h2 d hd
   ·rw [List.mem_singleton.1 hd];omega
theorem qg:∀f n,(nH f n).length≤f
 |0,_=>Nat.le_refl _
 |f+1,n=>by
  unfold nH
  split
  ·simp
  ·have:=qg f (n / 10)
   simp;omega
def cS (l:List Nat):List UInt8:=l.map fun d=>UInt8.ofNat (48+d)
theorem ll {n:Nat}(h:n<10 ^ 19):nG n=cS (nH 19 n):=by
 unfold nG cS ag
 rw [wE 20 19 n (by omega) h (by omega) (by omega),wZ,List.map_map]
 refine List.map_congr_left fun d _=>?_
 simp only [Function.comp_apply]
 congr 1
theorem o7 {l : List Nat} (hd : ∀ d ∈ l, d < 10) {j : Nat} (hj : j < l.length) : ((cS l)[j]'(by unfold cS; simpa using hj)).toNat = 48 + l[j] := by
 unfold cS
 have:=hd l[j] (List.getElem_mem hj)
 rw [List.getElem_map,UInt8.toNat_ofNat']
 omega
theorem ry (l:List Nat):∀j,j≤l.length→dI (l.take j)≤dI l:=by
 have snoc:∀(m l:List Nat),dI l≤dI (l++m):=by
  intro m
  induction m with
  |nil=>intro l;simp
  |cons d m ih=>
   intro l
   have:=ih (l++[d])
   rw [List.append_assoc,List.singleton_append,mM] at this
   omega
 intro j _
 have:=snoc (l.drop j) (l.take j)
 rw [List.take_append_drop] at this
 exact this
theorem ky {l:List Nat}{j:Nat}(h:j<l.length):dI (l.take (j+1))=10*dI (l.take j)+l[j]:=by
 rw [List.take_succ_eq_append_getElem h,mM]
theorem Dk {k:Nat}(hk:130≤k){l:List Nat}(hd:∀d∈l,d<10)(hn:l≠[])(hl:l.length≤19)(hv:dI l≤9223372036854775807)(he:cB ((dI l:Nat):Int)=cS l):
  ak.f aF k (cS l)=some (((dI l:Nat):Int),true):=by
 obtain ⟨k,rfl⟩:∃m,k=m+1:=⟨k - 1,by omega⟩
 have hlen:(cS l).length=l.length:=by unfold cS;simp
 have hpos:0<l.length:=List.length_pos_iff.2 hn
 rw [ak.f_eq]
 refine cN (F:=fun n j=>ak.l0 aF k n (cS l) ((dI (l.take j):Nat):Int) (j:Int)) (N:=l.length) ?_ ?_ k 0 (by omega) (by omega)
 ·intro n j hj
  have hb:=aP (l:=cS l) (i:=j) (by omega)
  have hb0:=aP (l:=cS l) (i:=0) (by omega)
  have e1:=o7 hd hj
  have e0:=o7 hd hpos
  have hdj:=hd l[j] (List.getElem_mem hj)
  have hd0:=hd l[0] (List.getElem_mem hpos)
  have ht:=ky hj
  have hm:=ry l (j+1) (by omega)
  rw [show ((0:Nat):Int)=0 from rfl] at hb0
  rw [ak.l0_eq,dT (by omega),cT,dT (by omega),cT,hb,bS,e1,show ((((48+l[j]:Nat)):Int)==45)=false by rw [beq_eq_false_iff_ne];omega,cF,bS,e1,dF (by omega),Bool.not_false,cT,bS,e1,dF (by omega),cF,hb0,bS,e0,
   show ((((48+l[0]:Nat)):Int)==45)=false by rw [beq_eq_false_iff_ne];omega,cF,bS,e1,zL,aK (10*_) (by omega),show (((48+l[j]:Nat):Int) - 48) % 256=(l[j]:Int) by omega,aK (l[j]:Int) (by omega),aK _ (by omega),bu (by omega),ht]
  congr 1
 ·intro n
  rw [ak.l0_eq,dF (by omega),cF,List.take_length,nu (by omega) (by omega) (by omega),bS,he,BEq.rfl]
theorem Dz {k:Nat}(hk:130≤k){l:List Nat}(hd:∀d∈l,d<10)(hl:l.length≤19)(hv:dI l≤9223372036854775808)(he:cB (-((dI l:Nat):Int))=45 :: cS l):
  ak.f aF k (45 :: cS l)=some (-((dI l:Nat):Int),true):=by
 obtain ⟨k,rfl⟩:∃m,k=m+1:=⟨k - 1,by omega⟩
 have hlen:(cS l).length=l.length:=by unfold cS;simp
 have hb0:=aP (l:=45 :: cS l) (i:=0) (by simp)
 rw [show ((0:Nat):Int)=0 from rfl] at hb0
 have b0 : (((45 :: cS l)[0]'(by simp)).toNat : Int) = 45 := rfl
 obtain ⟨k,rfl⟩:∃m,k=m+1:=⟨k - 1,by omega⟩
 rw [ak.f_eq,ak.l0_eq,dT (by simp only [List.length_cons];omega),cT,dT (by simp only [List.length_cons];omega),cT,hb0,bS,b0,BEq.rfl,cT,BEq.rfl,cT,aK (0+1) (by omega)]
 refine cN (F:=fun n j=>ak.l0 aF (k+1) n (45 :: cS l) (-((dI (l.take j):Nat):Int)) ((j:Int)+1)) (N:=l.length) ?_ ?_ k 0 (by omega) (by omega)
 ·intro n j hj
  have hb:=aP (l:=45 :: cS l) (i:=j+1) (by simp only [List.length_cons];omega)
  rw [show ((j+1:Nat):Int)=(j:Int)+1 by omega] at hb
  have e1:=o7 hd hj
  have hdj:=hd l[j] (List.getElem_mem hj)
  have ht:=ky hj
  have hm:=ry l (j+1) (by omega)
  simp only [List.getElem_cons_succ] at hb
  rw [ak.l0_eq,dT (by simp only [List.length_cons];omega),cT,dT (by simp only [List.length_cons];omega),cT,hb,bS,e1,show ((((48+l[j]:Nat)):Int)==45)=false by rw [beq_eq_false_iff_ne];omega,cF,bS,e1,dF (by omega),Bool.not_false,cT,bS,e1,dF (by omega),cF,hb0,bS,b0,
   BEq.rfl,cT,bS,e1,zL,aK (10*_) (by omega),show (((48+l[j]:Nat):Int) - 48) % 256=(l[j]:Int) by omega,aK (l[j]:Int) (by omega),aK _ (by omega),aK _ (by omega),ht]
  congr 1
  omega
 ·intro n
  rw [ak.l0_eq,dF (by simp only [List.length_cons];omega),cF,List.take_length,nu (by omega) (by omega) (by omega),bS,he,BEq.rfl]
theorem ua {k:Nat}(hk:130≤k){x:Int}(h0:-9223372036854775808≤x)(h1:x≤9223372036854775807):ak.f aF k (cB x)=some (x,true):=by
 have p19:(10:Nat) ^ 19=10000000000000000000:=by decide
 by_cases h:x<0
 ·obtain ⟨v1,v2,v3⟩:=mz 19 x.natAbs (by omega) (by omega)
  have e:cB x=45 :: cS (nH 19 x.natAbs):=by unfold cB;rw [if_pos h,ll (by omega)]
  have hx:-((dI (nH 19 x.natAbs):Nat):Int)=x:=by rw [v1];omega
  have:=Dz hk v2 (qg _ _) (by rw [v1];omega) (by rw [hx];exact e)
  rw [hx] at this
  rw [e];exact this
 ·obtain ⟨v1,v2,v3⟩:=mz 19 x.toNat (by omega) (by omega)
  have e:cB x=cS (nH 19 x.toNat):=by unfold cB;rw [if_neg h,ll (by omega)]
  have hx:((dI (nH 19 x.toNat):Nat):Int)=x:=by rw [v1];omega
  have:=Dk hk v2 v3 (qg _ _) (by rw [v1];omega) (by rw [hx];exact e)
  rw [hx] at this
  rw [e];exact this
def At (s:List UInt8)(p:Nat)(v:List UInt8):Prop:=∃pre post,s=pre++v++post∧pre.length=p
theorem At.left {s a b:List UInt8}{p:Nat}(h:At s p (a++b)):At s p a:=by
 obtain ⟨pre,post,rfl,e⟩:=h
 exact ⟨pre,b++post,by simp [List.append_assoc],e⟩
theorem At.right {s a b:List UInt8}{p:Nat}(h:At s p (a++b)):At s (p+a.length) b:=by
 obtain ⟨pre,post,rfl,e⟩:=h
 exact ⟨pre++a,post,by simp [List.append_assoc],by simp [e]⟩
theorem At.le {s v:List UInt8}{p:Nat}(h:At s p v):p+v.length≤s.length:=by
 obtain ⟨pre,post,rfl,e⟩:=h
 simp only [List.length_append];omega
theorem At.get {s v:List UInt8}{p:Nat}(h:At s p v){j:Nat}(hj:j<v.length):s[p+j]?=v[j]?:=by
 obtain ⟨pre,post,rfl,e⟩:=h
 rw [List.append_assoc,List.getElem?_append_right (by omega),List.getElem?_append_left (by omega)]
 congr 1;omega
theorem At.head {s r:List UInt8}{b:UInt8}{p:Nat}(h:At s p (b :: r)):rd s (p:Int)=some b:=by
 have:=h.get (j:=0) (by simp)
 have hl:=h.le
 rw [List.length_cons] at hl
 rw [aP (by omega)]
 rw [Nat.add_zero,List.getElem?_eq_getElem (by omega)] at this
 exact this
theorem At.slice {s v:List UInt8}{p:Nat}(h:At s p v):(s.take (p+v.length)).drop p=v:=by
 obtain ⟨pre,post,rfl,e⟩:=h
 subst e
 rw [show pre.length+v.length=(pre++v).length by simp,List.take_left',List.drop_left']
 ·rfl
 ·rfl
theorem xG {k:Nat}(hk:40≤k){s m:List UInt8}{c:UInt8}{p:Nat}(h:At s p (m++[c]))(hm:m.length≤21)(hn:∀b∈m,b≠c)(hp:p≤1000000):aI.f aF k s (p:Int) (c.toNat:Int)=some ((p+m.length:Nat):Int):=by
 obtain ⟨k,rfl⟩:∃q,k=q+1:=⟨k - 1,by omega⟩
 have hl:=h.le
 rw [List.length_append,List.length_singleton] at hl
 rw [aI.f_eq]
 refine cN (F:=fun n j=>aI.l0 aF k n s (p:Int) (c.toNat:Int) ((p+j:Nat):Int)) (N:=m.length) ?_ ?_ k 0 (by omega) (by omega)
 ·intro n j hj
  have hb:=aP (l:=s) (i:=p+j) (by omega)
  have e:=h.get (j:=j) (by simp;omega)
  rw [List.getElem?_append_left hj,List.getElem?_eq_getElem (by omega),List.getElem?_eq_getElem hj,Option.some.injEq] at e
  have hne:(((m[j]).toNat:Int)==(c.toNat:Int))=false:=by
   rw [beq_eq_false_iff_ne]
   intro e'
   exact hn _ (List.getElem_mem hj) (UInt8.toNat_inj.1 (by omega))
  rw [aI.l0_eq,dT (by omega),cT,aK ((p:Int)+22) (by omega),dT (by omega),cT,hb,bS,e,hne,cF,bu (by omega)]
  rfl
 ·intro n
  have hb:=aP (l:=s) (i:=p+m.length) (by omega)
  have e:=h.get (j:=m.length) (by simp)
  rw [List.getElem?_append_right (Nat.le_refl _),List.getElem?_eq_getElem (by omega),Nat.sub_self,List.getElem?_cons_zero,Option.some.injEq] at e
  rw [aI.l0_eq,dT (by omega),cT,aK ((p:Int)+22) (by omega),dT (by omega),cT,hb,bS,e,BEq.rfl,cT]
inductive eX:List UInt8→Prop
 |n:eX [110]
 |t:eX [116]
 |f:eX [102]
 |i (x:Int) (h0:-9223372036854775808≤x) (h1:x≤9223372036854775807):eX (gd x)
 |s (l:List UInt8) (h:l.length≤100000):eX (ct l)
def Tx:Nat→List UInt8→Prop
 |0,v=>eX v∨v=gC []∨v=dA []
 |d+1,v=>eX v∨∃vs,(∀w∈vs,Tx d w)∧(v=gC vs∨v=dA vs)
theorem eX.tx {v:List UInt8}(h:eX v)(d:Nat):Tx d v:=by
 cases d with
 |zero=>exact .inl h
 |succ d=>exact .inl h
theorem eX.head {v:List UInt8}(h:eX v):∃b r,v=b :: r∧b≠93∧b≠125:=by
 cases h with
 |n=>exact ⟨_,_,rfl,by decide,by decide⟩
 |t=>exact ⟨_,_,rfl,by decide,by decide⟩
 |f=>exact ⟨_,_,rfl,by decide,by decide⟩
 |i x=>exact ⟨105,_,rfl,by decide,by decide⟩
 |s l=>exact ⟨115,_,rfl,by decide,by decide⟩
theorem Tx.head {d:Nat}{v:List UInt8}(h:Tx d v):∃b r,v=b :: r∧b≠93∧b≠125:=by
 cases d with
 |zero=>
  rcases h with h|rfl|rfl
  ·exact h.head
  ·exact ⟨91,_,rfl,by decide,by decide⟩
  ·exact ⟨123,_,rfl,by decide,by decide⟩
 |succ d=>
  rcases h with h|⟨vs,_,rfl|rfl⟩
  ·exact h.head
  ·exact ⟨91,_,rfl,by decide,by decide⟩
  ·exact ⟨123,_,rfl,by decide,by decide⟩
theorem jv {x:Int}(h0:-9223372036854775808≤x)(h1:x≤9223372036854775807):(cB x).length≤20∧∀b∈cB x,b≠58∧b≠59:=by
 have p19:(10:Nat) ^ 19=10000000000000000000:=by decide
 have key:∀n:Nat,n<10 ^ 19→(nG n).length≤19∧∀b∈nG n,b≠58∧b≠59:=by
  intro n hn
  obtain ⟨_,hd,_⟩:=mz 19 n hn (by omega)
  rw [ll hn]
  refine ⟨by unfold cS;rw [List.length_map];exact qg 19 n,fun b hb=>?_⟩
  unfold cS at hb
  obtain ⟨d,hd',rfl⟩:=List.mem_map.1 hb
  have hlt:=hd d hd'
  have e:(UInt8.ofNat (48+d)).toNat=48+d:=by rw [UInt8.toNat_ofNat'];omega
  constructor<;>(intro e';rw [e'] at e;simp at e;omega)
 unfold cB
 split
 ·obtain ⟨k1,k2⟩:=key x.natAbs (by omega)
  refine ⟨by simp only [List.length_cons];omega,fun b hb=>?_⟩
  rcases List.mem_cons.1 hb with rfl|hb
  ·exact ⟨by decide,by decide⟩
  ·exact k2 b hb
 ·obtain ⟨k1,k2⟩:=key x.toNat (by omega)
  exact ⟨by omega,k2⟩
theorem yd {k:Nat}(hk:200≤k){s v:List UInt8}(hv:eX v){p:Nat}(h:At s p v)(hs:s.length≤1000000)(D:Int):ai.f aF k s (p:Int) D=some ((p+v.length:Nat):Int):=by
 obtain ⟨k,rfl⟩:∃q,k=q+1:=⟨k - 1,by omega⟩
 have hl:=h.le
 cases hv with
 |n=>
  simp only [List.length_cons,List.length_nil] at hl ⊢
  rw [ai.f_eq,dF (by omega),cF,h.head,bS,show (((110:UInt8).toNat:Int))=110 from rfl]
  simp only [BEq.rfl,cT]
  rw [bu (by omega)]
 |t=>
  simp only [List.length_cons,List.length_nil] at hl ⊢
  rw [ai.f_eq,dF (by omega),cF,h.head,bS,show (((116:UInt8).toNat:Int))=116 from rfl]
  simp only [show ((116:Int)==110)=false from by decide,BEq.rfl,cT,cF]
  rw [bu (by omega)]
 |f=>
  simp only [List.length_cons,List.length_nil] at hl ⊢
  rw [ai.f_eq,dF (by omega),cF,h.head,bS,show (((102:UInt8).toNat:Int))=102 from rfl]
  simp only [show ((102:Int)==110)=false from by decide,show ((102:Int)==116)=false from by decide,BEq.rfl,cT,cF]
  rw [bu (by omega)]
 |i x h0 h1=>
  obtain ⟨c1,c2⟩:=jv h0 h1
  have hu:=xG (k:=k) (by omega) (s:=s) (m:=[105]++cB x) (c:=59) (p:=p) h (by simp;omega) (fun b hb=>by
   rcases List.mem_append.1 hb with hb|hb
   ·rw [List.mem_singleton.1 hb];decide
   ·exact (c2 b hb).2) (by omega)
  have hh:At s p (105 :: (cB x++[59])):=h
  have hsl:At s (p+1) (cB x):=by
   have h':At s p ([105]++(cB x++[59])):=h
   exact h'.right.left
  have hslice:=hsl.slice
  unfold gd at hl ⊢
  simp only [List.length_append,List.length_cons,List.length_nil] at hl ⊢
  rw [List.length_append,List.length_singleton,show (((59:UInt8).toNat:Int))=59 from rfl] at hu
  rw [ai.f_eq,dF (by omega),cF,hh.head,bS,show (((105:UInt8).toNat:Int))=105 from rfl]
  simp only [show ((105:Int)==110)=false from by decide,show ((105:Int)==116)=false from by decide,show ((105:Int)==102)=false from by decide,BEq.rfl,cT,cF]
  rw [hu,bS,dF (by omega),cF,dT (by omega),dT (by omega),aK ((p:Int)+1) (by omega),dT (by omega),dT (by omega)]
  simp only [Bool.and_self,cT,Int.toNat_natCast]
  rw [show ((p:Int)+1).toNat=p+1 by omega,show p+(1+(cB x).length)=p+1+(cB x).length by omega,hslice,ua (by omega) h0 h1,bS]
  simp only [Bool.not_true,cF]
  rw [aK _ (by omega)]
  congr 1;omega
 |s l hl4=>
  have hx:cB ((l.length:Nat):Int)=nG l.length:=kB _
  obtain ⟨c1,c2⟩:=jv (x:=((l.length:Nat):Int)) (by omega) (by omega)
  rw [hx] at c1 c2
  have hb1:At s p (([115]++nG l.length)++[58]):=At.left (b:=l) h
  have hu:=xG (k:=k) (by omega) (s:=s) (m:=[115]++nG l.length) (c:=58) (p:=p) hb1 (by simp;omega) (fun b hb=>by
   rcases List.mem_append.1 hb with hb|hb
   ·rw [List.mem_singleton.1 hb];decide
   ·exact (c2 b hb).1) (by omega)
  have hh:At s p (115 :: (nG l.length++[58])):=hb1
  have hsl:At s (p+1) (nG l.length):=by
   have h':At s p ([115]++(nG l.length++[58])):=hb1
   exact h'.right.left
  have hslice:=hsl.slice
  unfold ct at hl ⊢
  simp only [List.length_append,List.length_cons,List.length_nil] at hl ⊢
  rw [List.length_append,List.length_singleton,show (((58:UInt8).toNat:Int))=58 from rfl] at hu
  have hw:=ua (k:=k) (by omega) (x:=((l.length:Nat):Int)) (by omega) (by omega)
  rw [hx] at hw
  rw [ai.f_eq,dF (by omega),cF,hh.head,bS,show (((115:UInt8).toNat:Int))=115 from rfl]
  simp only [show ((115:Int)==110)=false from by decide,show ((115:Int)==116)=false from by decide,show ((115:Int)==102)=false from by decide,show ((115:Int)==105)=false from by decide,BEq.rfl,cT,cF]
  rw [hu,bS,dF (by omega),cF,dT (by omega),dT (by omega),aK ((p:Int)+1) (by omega),dT (by omega),dT (by omega)]
  simp only [Bool.and_self,cT,Int.toNat_natCast]
  rw [show ((p:Int)+1).toNat=p+1 by omega,show p+(1+(nG l.length).length)=p+1+(nG l.length).length by omega,hslice,hw,bS]
  simp only [Bool.not_true,Bool.not_false,cT]
  rw [dF (by omega),Bool.not_false,cT,aK ((s.length:Int) - _) (by omega),aK (_ - 1) (by omega),dF (by omega),cF,aK (_+1) (by omega),aK _ (by omega)]
  congr 1;omega
def cat (vs:List (List UInt8))(j:Nat):Nat:=((vs.take j).flatten).length
theorem nf {vs:List (List UInt8)}{j:Nat}(h:j<vs.length):cat vs (j+1)=cat vs j+(vs[j]).length:=by
 unfold cat
 rw [List.take_succ_eq_append_getElem h,List.flatten_append,List.length_append]
 simp
theorem xh (vs:List (List UInt8)):cat vs vs.length=vs.flatten.length:=by unfold cat;rw [List.take_length]
theorem At.cat {s:List UInt8}{p:Nat}{vs:List (List UInt8)}(h:At s p vs.flatten){j:Nat}(hj:j<vs.length):At s (p+cat vs j) vs[j]:=by
 have e:vs.flatten=(vs.take j).flatten++(vs[j]++(vs.drop (j+1)).flatten):=by
  have e:vs.take j++(vs[j] :: vs.drop (j+1))=vs:=by rw [←List.drop_eq_getElem_cons hj,List.take_append_drop]
  exact (congrArg List.flatten e).symm.trans (by rw [List.flatten_append,List.flatten_cons])
 rw [e] at h
 exact h.right.left
theorem HF {s v:List UInt8}{d p:Nat}(hv:Tx d v)(h:At s p v):∃b,rd s (p:Int)=some b∧b≠93∧b≠125:=by
 obtain ⟨b,r,rfl,h1,h2⟩:=hv.head
 exact ⟨b,h.head,h1,h2⟩
theorem Tx.pos {d:Nat}{v:List UInt8}(h:Tx d v):0<v.length:=by
 obtain ⟨b,r,rfl,_⟩:=h.head
 simp
theorem oW:∀(vs:List (List UInt8)),(∀w∈vs,0<w.length)→vs.length≤vs.flatten.length
 |[],_=>Nat.le_refl _
 |v :: vs,h=>by
  have h1:=h v List.mem_cons_self
  have h2:=oW vs fun w hw=>h w (List.mem_cons_of_mem _ hw)
  simp only [List.length_cons,List.flatten_cons,List.length_append];omega
theorem iT {vs:List (List UInt8)}(j:Nat):cat vs j≤vs.flatten.length:=by
 have e:vs.flatten=(vs.take j).flatten++(vs.drop j).flatten:=by rw [←List.flatten_append,List.take_append_drop]
 unfold cat
 rw [e,List.length_append];omega
theorem ym {k:Nat}(hk:200≤k){s v:List UInt8}(b:Bool)(hv:v=if b then gC [] else dA []){p:Nat}(h:At s p v)(hs:s.length≤100000)(D:Int):ai.f aF k s (p:Int) D=some ((p+v.length:Nat):Int):=by
 obtain ⟨k,rfl⟩:∃q,k=q+1:=⟨k - 1,by omega⟩
 obtain ⟨k,rfl⟩:∃q,k=q+1:=⟨k - 1,by omega⟩
 have hl:=h.le
 have row:∀c:UInt8,At s (p+1) [c]→p+1<s.length→ai.l1 aF (k+1) (k+1) s ((p+1:Nat):Int) D (c.toNat:Int)=some ((p+2:Nat):Int):=by
  intro c hc hlt
  have hh:=At.head hc
  rw [ai.l1_eq,dT (show ((p+1:Nat):Int)<(s.length:Int) by omega),cT,hh,bS,bne_self_eq_false,cF,bS,BEq.rfl,cT,bu (by omega),cT]
  cases decide (D>0)<;>rfl
 subst hv
 cases b with
 |true=>
  have hl':p+2≤s.length:=hl
  have hh:At s p (91 :: [93]):=h
  have hr:At s (p+1) [93]:=At.right (a:=[91]) hh
  rw [ai.f_eq,dF (by omega),cF,hh.head,bS,show (((91:UInt8).toNat:Int))=91 from rfl]
  simp only [show ((91:Int)==110)=false from by decide,show ((91:Int)==116)=false from by decide,show ((91:Int)==102)=false from by decide,show ((91:Int)==105)=false from by decide,show ((91:Int)==115)=false from by decide,BEq.rfl,cT,cF]
  rw [bS,bu (by omega),show IntKind.u8.wrap (((91:UInt8).toNat:Int)+2)=(((93:UInt8)).toNat:Int) from by decide]
  exact row 93 hr (by omega)
 |false=>
  have hl':p+2≤s.length:=hl
  have hh:At s p (123 :: [125]):=h
  have hr:At s (p+1) [125]:=At.right (a:=[123]) hh
  rw [ai.f_eq,dF (by omega),cF,hh.head,bS,show (((123:UInt8).toNat:Int))=123 from rfl]
  simp only [show ((123:Int)==110)=false from by decide,show ((123:Int)==116)=false from by decide,show ((123:Int)==102)=false from by decide,show ((123:Int)==105)=false from by decide,show ((123:Int)==115)=false from by decide,show ((123:Int)==91)=false from by decide,BEq.rfl,cT,cF]
  rw [bS,bu (by omega),show IntKind.u8.wrap (((123:UInt8).toNat:Int)+2)=(((125:UInt8)).toNat:Int) from by decide]
  exact row 125 hr (by omega)
theorem A2:∀(d:Nat) {k:Nat},100200+d≤k→∀{s v:List UInt8},Tx d v→∀{p:Nat},At s p v→s.length≤100000→∀{D:Int},(d:Int)≤D→D≤100→ai.f aF k s (p:Int) D=some ((p+v.length:Nat):Int)
 |0,k,hk,s,v,hv,p,h,hs,D,_,_=>by
  rcases hv with hv|hv|hv
  ·exact yd (by omega) hv h (by omega) D
  ·exact ym (by omega) true hv h hs D
  ·exact ym (by omega) false hv h hs D
 |d+1,k,hk,s,v,hv,p,h,hs,D,hD,hD2=>by
  rcases hv with hv|⟨vs,hvs,hv⟩
  ·exact yd (by omega) hv h (by omega) D
  obtain ⟨k,rfl⟩:∃q,k=q+1:=⟨k - 1,by omega⟩
  have hl:=h.le
  have hvl:v.length=vs.flatten.length+2:=by
   rcases hv with rfl|rfl
   ·unfold gC;simp only [List.length_append,List.length_cons,List.length_nil];omega
   ·unfold dA;simp only [List.length_append,List.length_cons,List.length_nil];omega
  have hn:=oW vs fun w hw=>(hvs w hw).pos
  -- the row
  have row:∀c:UInt8,(c=93∨c=125)→At s (p+1) (vs.flatten++[c])→ai.l1 aF k k s ((p+1:Nat):Int) D (c.toNat:Int)=some ((p+v.length:Nat):Int):=by
   intro c hc hrow
   have hfl:=hrow.left
   have hlast:=hrow.right
   have key:=cN (F:=fun n j=>ai.l1 aF k n s ((p+1+cat vs j:Nat):Int) D (c.toNat:Int)) (N:=vs.length) (r:=some ((p+v.length:Nat):Int)) ?_ ?_ k 0 (by omega) (by omega)
   ·exact key
   ·intro n j hj
    have hw:=hvs _ (List.getElem_mem hj)
    have hat:=hfl.cat hj
    obtain ⟨b,hb,n1,n2⟩:=HF hw hat
    have hle:=hat.le
    have hp:=hw.pos
    have hne:((b.toNat:Int) != (c.toNat:Int))=true:=by
     rw [bne_iff_ne]
     intro e
     have:b=c:=UInt8.toNat_inj.1 (by omega)
     rcases hc with rfl|rfl
     ·exact n1 this
     ·exact n2 this
    rw [ai.l1_eq,dT (by omega),cT,dT (by omega),cT,hb,bS,hne,cT,aK (D - 1) (by omega),A2 d (k:=k) (by omega) hw hat hs (by omega) (by omega),bS,dF (by omega),cF,nf hj,Nat.add_assoc (p+1)]
   ·intro n
    have hh:rd s ((p+1+cat vs vs.length:Nat):Int)=some c:=by rw [xh];exact At.head hlast
    have hle:=hlast.le
    rw [List.length_singleton] at hle
    have e:=xh vs
    have hne:((c.toNat:Int) != (c.toNat:Int))=false:=by simp
    rw [ai.l1_eq,dT (by omega),cT,dT (by omega),cT,hh,bS,hne,cF,bS,BEq.rfl,cT,cT,bu (by omega),show p+1+cat vs vs.length+1=p+v.length by omega]
  rcases hv with rfl|rfl
  ·have hh:At s p (91 :: (vs.flatten++[93])):=by have:=h;unfold gC at this;simpa using this
   have hr:At s (p+1) (vs.flatten++[93]):=At.right (a:=[91]) hh
   rw [ai.f_eq,dF (by omega),cF,hh.head,bS,show (((91:UInt8).toNat:Int))=91 from rfl]
   simp only [show ((91:Int)==110)=false from by decide,show ((91:Int)==116)=false from by decide,show ((91:Int)==102)=false from by decide,show ((91:Int)==105)=false from by decide,show ((91:Int)==115)=false from by decide,BEq.rfl,cT,cF]
   rw [bS,bu (by omega),show IntKind.u8.wrap (((91:UInt8).toNat:Int)+2)=(((93:UInt8)).toNat:Int) from by decide]
   exact row 93 (.inl rfl) hr
  ·have hh:At s p (123 :: (vs.flatten++[125])):=by have:=h;unfold dA at this;simpa using this
   have hr:At s (p+1) (vs.flatten++[125]):=At.right (a:=[123]) hh
   rw [ai.f_eq,dF (by omega),cF,hh.head,bS,show (((123:UInt8).toNat:Int))=123 from rfl]
   simp only [show ((123:Int)==110)=false from by decide,show ((123:Int)==116)=false from by decide,show ((123:Int)==102)=false from by decide,show ((123:Int)==105)=false from by decide,show ((123:Int)==115)=false from by decide,show ((123:Int)==91)=false from by decide,BEq.rfl,cT,cF]
   rw [bS,bu (by omega),show IntKind.u8.wrap (((123:UInt8).toNat:Int)+2)=(((125:UInt8)).toNat:Int) from by decide]
   exact row 125 (.inr rfl) hr
theorem At.whole (v:List UInt8):At v 0 v:=⟨[],[],by simp,rfl⟩
theorem Tx.mono:∀(d:Nat) {v:List UInt8},Tx d v→Tx (d+1) v
 |0,_,h=>by
  rcases h with h|rfl|rfl
  ·exact .inl h
  ·exact .inr ⟨[],(fun w hw=>by cases hw),.inl rfl⟩
  ·exact .inr ⟨[],(fun w hw=>by cases hw),.inr rfl⟩
 |d+1,_,h=>by
  rcases h with h|⟨vs,hvs,hv⟩
  ·exact .inl h
  ·exact .inr ⟨vs,fun w hw=>Tx.mono d (hvs w hw),hv⟩
theorem Tx.up {d e:Nat}{v:List UInt8}(h:Tx d v)(hde:d≤e):Tx e v:=by
 induction e with
 |zero=>rw [show d=0 by omega] at h;exact h
 |succ e ih=>
  by_cases hd:d≤e
  ·exact (ih hd).mono
  ·rw [show d=e+1 by omega] at h;exact h
theorem jg {k:Nat}(hk:100300≤k){v:List UInt8}(hv:Tx 4 v)(hl:v.length≤65536):ai.f aF k v 0 4=some ((v.length:Nat):Int):=by
 have:=A2 4 (k:=k) (by omega) hv (At.whole v) (by omega) (D:=4) (by omega) (by omega)
 rw [show ((0:Nat):Int)=0 from rfl,Nat.zero_add] at this
 exact this
theorem C9 {k:Nat}(hk:100301≤k):ah.f aF k [110]=some (-1,[],0):=by
 obtain ⟨k,rfl⟩:∃q,k=q+1:=⟨k - 1,by omega⟩
 have:=jg (k:=k) (by omega) (eX.n.tx 4) (by decide)
 rw [ah.f_eq,dF (by decide),Bool.not_false,cT,this,bS]
 rfl
theorem vw {k:Nat}(hk:100301≤k)(b:Bool):ah.f aF k (jz b)=some (1,[jz b],0):=by
 obtain ⟨k,rfl⟩:∃q,k=q+1:=⟨k - 1,by omega⟩
 cases b with
 |true=>
  have:=jg (k:=k) (by omega) (eX.t.tx 4) (by decide)
  show ah.f aF (k+1) [116]=_
  rw [ah.f_eq,dF (by decide),Bool.not_false,cT,this,bS]
  rfl
 |false=>
  have:=jg (k:=k) (by omega) (eX.f.tx 4) (by decide)
  show ah.f aF (k+1) [102]=_
  rw [ah.f_eq,dF (by decide),Bool.not_false,cT,this,bS]
  rfl
theorem py {k:Nat}(hk:100301≤k){l:List UInt8}(hl:(ct l).length≤65536):ah.f aF k (ct l)=some (2,[l],0):=by
 obtain ⟨k,rfl⟩:∃q,k=q+1:=⟨k - 1,by omega⟩
 have hx:cB ((l.length:Nat):Int)=nG l.length:=kB _
 have hlen:(ct l).length=(nG l.length).length+2+l.length:=by unfold ct;simp only [List.length_append,List.length_cons,List.length_nil];omega
 obtain ⟨c1,c2⟩:=jv (x:=((l.length:Nat):Int)) (by omega) (by omega)
 rw [hx] at c1 c2
 have:=jg (k:=k) (by omega) ((eX.s l (by omega)).tx 4) (by omega)
 have hh:At (ct l) 0 (115 :: (nG l.length++[58]++l)):=by have:=At.whole (ct l);unfold ct at this ⊢;simpa using this
 have hd:=hh.head
 rw [show ((0:Nat):Int)=0 from rfl] at hd
 have hb1:At (ct l) 0 (([115]++nG l.length)++[58]):=At.left (b:=l) (At.whole _)
 have hu:=xG (k:=k) (by omega) (m:=[115]++nG l.length) (c:=58) (p:=0) hb1 (by simp;omega) (fun b hb=>by
  rcases List.mem_append.1 hb with hb|hb
  ·rw [List.mem_singleton.1 hb];decide
  ·exact (c2 b hb).1) (by omega)
 rw [List.length_append,List.length_singleton,show (((58:UInt8).toNat:Int))=58 from rfl,show ((0:Nat):Int)=0 from rfl] at hu
 rw [ah.f_eq,dF (by omega),Bool.not_false,cT,this,bS,show (((ct l).length:Int) != ((ct l).length:Int))=false by simp,cF,hd,bS,show (((115:UInt8).toNat:Int))=115 from rfl]
 simp only [show ((115:Int)==110)=false from by decide,show ((115:Int)==105)=false from by decide,show ((115:Int)==116)=false from by decide,show ((115:Int)==102)=false from by decide,BEq.rfl,cT,cF]
 rw [hu,bS,bu (by omega),dT (by omega),dT (by omega)]
 simp only [Bool.and_self,cT,Int.toNat_natCast]
 have e:(ct l).drop (0+(1+(nG l.length).length)+1)=l:=by
  unfold ct
  rw [List.drop_left']
  simp only [List.length_append,List.length_cons,List.length_nil];omega
 rw [List.take_length,e]
theorem wT {k:Nat}(hk:100301≤k){d:Nat}(hd:d+1≤4){vs:List (List UInt8)}(hvs:∀w∈vs,Tx d w)(b:Bool)(hl:vs.flatten.length≤65534):
  ah.f aF k (if b then gC vs else dA vs)=some (if b then 3 else 4,vs,0):=by
 obtain ⟨k,rfl⟩:∃q,k=q+1:=⟨k - 1,by omega⟩
 generalize hv:(if b then gC vs else dA vs)=v
 have hvl:v.length=vs.flatten.length+2:=by
  rw [←hv]
  cases b
  ·simp only [Bool.false_eq_true,if_false];unfold dA;simp only [List.length_append,List.length_cons,List.length_nil];omega
  ·simp only [if_true];unfold gC;simp only [List.length_append,List.length_cons,List.length_nil];omega
 have htx:Tx (d+1) v:=.inr ⟨vs,hvs,by rw [←hv];cases b<;>simp⟩
 have hen:=jg (k:=k) (by omega) (htx.up hd) (by omega)
 have hn:=oW vs fun w hw=>(hvs w hw).pos
 have hfl:At v 1 vs.flatten:=by
  rw [←hv]
  cases b
  ·simp only [Bool.false_eq_true,if_false];unfold dA;exact ⟨[123],[125],by simp,rfl⟩
  ·simp only [if_true];unfold gC;exact ⟨[91],[93],by simp,rfl⟩
 have hd0:rd v 0=some (if b then 91 else 123):=by
  have hh:At v 0 ((if b then 91 else 123) :: (vs.flatten++[if b then 93 else 125])):=by
   rw [←hv]
   cases b
   ·exact ⟨[],[],by simp [dA],rfl⟩
   ·exact ⟨[],[],by simp [gC],rfl⟩
  exact hh.head
 have row:ah.l1 aF k k v 1 []=some (if b then 3 else 4,vs,0):=by
  have key:=cN (F:=fun n j=>ah.l1 aF k n v ((1+cat vs j:Nat):Int) (vs.take j)) (N:=vs.length) (r:=some (if b then 3 else 4,vs,0)) ?_ ?_ k 0 (by omega) (by omega)
  ·exact key
  ·intro n j hj
   have hw:=hvs _ (List.getElem_mem hj)
   have hat:=hfl.cat hj
   have hle:=hat.le
   have hp:=hw.pos
   have hsl:=hat.slice
   have hc:=iT (vs:=vs) (j+1)
   rw [nf hj] at hc
   have hend:=A2 d (k:=k) (by omega) hw hat (by omega) (D:=4) (by omega) (by omega)
   rw [ah.l1_eq,aK ((v.length:Int) - 1) (by omega),dT (by omega),cT,hend,bS,dT (by omega),dT (by omega),dT (by omega),dT (by omega)]
   simp only [Bool.and_self,cT,Int.toNat_natCast]
   rw [hsl,dT (by simp only [List.length_take,List.length_cons,List.length_nil];omega),cT,nf hj,←List.take_succ_eq_append_getElem hj,Nat.add_assoc 1]
  ·intro n
   have e:=xh vs
   rw [ah.l1_eq,aK ((v.length:Int) - 1) (by omega),dF (by omega),cF,hd0,bS,List.take_length]
   cases b<;>rfl
 rw [ah.f_eq,dF (by omega),Bool.not_false,cT,hen,bS,show ((v.length:Int) != (v.length:Int))=false by simp,cF,hd0,bS]
 have q1:((((if b then 91 else 123:UInt8)).toNat:Int)==110)=false:=by cases b<;>rfl
 have q2:((((if b then 91 else 123:UInt8)).toNat:Int)==105)=false:=by cases b<;>rfl
 have q3:((((if b then 91 else 123:UInt8)).toNat:Int)==116)=false:=by cases b<;>rfl
 have q4:((((if b then 91 else 123:UInt8)).toNat:Int)==102)=false:=by cases b<;>rfl
 have q5:((((if b then 91 else 123:UInt8)).toNat:Int)==115)=false:=by cases b<;>rfl
 simp only [q1,q2,q3,q4,q5,cF]
 show ah.j13 aF k v=_
 rw [ah.j13_eq]
 exact row
def dp (t:List bc)(a:Int):Nat:=5 - (dx t a).length
theorem qn {t:List bc}(hm:jd t=true){i j:Nat}(hj:j<(bH t (i:Int)).length):dp t (i:Int)=dp t (ya t (i:Int) j)+1:=by
 have hmem:ya t (i:Int) j∈bH t (i:Int):=by unfold ya;rw [ut hj];exact List.getElem_mem hj
 obtain ⟨q,h1,_,h3,h4⟩:=nB.1 hmem
 have hs:=iP hm
 have hw:=nz hs h1
 have h5:=(((iG t).1 hm).2.2 q h1).2
 unfold dp
 rw [h4,hw,h3]
 rw [hw,h3] at h5
 simp only [List.length_cons] at h5 ⊢
 omega
theorem LZ {t:List bc}(hm:jd t=true){i:Nat}(hi:i<t.length):dp t (i:Int)≤4:=by
 have:=rH (iP hm) i hi
 unfold dp;omega
theorem wX {k n:Nat}{t:List bc}{ps:List (List UInt8)}{ks:List Int}{kd:Int}(hk:2≤k)(hin:c8 kd=false):af.l0 aF k (n+1) kd 0 t ps ks=some true:=by
 rw [af.l0_eq,ej (by omega),hin]
 cases decide ((0:Int)<(ps.length:Int))<;>rfl
def fe (x:Int):Prop:=-9223372036854775808≤x∧x≤9223372036854775807
theorem fe.wrap (x:Int):fe (IntKind.i64.wrap x):=by unfold fe;rw [IntKind.wrap_i64];omega
theorem yO {k:Nat}(hk:120≤k){s:List UInt8}(hs:s.length≤1000):∀(d i n:Nat) (x:Int),i+d=s.length→d+1≤n→fe x→
  ∃y b,ak.l0 aF k n s x (i:Int)=some (y,b)∧fe y∧(b=true→s=cB y)
 |d,i,n,x,h,hn,hx=>by
  obtain ⟨n,rfl⟩:∃q,n=q+1:=⟨n - 1,by omega⟩
  have fin:∃y b,((aW.f aF k x).bind fun r=>some (x,r==s))=some (y,b)∧fe y∧(b=true→s=cB y):=by
   refine ⟨x,cB x==s,?_,hx,fun e=>?_⟩
   ·rw [nu (by omega) hx.1 hx.2,bS]
   ·exact (eq_of_beq e).symm
  have no:∃y b,(some (0,false):Option (Int×Bool))=some (y,b)∧fe y∧(b=true→s=cB y):=⟨0,false,rfl,by unfold fe;omega,fun e=>by cases e⟩
  rw [ak.l0_eq]
  by_cases hi:i<s.length
  ·have next:∀y,fe y→∃z b,ak.l0 aF k n s y (IntKind.i64.wrap ((i:Int)+1))=some (z,b)∧fe z∧(b=true→s=cB z):=by
    intro y hy
    obtain ⟨d,rfl⟩:∃q,d=q+1:=⟨d - 1,by omega⟩
    rw [bu (by omega)]
    exact yO hk hs d (i+1) n y (by omega) (by omega) hy
   have h0:rd s 0=some s[0]:=aP (i:=0) (by omega)
   rw [dT (by omega),cT,aP hi,h0]
   simp only [bS]
   cases decide ((s.length:Int)<21) with
   |false=>exact fin
   |true=>
    rw [cT]
    cases ((s[i].toNat:Int)==45) with
    |true=>
     rw [cT]
     cases ((i:Int)==0) with
     |true=>exact next x hx
     |false=>
      rw [cF]
      cases (!decide ((s[i].toNat:Int)<48)) with
      |false=>exact no
      |true=>
       rw [cT]
       cases decide ((s[i].toNat:Int)>57) with
       |true=>exact no
       |false=>
        rw [cF]
        cases ((s[0].toNat:Int)==45) with
        |true=>exact next _ (.wrap _)
        |false=>exact next _ (.wrap _)
    |false=>
     rw [cF]
     cases (!decide ((s[i].toNat:Int)<48)) with
     |false=>exact no
     |true=>
      rw [cT]
      cases decide ((s[i].toNat:Int)>57) with
      |true=>exact no
      |false=>
       rw [cF]
       cases ((s[0].toNat:Int)==45) with
       |true=>exact next _ (.wrap _)
       |false=>exact next _ (.wrap _)
  ·rw [dF (by omega),cF]
   exact fin
theorem wl {k:Nat}(hk:200≤k){s:List UInt8}(hs:s.length≤50):∃y b,ak.f aF k s=some (y,b)∧fe y∧(b=true→s=cB y):=by
 obtain ⟨k,rfl⟩:∃q,k=q+1:=⟨k - 1,by omega⟩
 rw [ak.f_eq]
 exact yO (by omega) (by omega) s.length 0 k 0 (by omega) (by omega) (by unfold fe;omega)
theorem At.of_take {s:List UInt8}{p q:Nat}(hpq:p≤q)(hq:q≤s.length):At s p ((s.take q).drop p):=by
 refine ⟨s.take p,s.drop q,?_,by rw [List.length_take];omega⟩
 have h1:s.take p=(s.take q).take p:=by rw [List.take_take,Nat.min_eq_left hpq]
 rw [h1,List.take_append_drop,List.take_append_drop]
theorem BB {k:Nat}{s:List UInt8}(hs:s.length≤1000000){p:Nat}(c:UInt8):∀(d i n:Nat),i+d=s.length→d+1≤n→p≤i→(∀b∈(s.take i).drop p,b≠c)→
  ∃r,aI.l0 aF k n s (p:Int) (c.toNat:Int) (i:Int)=some r∧(r=-1∨∃m,At s p (m++[c])∧m.length≤21∧(∀b∈m,b≠c)∧r=((p+m.length:Nat):Int))
 |d,i,n,h,hn,hp,hm=>by
  obtain ⟨n,rfl⟩:∃q,n=q+1:=⟨n - 1,by omega⟩
  rw [aI.l0_eq]
  by_cases hi:i<s.length
  ·rw [dT (by omega),cT,aK _ (by omega)]
   by_cases h22:i<p+22
   ·rw [dT (by omega),cT,aP hi,bS]
    have hsnoc:(s.take (i+1)).drop p=(s.take i).drop p++[s[i]]:=by
     rw [List.take_succ_eq_append_getElem hi,List.drop_append_of_le_length (by rw [List.length_take];omega)]
    by_cases he:s[i]=c
    ·rw [he,BEq.rfl,cT]
     refine ⟨_,rfl,.inr ⟨(s.take i).drop p,?_,?_,hm,?_⟩⟩
     ·have:=At.of_take (s:=s) (p:=p) (q:=i+1) (by omega) (by omega)
      rw [hsnoc,he] at this
      exact this
     ·rw [List.length_drop,List.length_take];omega
     ·rw [List.length_drop,List.length_take];omega
    ·rw [show ((s[i].toNat:Int)==(c.toNat:Int))=false by rw [beq_eq_false_iff_ne];intro e;exact he (UInt8.toNat_inj.1 (by omega)),cF,bu (by omega)]
     obtain ⟨d,rfl⟩:∃q,d=q+1:=⟨d - 1,by omega⟩
     refine BB hs c d (i+1) n (by omega) (by omega) (by omega) fun b hb=>?_
     rw [hsnoc] at hb
     rcases List.mem_append.1 hb with hb|hb
     ·exact hm b hb
     ·rw [List.mem_singleton.1 hb];exact he
   ·rw [dF (by omega),cF]
    exact ⟨_,rfl,.inl rfl⟩
  ·rw [dF (by omega),cF]
   exact ⟨_,rfl,.inl rfl⟩
theorem F5 {k:Nat}{s:List UInt8}(hk:s.length+3≤k)(hs:s.length≤1000000){p:Nat}(hp:p≤s.length)(c:UInt8):
  ∃r,aI.f aF k s (p:Int) (c.toNat:Int)=some r∧(r=-1∨∃m,At s p (m++[c])∧m.length≤21∧(∀b∈m,b≠c)∧r=((p+m.length:Nat):Int)):=by
 obtain ⟨k,rfl⟩:∃q,k=q+1:=⟨k - 1,by omega⟩
 rw [aI.f_eq]
 exact BB hs c (s.length - p) p k (by omega) (by omega) (Nat.le_refl _) fun b hb=>by
  rw [List.drop_eq_nil_of_le (by rw [List.length_take];omega)] at hb;cases hb
theorem At.eq {s v:List UInt8}{p:Nat}(h:At s p v):(s.drop p).take v.length=v:=by
 obtain ⟨pre,post,rfl,rfl⟩:=h
 rw [List.append_assoc,List.drop_left,List.take_left]
theorem At.join {s a b:List UInt8}{p:Nat}(ha:At s p a)(hb:At s (p+a.length) b):At s p (a++b):=by
 have h1:=ha.eq
 obtain ⟨pre,post,rfl,hl⟩:=ha
 obtain ⟨pre',post',e,hl'⟩:=hb
 refine ⟨pre,post',?_,hl⟩
 have:pre++a=pre':=by
  have:=congrArg (List.take (p+a.length)) e
  rw [List.take_left' (by rw [List.length_append,hl]),List.append_assoc,List.take_left' hl'] at this
  exact this
 rw [e,←this];simp
theorem At.one {s:List UInt8}{p:Nat}(h:p<s.length):At s p [s[p]]:=by
 refine ⟨s.take p,s.drop (p+1),?_,by rw [List.length_take];omega⟩
 rw [List.append_assoc,List.singleton_append,←List.drop_eq_getElem_cons h,List.take_append_drop]
theorem IX {k:Nat}{s:List UInt8}(hs:s.length≤100000){p d:Nat}(hd:d≤50)(c:UInt8)(hc:c=93∨c=125)
  (ih:∀q,q≤s.length→∃r,ai.f aF k s (q:Int) (d:Int)=some r∧(r=-1∨∃v,Tx d v∧At s q v∧r=((q+v.length:Nat):Int))):
  ∀(m q n:Nat) (vs:List (List UInt8)),q+m=s.length→m+1≤n→(∀w∈vs,Tx d w)→At s p vs.flatten→q=p+vs.flatten.length→
  ∃r,ai.l1 aF k n s (q:Int) ((d+1:Nat):Int) (c.toNat:Int)=some r∧(r=-1∨∃us:List (List UInt8),(∀w∈us,Tx d w)∧At s p (us.flatten++[c])∧r=((p+us.flatten.length+1:Nat):Int)):=by
 intro m
 induction m using Nat.strongRecOn with
 |_ m ihm=>
  intro q n vs hq hn hvs hat hqe
  obtain ⟨n,rfl⟩:∃q,n=q+1:=⟨n - 1,by omega⟩
  rw [ai.l1_eq,dT (show ((d+1:Nat):Int)>0 by omega),cT]
  by_cases hlt:q<s.length
  ·rw [dT (by omega),cT,aP hlt,bS]
   by_cases hb:s[q]=c
   ·rw [hb,bne_self_eq_false,cF,cT,bS,BEq.rfl,cT,bu (by omega)]
    refine ⟨_,rfl,.inr ⟨vs,hvs,hat.join ?_,by rw [hqe]⟩⟩
    rw [←hqe,←hb]
    exact At.one hlt
   ·rw [show ((s[q].toNat:Int) != (c.toNat:Int))=true by rw [bne_iff_ne];intro e;exact hb (UInt8.toNat_inj.1 (by omega)),cT,aK _ (by omega),show ((d+1:Nat):Int) - 1=(d:Int) by omega]
    obtain ⟨r,hr,hr'⟩:=ih q (by omega)
    rw [hr,bS]
    rcases hr' with rfl|⟨v,hv,hav,rfl⟩
    ·exact ⟨_,rfl,.inl rfl⟩
    ·have hp:=hv.pos
     have hle:=hav.le
     rw [dF (by omega),cF]
     refine ihm (s.length - (q+v.length)) (by omega) (q+v.length) n (vs++[v]) (by omega) (by omega) ?_ ?_ ?_
     ·intro w hw
      rcases List.mem_append.1 hw with hw|hw
      ·exact hvs w hw
      ·rw [List.mem_singleton.1 hw];exact hv
     ·rw [List.flatten_append,List.flatten_singleton]
      exact hat.join (by rw [←hqe];exact hav)
     ·rw [List.flatten_append,List.flatten_singleton,List.length_append];omega
  ·rw [dF (by omega),cF,cF]
   exact ⟨_,rfl,.inl rfl⟩
theorem GL {k n:Nat}{s:List UInt8}(hs:s.length≤100000){q:Nat}(c:UInt8):∃r,ai.l1 aF k (n+1) s (q:Int) 0 (c.toNat:Int)=some r∧(r=-1∨(At s q [c]∧r=((q+1:Nat):Int))):=by
 rw [ai.l1_eq,dF (show¬((0:Int)>0) by omega),cF]
 by_cases hlt:q<s.length
 ·rw [dT (by omega),cT,aP hlt,bS]
  by_cases hb:s[q]=c
  ·rw [hb,BEq.rfl,cT,bu (by omega)]
   exact ⟨_,rfl,.inr ⟨by rw [←hb];exact At.one hlt,rfl⟩⟩
  ·rw [show ((s[q].toNat:Int)==(c.toNat:Int))=false by rw [beq_eq_false_iff_ne];intro e;exact hb (UInt8.toNat_inj.1 (by omega)),cF]
   exact ⟨_,rfl,.inl rfl⟩
 ·rw [dF (by omega),cF]
  exact ⟨_,rfl,.inl rfl⟩
theorem bq {b c:UInt8}(h:b≠c){z:Int}(hz:z=(c.toNat:Int)):((b.toNat:Int)==z)=false:=by
 rw [beq_eq_false_iff_ne,hz];intro e;exact h (UInt8.toNat_inj.1 (by omega))
def Rows:Nat→List (List UInt8)→Prop
 |0,us=>us=[]
 |d+1,us=>∀w∈us,Tx d w
theorem Rows.list {d:Nat}{us:List (List UInt8)}(h:Rows d us):Tx d (gC us):=by
 cases d with
 |zero=>rw [show us=[] from h];exact .inr (.inl rfl)
 |succ d=>exact .inr ⟨us,h,.inl rfl⟩
theorem Rows.struct {d:Nat}{us:List (List UInt8)}(h:Rows d us):Tx d (dA us):=by
 cases d with
 |zero=>rw [show us=[] from h];exact .inr (.inr rfl)
 |succ d=>exact .inr ⟨us,h,.inr rfl⟩
theorem zj {d k:Nat}(hk:100200≤k){s:List UInt8}(hs:s.length≤100000){p:Nat}(hp:p≤s.length)
  (row:∀c:UInt8,(c=93∨c=125)→∀k',k=k'+1→∀q,q≤s.length→∃r,ai.l1 aF k' k' s (q:Int) (d:Int) (c.toNat:Int)=some r∧(r=-1∨∃us,Rows d us∧At s q (us.flatten++[c])∧r=((q+us.flatten.length+1:Nat):Int))):
  ∃r,ai.f aF k s (p:Int) (d:Int)=some r∧(r=-1∨∃v,Tx d v∧At s p v∧r=((p+v.length:Nat):Int)):=by
 obtain ⟨k,rfl⟩:∃q,k=q+1:=⟨k - 1,by omega⟩
 have no:∃r,(some (-1):Option Int)=some r∧(r=-1∨∃v,Tx d v∧At s p v∧r=((p+v.length:Nat):Int)):=⟨-1,rfl,.inl rfl⟩
 rw [ai.f_eq]
 by_cases hlt:p<s.length
 ·have hone:=At.one hlt
  rw [dF (by omega),cF,aP hlt]
  simp only [bS]
  have byte:∀b:UInt8,s[p]=b→eX [b]→∃r,(some (IntKind.i64.wrap ((p:Int)+1)):Option Int)=some r∧(r=-1∨∃v,Tx d v∧At s p v∧r=((p+v.length:Nat):Int)):=by
   intro b hb hl
   rw [bu (by omega)]
   rw [hb] at hone
   exact ⟨_,rfl,.inr ⟨[b],hl.tx d,hone,rfl⟩⟩
  have join:∀b:UInt8,s[p]=b→∀u,At s (p+1) u→At s p (b :: u):=by
   intro b hb u hu
   rw [hb] at hone
   exact hone.join hu
  by_cases h110:s[p]=110
  ·rw [h110,show ((((110:UInt8)).toNat:Int)==110)=true from rfl,cT,cT]
   exact byte 110 h110 .n
  rw [bq h110 (z:=110) rfl,cF]
  by_cases h116:s[p]=116
  ·rw [h116,show ((((116:UInt8)).toNat:Int)==116)=true from rfl,cT,cT]
   exact byte 116 h116 .t
  rw [bq h116 (z:=116) rfl,cF]
  by_cases h102:s[p]=102
  ·rw [h102,show ((((102:UInt8)).toNat:Int)==102)=true from rfl,cT]
   exact byte 102 h102 .f
  rw [bq h102 (z:=102) rfl,cF]
  have upto:∀c:UInt8,s[p]≠c→∃r,aI.f aF k s (p:Int) (c.toNat:Int)=some r∧(r=-1∨∃m,At s (p+1) (m++[c])∧m.length≤20∧r=((p+1+m.length:Nat):Int)):=by
   intro c hc
   obtain ⟨r,h1,h2⟩:=F5 (k:=k) (s:=s) (by omega) (by omega) hp c
   refine ⟨r,h1,h2.imp_right fun ⟨m,m1,m2,m3,m4⟩=>?_⟩
   cases m with
   |nil=>
    have:=m1.get (j:=0) (by simp)
    rw [Nat.add_zero,List.getElem?_eq_getElem hlt] at this
    simp at this
    exact absurd this hc
   |cons b m=>
    have hr:At s (p+1) (m++[c]):=At.right (a:=[b]) m1
    simp only [List.length_cons] at m2 m4
    exact ⟨m,hr,by omega,by rw [m4];congr 1;omega⟩
  by_cases h105:s[p]=105
  ·rw [h105,show ((((105:UInt8)).toNat:Int)==105)=true from rfl,cT]
   obtain ⟨r,hr,hr'⟩:=upto 59 (by rw [h105];decide)
   rw [show ((59:Int))=((59:UInt8).toNat:Int) from rfl,hr,bS]
   rcases hr' with rfl|⟨m,m1,m2,rfl⟩
   ·exact no
   ·have hle:=m1.le
    rw [List.length_append,List.length_singleton] at hle
    have hsl:=m1.left.slice
    rw [dF (by omega),cF,bu (by omega),dT (by omega),dT (by omega),dT (by omega),dT (by omega)]
    simp only [Bool.and_self,cT,Int.toNat_natCast]
    rw [hsl]
    obtain ⟨y,b,hw,hy,hb⟩:=wl (k:=k) (by omega) (s:=m) (by omega)
    rw [hw,bS]
    cases b with
    |false=>exact no
    |true=>
     have hm:=hb rfl
     rw [Bool.not_true,cF,bu (by omega)]
     refine ⟨_,rfl,.inr ⟨gd y,(eX.i y hy.1 hy.2).tx d,?_,?_⟩⟩
     ·have:=join 105 h105 _ m1
      rw [hm] at this
      exact this
     ·unfold gd
      rw [←hm]
      simp only [List.length_append,List.length_cons,List.length_nil]
      congr 1;omega
  rw [bq h105 (z:=105) rfl,cF]
  by_cases h115:s[p]=115
  ·rw [h115,show ((((115:UInt8)).toNat:Int)==115)=true from rfl,cT]
   obtain ⟨r,hr,hr'⟩:=upto 58 (by rw [h115];decide)
   rw [show ((58:Int))=((58:UInt8).toNat:Int) from rfl,hr,bS]
   rcases hr' with rfl|⟨m,m1,m2,rfl⟩
   ·exact no
   ·have hle:=m1.le
    rw [List.length_append,List.length_singleton] at hle
    have hsl:=m1.left.slice
    rw [dF (by omega),cF,bu (by omega),dT (by omega),dT (by omega),dT (by omega),dT (by omega)]
    simp only [Bool.and_self,cT,Int.toNat_natCast]
    rw [hsl]
    obtain ⟨y,b,hw,hy,hb⟩:=wl (k:=k) (by omega) (s:=m) (by omega)
    rw [hw,bS]
    cases b with
    |false=>exact no
    |true=>
     have hm:=hb rfl
     simp only [Bool.not_true,Bool.not_false,cT]
     by_cases hneg:y<0
     ·rw [dT hneg,Bool.not_true,cF];exact no
     rw [dF hneg,Bool.not_false,cT,aK ((s.length:Int) - ((p+1+m.length:Nat):Int)) (by omega),aK _ (by omega)]
     by_cases hbig:y>(s.length:Int) - ((p+1+m.length:Nat):Int) - 1
     ·rw [dT hbig,cT];exact no
     obtain ⟨y',rfl⟩:∃q:Nat,y=(q:Int):=⟨y.toNat,by omega⟩
     rw [dF hbig,cF,bu (by omega),aK _ (by omega)]
     have hq:p+1+m.length+1+y'≤s.length:=by omega
     have hbody:=At.of_take (s:=s) (p:=p+1+m.length+1) (q:=p+1+m.length+1+y') (by omega) hq
     have hbl:((s.take (p+1+m.length+1+y')).drop (p+1+m.length+1)).length=y':=by rw [List.length_drop,List.length_take];omega
     generalize hl:(s.take (p+1+m.length+1+y')).drop (p+1+m.length+1)=l at hbody hbl
     have hmd:m=nG l.length:=by rw [hm,hbl];exact kB y'
     have hall:=join 115 h115 _ (m1.join (by rw [List.length_append,List.length_singleton];exact hbody))
     refine ⟨_,rfl,.inr ⟨ct l,(eX.s l (by omega)).tx d,?_,?_⟩⟩
     ·rw [hmd] at hall
      unfold ct
      simpa using hall
     ·unfold ct
      rw [←hmd]
      simp only [List.length_append,List.length_cons,List.length_nil,hbl]
      omega
  rw [bq h115 (z:=115) rfl,cF]
  by_cases h91:s[p]=91
  ·rw [h91,show ((((91:UInt8)).toNat:Int)==91)=true from rfl,cT,cT,bu (by omega),show IntKind.u8.wrap ((((91:UInt8)).toNat:Int)+2)=(((93:UInt8)).toNat:Int) from by decide]
   obtain ⟨r,hr,hr'⟩:=row 93 (.inl rfl) k rfl (p+1) (by omega)
   rw [hr]
   refine ⟨r,rfl,hr'.imp_right fun ⟨us,h1,h2,h3⟩=>⟨gC us,h1.list,?_,?_⟩⟩
   ·have:=join 91 h91 _ h2
    unfold gC
    simpa using this
   ·rw [h3];unfold gC
    simp only [List.length_append,List.length_cons,List.length_nil]
    congr 1;omega
  rw [bq h91 (z:=91) rfl,cF]
  by_cases h123:s[p]=123
  ·rw [h123,show ((((123:UInt8)).toNat:Int)==123)=true from rfl,cT,bu (by omega),show IntKind.u8.wrap ((((123:UInt8)).toNat:Int)+2)=(((125:UInt8)).toNat:Int) from by decide]
   obtain ⟨r,hr,hr'⟩:=row 125 (.inr rfl) k rfl (p+1) (by omega)
   rw [hr]
   refine ⟨r,rfl,hr'.imp_right fun ⟨us,h1,h2,h3⟩=>⟨dA us,h1.struct,?_,?_⟩⟩
   ·have:=join 123 h123 _ h2
    unfold dA
    simpa using this
   ·rw [h3];unfold dA
    simp only [List.length_append,List.length_cons,List.length_nil]
    congr 1;omega
  rw [bq h123 (z:=123) rfl,cF]
  exact no
 ·rw [dT (by omega),cT]
  exact no
theorem G6:∀(d:Nat),d≤50→∀{k:Nat},100200+d≤k→∀{s:List UInt8},s.length≤100000→∀{p:Nat},p≤s.length→
  ∃r,ai.f aF k s (p:Int) (d:Int)=some r∧(r=-1∨∃v,Tx d v∧At s p v∧r=((p+v.length:Nat):Int)):=by
 intro d
 induction d with
 |zero=>
  intro _ k hk s hs p hp
  refine zj (d:=0) hk hs hp fun c _ k' hk' q hq=>?_
  obtain ⟨k',rfl⟩:∃q,k'=q+1:=⟨k' - 1,by omega⟩
  obtain ⟨r,h1,h2⟩:=GL (k:=k'+1) (n:=k') hs (q:=q) c
  exact ⟨r,h1,h2.imp_right fun ⟨h3,h4⟩=>⟨[],rfl,h3,h4⟩⟩
 |succ d ih=>
  intro hd k hk s hs p hp
  refine zj (d:=d+1) (by omega) hs hp fun c hc k' hk' q hq=>?_
  exact IX hs (p:=q) (by omega) c hc (fun q' hq'=>ih (by omega) (by omega) hs hq') (s.length - q) q k' [] (by omega) (by omega) (fun w hw=>by cases hw) ⟨s.take q,s.drop q,by simp,by rw [List.length_take];omega⟩ (by simp)
inductive g8:List UInt8→Int→List (List UInt8)→Prop
 |n:g8 [110] (-1) []
 |i (x:Int) (h:fe x):g8 (gd x) 0 [cB x]
 |b (b:Bool):g8 (jz b) 1 [jz b]
 |s (l:List UInt8):g8 (ct l) 2 [l]
 |l (vs:List (List UInt8)) (h:∀w∈vs,Tx 3 w):g8 (gC vs) 3 vs
 |r (vs:List (List UInt8)) (h:∀w∈vs,Tx 3 w):g8 (dA vs) 4 vs
theorem lc {k:Nat}(hk:100301≤k){x:Int}(h:fe x):ah.f aF k (gd x)=some (0,[cB x],0):=by
 obtain ⟨h0,h1⟩:=h
 obtain ⟨k,rfl⟩:∃q,k=q+1:=⟨k - 1,by omega⟩
 obtain ⟨c1,_⟩:=jv h0 h1
 have hlen:(gd x).length=(cB x).length+2:=by unfold gd;simp only [List.length_append,List.length_cons,List.length_nil];omega
 have:=jg (k:=k) (by omega) ((eX.i x h0 h1).tx 4) (by omega)
 have hh:At (gd x) 0 (105 :: (cB x++[59])):=At.whole _
 have hd:=hh.head
 rw [show ((0:Nat):Int)=0 from rfl] at hd
 have hs:At (gd x) 1 (cB x++[59]):=At.right (a:=[105]) hh
 have hsl:=hs.left.slice
 rw [ah.f_eq,dF (by omega),Bool.not_false,cT,this,bS,show (((gd x).length:Int) != ((gd x).length:Int))=false by simp,cF,hd,bS,show (((105:UInt8).toNat:Int))=105 from rfl]
 simp only [show ((105:Int)==110)=false from by decide,BEq.rfl,cT,cF]
 rw [aK _ (by omega),dT (by omega),dT (by omega),dT (show (0:Nat)≤1 by omega),dT (by omega)]
 simp only [Bool.and_self,cT]
 rw [show ((((gd x).length:Nat):Int) - 1).toNat=1+(cB x).length by omega,hsl]
theorem sA {k:Nat}(hk:100301≤k){v:List UInt8}{kd:Int}{ps:List (List UInt8)}(h:g8 v kd ps)(hl:v.length≤65536):ah.f aF k v=some (kd,ps,0):=by
 cases h with
 |n=>exact C9 hk
 |i x h=>exact lc hk h
 |b b=>exact vw hk b
 |s l=>exact py hk hl
 |l vs h=>
  have:=wT hk (d:=3) (by omega) h true (by unfold gC at hl;simp only [List.length_append,List.length_cons,List.length_nil] at hl;omega)
  simpa using this
 |r vs h=>
  have:=wT hk (d:=3) (by omega) h false (by unfold dA at hl;simp only [List.length_append,List.length_cons,List.length_nil] at hl;omega)
  simpa using this
theorem Tx.shape {v:List UInt8}(h:Tx 4 v):∃kd ps,g8 v kd ps:=by
 rcases h with h|⟨vs,hvs,rfl|rfl⟩
 ·cases h with
  |n=>exact ⟨_,_,.n⟩
  |t=>exact ⟨_,_,.b true⟩
  |f=>exact ⟨_,_,.b false⟩
  |i x h0 h1=>exact ⟨_,_,.i x ⟨h0,h1⟩⟩
  |s l=>exact ⟨_,_,.s l⟩
 ·exact ⟨_,_,.l vs hvs⟩
 ·exact ⟨_,_,.r vs hvs⟩
theorem C3 {k:Nat}(hk:100301≤k)(v:List UInt8):ah.f aF k v=some (0,[],700)∨∃kd ps,g8 v kd ps∧v.length≤65536∧ah.f aF k v=some (kd,ps,0):=by
 by_cases hl:v.length≤65536
 ·obtain ⟨r,hr,hr'⟩:=G6 4 (by omega) (k:=k - 1) (by omega) (s:=v) (by omega) (p:=0) (by omega)
  by_cases he:r=(v.length:Int)
  ·right
   rcases hr' with rfl|⟨u,hu,hat,e⟩
   ·omega
   ·have hs:=hat.slice
    rw [Nat.zero_add,show u.length=v.length by omega,List.take_length,List.drop_zero] at hs
    subst hs
    obtain ⟨kd,ps,h⟩:=hu.shape
    exact ⟨kd,ps,h,hl,sA hk h hl⟩
  ·left
   obtain ⟨k,rfl⟩:∃q,k=q+1:=⟨k - 1,by omega⟩
   rw [Nat.add_sub_cancel,show ((0:Nat):Int)=0 from rfl,show ((4:Nat):Int)=4 from rfl] at hr
   rw [ah.f_eq,dF (by omega),Bool.not_false,cT,hr,bS,show (r != (v.length:Int))=true by rw [bne_iff_ne];exact he,cT]
 ·left
  obtain ⟨k,rfl⟩:∃q,k=q+1:=⟨k - 1,by omega⟩
  rw [ah.f_eq,dT (by omega),Bool.not_true,cF]
inductive Vl where
 |n
 |i (x:Int)
 |b (b:Bool)
 |s (l:List UInt8)
 |l (vs:List Vl)
 |r (vs:List Vl)
mutual
def Vl.txt:Vl→List UInt8
 |.n=>[110]
 |.i x=>gd x
 |.b c=>jz c
 |.s y=>ct y
 |.l vs=>[91]++Vl.txts vs++[93]
 |.r vs=>[123]++Vl.txts vs++[125]
def Vl.txts:List Vl→List UInt8
 |[]=>[]
 |v :: vs=>v.txt++Vl.txts vs
end
theorem uk:∀vs:List Vl,Vl.txts vs=(vs.map Vl.txt).flatten
 |[]=>by simp [Vl.txts]
 |v :: vs=>by rw [Vl.txts,uk vs];rfl
theorem BN (vs:List Vl):(Vl.l vs).txt=gC (vs.map Vl.txt):=by rw [Vl.txt,uk];rfl
theorem Bi (vs:List Vl):(Vl.r vs).txt=dA (vs.map Vl.txt):=by rw [Vl.txt,uk];rfl
def ja:Nat→List bc→Int→Vl→Prop
 |0,_,_,_=>False
 |f+1,t,a,v=>cw t a=true∧match v with
  |.n=>zK t a.toNat=true
  |.i x=>dy t a.toNat=0∧fe x
  |.b _=>dy t a.toNat=1
  |.s l=>dy t a.toNat=2∧l.length≤16
  |.l vs=>dy t a.toNat=3∧vs.length≤64∧∀w∈vs,ja f t (ya t a 0) w
  |.r vs=>dy t a.toNat=4∧vs.length=(bH t a).length∧∀j (h:j<vs.length),ja f t (ya t a j) vs[j]
theorem HW {t:List bc}(hm:jd t=true){i:Nat}(hi:i<t.length)(h:dy t i=3):(bH t (i:Int)).length=1:=by
 have:=(((iG t).1 hm).2.2 i hi).1
 unfold m6 at this
 rw [h] at this
 simp only [Bool.and_eq_true,Bool.or_eq_true,Bool.not_eq_true',beq_eq_false_iff_ne,beq_iff_eq] at this
 rcases this.1 with h|h
 ·exact absurd rfl h
 ·exact h
theorem LN {t:List bc}(hm:jd t=true){i:Nat}(hi:i<t.length)(h:dy t i=4):0<(bH t (i:Int)).length:=by
 have:=(((iG t).1 hm).2.2 i hi).1
 unfold m6 at this
 rw [h] at this
 simp only [Bool.and_eq_true,Bool.or_eq_true,Bool.not_eq_true',beq_eq_false_iff_ne] at this
 rcases this.2 with h|h
 ·simp at h
 ·omega
theorem ja.tx:∀(f:Nat) {t:List bc}{a:Int}{v:Vl},ja f t a v→Tx (dp t a) v.txt
 |0,_,_,_,h=>h.elim
 |f+1,t,a,v,h=>by
  obtain ⟨hn,h⟩:=h
  obtain ⟨hm,i,hi,rfl⟩:=c6 hn
  rw [Int.toNat_natCast] at h
  cases v with
  |n=>rw [Vl.txt];exact eX.n.tx _
  |i x=>rw [Vl.txt];exact (eX.i x h.2.1 h.2.2).tx _
  |b b=>
   rw [Vl.txt]
   cases b with
   |false=>exact eX.f.tx _
   |true=>exact eX.t.tx _
  |s l=>rw [Vl.txt];exact (eX.s l (by have:=h.2;omega)).tx _
  |l vs=>
   obtain ⟨h3,h64,h⟩:=h
   rw [BN,qn hm (i:=i) (j:=0) (by rw [HW hm hi h3];omega)]
   refine .inr ⟨_,fun w hw=>?_,.inl rfl⟩
   obtain ⟨u,hu,rfl⟩:=List.mem_map.1 hw
   exact (h u hu).tx f
  |r vs=>
   obtain ⟨h4,hl,h⟩:=h
   have hk:=LN hm hi h4
   rw [Bi,qn hm (i:=i) (j:=0) hk]
   refine .inr ⟨_,fun w hw=>?_,.inr rfl⟩
   obtain ⟨u,hu,rfl⟩:=List.mem_map.1 hw
   obtain ⟨j,hj,rfl⟩:=List.mem_iff_getElem.1 hu
   have:=(h j hj).tx f
   have e1:=qn hm (i:=i) (j:=0) hk
   have e2:=qn hm (i:=i) (j:=j) (by omega)
   rw [show dp t (ya t (i:Int) 0)=dp t (ya t (i:Int) j) by omega]
   exact this
def Vl.kd:Vl→Int
 |.n=>-1|.i _=>0|.b _=>1|.s _=>2|.l _=>3|.r _=>4
def Vl.ps:Vl→List (List UInt8)
 |.n=>[]|.i x=>[cB x]|.b c=>[jz c]|.s y=>[y]|.l vs=>vs.map Vl.txt|.r vs=>vs.map Vl.txt
theorem ja.shape {f:Nat}{t:List bc}{a:Int}{v:Vl}(h:ja f t a v):g8 v.txt v.kd v.ps:=by
 have htx:=h.tx f
 cases f with
 |zero=>exact h.elim
 |succ f=>
  obtain ⟨hn,h⟩:=h
  obtain ⟨hm,i,hi,rfl⟩:=c6 hn
  have hd:=LZ hm hi
  rw [Int.toNat_natCast] at h
  cases v with
  |n=>rw [Vl.txt];exact .n
  |i x=>rw [Vl.txt];exact .i x h.2
  |b b=>rw [Vl.txt];exact .b b
  |s l=>rw [Vl.txt];exact .s l
  |l vs=>
   rw [BN]
   refine g8.l (vs.map Vl.txt) fun w hw=>?_
   obtain ⟨u,hu,rfl⟩:=List.mem_map.1 hw
   have e:=qn hm (i:=i) (j:=0) (by rw [HW hm hi h.1];omega)
   exact ((h.2.2 u hu).tx f).up (by omega)
  |r vs=>
   rw [Bi]
   refine g8.r (vs.map Vl.txt) fun w hw=>?_
   obtain ⟨u,hu,rfl⟩:=List.mem_map.1 hw
   obtain ⟨j,hj,rfl⟩:=List.mem_iff_getElem.1 hu
   have e:=qn hm (i:=i) (j:=j) (by have:=h.2.1;omega)
   exact ((h.2.2 j hj).tx f).up (by omega)
theorem wG {k:Nat}(hk:100≤k){t:List bc}{i:Nat}(hn:cw t (i:Int)=true)(hi:i<t.length){v:List UInt8}{kd:Int}{ps:List (List UInt8)}(hp:ah.f aF k v=some (kd,ps,0))(h0:kd<0):af.f aF (k+1) t (i:Int) v=some (zK t i):=by
 rw [af.f_eq,b7 (by omega),bS,hn,Bool.not_true,cF,aP hi,bS,hp,bS]
 simp only
 rw [show ((0:Int) != 0)=false from rfl,cF,jf hi,dT h0,cT]
theorem mq {k:Nat}(hk:100≤k){t:List bc}{i:Nat}(hn:cw t (i:Int)=true)(hi:i<t.length){v:List UInt8}{kd:Int}{ps:List (List UInt8)}(hp:ah.f aF k v=some (kd,ps,0))(h0:0≤kd)(hkd:kd≠dy t i):af.f aF (k+1) t (i:Int) v=some false:=by
 rw [af.f_eq,b7 (by omega),bS,hn,Bool.not_true,cF,aP hi,bS,hp,bS]
 simp only
 rw [show ((0:Int) != 0)=false from rfl,cF,jf hi,dF (by omega),cF,gq (by omega),bS,d5 hi]
 unfold mi
 rw [if_pos hn]
 simp only
 rw [show (kd != dy t i)=true by rw [bne_iff_ne];exact hkd,Bool.not_true,cF]
theorem iL {k:Nat}(hk:100≤k){t:List bc}{i:Nat}(hn:cw t (i:Int)=true)(hi:i<t.length){v:List UInt8}{kd:Int}{ps:List (List UInt8)}(hp:ah.f aF k v=some (kd,ps,0))(h0:0≤kd)(hkd:kd=dy t i)(h2:kd<2):af.f aF (k+1) t (i:Int) v=some true:=by
 rw [af.f_eq,b7 (by omega),bS,hn,Bool.not_true,cF,aP hi,bS,hp,bS]
 simp only
 rw [show ((0:Int) != 0)=false from rfl,cF,jf hi,dF (by omega),cF,gq (by omega),bS,d5 hi]
 unfold mi
 rw [if_pos hn]
 simp only
 obtain ⟨k,rfl⟩:∃q,k=q+1:=⟨k - 1,by omega⟩
 rw [show (kd != dy t i)=false by rw [hkd];simp,Bool.not_false,cT,show (kd==2)=false by rw [beq_eq_false_iff_ne];omega,cF,show (kd==3)=false by rw [beq_eq_false_iff_ne];omega,cF,show (kd==4)=false by rw [beq_eq_false_iff_ne];omega,cF,
  wX (by omega) (by unfold c8;rw [show (kd==3)=false by rw [beq_eq_false_iff_ne];omega,show (kd==4)=false by rw [beq_eq_false_iff_ne];omega];rfl)]
theorem uG {k:Nat}(hk:100≤k){t:List bc}{i:Nat}(hn:cw t (i:Int)=true)(hi:i<t.length){v:List UInt8}{l:List UInt8}(hp:ah.f aF k v=some (2,[l],0))(hkd:dy t i=2):af.f aF (k+1) t (i:Int) v=some (decide (l.length≤16)):=by
 rw [af.f_eq,b7 (by omega),bS,hn,Bool.not_true,cF,aP hi,bS,hp,bS]
 simp only
 rw [show ((0:Int) != 0)=false from rfl,cF,jf hi,dF (by omega),cF,gq (by omega),bS,d5 hi]
 unfold mi
 rw [if_pos hn]
 simp only
 obtain ⟨k,rfl⟩:∃q,k=q+1:=⟨k - 1,by omega⟩
 rw [show ((2:Int) != dy t i)=false by rw [hkd];rfl,Bool.not_false,cT,show ((2:Int)==2)=true from rfl,cT,show (decide ((0:Nat)≤0)&&decide ((0:Int)<(([l]:List (List UInt8)).length:Int)))=true from rfl,cT,show ([l]:List (List UInt8))[0]?=some l from rfl,bS]
 by_cases hl:l.length≤16
 ·rw [dF (by omega),Bool.not_false,cT,show ((2:Int)==3)=false from rfl,cF,show ((2:Int)==4)=false from rfl,cF,wX (by omega) rfl,dT hl]
 ·rw [dT (show ((l.length:Int))>16 by omega),Bool.not_true,cF,dF hl]
theorem wV {k:Nat}(hk:100≤k){t:List bc}{i:Nat}(hn:cw t (i:Int)=true)(hi:i<t.length){v:List UInt8}{ps:List (List UInt8)}(hp:ah.f aF k v=some (3,ps,0))(hkd:dy t i=3):af.f aF (k+1) t (i:Int) v=if 64<ps.length then some false else af.l0 aF k k 3 0 t ps (bH t (i:Int)):=by
 rw [af.f_eq,b7 (by omega),bS,hn,Bool.not_true,cF,aP hi,bS,hp,bS]
 simp only
 rw [show ((0:Int) != 0)=false from rfl,cF,jf hi,dF (by omega),cF,gq (by omega),bS,d5 hi]
 unfold mi
 rw [if_pos hn]
 simp only
 rw [show ((3:Int) != dy t i)=false by rw [hkd];rfl,Bool.not_false,cT,show ((3:Int)==2)=false from rfl,cF,show ((3:Int)==3)=true from rfl,cT]
 by_cases hl:64<ps.length
 ·rw [dT (by omega),Bool.not_true,cF,if_pos hl]
 ·rw [dF (by omega),Bool.not_false,cT,if_neg hl]
  rfl
theorem sa {k:Nat}(hk:100≤k){t:List bc}{i:Nat}(hn:cw t (i:Int)=true)(hi:i<t.length){v:List UInt8}{ps:List (List UInt8)}(hp:ah.f aF k v=some (4,ps,0))(hkd:dy t i=4):af.f aF (k+1) t (i:Int) v=if ps.length=(bH t (i:Int)).length then af.l0 aF k k 4 0 t ps (bH t (i:Int)) else some false:=by
 rw [af.f_eq,b7 (by omega),bS,hn,Bool.not_true,cF,aP hi,bS,hp,bS]
 simp only
 rw [show ((0:Int) != 0)=false from rfl,cF,jf hi,dF (by omega),cF,gq (by omega),bS,d5 hi]
 unfold mi
 rw [if_pos hn]
 simp only
 rw [show ((4:Int) != dy t i)=false by rw [hkd];rfl,Bool.not_false,cT,show ((4:Int)==2)=false from rfl,cF,show ((4:Int)==3)=false from rfl,cF,show ((4:Int)==4)=true from rfl,cT]
 by_cases hl:ps.length=(bH t (i:Int)).length
 ·rw [show ((ps.length:Int) != ((bH t (i:Int)).length:Int))=false by rw [hl];simp,cF,if_pos hl]
 ·rw [show ((ps.length:Int) != ((bH t (i:Int)).length:Int))=true by rw [bne_iff_ne];omega,cT,if_neg hl]
theorem qG:∀(f:Nat) {t:List bc}{a:Int}{v:Vl},ja f t a v→v.txt.length≤65536→∀k,100400+f≤k→af.f aF k t a v.txt=some true
 |0,_,_,_,h,_,_,_=>h.elim
 |f+1,t,a,v,h,hlen,k,hk=>by
  have hsh:=h.shape
  obtain ⟨hn,h⟩:=h
  obtain ⟨hm,i,hi,rfl⟩:=c6 hn
  rw [Int.toNat_natCast] at h
  obtain ⟨k,rfl⟩:∃q,k=q+1:=⟨k - 1,by omega⟩
  obtain ⟨k,rfl⟩:∃q,k=q+1:=⟨k - 1,by omega⟩
  have hp:=sA (k:=k+1) (by omega) hsh hlen
  cases v with
  |n=>rw [wG (by omega) hn hi hp (by decide),h]
  |i x=>
   exact iL (by omega) hn hi hp (show (0:Int)≤0 by decide) h.1.symm (show (0:Int)<2 by decide)
  |b b=>
   exact iL (by omega) hn hi hp (show (0:Int)≤1 by decide) h.symm (show (1:Int)<2 by decide)
  |s l=>
   rw [uG (by omega) hn hi hp h.1,dT h.2]
  |l vs=>
   obtain ⟨h3,h64,h⟩:=h
   have h1:=HW hm hi h3
   rw [BN] at hlen
   have hlen':(vs.map Vl.txt).flatten.length+2=(gC (vs.map Vl.txt)).length:=by unfold gC;simp only [List.length_append,List.length_cons,List.length_nil];omega
   rw [wV (by omega) hn hi hp h3,if_neg (by simp only [Vl.ps];rw [List.length_map];omega)]
   simp only [Vl.ps]
   have hks0:=nD (t:=t) (a:=(i:Int)) (j:=0) (by omega)
   refine cN (F:=fun n j=>af.l0 aF (k+1) n 3 (j:Int) t (vs.map Vl.txt) (bH t (i:Int))) (N:=vs.length) ?_ ?_ (k+1) 0 (by omega) (by omega)
   ·intro n j hj
    have hw:=h vs[j] (List.getElem_mem hj)
    have hwl:vs[j].txt.length≤(vs.map Vl.txt).flatten.length:=by
     have:=iT (vs:=vs.map Vl.txt) (j+1)
     rw [nf (by rw [List.length_map];exact hj),List.getElem_map] at this
     omega
    have e1:(decide ((0:Nat)≤0)&&decide ((0:Int)<((bH t (i:Int)).length:Int)))=true:=by rw [h1];decide
    rw [af.l0_eq,dT (by rw [List.length_map];omega),cT,ej (by omega),bS,show (!(!c8 3))=true from rfl,cT,e1,cT,hks0,bS,show ((3:Int)==4)=false from rfl,cF,dT (by omega)]
    simp only [Bool.and_self,cT,Int.toNat_natCast]
    rw [List.getElem?_eq_getElem (by rw [List.length_map];exact hj),bS,List.getElem_map,qG f hw (by omega) _ (by omega),bS,Bool.not_true,cF,bu (by omega)]
   ·intro n
    rw [af.l0_eq,dF (by rw [List.length_map];omega),cF]
  |r vs=>
   obtain ⟨h4,hvl,h⟩:=h
   have hk0:=LN hm hi h4
   rw [Bi] at hlen
   have hlen':(vs.map Vl.txt).flatten.length+2=(dA (vs.map Vl.txt)).length:=by unfold dA;simp only [List.length_append,List.length_cons,List.length_nil];omega
   rw [sa (by omega) hn hi hp h4,if_pos (by simp only [Vl.ps];rw [List.length_map];exact hvl)]
   simp only [Vl.ps]
   have hkk:=gY t (i:Int) t.length
   have htl:=fo hm
   have hkl:(bH t (i:Int)).length≤8:=by unfold bH;omega
   have hks0:=nD (t:=t) (a:=(i:Int)) (j:=0) (by omega)
   refine cN (F:=fun n j=>af.l0 aF (k+1) n 4 (j:Int) t (vs.map Vl.txt) (bH t (i:Int))) (N:=vs.length) ?_ ?_ (k+1) 0 (by omega) (by omega)
   ·intro n j hj
    have hw:=h j hj
    have hwl:vs[j].txt.length≤(vs.map Vl.txt).flatten.length:=by
     have:=iT (vs:=vs.map Vl.txt) (j+1)
     rw [nf (by rw [List.length_map];exact hj),List.getElem_map] at this
     omega
    have hksj:=nD (t:=t) (a:=(i:Int)) (j:=j) (by omega)
    have e1:(decide ((0:Nat)≤0)&&decide ((0:Int)<((bH t (i:Int)).length:Int)))=true:=by rw [dT (show (0:Nat)≤0 by omega),dT (by omega)];rfl
    rw [af.l0_eq,dT (by rw [List.length_map];omega),cT,ej (by omega),bS,show (!(!c8 4))=true from rfl,cT,e1,cT,hks0,bS,show ((4:Int)==4)=true from rfl,cT,dT (show (j:Int)<((bH t (i:Int)).length:Int) by omega),dT (show (0:Int)≤(j:Int) by omega)]
    simp only [Bool.and_self,cT,Int.toNat_natCast]
    rw [hksj,bS,List.getElem?_eq_getElem (by rw [List.length_map];exact hj),bS,List.getElem_map,qG f hw (by omega) _ (by omega),bS,Bool.not_true,cF,bu (by omega)]
   ·intro n
    rw [af.l0_eq,dF (by rw [List.length_map];omega),cF]
theorem tg {α β:Type}{g:α→β}{p:α→Prop}:∀(l:List β),(∀y∈l,∃x,p x∧y=g x)→∃m:List α,l=m.map g∧∀x∈m,p x
 |[],_=>⟨[],rfl,fun x hx=>by cases hx⟩
 |y :: l,h=>by
  obtain ⟨x,hx,rfl⟩:=h y List.mem_cons_self
  obtain ⟨m,rfl,hm⟩:=tg l fun z hz=>h z (List.mem_cons_of_mem _ hz)
  exact ⟨x :: m,rfl,fun z hz=>by
   rcases List.mem_cons.1 hz with rfl|hz
   ·exact hx
   ·exact hm z hz⟩
theorem nP {α β:Type}{g:α→β}{p:Nat→α→Prop}:∀(l:List β) (o:Nat),(∀j (h:j<l.length),∃x,p (o+j) x∧l[j]=g x)→∃m:List α,l=m.map g∧∀j (h:j<m.length),p (o+j) m[j]
 |[],_,_=>⟨[],rfl,fun j h=>by cases h⟩
 |y :: l,o,h=>by
  obtain ⟨x,hx,e⟩:=h 0 (by simp)
  obtain ⟨m,e',hm⟩:=nP (p:=p) l (o+1) fun j hj=>by
   have:=h (j+1) (by simpa using hj)
   rw [show o+(j+1)=o+1+j by omega] at this
   simpa using this
  refine ⟨x :: m,by rw [List.map_cons,←e',←e];rfl,fun j hj=>?_⟩
  cases j with
  |zero=>exact hx
  |succ j=>
   have:=hm j (by simpa using hj)
   rw [show o+1+j=o+(j+1) by omega] at this
   simpa using this
theorem uZ:∀(f:Nat) {t:List bc}{a:Int} (v:List UInt8),t.length - a.toNat<f→∀k,100400+f≤k→
  ∃b,af.f aF k t a v=some b∧(b=true→∃V,ja f t a V∧v=V.txt∧v.length≤65536)
 |0,_,_,_,h,_,_=>by omega
 |f+1,t,a,v,hf,k,hk=>by
  obtain ⟨k,rfl⟩:∃q,k=q+1:=⟨k - 1,by omega⟩
  have no:∃b,(some false:Option Bool)=some b∧(b=true→∃V,ja (f+1) t a V∧v=V.txt∧v.length≤65536):=⟨false,rfl,fun e=>by cases e⟩
  cases hn:cw t a with
  |false=>
   rw [af.f_eq,b7 (by omega),bS,hn,Bool.not_false,cT]
   exact no
  |true=>
   obtain ⟨hm,i,hi,rfl⟩:=c6 hn
   have htl:=fo hm
   rw [Int.toNat_natCast] at hf
   rcases C3 (k:=k) (by omega) v with hp|⟨kd,ps,hsh,hlen,hp⟩
   ·rw [af.f_eq,b7 (by omega),bS,hn,Bool.not_true,cF,aP hi,bS,hp,bS]
    exact no
   ·obtain ⟨k,rfl⟩:∃q,k=q+1:=⟨k - 1,by omega⟩
    have yes:∀V:Vl,ja (f+1) t (i:Int) V→v=V.txt→∃V,ja (f+1) t (i:Int) V∧v=V.txt∧v.length≤65536:=fun V hV e=>⟨V,hV,e,hlen⟩
    cases hsh with
    |n=>
     rw [wG (by omega) hn hi hp (by decide)]
     exact ⟨_,rfl,fun e=>yes .n ⟨hn,e⟩ (by rw [Vl.txt])⟩
    |i x hx=>
     by_cases hk0:(0:Int)=dy t i
     ·rw [iL (by omega) hn hi hp (by decide) hk0 (by decide)]
      exact ⟨_,rfl,fun _=>yes (.i x) ⟨hn,hk0.symm,hx⟩ (by rw [Vl.txt])⟩
     ·rw [mq (by omega) hn hi hp (by decide) hk0];exact no
    |b c=>
     by_cases hk0:(1:Int)=dy t i
     ·rw [iL (by omega) hn hi hp (by decide) hk0 (by decide)]
      exact ⟨_,rfl,fun _=>yes (.b c) ⟨hn,hk0.symm⟩ (by rw [Vl.txt])⟩
     ·rw [mq (by omega) hn hi hp (by decide) hk0];exact no
    |s l=>
     by_cases hk0:(2:Int)=dy t i
     ·rw [uG (by omega) hn hi hp hk0.symm]
      exact ⟨_,rfl,fun e=>yes (.s l) ⟨hn,hk0.symm,of_decide_eq_true e⟩ (by rw [Vl.txt])⟩
     ·rw [mq (by omega) hn hi hp (by decide) hk0];exact no
    |l vs hvs=>
     by_cases hk0:(3:Int)=dy t i
     ·rw [wV (by omega) hn hi hp hk0.symm]
      by_cases hl:64<ps.length
      ·rw [if_pos hl];exact no
      ·rw [if_neg hl]
       have h1:=HW hm hi hk0.symm
       have hks0:=nD (t:=t) (a:=(i:Int)) (j:=0) (by omega)
       obtain ⟨q,hq1,hq2,hq3⟩:=Ei hm (i:=i) (j:=0) (by omega)
       have key:∀(d j n:Nat),j+d=ps.length→d+1≤n→∃b,af.l0 aF (k+1) n 3 (j:Int) t ps (bH t (i:Int))=some b∧(b=true→∀r (hr:r<ps.length),j≤r→∃V,ja f t (ya t (i:Int) 0) V∧ps[r]=V.txt):=by
        intro d
        induction d with
        |zero=>
         intro j n hj hn'
         obtain ⟨n,rfl⟩:∃q,n=q+1:=⟨n - 1,by omega⟩
         rw [af.l0_eq,dF (by omega),cF]
         exact ⟨_,rfl,fun _ r hr hjr=>by omega⟩
        |succ d ih=>
         intro j n hj hn'
         obtain ⟨n,rfl⟩:∃q,n=q+1:=⟨n - 1,by omega⟩
         have hjl:j<ps.length:=by omega
         have e1:(decide ((0:Nat)≤0)&&decide ((0:Int)<((bH t (i:Int)).length:Int)))=true:=by rw [h1];decide
         obtain ⟨b,hb,hb'⟩:=uZ f (t:=t) (a:=ya t (i:Int) 0) ps[j] (by rw [hq1,Int.toNat_natCast];omega) (k+1) (by omega)
         rw [af.l0_eq,dT (by omega),cT,ej (by omega),bS,show (!(!c8 3))=true from rfl,cT,e1,cT,hks0,bS,show ((3:Int)==4)=false from rfl,cF,dT (by omega)]
         simp only [Bool.and_self,cT,Int.toNat_natCast]
         rw [List.getElem?_eq_getElem hjl,bS,hb,bS]
         cases b with
         |false=>exact ⟨false,rfl,fun e=>by cases e⟩
         |true=>
          rw [Bool.not_true,cF,bu (by omega)]
          obtain ⟨b',h',h''⟩:=ih (j+1) n (by omega) (by omega)
          refine ⟨b',h',fun e r hr hjr=>?_⟩
          by_cases hrj:r=j
          ·subst hrj
           obtain ⟨V,hV,he,_⟩:=hb' rfl
           exact ⟨V,hV,he⟩
          ·exact h'' e r hr (by omega)
       obtain ⟨b,hb,hb'⟩:=key ps.length 0 (k+1) (by omega) (by omega)
       refine ⟨b,hb,fun e=>?_⟩
       obtain ⟨Vs,hVs,hT⟩:=tg (g:=Vl.txt) (p:=ja f t (ya t (i:Int) 0)) ps (fun y hy=>by
        obtain ⟨r,hr,rfl⟩:=List.mem_iff_getElem.1 hy
        exact hb' e r hr (Nat.zero_le _))
       exact yes (.l Vs) ⟨hn,hk0.symm,by rw [hVs,List.length_map] at hl;omega,hT⟩ (by rw [BN,hVs])
     ·rw [mq (by omega) hn hi hp (by decide) hk0];exact no
    |r vs hvs=>
     by_cases hk0:(4:Int)=dy t i
     ·rw [sa (by omega) hn hi hp hk0.symm]
      by_cases hl:ps.length=(bH t (i:Int)).length
      ·rw [if_pos hl]
       have h1:=LN hm hi hk0.symm
       have hkk:=gY t (i:Int) t.length
       have hkl:(bH t (i:Int)).length≤8:=by unfold bH;omega
       have hks0:=nD (t:=t) (a:=(i:Int)) (j:=0) (by omega)
       have key:∀(d j n:Nat),j+d=ps.length→d+1≤n→∃b,af.l0 aF (k+1) n 4 (j:Int) t ps (bH t (i:Int))=some b∧(b=true→∀r (hr:r<ps.length),j≤r→∃V,ja f t (ya t (i:Int) r) V∧ps[r]=V.txt):=by
        intro d
        induction d with
        |zero=>
         intro j n hj hn'
         obtain ⟨n,rfl⟩:∃q,n=q+1:=⟨n - 1,by omega⟩
         rw [af.l0_eq,dF (by omega),cF]
         exact ⟨_,rfl,fun _ r hr hjr=>by omega⟩
        |succ d ih=>
         intro j n hj hn'
         obtain ⟨n,rfl⟩:∃q,n=q+1:=⟨n - 1,by omega⟩
         have hjl:j<ps.length:=by omega
         have hksj:=nD (t:=t) (a:=(i:Int)) (j:=j) (by omega)
         obtain ⟨q,hq1,hq2,hq3⟩:=Ei hm (i:=i) (j:=j) (by omega)
         have e1:(decide ((0:Nat)≤0)&&decide ((0:Int)<((bH t (i:Int)).length:Int)))=true:=by rw [dT (show (0:Nat)≤0 by omega),dT (by omega)];rfl
         obtain ⟨b,hb,hb'⟩:=uZ f (t:=t) (a:=ya t (i:Int) j) ps[j] (by rw [hq1,Int.toNat_natCast];omega) (k+1) (by omega)
         rw [af.l0_eq,dT (by omega),cT,ej (by omega),bS,show (!(!c8 4))=true from rfl,cT,e1,cT,hks0,bS,show ((4:Int)==4)=true from rfl,cT,dT (show (j:Int)<((bH t (i:Int)).length:Int) by omega),dT (show (0:Int)≤(j:Int) by omega)]
         simp only [Bool.and_self,cT,Int.toNat_natCast]
         rw [hksj,bS,List.getElem?_eq_getElem hjl,bS,hb,bS]
         cases b with
         |false=>exact ⟨false,rfl,fun e=>by cases e⟩
         |true=>
          rw [Bool.not_true,cF,bu (by omega)]
          obtain ⟨b',h',h''⟩:=ih (j+1) n (by omega) (by omega)
          refine ⟨b',h',fun e r hr hjr=>?_⟩
          by_cases hrj:r=j
          ·subst hrj
           obtain ⟨V,hV,he,_⟩:=hb' rfl
           exact ⟨V,hV,he⟩
          ·exact h'' e r hr (by omega)
       obtain ⟨b,hb,hb'⟩:=key ps.length 0 (k+1) (by omega) (by omega)
       refine ⟨b,hb,fun e=>?_⟩
       obtain ⟨Vs,hVs,hT⟩:=nP (g:=Vl.txt) (p:=fun j V=>ja f t (ya t (i:Int) j) V) ps 0 (fun j hj=>by rw [Nat.zero_add];exact hb' e j hj (Nat.zero_le _))
       exact yes (.r Vs) ⟨hn,hk0.symm,by rw [hVs,List.length_map] at hl;exact hl,fun j hj=>by have:=hT j hj;rwa [Nat.zero_add] at this⟩ (by rw [Bi,hVs])
      ·rw [if_neg hl];exact no
     ·rw [mq (by omega) hn hi hp (by decide) hk0];exact no
theorem Gp {x:Int}:aB .and .u8 x 1=x % 2:=by
 rw [jy,zL]
 have e1:(1 % (2 ^ IntKind.u8.bits:Int)).toNat=1:=by decide
 rw [e1,Nat.and_one_is_mod]
 simp only [IntKind.bits]
 omega
theorem nh (x:Int)(n:Nat):Int.fdiv x (2 ^ n)=x / 2 ^ n:=Int.fdiv_eq_ediv_of_nonneg _ (Int.le_of_lt (Int.pow_pos (by omega)))
def en (xs:List Bool)(q:Nat):Nat→Nat
 |0=>0
 |n+1=>en xs q n+(if xs[8*q+n]?=some true then 2 ^ n else 0)
theorem mP (xs:List Bool)(q:Nat):∀n,en xs q n<2 ^ n
 |0=>Nat.one_pos
 |n+1=>by
  have:=mP xs q n
  rw [en,Nat.pow_succ]
  split<;>omega
theorem xa (xs:List Bool)(q:Nat):∀n r,en xs q n / 2 ^ r % 2=if r<n∧xs[8*q+r]?=some true then 1 else 0
 |0,r=>by rw [en,Nat.zero_div,if_neg (by omega)]
 |n+1,r=>by
  have hlt:=mP xs q n
  have ih:=xa xs q n r
  rw [en]
  by_cases hr:r<n
  ·obtain ⟨d,hd⟩:∃d,n=r+1+d:=⟨n - (r+1),by omega⟩
   have e:∀z:Nat,(en xs q n+2 ^ n*z) / 2 ^ r % 2=en xs q n / 2 ^ r % 2:=by
    intro z
    have:2 ^ n*z=2 ^ r*(2*(2 ^ d*z)):=by rw [hd,Nat.pow_add,Nat.pow_succ];simp only [Nat.mul_assoc]
    rw [this,Nat.add_mul_div_left _ _ (Nat.two_pow_pos r),Nat.add_mul_mod_self_left]
   have h2:(r<n+1∧xs[8*q+r]?=some true)↔(r<n∧xs[8*q+r]?=some true):=by constructor<;>rintro ⟨_,h⟩<;>exact ⟨by omega,h⟩
   have goal:en xs q n / 2 ^ r % 2=if r<n+1∧xs[8*q+r]?=some true then 1 else 0:=by
    rw [ih]
    by_cases hx:xs[8*q+r]?=some true
    ·rw [if_pos ⟨hr,hx⟩,if_pos ⟨by omega,hx⟩]
    ·rw [if_neg (fun h=>hx h.2),if_neg (fun h=>hx h.2)]
   split
   ·have:=e 1;rw [Nat.mul_one] at this;rw [this];exact goal
   ·rw [Nat.add_zero];exact goal
  ·by_cases hrn:r=n
   ·subst hrn
    by_cases hx:xs[8*q+r]?=some true
    ·rw [if_pos hx,if_pos ⟨by omega,hx⟩,Nat.add_div_right _ (Nat.two_pow_pos r),Nat.div_eq_of_lt hlt]
    ·rw [if_neg hx,if_neg (fun h=>hx h.2),Nat.add_zero,Nat.div_eq_of_lt hlt]
   ·have hlt2:en xs q n+(if xs[8*q+n]?=some true then 2 ^ n else 0)<2 ^ r:=by
     have:2 ^ (n+1)≤2 ^ r:=Nat.pow_le_pow_right (by omega) (by omega)
     rw [Nat.pow_succ] at this
     split<;>omega
    rw [Nat.div_eq_of_lt hlt2,if_neg (by omega)]
def dQ (xs:List Bool):List UInt8:=(List.range ((xs.length+7) / 8)).map fun q=>UInt8.ofNat (en xs q 8)
theorem nk (xs:List Bool):(dQ xs).length=(xs.length+7) / 8:=by unfold dQ;rw [List.length_map,List.length_range]
theorem ER (xs:List Bool){i:Nat}(h:i<xs.length):G4 (dQ xs) i=xs[i]:=by
 have hl:=nk xs
 have hq:i / 8<(dQ xs).length:=by omega
 have hb:(dQ xs)[i / 8]=UInt8.ofNat (en xs (i / 8) 8):=by simp [dQ]
 have hlt:en xs (i / 8) 8<256:=mP xs (i / 8) 8
 unfold G4
 rw [List.getElem?_eq_getElem hq,hb]
 simp only
 have e:(UInt8.ofNat (en xs (i / 8) 8)).toNat=en xs (i / 8) 8:=by rw [UInt8.toNat_ofNat'];omega
 have hm:min (i % 8) IntKind.u8.bits=i % 8:=by simp only [IntKind.bits];omega
 rw [e,hm,Gp,nh]
 have e2:((en xs (i / 8) 8:Nat):Int) / 2 ^ (i % 8) % 2=((en xs (i / 8) 8 / 2 ^ (i % 8) % 2:Nat):Int):=by push_cast;rfl
 rw [e2,xa,show 8*(i / 8)+i % 8=i by omega,List.getElem?_eq_getElem h]
 cases xs[i] with
 |true=>rw [if_pos ⟨by omega,rfl⟩];rfl
 |false=>rw [if_neg (by simp)];rfl
theorem F6 {n:Int}(h0:0≤n)(h1:n≤1000000000000000):IntKind.i64.wrap (Int.tdiv (IntKind.i64.wrap (n+7)) 8)=fQ n:=by
 rw [aK (n+7) (by omega),Int.tdiv_eq_ediv_of_nonneg (by omega),aK _ (by omega)];rfl
def cA (xs:List Bool)(i:Nat):List Int:=(List.range ((xs.length+7) / 8)).map fun q=>((en xs q (min 8 (i - 8*q)):Nat):Int)
theorem ux (xs:List Bool):ag (cA xs xs.length)=dQ xs:=by
 unfold ag cA dQ
 rw [List.map_map]
 refine List.map_congr_left fun q hq=>?_
 have hq:=List.mem_range.1 hq
 show UInt8.ofNat (((en xs q (min 8 (xs.length - 8*q)):Nat):Int)).toNat=_
 rw [Int.toNat_natCast]
 congr 1
 by_cases h:8≤xs.length - 8*q
 ·rw [Nat.min_eq_left h]
 ·have key:∀d n,n+d=8→xs.length - 8*q≤n→en xs q n=en xs q 8:=by
   intro d
   induction d with
   |zero=>intro n h1 _;rw [show n=8 by omega]
   |succ d ih=>
    intro n h1 h2
    rw [←ih (n+1) (by omega) (by omega),en,if_neg (by rw [List.getElem?_eq_none (by omega)];simp),Nat.add_zero]
  rw [Nat.min_eq_right (by omega)]
  exact key (8 - (xs.length - 8*q)) _ (by omega) (Nat.le_refl _)
theorem uF (e r:Nat)(hr:r<8)(he:e<2 ^ r):aB .or .u8 (e:Int) (IntKind.u8.wrap (1*2 ^ (min r IntKind.u8.bits)))=((e+2 ^ r:Nat):Int):=by
 have h2:2 ^ r≤128:=by
  have:2 ^ r≤2 ^ 7:=Nat.pow_le_pow_right (by omega) (by omega)
  omega
 have hm:min r IntKind.u8.bits=r:=by simp only [IntKind.bits];omega
 have hp:((2:Int) ^ r)=((2 ^ r:Nat):Int):=by push_cast;rfl
 rw [hm,Int.one_mul,hp,zL,ji]
 have e1:((e:Int) % (2 ^ IntKind.u8.bits:Int)).toNat=e:=by simp only [IntKind.bits];omega
 have e2:((((2 ^ r:Nat):Int) % 256) % (2 ^ IntKind.u8.bits:Int)).toNat=1*2 ^ r:=by simp only [IntKind.bits];omega
 rw [e1,e2,tL e 1 r he,zL]
 omega
theorem iI {xs:List Bool}{i q:Nat}(hq:q<(xs.length+7) / 8):(cA xs i)[q]?=some ((en xs q (min 8 (i - 8*q)):Nat):Int):=by
 unfold cA
 rw [List.getElem?_map,List.getElem?_range hq];rfl
theorem tU {xs:List Bool}{i:Nat}(h:i<xs.length)(hx:xs[i]=true):(cA xs i).set (i / 8) (((en xs (i / 8) (i % 8)+2 ^ (i % 8):Nat)):Int)=cA xs (i+1):=by
 refine List.ext_getElem? fun q=>?_
 by_cases hq:q<(xs.length+7) / 8
 ·rw [List.getElem?_set]
  have hl:i / 8<(cA xs i).length:=by unfold cA;rw [List.length_map,List.length_range];omega
  by_cases hiq:i / 8=q
  ·rw [if_pos hiq,if_pos hl,iI hq,←hiq,show min 8 (i+1 - 8*(i / 8))=i % 8+1 by omega,en,show 8*(i / 8)+i % 8=i by omega,List.getElem?_eq_getElem h,hx,if_pos rfl]
  ·rw [if_neg hiq,iI hq,iI hq]
   congr 3
   omega
 ·rw [List.getElem?_eq_none (by rw [List.length_set];unfold cA;rw [List.length_map,List.length_range];omega),List.getElem?_eq_none (by unfold cA;rw [List.length_map,List.length_range];omega)]
theorem rE {xs:List Bool}{i:Nat}(h:i<xs.length)(hx:xs[i]=false):cA xs i=cA xs (i+1):=by
 unfold cA
 refine List.map_congr_left fun q _=>?_
 congr 1
 by_cases hiq:i / 8=q
 ·rw [←hiq,show min 8 (i+1 - 8*(i / 8))=i % 8+1 by omega,show min 8 (i - 8*(i / 8))=i % 8 by omega,en,show 8*(i / 8)+i % 8=i by omega,List.getElem?_eq_getElem h,hx,if_neg (by simp),Nat.add_zero]
 ·rw [show min 8 (i+1 - 8*q)=min 8 (i - 8*q) by omega]
theorem DI {k:Nat}{xs:List Bool}(hk:xs.length+3≤k)(hl:xs.length≤100000000000000):aU.f aF k xs=some (dQ xs):=by
 obtain ⟨k,rfl⟩:∃q,k=q+1:=⟨k - 1,by omega⟩
 have hb:bT.f aF k ((xs.length:Nat):Int)=some (fQ (xs.length:Int)):=by
  obtain ⟨k,rfl⟩:∃q,k=q+1:=⟨k - 1,by omega⟩
  rw [bT.f_eq,F6 (by omega) (by omega)]
 have hbb:fQ (xs.length:Int)=(((xs.length+7) / 8:Nat):Int):=by unfold fQ;omega
 rw [aU.f_eq,hb,bS,BEq.rfl,hbb,dT (by omega),dT (by omega)]
 simp only [Bool.and_self,cT,Int.toNat_natCast]
 have h0:(List.replicate ((xs.length+7) / 8) (0:Int))=cA xs 0:=by
  unfold cA
  refine List.ext_getElem (by simp) fun q h1 h2=>?_
  simp [en]
 rw [h0,←ux]
 refine cN (F:=fun n i=>aU.l0 aF k n xs (i:Int) (cA xs i)) (N:=xs.length) ?_ ?_ k 0 (by omega) (by omega)
 ·intro n i hi
  have hq:i / 8<(xs.length+7) / 8:=by omega
  have hlen:(cA xs i).length=(xs.length+7) / 8:=by unfold cA;rw [List.length_map,List.length_range]
  have e1:Int.tdiv (i:Int) 8=((i / 8:Nat):Int):=by rw [Int.tdiv_eq_ediv_of_nonneg (by omega)];omega
  have e2:Int.tmod (i:Int) 8=((i % 8:Nat):Int):=by rw [Int.tmod_eq_emod_of_nonneg (by omega)];omega
  rw [aU.l0_eq,dT (by omega),cT,aP hi,bS,bu (by omega)]
  cases hx:xs[i] with
  |false=>rw [cF,rE hi hx]
  |true=>
   rw [cT,e1,e2,aK ((i / 8:Nat):Int) (by omega),dT (show (0:Int)≤((i / 8:Nat):Int) by omega),dT (show ((i / 8:Nat):Int)<((cA xs i).length:Int) by omega),dF (show¬(((i % 8:Nat):Int)<0) by omega)]
   simp only [Bool.and_self,cT,cF,Int.toNat_natCast]
   rw [iI hq,show min 8 (i - 8*(i / 8))=i % 8 by omega]
   simp only [bS]
   rw [uF _ _ (by omega) (mP xs (i / 8) (i % 8)),tU hi hx]
 ·intro n
  rw [aU.l0_eq,dF (by omega),cF]
end Go.Proofs.YtjkokaockhecnaaGreatDoorP
