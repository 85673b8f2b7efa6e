/- What the functions below the laws answer, in plain lists and numbers; no condition but the sizes that a machine has. -/
import Derived.Test.YtjkokaockhecnaaGreatDoorPLoop
import Derived.Laws.BitsLemmas
import Derived.KernelRfl
import Derived.Lib.ItoaNum
import Derived.Lib.Join
import Derived.Test.YtjkokaockhecnaaGreatDoorRoom
namespace Go.Proofs.YtjkokaockhecnaaGreatDoorP
open Go Go.Proofs.YtjkokaockhecnaaGreatDoorA
def io:Nat→qT→Prop
 |0,_=>False
 |d+1,a=>a.kids.length≤d∧∀k∈a.kids,io d k
def ig (n:Int):Int:=(n+7) / 8
theorem A0 {n:Int}(h0:0≤n)(h1:n≤1000000):IntKind.i64.wrap (Int.tdiv (IntKind.i64.wrap (n+7)) 8)=ig n:=by
 unfold ig
 rw [bH (n+7) (by omega),Int.tdiv_eq_ediv_of_nonneg (by omega),bH _ (by omega)]
theorem iu {k:Nat}(hk:1≤k){n:Int}(h0:0≤n)(h1:n≤1000000):dA.f aT k n=some (ig n):=by
 obtain ⟨k,rfl⟩:∃m,k=m+1:=⟨k - 1,by omega⟩
 rw [dA.f_eq,A0 h0 h1]
def CQ (s:List UInt8)(i:Nat):Bool:=
 match s[i / 8]? with
 |some b=>(ax .and .u8 (Int.fdiv (b.toNat:Int) (2 ^ (min (i % 8) IntKind.u8.bits))) 1)==1
 |none=>false
theorem D1 {s:List UInt8}{i:Nat}(h:i / 8<s.length)(hi:i≤1000000):
  ((rd s (IntKind.i64.wrap (Int.tdiv (i:Int) 8))).bind fun b_1=>
   bif decide (Int.tmod (i:Int) 8<0) then none else
   some ((ax .and .u8 (Int.fdiv (b_1.toNat:Int) (2 ^ (min (Int.tmod (i:Int) 8).toNat IntKind.u8.bits))) 1)==1))=some (CQ s i):=by
 have e1:Int.tdiv (i:Int) 8=((i / 8:Nat):Int):=by rw [Int.tdiv_eq_ediv_of_nonneg (by omega)];omega
 have e2:Int.tmod (i:Int) 8=((i % 8:Nat):Int):=by rw [Int.tmod_eq_emod_of_nonneg (by omega)];omega
 have h3:¬(((i % 8:Nat):Int)<0):=by omega
 rw [e1,e2,bH _ (by omega),bT h,bS,decide_eq_false h3,cF,Int.toNat_natCast]
 unfold CQ
 rw [List.getElem?_eq_getElem h]
theorem vX {k:Nat}(hk:1≤k){s:List UInt8}{i:Nat}(h:i / 8<s.length)(hi:i≤1000000):mE.f aT k s (i:Int)=some (CQ s i):=by
 obtain ⟨k,rfl⟩:∃m,k=m+1:=⟨k - 1,by omega⟩
 rw [mE.f_eq];exact D1 h hi
def part (x:qT)(i c:Int):qT:=.mk x.layout (x.offset+i) c x.valid x.ends x.data x.kids
theorem Gp {a m:Int}(hm:1≤m∧m≤1000000):IntKind.u64.wrap m≠0∧IntKind.i64.wrap (Int.tmod (IntKind.u64.wrap a) (IntKind.u64.wrap m))=(a % 18446744073709551616) % m∧0≤(a % 18446744073709551616) % m∧(a % 18446744073709551616) % m<m:=by
 have e1:IntKind.u64.wrap m=m:=uP m (by omega)
 have e2:IntKind.u64.wrap a=a % 18446744073709551616:=by simp [IntKind.wrap,IntKind.bits,IntKind.signed]
 have h0:0≤(a % 18446744073709551616) % m:=Int.emod_nonneg _ (by omega)
 have h1:(a % 18446744073709551616) % m<m:=Int.emod_lt_of_pos _ (by omega)
 refine ⟨by omega,?_,h0,h1⟩
 rw [e1,e2,Int.tmod_eq_emod_of_nonneg (Int.emod_nonneg _ (by omega)),bH _ (by omega)]
theorem vu {k:Nat}(hk:1≤k)(x:Int):cp.f aT k x=some x:=by
 obtain ⟨k,rfl⟩:∃m,k=m+1:=⟨k - 1,by omega⟩
 rw [cp.f_eq]
def pU:Nat→Nat→List Int
 |0,_=>[]
 |f+1,n=>if n<10 then [48+(n:Int)] else pU f (n / 10)++[48+((n % 10:Nat):Int)]
theorem s7:∀f n,(pU f n).length≤f
 |0,_=>Nat.le_refl _
 |f+1,n=>by
  unfold pU
  split
  ·simp
  ·have:=s7 f (n / 10)
   simp;omega
theorem qZ:∀(f g n:Nat),n<10 ^ f→n<10 ^ g→0<f→0<g→pU f n=pU g n
 |0,_,_,_,_,h,_=>by omega
 |_,0,_,_,_,_,h=>by omega
 |f+1,g+1,n,hf,hg,_,_=>by
  unfold pU
  by_cases h:n<10
  ·rw [if_pos h,if_pos h]
  ·rw [if_neg h,if_neg h]
   have f0:0<f:=by
    rcases Nat.eq_zero_or_pos f with e|e
    ·subst e;omega
    ·exact e
   have g0:0<g:=by
    rcases Nat.eq_zero_or_pos g with e|e
    ·subst e;omega
    ·exact e
   rw [qZ f g (n / 10) (by rw [Nat.pow_succ] at hf;omega) (by rw [Nat.pow_succ] at hg;omega) f0 g0]
def wX (n:Nat):List UInt8:=ab (pU 20 n)
theorem oN (n:Nat):(wX n).length≤20:=by unfold wX;rw [eQ];exact s7 20 n
def eU (x:Int):List UInt8:=if x<0 then 45 :: wX x.natAbs else wX x.toNat
theorem mc (x:Int):(eU x).length≤21:=by
 unfold eU
 split
 ·have:=oN x.natAbs;simp;omega
 ·have:=oN x.toNat;omega
def tY (x:Int):List UInt8:=[105]++eU x++[59]
def lk (b:Bool):List UInt8:=if b then [116] else [102]
def gi (s:List UInt8):List UInt8:=[115]++wX s.length++[58]++s
def zv (vs:List (List UInt8)):List UInt8:=[91]++vs.flatten++[93]
def sH (vs:List (List UInt8)):List UInt8:=[123]++vs.flatten++[125]
def T (g:Nat→Nat)(p c:Nat):Nat:=((List.range' p c).map g).sum
theorem v8:∀(f n:Nat),n<10 ^ f→0<f→ab (pU f n)=Lib.decDigits n
 |0,_,_,h=>by omega
 |f+1,n,hf,_=>by
  rw [Lib.decDigits]
  unfold pU
  by_cases h:n<10
  ·rw [if_pos h,dif_pos h]
   unfold ab
   simp only [List.map_cons,List.map_nil,List.cons.injEq,and_true]
   congr 1
  ·rw [if_neg h,dif_neg h]
   have f0:0<f:=by
    rcases Nat.eq_zero_or_pos f with e|e
    ·subst e;omega
    ·exact e
   rw [cA,v8 f (n / 10) (by rw [Nat.pow_succ] at hf;omega) f0]
   congr 1
theorem BW {x:Int}(h0:-9223372036854775808≤x)(h1:x≤9223372036854775807):Lib.itoa x=eU x:=by
 unfold Lib.itoa eU wX
 have e:(10:Nat) ^ 20=100000000000000000000:=by decide
 split
 ·rw [v8 20 _ (by omega) (by omega)]
 ·rw [v8 20 _ (by omega) (by omega)]
theorem pm (n:Nat):eU (n:Int)=wX n:=by
 unfold eU
 rw [if_neg (by omega),Int.toNat_natCast]
def oz:Nat→Nat→List Nat
 |0,_=>[]
 |f+1,n=>if n<10 then [n] else oz f (n / 10)++[n % 10]
def lR (l:List Nat):Nat:=l.foldl (fun a d=>10*a+d) 0
theorem uM (l:List Nat)(d:Nat):lR (l++[d])=10*lR l+d:=by unfold lR;rw [List.foldl_append];rfl
theorem rb:∀f n,pU f n=List.map (fun (d:Nat)=>(48:Int)+(d:Int)) (oz f n)
 |0,_=>rfl
 |f+1,n=>by
  unfold pU oz
  split
  ·rfl
  ·rw [rb f (n / 10),List.map_append];rfl
theorem qa:∀f n,n<10 ^ f→0<f→lR (oz f n)=n∧(∀d∈oz f n,d<10)∧oz f n≠[]
 |0,_,_,h=>by omega
 |f+1,n,hf,_=>by
  unfold oz
  by_cases h:n<10
  ·rw [if_pos h]
   refine ⟨by simp [lR],fun d hd=>?_,by simp⟩
   rw [List.mem_singleton.1 hd];exact h
  ·rw [if_neg h]
   have f0:0<f:=by
    rcases Nat.eq_zero_or_pos f with e|e
    ·subst e;omega
    ·exact e
   obtain ⟨h1,h2,h3⟩:=qa f (n / 10) (by rw [Nat.pow_succ] at hf;omega) f0
   refine ⟨by rw [uM,h1];omega,fun d hd=>?_,by simp⟩
   rcases List.mem_append.1 hd with hd|hd
   ·exact h2 d hd
   ·rw [List.mem_singleton.1 hd];omega
theorem tU:∀f n,(oz f n).length≤f
 |0,_=>Nat.le_refl _
 |f+1,n=>by
  unfold oz
  split
  ·simp
  ·have:=tU f (n / 10)
   simp;omega
def jg (l:List Nat):List UInt8:=l.map fun d=>UInt8.ofNat (48+d)
theorem qA {n:Nat}(h:n<10 ^ 19):wX n=jg (oz 19 n):=by
 unfold wX jg ab
 rw [qZ 20 19 n (by omega) h (by omega) (by omega),rb,List.map_map]
 refine List.map_congr_left fun d _=>?_
 simp only [Function.comp_apply]
 congr 1
inductive oW:List UInt8→Prop
 |n:oW [110]
 |t:oW [116]
 |f:oW [102]
 |i (x:Int) (h0:-9223372036854775808≤x) (h1:x≤9223372036854775807):oW (tY x)
 |s (l:List UInt8) (h:l.length≤100000):oW (gi l)
def Tx:Nat→List UInt8→Prop
 |0,v=>oW v∨v=zv []∨v=sH []
 |d+1,v=>oW v∨∃vs,(∀w∈vs,Tx d w)∧(v=zv vs∨v=sH vs)
theorem vZ {x:Int}(h0:-9223372036854775808≤x)(h1:x≤9223372036854775807):(eU x).length≤20∧∀b∈eU x,b≠58∧b≠59:=by
 have p19:(10:Nat) ^ 19=10000000000000000000:=by decide
 have key:∀n:Nat,n<10 ^ 19→(wX n).length≤19∧∀b∈wX n,b≠58∧b≠59:=by
  intro n hn
  obtain ⟨_,hd,_⟩:=qa 19 n hn (by omega)
  rw [qA hn]
  refine ⟨by unfold jg;rw [List.length_map];exact tU 19 n,fun b hb=>?_⟩
  unfold jg at hb
  obtain ⟨d,hd',rfl⟩:=List.mem_map.1 hb
  have hlt:=hd d hd'
  have e:(UInt8.ofNat (48+d)).toNat=48+d:=by rw [UInt8.toNat_ofNat'];omega
  constructor<;>(intro e';rw [e'] at e;simp at e;omega)
 unfold eU
 split
 ·obtain ⟨k1,k2⟩:=key x.natAbs (by omega)
  refine ⟨by simp only [List.length_cons];omega,fun b hb=>?_⟩
  rcases List.mem_cons.1 hb with rfl|hb
  ·exact ⟨by decide,by decide⟩
  ·exact k2 b hb
 ·obtain ⟨k1,k2⟩:=key x.toNat (by omega)
  exact ⟨by omega,k2⟩
def kl (x:Int):Prop:=-9223372036854775808≤x∧x≤9223372036854775807
inductive iD:List UInt8→Int→List (List UInt8)→Prop
 |n:iD [110] (-1) []
 |i (x:Int) (h:kl x):iD (tY x) 0 [eU x]
 |b (b:Bool):iD (lk b) 1 [lk b]
 |s (l:List UInt8):iD (gi l) 2 [l]
 |l (vs:List (List UInt8)) (h:∀w∈vs,Tx 3 w):iD (zv vs) 3 vs
 |r (vs:List (List UInt8)) (h:∀w∈vs,Tx 3 w):iD (sH vs) 4 vs
theorem yZ {x:Int}:ax .and .u8 x 1=x % 2:=by
 rw [lI,AW]
 have e1:(1 % (2 ^ IntKind.u8.bits:Int)).toNat=1:=by decide
 rw [e1,Nat.and_one_is_mod]
 simp only [IntKind.bits]
 omega
theorem kA (x:Int)(n:Nat):Int.fdiv x (2 ^ n)=x / 2 ^ n:=Int.fdiv_eq_ediv_of_nonneg _ (Int.le_of_lt (Int.pow_pos (by omega)))
def cR (xs:List Bool)(q:Nat):Nat→Nat
 |0=>0
 |n+1=>cR xs q n+(if xs[8*q+n]?=some true then 2 ^ n else 0)
theorem mH (xs:List Bool)(q:Nat):∀n,cR xs q n<2 ^ n
 |0=>Nat.one_pos
 |n+1=>by
  have:=mH xs q n
  rw [cR,Nat.pow_succ]
  split<;>omega
theorem rp (xs:List Bool)(q:Nat):∀n r,cR xs q n / 2 ^ r % 2=if r<n∧xs[8*q+r]?=some true then 1 else 0
 |0,r=>by rw [cR,Nat.zero_div,if_neg (by omega)]
 |n+1,r=>by
  have hlt:=mH xs q n
  have ih:=rp xs q n r
  rw [cR]
  by_cases hr:r<n
  ·obtain ⟨d,hd⟩:∃d,n=r+1+d:=⟨n - (r+1),by omega⟩
   have e:∀z:Nat,(cR xs q n+2 ^ n*z) / 2 ^ r % 2=cR xs q n / 2 ^ r % 2:=by
    intro z
    have:2 ^ n*z=2 ^ r*(2*(2 ^ d*z)):=by rw [hd,Nat.pow_add,Nat.pow_succ];simp only [Nat.mul_assoc]
    rw [this,Nat.add_mul_div_left _ _ (Nat.two_pow_pos r),Nat.add_mul_mod_self_left]
   have h2:(r<n+1∧xs[8*q+r]?=some true)↔(r<n∧xs[8*q+r]?=some true):=by constructor<;>rintro ⟨_,h⟩<;>exact ⟨by omega,h⟩
   have goal:cR xs q n / 2 ^ r % 2=if r<n+1∧xs[8*q+r]?=some true then 1 else 0:=by
    rw [ih]
    by_cases hx:xs[8*q+r]?=some true
    ·rw [if_pos ⟨hr,hx⟩,if_pos ⟨by omega,hx⟩]
    ·rw [if_neg (fun h=>hx h.2),if_neg (fun h=>hx h.2)]
   split
   ·have:=e 1;rw [Nat.mul_one] at this;rw [this];exact goal
   ·rw [Nat.add_zero];exact goal
  ·by_cases hrn:r=n
   ·subst hrn
    by_cases hx:xs[8*q+r]?=some true
    ·rw [if_pos hx,if_pos ⟨by omega,hx⟩,Nat.add_div_right _ (Nat.two_pow_pos r),Nat.div_eq_of_lt hlt]
    ·rw [if_neg hx,if_neg (fun h=>hx h.2),Nat.add_zero,Nat.div_eq_of_lt hlt]
   ·have hlt2:cR xs q n+(if xs[8*q+n]?=some true then 2 ^ n else 0)<2 ^ r:=by
     have:2 ^ (n+1)≤2 ^ r:=Nat.pow_le_pow_right (by omega) (by omega)
     rw [Nat.pow_succ] at this
     split<;>omega
    rw [Nat.div_eq_of_lt hlt2,if_neg (by omega)]
def fC (xs:List Bool):List UInt8:=(List.range ((xs.length+7) / 8)).map fun q=>UInt8.ofNat (cR xs q 8)
theorem ni (xs:List Bool):(fC xs).length=(xs.length+7) / 8:=by unfold fC;rw [List.length_map,List.length_range]
theorem Ab (xs:List Bool){i:Nat}(h:i<xs.length):CQ (fC xs) i=xs[i]:=by
 have hl:=ni xs
 have hq:i / 8<(fC xs).length:=by omega
 have hb:(fC xs)[i / 8]=UInt8.ofNat (cR xs (i / 8) 8):=by simp [fC]
 have hlt:cR xs (i / 8) 8<256:=mH xs (i / 8) 8
 unfold CQ
 rw [List.getElem?_eq_getElem hq,hb]
 simp only
 have e:(UInt8.ofNat (cR xs (i / 8) 8)).toNat=cR xs (i / 8) 8:=by rw [UInt8.toNat_ofNat'];omega
 have hm:min (i % 8) IntKind.u8.bits=i % 8:=by simp only [IntKind.bits];omega
 rw [e,hm,yZ,kA]
 have e2:((cR xs (i / 8) 8:Nat):Int) / 2 ^ (i % 8) % 2=((cR xs (i / 8) 8 / 2 ^ (i % 8) % 2:Nat):Int):=by push_cast;rfl
 rw [e2,rp,show 8*(i / 8)+i % 8=i by omega,List.getElem?_eq_getElem h]
 cases xs[i] with
 |true=>rw [if_pos ⟨by omega,rfl⟩];rfl
 |false=>rw [if_neg (by simp)];rfl
def cb (xs:List Bool)(i:Nat):List Int:=(List.range ((xs.length+7) / 8)).map fun q=>((cR xs q (min 8 (i - 8*q)):Nat):Int)
theorem vd (xs:List Bool):ab (cb xs xs.length)=fC xs:=by
 unfold ab cb fC
 rw [List.map_map]
 refine List.map_congr_left fun q hq=>?_
 have hq:=List.mem_range.1 hq
 show UInt8.ofNat (((cR xs q (min 8 (xs.length - 8*q)):Nat):Int)).toNat=_
 rw [Int.toNat_natCast]
 congr 1
 by_cases h:8≤xs.length - 8*q
 ·rw [Nat.min_eq_left h]
 ·have key:∀d n,n+d=8→xs.length - 8*q≤n→cR xs q n=cR xs q 8:=by
   intro d
   induction d with
   |zero=>intro n h1 _;rw [show n=8 by omega]
   |succ d ih=>
    intro n h1 h2
    rw [←ih (n+1) (by omega) (by omega),cR,if_neg (by rw [List.getElem?_eq_none (by omega)];simp),Nat.add_zero]
  rw [Nat.min_eq_right (by omega)]
  exact key (8 - (xs.length - 8*q)) _ (by omega) (Nat.le_refl _)
theorem u7 (e r:Nat)(hr:r<8)(he:e<2 ^ r):ax .or .u8 (e:Int) (IntKind.u8.wrap (1*2 ^ (min r IntKind.u8.bits)))=((e+2 ^ r:Nat):Int):=by
 have h2:2 ^ r≤128:=by
  have:2 ^ r≤2 ^ 7:=Nat.pow_le_pow_right (by omega) (by omega)
  omega
 have hm:min r IntKind.u8.bits=r:=by simp only [IntKind.bits];omega
 have hp:((2:Int) ^ r)=((2 ^ r:Nat):Int):=by push_cast;rfl
 rw [hm,Int.one_mul,hp,AW,kx]
 have e1:((e:Int) % (2 ^ IntKind.u8.bits:Int)).toNat=e:=by simp only [IntKind.bits];omega
 have e2:((((2 ^ r:Nat):Int) % 256) % (2 ^ IntKind.u8.bits:Int)).toNat=1*2 ^ r:=by simp only [IntKind.bits];omega
 rw [e1,e2,qE e 1 r he,AW]
 omega
theorem gQ {xs:List Bool}{i q:Nat}(hq:q<(xs.length+7) / 8):(cb xs i)[q]?=some ((cR xs q (min 8 (i - 8*q)):Nat):Int):=by
 unfold cb
 rw [List.getElem?_map,List.getElem?_range hq];rfl
theorem vM {xs:List Bool}{i:Nat}(h:i<xs.length)(hx:xs[i]=true):(cb xs i).set (i / 8) (((cR xs (i / 8) (i % 8)+2 ^ (i % 8):Nat)):Int)=cb xs (i+1):=by
 refine List.ext_getElem? fun q=>?_
 by_cases hq:q<(xs.length+7) / 8
 ·rw [List.getElem?_set]
  have hl:i / 8<(cb xs i).length:=by unfold cb;rw [List.length_map,List.length_range];omega
  by_cases hiq:i / 8=q
  ·rw [if_pos hiq,if_pos hl,gQ hq,←hiq,show min 8 (i+1 - 8*(i / 8))=i % 8+1 by omega,cR,show 8*(i / 8)+i % 8=i by omega,List.getElem?_eq_getElem h,hx,if_pos rfl]
  ·rw [if_neg hiq,gQ hq,gQ hq]
   congr 3
   omega
 ·rw [List.getElem?_eq_none (by rw [List.length_set];unfold cb;rw [List.length_map,List.length_range];omega),List.getElem?_eq_none (by unfold cb;rw [List.length_map,List.length_range];omega)]
theorem tj {xs:List Bool}{i:Nat}(h:i<xs.length)(hx:xs[i]=false):cb xs i=cb xs (i+1):=by
 unfold cb
 refine List.map_congr_left fun q _=>?_
 congr 1
 by_cases hiq:i / 8=q
 ·rw [←hiq,show min 8 (i+1 - 8*(i / 8))=i % 8+1 by omega,show min 8 (i - 8*(i / 8))=i % 8 by omega,cR,show 8*(i / 8)+i % 8=i by omega,List.getElem?_eq_getElem h,hx,if_neg (by simp),Nat.add_zero]
 ·rw [show min 8 (i+1 - 8*q)=min 8 (i - 8*q) by omega]
end Go.Proofs.YtjkokaockhecnaaGreatDoorP
