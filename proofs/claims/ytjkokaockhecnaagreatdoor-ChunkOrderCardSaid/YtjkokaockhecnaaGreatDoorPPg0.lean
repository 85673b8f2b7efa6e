/- What the functions below the laws answer, in plain lists and numbers; no condition but the sizes that a machine has. -/
import Derived.Test.YtjkokaockhecnaaGreatDoorPLoop
import Derived.Laws.BitsLemmas
import Derived.KernelRfl
import Derived.Lib.ItoaNum
import Derived.Lib.Join
import Derived.Test.YtjkokaockhecnaaGreatDoorRoom
namespace Go.Proofs.YtjkokaockhecnaaGreatDoorP
open Go Go.Proofs.YtjkokaockhecnaaGreatDoorA
def ik:Nat→qT→Prop
 |0,_=>False
 |d+1,a=>a.kids.length≤d∧∀k∈a.kids,ik d k
def iw (n:Int):Int:=(n+7) / 8
theorem A8 {n:Int}(h0:0≤n)(h1:n≤1000000):IntKind.i64.wrap (Int.tdiv (IntKind.i64.wrap (n+7)) 8)=iw n:=by
 unfold iw
 rw [b9 (n+7) (by omega),Int.tdiv_eq_ediv_of_nonneg (by omega),b9 _ (by omega)]
theorem iu {k:Nat}(hk:1≤k){n:Int}(h0:0≤n)(h1:n≤1000000):dH.f aS k n=some (iw n):=by
 obtain ⟨k,rfl⟩:∃m,k=m+1:=⟨k - 1,by omega⟩
 rw [dH.f_eq,A8 h0 h1]
def C6 (s:List UInt8)(i:Nat):Bool:=
 match s[i / 8]? with
 |some b=>(ax .and .u8 (Int.fdiv (b.toNat:Int) (2 ^ (min (i % 8) IntKind.u8.bits))) 1)==1
 |none=>false
theorem Eg {s:List UInt8}{i:Nat}(h:i / 8<s.length)(hi:i≤1000000):
  ((rd s (IntKind.i64.wrap (Int.tdiv (i:Int) 8))).bind fun b_1=>
   bif decide (Int.tmod (i:Int) 8<0) then none else
   some ((ax .and .u8 (Int.fdiv (b_1.toNat:Int) (2 ^ (min (Int.tmod (i:Int) 8).toNat IntKind.u8.bits))) 1)==1))=some (C6 s i):=by
 have e1:Int.tdiv (i:Int) 8=((i / 8:Nat):Int):=by rw [Int.tdiv_eq_ediv_of_nonneg (by omega)];omega
 have e2:Int.tmod (i:Int) 8=((i % 8:Nat):Int):=by rw [Int.tmod_eq_emod_of_nonneg (by omega)];omega
 have h3:¬(((i % 8:Nat):Int)<0):=by omega
 rw [e1,e2,b9 _ (by omega),bF h,bS,decide_eq_false h3,cF,Int.toNat_natCast]
 unfold C6
 rw [List.getElem?_eq_getElem h]
theorem uR {k:Nat}(hk:1≤k){s:List UInt8}{i:Nat}(h:i / 8<s.length)(hi:i≤1000000):lV.f aS k s (i:Int)=some (C6 s i):=by
 obtain ⟨k,rfl⟩:∃m,k=m+1:=⟨k - 1,by omega⟩
 rw [lV.f_eq];exact Eg h hi
def part (x:qT)(i c:Int):qT:=.mk x.layout (x.offset+i) c x.valid x.ends x.data x.kids
theorem qg {k:Nat}(hk:1≤k)(x:Int):aZ.f aS k x=some x:=by
 obtain ⟨k,rfl⟩:∃m,k=m+1:=⟨k - 1,by omega⟩
 rw [aZ.f_eq]
def qP:Nat→Nat→List Int
 |0,_=>[]
 |f+1,n=>if n<10 then [48+(n:Int)] else qP f (n / 10)++[48+((n % 10:Nat):Int)]
theorem tU:∀f n,(qP f n).length≤f
 |0,_=>Nat.le_refl _
 |f+1,n=>by
  unfold qP
  split
  ·simp
  ·have:=tU f (n / 10)
   simp;omega
theorem rN:∀(f g n:Nat),n<10 ^ f→n<10 ^ g→0<f→0<g→qP f n=qP g n
 |0,_,_,_,_,h,_=>by omega
 |_,0,_,_,_,_,h=>by omega
 |f+1,g+1,n,hf,hg,_,_=>by
  unfold qP
  by_cases h:n<10
  ·rw [if_pos h,if_pos h]
  ·rw [if_neg h,if_neg h]
   have f0:0<f:=by
    rcases Nat.eq_zero_or_pos f with e|e
    ·subst e;omega
    ·exact e
   have g0:0<g:=by
    rcases Nat.eq_zero_or_pos g with e|e
    ·subst e;omega
    ·exact e
   rw [rN f g (n / 10) (by rw [Nat.pow_succ] at hf;omega) (by rw [Nat.pow_succ] at hg;omega) f0 g0]
def wm (n:Nat):List UInt8:=ab (qP 20 n)
theorem oL (n:Nat):(wm n).length≤20:=by unfold wm;rw [hI];exact tU 20 n
def eW (x:Int):List UInt8:=if x<0 then 45 :: wm x.natAbs else wm x.toNat
theorem mD (x:Int):(eW x).length≤21:=by
 unfold eW
 split
 ·have:=oL x.natAbs;simp;omega
 ·have:=oL x.toNat;omega
def tq (x:Int):List UInt8:=[105]++eW x++[59]
def kZ (b:Bool):List UInt8:=if b then [116] else [102]
def gj (s:List UInt8):List UInt8:=[115]++wm s.length++[58]++s
def Ad (vs:List (List UInt8)):List UInt8:=[91]++vs.flatten++[93]
def sA (vs:List (List UInt8)):List UInt8:=[123]++vs.flatten++[125]
def T (g:Nat→Nat)(p c:Nat):Nat:=((List.range' p c).map g).sum
theorem u7:∀(f n:Nat),n<10 ^ f→0<f→ab (qP f n)=Lib.decDigits n
 |0,_,_,h=>by omega
 |f+1,n,hf,_=>by
  rw [Lib.decDigits]
  unfold qP
  by_cases h:n<10
  ·rw [if_pos h,dif_pos h]
   unfold ab
   simp only [List.map_cons,List.map_nil,List.cons.injEq,and_true]
   congr 1
  ·rw [if_neg h,dif_neg h]
   have f0:0<f:=by
    rcases Nat.eq_zero_or_pos f with e|e
    ·subst e;omega
    ·exact e
   rw [eJ,u7 f (n / 10) (by rw [Nat.pow_succ] at hf;omega) f0]
   congr 1
theorem BX {x:Int}(h0:-9223372036854775808≤x)(h1:x≤9223372036854775807):Lib.itoa x=eW x:=by
 unfold Lib.itoa eW wm
 have e:(10:Nat) ^ 20=100000000000000000000:=by decide
 split
 ·rw [u7 20 _ (by omega) (by omega)]
 ·rw [u7 20 _ (by omega) (by omega)]
theorem o8 (n:Nat):eW (n:Int)=wm n:=by
 unfold eW
 rw [if_neg (by omega),Int.toNat_natCast]
def ox:Nat→Nat→List Nat
 |0,_=>[]
 |f+1,n=>if n<10 then [n] else ox f (n / 10)++[n % 10]
def lD (l:List Nat):Nat:=l.foldl (fun a d=>10*a+d) 0
theorem s8 (l:List Nat)(d:Nat):lD (l++[d])=10*lD l+d:=by unfold lD;rw [List.foldl_append];rfl
theorem rO:∀f n,qP f n=List.map (fun (d:Nat)=>(48:Int)+(d:Int)) (ox f n)
 |0,_=>rfl
 |f+1,n=>by
  unfold qP ox
  split
  ·rfl
  ·rw [rO f (n / 10),List.map_append];rfl
theorem qj:∀f n,n<10 ^ f→0<f→lD (ox f n)=n∧(∀d∈ox f n,d<10)∧ox f n≠[]
 |0,_,_,h=>by omega
 |f+1,n,hf,_=>by
  unfold ox
  by_cases h:n<10
  ·rw [if_pos h]
   refine ⟨by simp [lD],fun d hd=>?_,by simp⟩
   rw [List.mem_singleton.1 hd];exact h
  ·rw [if_neg h]
   have f0:0<f:=by
    rcases Nat.eq_zero_or_pos f with e|e
    ·subst e;omega
    ·exact e
   obtain ⟨h1,h2,h3⟩:=qj f (n / 10) (by rw [Nat.pow_succ] at hf;omega) f0
   refine ⟨by rw [s8,h1];omega,fun d hd=>?_,by simp⟩
   rcases List.mem_append.1 hd with hd|hd
   ·exact h2 d hd
   ·rw [List.mem_singleton.1 hd];omega
theorem ua:∀f n,(ox f n).length≤f
 |0,_=>Nat.le_refl _
 |f+1,n=>by
  unfold ox
  split
  ·simp
  ·have:=ua f (n / 10)
   simp;omega
def jt (l:List Nat):List UInt8:=l.map fun d=>UInt8.ofNat (48+d)
theorem qf {n:Nat}(h:n<10 ^ 19):wm n=jt (ox 19 n):=by
 unfold wm jt ab
 rw [rN 20 19 n (by omega) h (by omega) (by omega),rO,List.map_map]
 refine List.map_congr_left fun d _=>?_
 simp only [Function.comp_apply]
 congr 1
inductive po:List UInt8→Prop
 |n:po [110]
 |t:po [116]
 |f:po [102]
 |i (x:Int) (h0:-9223372036854775808≤x) (h1:x≤9223372036854775807):po (tq x)
 |s (l:List UInt8) (h:l.length≤100000):po (gj l)
def Tx:Nat→List UInt8→Prop
 |0,v=>po v∨v=Ad []∨v=sA []
 |d+1,v=>po v∨∃vs,(∀w∈vs,Tx d w)∧(v=Ad vs∨v=sA vs)
theorem vL {x:Int}(h0:-9223372036854775808≤x)(h1:x≤9223372036854775807):(eW x).length≤20∧∀b∈eW x,b≠58∧b≠59:=by
 have p19:(10:Nat) ^ 19=10000000000000000000:=by decide
 have key:∀n:Nat,n<10 ^ 19→(wm n).length≤19∧∀b∈wm n,b≠58∧b≠59:=by
  intro n hn
  obtain ⟨_,hd,_⟩:=qj 19 n hn (by omega)
  rw [qf hn]
  refine ⟨by unfold jt;rw [List.length_map];exact ua 19 n,fun b hb=>?_⟩
  unfold jt at hb
  obtain ⟨d,hd',rfl⟩:=List.mem_map.1 hb
  have hlt:=hd d hd'
  have e:(UInt8.ofNat (48+d)).toNat=48+d:=by rw [UInt8.toNat_ofNat'];omega
  constructor<;>(intro e';rw [e'] at e;simp at e;omega)
 unfold eW
 split
 ·obtain ⟨k1,k2⟩:=key x.natAbs (by omega)
  refine ⟨by simp only [List.length_cons];omega,fun b hb=>?_⟩
  rcases List.mem_cons.1 hb with rfl|hb
  ·exact ⟨by decide,by decide⟩
  ·exact k2 b hb
 ·obtain ⟨k1,k2⟩:=key x.toNat (by omega)
  exact ⟨by omega,k2⟩
def jJ (x:Int):Prop:=-9223372036854775808≤x∧x≤9223372036854775807
inductive iH:List UInt8→Int→List (List UInt8)→Prop
 |n:iH [110] (-1) []
 |i (x:Int) (h:jJ x):iH (tq x) 0 [eW x]
 |b (b:Bool):iH (kZ b) 1 [kZ b]
 |s (l:List UInt8):iH (gj l) 2 [l]
 |l (vs:List (List UInt8)) (h:∀w∈vs,Tx 3 w):iH (Ad vs) 3 vs
 |r (vs:List (List UInt8)) (h:∀w∈vs,Tx 3 w):iH (sA vs) 4 vs
theorem zS {x:Int}:ax .and .u8 x 1=x % 2:=by
 rw [lx,Dl]
 have e1:(1 % (2 ^ IntKind.u8.bits:Int)).toNat=1:=by decide
 rw [e1,Nat.and_one_is_mod]
 simp only [IntKind.bits]
 omega
theorem kB (x:Int)(n:Nat):Int.fdiv x (2 ^ n)=x / 2 ^ n:=Int.fdiv_eq_ediv_of_nonneg _ (Int.le_of_lt (Int.pow_pos (by omega)))
def cY (xs:List Bool)(q:Nat):Nat→Nat
 |0=>0
 |n+1=>cY xs q n+(if xs[8*q+n]?=some true then 2 ^ n else 0)
theorem mB (xs:List Bool)(q:Nat):∀n,cY xs q n<2 ^ n
 |0=>Nat.one_pos
 |n+1=>by
  have:=mB xs q n
  rw [cY,Nat.pow_succ]
  split<;>omega
theorem rl (xs:List Bool)(q:Nat):∀n r,cY xs q n / 2 ^ r % 2=if r<n∧xs[8*q+r]?=some true then 1 else 0
 |0,r=>by rw [cY,Nat.zero_div,if_neg (by omega)]
 |n+1,r=>by
  have hlt:=mB xs q n
  have ih:=rl xs q n r
  rw [cY]
  by_cases hr:r<n
  ·obtain ⟨d,hd⟩:∃d,n=r+1+d:=⟨n - (r+1),by omega⟩
   have e:∀z:Nat,(cY xs q n+2 ^ n*z) / 2 ^ r % 2=cY xs q n / 2 ^ r % 2:=by
    intro z
    have:2 ^ n*z=2 ^ r*(2*(2 ^ d*z)):=by rw [hd,Nat.pow_add,Nat.pow_succ];simp only [Nat.mul_assoc]
    rw [this,Nat.add_mul_div_left _ _ (Nat.two_pow_pos r),Nat.add_mul_mod_self_left]
   have h2:(r<n+1∧xs[8*q+r]?=some true)↔(r<n∧xs[8*q+r]?=some true):=by constructor<;>rintro ⟨_,h⟩<;>exact ⟨by omega,h⟩
   have goal:cY xs q n / 2 ^ r % 2=if r<n+1∧xs[8*q+r]?=some true then 1 else 0:=by
    rw [ih]
    by_cases hx:xs[8*q+r]?=some true
    ·rw [if_pos ⟨hr,hx⟩,if_pos ⟨by omega,hx⟩]
    ·rw [if_neg (fun h=>hx h.2),if_neg (fun h=>hx h.2)]
   split
   ·have:=e 1;rw [Nat.mul_one] at this;rw [this];exact goal
   ·rw [Nat.add_zero];exact goal
  ·by_cases hrn:r=n
   ·subst hrn
    by_cases hx:xs[8*q+r]?=some true
    ·rw [if_pos hx,if_pos ⟨by omega,hx⟩,Nat.add_div_right _ (Nat.two_pow_pos r),Nat.div_eq_of_lt hlt]
    ·rw [if_neg hx,if_neg (fun h=>hx h.2),Nat.add_zero,Nat.div_eq_of_lt hlt]
   ·have hlt2:cY xs q n+(if xs[8*q+n]?=some true then 2 ^ n else 0)<2 ^ r:=by
     have:2 ^ (n+1)≤2 ^ r:=Nat.pow_le_pow_right (by omega) (by omega)
     rw [Nat.pow_succ] at this
     split<;>omega
    rw [Nat.div_eq_of_lt hlt2,if_neg (by omega)]
def fC (xs:List Bool):List UInt8:=(List.range ((xs.length+7) / 8)).map fun q=>UInt8.ofNat (cY xs q 8)
theorem nr (xs:List Bool):(fC xs).length=(xs.length+7) / 8:=by unfold fC;rw [List.length_map,List.length_range]
theorem zH (xs:List Bool){i:Nat}(h:i<xs.length):C6 (fC xs) i=xs[i]:=by
 have hl:=nr xs
 have hq:i / 8<(fC xs).length:=by omega
 have hb:(fC xs)[i / 8]=UInt8.ofNat (cY xs (i / 8) 8):=by simp [fC]
 have hlt:cY xs (i / 8) 8<256:=mB xs (i / 8) 8
 unfold C6
 rw [List.getElem?_eq_getElem hq,hb]
 simp only
 have e:(UInt8.ofNat (cY xs (i / 8) 8)).toNat=cY xs (i / 8) 8:=by rw [UInt8.toNat_ofNat'];omega
 have hm:min (i % 8) IntKind.u8.bits=i % 8:=by simp only [IntKind.bits];omega
 rw [e,hm,zS,kB]
 have e2:((cY xs (i / 8) 8:Nat):Int) / 2 ^ (i % 8) % 2=((cY xs (i / 8) 8 / 2 ^ (i % 8) % 2:Nat):Int):=by push_cast;rfl
 rw [e2,rl,show 8*(i / 8)+i % 8=i by omega,List.getElem?_eq_getElem h]
 cases xs[i] with
 |true=>rw [if_pos ⟨by omega,rfl⟩];rfl
 |false=>rw [if_neg (by simp)];rfl
def cg (xs:List Bool)(i:Nat):List Int:=(List.range ((xs.length+7) / 8)).map fun q=>((cY xs q (min 8 (i - 8*q)):Nat):Int)
theorem vh (xs:List Bool):ab (cg xs xs.length)=fC xs:=by
 unfold ab cg fC
 rw [List.map_map]
 refine List.map_congr_left fun q hq=>?_
 have hq:=List.mem_range.1 hq
 show UInt8.ofNat (((cY xs q (min 8 (xs.length - 8*q)):Nat):Int)).toNat=_
 rw [Int.toNat_natCast]
 congr 1
 by_cases h:8≤xs.length - 8*q
 ·rw [Nat.min_eq_left h]
 ·have key:∀d n,n+d=8→xs.length - 8*q≤n→cY xs q n=cY xs q 8:=by
   intro d
   induction d with
   |zero=>intro n h1 _;rw [show n=8 by omega]
   |succ d ih=>
    intro n h1 h2
    rw [←ih (n+1) (by omega) (by omega),cY,if_neg (by rw [List.getElem?_eq_none (by omega)];simp),Nat.add_zero]
  rw [Nat.min_eq_right (by omega)]
  exact key (8 - (xs.length - 8*q)) _ (by omega) (Nat.le_refl _)
theorem vg (e r:Nat)(hr:r<8)(he:e<2 ^ r):ax .or .u8 (e:Int) (IntKind.u8.wrap (1*2 ^ (min r IntKind.u8.bits)))=((e+2 ^ r:Nat):Int):=by
 have h2:2 ^ r≤128:=by
  have:2 ^ r≤2 ^ 7:=Nat.pow_le_pow_right (by omega) (by omega)
  omega
 have hm:min r IntKind.u8.bits=r:=by simp only [IntKind.bits];omega
 have hp:((2:Int) ^ r)=((2 ^ r:Nat):Int):=by push_cast;rfl
 rw [hm,Int.one_mul,hp,Dl,kC]
 have e1:((e:Int) % (2 ^ IntKind.u8.bits:Int)).toNat=e:=by simp only [IntKind.bits];omega
 have e2:((((2 ^ r:Nat):Int) % 256) % (2 ^ IntKind.u8.bits:Int)).toNat=1*2 ^ r:=by simp only [IntKind.bits];omega
 rw [e1,e2,pJ e 1 r he,Dl]
 omega
theorem gV {xs:List Bool}{i q:Nat}(hq:q<(xs.length+7) / 8):(cg xs i)[q]?=some ((cY xs q (min 8 (i - 8*q)):Nat):Int):=by
 unfold cg
 rw [List.getElem?_map,List.getElem?_range hq];rfl
theorem vt {xs:List Bool}{i:Nat}(h:i<xs.length)(hx:xs[i]=true):(cg xs i).set (i / 8) (((cY xs (i / 8) (i % 8)+2 ^ (i % 8):Nat)):Int)=cg xs (i+1):=by
 refine List.ext_getElem? fun q=>?_
 by_cases hq:q<(xs.length+7) / 8
 ·rw [List.getElem?_set]
  have hl:i / 8<(cg xs i).length:=by unfold cg;rw [List.length_map,List.length_range];omega
  by_cases hiq:i / 8=q
  ·rw [if_pos hiq,if_pos hl,gV hq,←hiq,show min 8 (i+1 - 8*(i / 8))=i % 8+1 by omega,cY,show 8*(i / 8)+i % 8=i by omega,List.getElem?_eq_getElem h,hx,if_pos rfl]
  ·rw [if_neg hiq,gV hq,gV hq]
   congr 3
   omega
 ·rw [List.getElem?_eq_none (by rw [List.length_set];unfold cg;rw [List.length_map,List.length_range];omega),List.getElem?_eq_none (by unfold cg;rw [List.length_map,List.length_range];omega)]
theorem s7 {xs:List Bool}{i:Nat}(h:i<xs.length)(hx:xs[i]=false):cg xs i=cg xs (i+1):=by
 unfold cg
 refine List.map_congr_left fun q _=>?_
 congr 1
 by_cases hiq:i / 8=q
 ·rw [←hiq,show min 8 (i+1 - 8*(i / 8))=i % 8+1 by omega,show min 8 (i - 8*(i / 8))=i % 8 by omega,cY,show 8*(i / 8)+i % 8=i by omega,List.getElem?_eq_getElem h,hx,if_neg (by simp),Nat.add_zero]
 ·rw [show min 8 (i+1 - 8*q)=min 8 (i - 8*q) by omega]
end Go.Proofs.YtjkokaockhecnaaGreatDoorP
