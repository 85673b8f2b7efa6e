/- What the functions below the laws answer, in plain lists and numbers; no condition but the sizes that a machine has. -/
import Derived.Test.YtjkokaockhecnaaGreatDoorPLoop
import Derived.Laws.BitsLemmas
import Derived.KernelRfl
import Derived.Lib.ItoaNum
import Derived.Lib.Join
import Derived.Test.YtjkokaockhecnaaGreatDoorRoom
namespace Go.Proofs.YtjkokaockhecnaaGreatDoorP
open Go Go.Proofs.YtjkokaockhecnaaGreatDoorA
def gp:Nat→oZ→Prop
 |0,_=>False
 |d+1,a=>a.kids.length≤d∧∀k∈a.kids,gp d k
def lh (n:Int):Int:=(n+7) / 8
theorem xY {n:Int}(h0:0≤n)(h1:n≤1000000):IntKind.i64.wrap (Int.tdiv (IntKind.i64.wrap (n+7)) 8)=lh n:=by
 unfold lh
 rw [ek (n+7) (by omega),Int.tdiv_eq_ediv_of_nonneg (by omega),ek _ (by omega)]
theorem jQ {k:Nat}(hk:1≤k){n:Int}(h0:0≤n)(h1:n≤1000000):dy.f bK k n=some (lh n):=by
 obtain ⟨k,rfl⟩:∃m,k=m+1:=⟨k - 1,by omega⟩
 rw [dy.f_eq,xY h0 h1]
def part (x:oZ)(i c:Int):oZ:=.mk x.layout (x.offset+i) c x.valid x.ends x.data x.kids
theorem Af {k:Nat}(hk:1≤k)(x:Int):cB.f bK k x=some x:=by
 obtain ⟨k,rfl⟩:∃m,k=m+1:=⟨k - 1,by omega⟩
 rw [cB.f_eq]
def oo:Nat→Nat→List Int
 |0,_=>[]
 |f+1,n=>if n<10 then [48+(n:Int)] else oo f (n / 10)++[48+((n % 10:Nat):Int)]
theorem rr:∀f n,(oo f n).length≤f
 |0,_=>Nat.le_refl _
 |f+1,n=>by
  unfold oo
  split
  ·simp
  ·have:=rr f (n / 10)
   simp;omega
theorem pD:∀(f g n:Nat),n<10 ^ f→n<10 ^ g→0<f→0<g→oo f n=oo g n
 |0,_,_,_,_,h,_=>by omega
 |_,0,_,_,_,_,h=>by omega
 |f+1,g+1,n,hf,hg,_,_=>by
  unfold oo
  by_cases h:n<10
  ·rw [if_pos h,if_pos h]
  ·rw [if_neg h,if_neg h]
   have f0:0<f:=by
    rcases Nat.eq_zero_or_pos f with e|e
    ·subst e;omega
    ·exact e
   have g0:0<g:=by
    rcases Nat.eq_zero_or_pos g with e|e
    ·subst e;omega
    ·exact e
   rw [pD f g (n / 10) (by rw [Nat.pow_succ] at hf;omega) (by rw [Nat.pow_succ] at hg;omega) f0 g0]
def uk (n:Nat):List UInt8:=ah (oo 20 n)
theorem pS (n:Nat):(uk n).length≤20:=by unfold uk;rw [fK];exact rr 20 n
def ei (x:Int):List UInt8:=if x<0 then 45 :: uk x.natAbs else uk x.toNat
theorem nV (x:Int):(ei x).length≤21:=by
 unfold ei
 split
 ·have:=pS x.natAbs;simp;omega
 ·have:=pS x.toNat;omega
def uO (x:Int):List UInt8:=[105]++ei x++[59]
def mi (b:Bool):List UInt8:=if b then [116] else [102]
def gK (s:List UInt8):List UInt8:=[115]++uk s.length++[58]++s
def xm (vs:List (List UInt8)):List UInt8:=[91]++vs.flatten++[93]
def ql (vs:List (List UInt8)):List UInt8:=[123]++vs.flatten++[125]
def T (g:Nat→Nat)(p c:Nat):Nat:=((List.range' p c).map g).sum
theorem s5:∀(f n:Nat),n<10 ^ f→0<f→ah (oo f n)=Lib.decDigits n
 |0,_,_,h=>by omega
 |f+1,n,hf,_=>by
  rw [Lib.decDigits]
  unfold oo
  by_cases h:n<10
  ·rw [if_pos h,dif_pos h]
   unfold ah
   simp only [List.map_cons,List.map_nil,List.cons.injEq,and_true]
   congr 1
  ·rw [if_neg h,dif_neg h]
   have f0:0<f:=by
    rcases Nat.eq_zero_or_pos f with e|e
    ·subst e;omega
    ·exact e
   rw [dX,s5 f (n / 10) (by rw [Nat.pow_succ] at hf;omega) f0]
   congr 1
theorem yn {x:Int}(h0:-9223372036854775808≤x)(h1:x≤9223372036854775807):Lib.itoa x=ei x:=by
 unfold Lib.itoa ei uk
 have e:(10:Nat) ^ 20=100000000000000000000:=by decide
 split
 ·rw [s5 20 _ (by omega) (by omega)]
 ·rw [s5 20 _ (by omega) (by omega)]
theorem sp (n:Nat):ei (n:Int)=uk n:=by
 unfold ei
 rw [if_neg (by omega),Int.toNat_natCast]
def mU:Nat→Nat→List Nat
 |0,_=>[]
 |f+1,n=>if n<10 then [n] else mU f (n / 10)++[n % 10]
def kh (l:List Nat):Nat:=l.foldl (fun a d=>10*a+d) 0
theorem qV (l:List Nat)(d:Nat):kh (l++[d])=10*kh l+d:=by unfold kh;rw [List.foldl_append];rfl
theorem po:∀f n,oo f n=List.map (fun (d:Nat)=>(48:Int)+(d:Int)) (mU f n)
 |0,_=>rfl
 |f+1,n=>by
  unfold oo mU
  split
  ·rfl
  ·rw [po f (n / 10),List.map_append];rfl
theorem na:∀f n,n<10 ^ f→0<f→kh (mU f n)=n∧(∀d∈mU f n,d<10)∧mU f n≠[]
 |0,_,_,h=>by omega
 |f+1,n,hf,_=>by
  unfold mU
  by_cases h:n<10
  ·rw [if_pos h]
   refine ⟨by simp [kh],fun d hd=>?_,by simp⟩
   rw [List.mem_singleton.1 hd];exact h
  ·rw [if_neg h]
   have f0:0<f:=by
    rcases Nat.eq_zero_or_pos f with e|e
    ·subst e;omega
    ·exact e
   obtain ⟨h1,h2,h3⟩:=na f (n / 10) (by rw [Nat.pow_succ] at hf;omega) f0
   refine ⟨by rw [qV,h1];omega,fun d hd=>?_,by simp⟩
   rcases List.mem_append.1 hd with hd|hd
   ·exact h2 d hd
   ·rw [List.mem_singleton.1 hd];omega
theorem qM:∀f n,(mU f n).length≤f
 |0,_=>Nat.le_refl _
 |f+1,n=>by
  unfold mU
  split
  ·simp
  ·have:=qM f (n / 10)
   simp;omega
def ie (l:List Nat):List UInt8:=l.map fun d=>UInt8.ofNat (48+d)
theorem ni {n:Nat}(h:n<10 ^ 19):uk n=ie (mU 19 n):=by
 unfold uk ie ah
 rw [pD 20 19 n (by omega) h (by omega) (by omega),po,List.map_map]
 refine List.map_congr_left fun d _=>?_
 simp only [Function.comp_apply]
 congr 1
inductive nY:List UInt8→Prop
 |n:nY [110]
 |t:nY [116]
 |f:nY [102]
 |i (x:Int) (h0:-9223372036854775808≤x) (h1:x≤9223372036854775807):nY (uO x)
 |s (l:List UInt8) (h:l.length≤100000):nY (gK l)
def Tx:Nat→List UInt8→Prop
 |0,v=>nY v∨v=xm []∨v=ql []
 |d+1,v=>nY v∨∃vs,(∀w∈vs,Tx d w)∧(v=xm vs∨v=ql vs)
theorem sF {x:Int}(h0:-9223372036854775808≤x)(h1:x≤9223372036854775807):(ei x).length≤20∧∀b∈ei x,b≠58∧b≠59:=by
 have p19:(10:Nat) ^ 19=10000000000000000000:=by decide
 have key:∀n:Nat,n<10 ^ 19→(uk n).length≤19∧∀b∈uk n,b≠58∧b≠59:=by
  intro n hn
  obtain ⟨_,hd,_⟩:=na 19 n hn (by omega)
  rw [ni hn]
  refine ⟨by unfold ie;rw [List.length_map];exact qM 19 n,fun b hb=>?_⟩
  unfold ie at hb
  obtain ⟨d,hd',rfl⟩:=List.mem_map.1 hb
  have hlt:=hd d hd'
  have e:(UInt8.ofNat (48+d)).toNat=48+d:=by rw [UInt8.toNat_ofNat'];omega
  constructor<;>(intro e';rw [e'] at e;simp at e;omega)
 unfold ei
 split
 ·obtain ⟨k1,k2⟩:=key x.natAbs (by omega)
  refine ⟨by simp only [List.length_cons];omega,fun b hb=>?_⟩
  rcases List.mem_cons.1 hb with rfl|hb
  ·exact ⟨by decide,by decide⟩
  ·exact k2 b hb
 ·obtain ⟨k1,k2⟩:=key x.toNat (by omega)
  exact ⟨by omega,k2⟩
def kV (x:Int):Prop:=-9223372036854775808≤x∧x≤9223372036854775807
inductive gv:List UInt8→Int→List (List UInt8)→Prop
 |n:gv [110] (-1) []
 |i (x:Int) (h:kV x):gv (uO x) 0 [ei x]
 |b (b:Bool):gv (mi b) 1 [mi b]
 |s (l:List UInt8):gv (gK l) 2 [l]
 |l (vs:List (List UInt8)) (h:∀w∈vs,Tx 3 w):gv (xm vs) 3 vs
 |r (vs:List (List UInt8)) (h:∀w∈vs,Tx 3 w):gv (ql vs) 4 vs
theorem uT (x:Int)(n:Nat):Int.fdiv x (2 ^ n)=x / 2 ^ n:=Int.fdiv_eq_ediv_of_nonneg _ (Int.le_of_lt (Int.pow_pos (by omega)))
def fO (xs:List Bool)(q:Nat):Nat→Nat
 |0=>0
 |n+1=>fO xs q n+(if xs[8*q+n]?=some true then 2 ^ n else 0)
theorem qX (xs:List Bool)(q:Nat):∀n,fO xs q n<2 ^ n
 |0=>Nat.one_pos
 |n+1=>by
  have:=qX xs q n
  rw [fO,Nat.pow_succ]
  split<;>omega
def k9 (xs:List Bool):List UInt8:=(List.range ((xs.length+7) / 8)).map fun q=>UInt8.ofNat (fO xs q 8)
theorem ve (xs:List Bool):(k9 xs).length=(xs.length+7) / 8:=by unfold k9;rw [List.length_map,List.length_range]
def bQ (xs:List Bool)(i:Nat):List Int:=(List.range ((xs.length+7) / 8)).map fun q=>((fO xs q (min 8 (i - 8*q)):Nat):Int)
theorem s7 (xs:List Bool):ah (bQ xs xs.length)=k9 xs:=by
 unfold ah bQ k9
 rw [List.map_map]
 refine List.map_congr_left fun q hq=>?_
 have hq:=List.mem_range.1 hq
 show UInt8.ofNat (((fO xs q (min 8 (xs.length - 8*q)):Nat):Int)).toNat=_
 rw [Int.toNat_natCast]
 congr 1
 by_cases h:8≤xs.length - 8*q
 ·rw [Nat.min_eq_left h]
 ·have key:∀d n,n+d=8→xs.length - 8*q≤n→fO xs q n=fO xs q 8:=by
   intro d
   induction d with
   |zero=>intro n h1 _;rw [show n=8 by omega]
   |succ d ih=>
    intro n h1 h2
    rw [←ih (n+1) (by omega) (by omega),fO,if_neg (by rw [List.getElem?_eq_none (by omega)];simp),Nat.add_zero]
  rw [Nat.min_eq_right (by omega)]
  exact key (8 - (xs.length - 8*q)) _ (by omega) (Nat.le_refl _)
theorem sT (e r:Nat)(hr:r<8)(he:e<2 ^ r):aN .or .u8 (e:Int) (IntKind.u8.wrap (1*2 ^ (min r IntKind.u8.bits)))=((e+2 ^ r:Nat):Int):=by
 have h2:2 ^ r≤128:=by
  have:2 ^ r≤2 ^ 7:=Nat.pow_le_pow_right (by omega) (by omega)
  omega
 have hm:min r IntKind.u8.bits=r:=by simp only [IntKind.bits];omega
 have hp:((2:Int) ^ r)=((2 ^ r:Nat):Int):=by push_cast;rfl
 rw [hm,Int.one_mul,hp,Au,pm]
 have e1:((e:Int) % (2 ^ IntKind.u8.bits:Int)).toNat=e:=by simp only [IntKind.bits];omega
 have e2:((((2 ^ r:Nat):Int) % 256) % (2 ^ IntKind.u8.bits:Int)).toNat=1*2 ^ r:=by simp only [IntKind.bits];omega
 rw [e1,e2,wX e 1 r he,Au]
 omega
theorem fJ {xs:List Bool}{i q:Nat}(hq:q<(xs.length+7) / 8):(bQ xs i)[q]?=some ((fO xs q (min 8 (i - 8*q)):Nat):Int):=by
 unfold bQ
 rw [List.getElem?_map,List.getElem?_range hq];rfl
theorem sw {xs:List Bool}{i:Nat}(h:i<xs.length)(hx:xs[i]=true):(bQ xs i).set (i / 8) (((fO xs (i / 8) (i % 8)+2 ^ (i % 8):Nat)):Int)=bQ xs (i+1):=by
 refine List.ext_getElem? fun q=>?_
 by_cases hq:q<(xs.length+7) / 8
 ·rw [List.getElem?_set]
  have hl:i / 8<(bQ xs i).length:=by unfold bQ;rw [List.length_map,List.length_range];omega
  by_cases hiq:i / 8=q
  ·rw [if_pos hiq,if_pos hl,fJ hq,←hiq,show min 8 (i+1 - 8*(i / 8))=i % 8+1 by omega,fO,show 8*(i / 8)+i % 8=i by omega,List.getElem?_eq_getElem h,hx,if_pos rfl]
  ·rw [if_neg hiq,fJ hq,fJ hq]
   congr 3
   omega
 ·rw [List.getElem?_eq_none (by rw [List.length_set];unfold bQ;rw [List.length_map,List.length_range];omega),List.getElem?_eq_none (by unfold bQ;rw [List.length_map,List.length_range];omega)]
theorem qT {xs:List Bool}{i:Nat}(h:i<xs.length)(hx:xs[i]=false):bQ xs i=bQ xs (i+1):=by
 unfold bQ
 refine List.map_congr_left fun q _=>?_
 congr 1
 by_cases hiq:i / 8=q
 ·rw [←hiq,show min 8 (i+1 - 8*(i / 8))=i % 8+1 by omega,show min 8 (i - 8*(i / 8))=i % 8 by omega,fO,show 8*(i / 8)+i % 8=i by omega,List.getElem?_eq_getElem h,hx,if_neg (by simp),Nat.add_zero]
 ·rw [show min 8 (i+1 - 8*q)=min 8 (i - 8*q) by omega]
end Go.Proofs.YtjkokaockhecnaaGreatDoorP
