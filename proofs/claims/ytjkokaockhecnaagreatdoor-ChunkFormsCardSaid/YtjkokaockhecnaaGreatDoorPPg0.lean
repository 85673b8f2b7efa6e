/- What the functions below the laws answer, in plain lists and numbers; no condition but the sizes that a machine has. -/
import Derived.Test.YtjkokaockhecnaaGreatDoorPLoop
import Derived.Laws.BitsLemmas
import Derived.KernelRfl
import Derived.Lib.ItoaNum
import Derived.Lib.Join
import Derived.Test.YtjkokaockhecnaaGreatDoorRoom
namespace Go.Proofs.YtjkokaockhecnaaGreatDoorP
open Go Go.Proofs.YtjkokaockhecnaaGreatDoorA
def jM:Nat→g8→Prop
 |0,_=>False
 |d+1,a=>a.kids.length≤d∧∀k∈a.kids,jM d k
def gK (n:Int):Int:=(n+7) / 8
theorem yH {n:Int}(h0:0≤n)(h1:n≤1000000):IntKind.i64.wrap (Int.tdiv (IntKind.i64.wrap (n+7)) 8)=gK n:=by
 unfold gK
 rw [bb (n+7) (by omega),Int.tdiv_eq_ediv_of_nonneg (by omega),bb _ (by omega)]
theorem wX {k:Nat}(hk:1≤k){n:Int}(h0:0≤n)(h1:n≤1000000):b7.f aG k n=some (gK n):=by
 obtain ⟨k,rfl⟩:∃m,k=m+1:=⟨k - 1,by omega⟩
 rw [b7.f_eq,yH h0 h1]
theorem jK {k:Nat}(hk:1≤k){n:Int}(h0:0≤n)(h1:n≤1000000):eV.f aG k n=some (gK n):=by
 obtain ⟨k,rfl⟩:∃m,k=m+1:=⟨k - 1,by omega⟩
 rw [eV.f_eq,yH h0 h1]
def Gm (s:List UInt8)(i:Nat):Bool:=
 match s[i / 8]? with
 |some b=>(aH .and .u8 (Int.fdiv (b.toNat:Int) (2 ^ (min (i % 8) IntKind.u8.bits))) 1)==1
 |none=>false
theorem GL {s:List UInt8}{i:Nat}(h:i / 8<s.length)(hi:i≤1000000):
  ((rd s (IntKind.i64.wrap (Int.tdiv (i:Int) 8))).bind fun b_1=>
   bif decide (Int.tmod (i:Int) 8<0) then none else
   some ((aH .and .u8 (Int.fdiv (b_1.toNat:Int) (2 ^ (min (Int.tmod (i:Int) 8).toNat IntKind.u8.bits))) 1)==1))=some (Gm s i):=by
 have e1:Int.tdiv (i:Int) 8=((i / 8:Nat):Int):=by rw [Int.tdiv_eq_ediv_of_nonneg (by omega)];omega
 have e2:Int.tmod (i:Int) 8=((i % 8:Nat):Int):=by rw [Int.tmod_eq_emod_of_nonneg (by omega)];omega
 have h3:¬(((i % 8:Nat):Int)<0):=by omega
 rw [e1,e2,bb _ (by omega),aM h,bS,decide_eq_false h3,cF,Int.toNat_natCast]
 unfold Gm
 rw [List.getElem?_eq_getElem h]
theorem xK {k:Nat}(hk:1≤k){s:List UInt8}{i:Nat}(h:i / 8<s.length)(hi:i≤1000000):oI.f aG k s (i:Int)=some (Gm s i):=by
 obtain ⟨k,rfl⟩:∃m,k=m+1:=⟨k - 1,by omega⟩
 rw [oI.f_eq];exact GL h hi
theorem sD {α:Type}{l:List α}{j:Nat}{d:α}(h:j<l.length):l.getD j d=l[j]:=by simp [List.getD,h]
def vB (t:List aL)(a:Int)(j:Nat):Int:=(bA t a).getD j 0
theorem mF {t:List aL}{a:Int}{j:Nat}(h:j<(bA t a).length):(bA t a)[j]?=some (vB t a j):=by
 unfold vB;rw [sD h,List.getElem?_eq_getElem h]
theorem BJ {t:List aL}(hm:iz t=true){i j:Nat}(hj:j<(bA t (i:Int)).length):∃q:Nat,vB t (i:Int) j=(q:Int)∧i<q∧q<t.length:=by
 have hmem:vB t (i:Int) j∈bA t (i:Int):=by unfold vB;rw [sD hj];exact List.getElem_mem hj
 obtain ⟨q,h1,_,h3,h4⟩:=mG.1 hmem
 have:=(ig hm).up h1
 exact ⟨q,h4,by omega,h1⟩
def part (x:g8)(i c:Int):g8:=.mk x.layout (x.offset+i) c x.valid x.ends x.data x.kids
theorem JX {a m:Int}(hm:1≤m∧m≤1000000):IntKind.u64.wrap m≠0∧IntKind.i64.wrap (Int.tmod (IntKind.u64.wrap a) (IntKind.u64.wrap m))=(a % 18446744073709551616) % m∧0≤(a % 18446744073709551616) % m∧(a % 18446744073709551616) % m<m:=by
 have e1:IntKind.u64.wrap m=m:=qR m (by omega)
 have e2:IntKind.u64.wrap a=a % 18446744073709551616:=by simp [IntKind.wrap,IntKind.bits,IntKind.signed]
 have h0:0≤(a % 18446744073709551616) % m:=Int.emod_nonneg _ (by omega)
 have h1:(a % 18446744073709551616) % m<m:=Int.emod_lt_of_pos _ (by omega)
 refine ⟨by omega,?_,h0,h1⟩
 rw [e1,e2,Int.tmod_eq_emod_of_nonneg (Int.emod_nonneg _ (by omega)),bb _ (by omega)]
theorem Bz {k:Nat}(hk:1≤k)(x:Int):bp.f aG k x=some x:=by
 obtain ⟨k,rfl⟩:∃m,k=m+1:=⟨k - 1,by omega⟩
 rw [bp.f_eq]
def li:Nat→Nat→List Int
 |0,_=>[]
 |f+1,n=>if n<10 then [48+(n:Int)] else li f (n / 10)++[48+((n % 10:Nat):Int)]
theorem wB:∀f n,(li f n).length≤f
 |0,_=>Nat.le_refl _
 |f+1,n=>by
  unfold li
  split
  ·simp
  ·have:=wB f (n / 10)
   simp;omega
theorem uf:∀(f g n:Nat),n<10 ^ f→n<10 ^ g→0<f→0<g→li f n=li g n
 |0,_,_,_,_,h,_=>by omega
 |_,0,_,_,_,_,h=>by omega
 |f+1,g+1,n,hf,hg,_,_=>by
  unfold li
  by_cases h:n<10
  ·rw [if_pos h,if_pos h]
  ·rw [if_neg h,if_neg h]
   have f0:0<f:=by
    rcases Nat.eq_zero_or_pos f with e|e
    ·subst e;omega
    ·exact e
   have g0:0<g:=by
    rcases Nat.eq_zero_or_pos g with e|e
    ·subst e;omega
    ·exact e
   rw [uf f g (n / 10) (by rw [Nat.pow_succ] at hf;omega) (by rw [Nat.pow_succ] at hg;omega) f0 g0]
def ni (n:Nat):List UInt8:=ae (li 20 n)
theorem qX (n:Nat):(ni n).length≤20:=by unfold ni;rw [ji];exact wB 20 n
def ug (x:Int)(l:List Int):List UInt8:=ae (if x<0 then 45 :: l else l)
theorem BL (n:Nat):IntKind.u8.wrap (IntKind.u64.wrap (48+(Int.tmod (n:Int) 10)))=48+((n % 10:Nat):Int):=by
 rw [Int.tmod_eq_emod_of_nonneg (by omega),qR _ (by omega),yc];omega
theorem Be {n:Nat}(h:n≤18446744073709551615):IntKind.u64.wrap (Int.tdiv (n:Int) 10)=((n / 10:Nat):Int):=by
 rw [Int.tdiv_eq_ediv_of_nonneg (by omega),qR _ (by omega)];omega
theorem qe {k n:Nat}(x:Int){out:List Int}(h0:out≠[])(hl:out.length≤1000):aB.l0 aG k (n+1) x 0 out=some (ug x out):=by
 have e1:(((out.length:Nat):Int)==0)=false:=by
  rw [beq_eq_false_iff_ne];intro h;exact h0 (List.length_eq_zero_iff.1 (by omega))
 rw [aB.l0_eq,dF (by omega),Bool.not_false,cT,e1,cF]
 unfold ug
 by_cases h:x<0
 ·rw [dT h,cT,if_pos h,dT (by simp;omega),cT];rfl
 ·rw [dF h,cF,if_neg h]
theorem rU (k:Nat)(x:Int):∀(f m:Nat) (out:List Int) (n:Nat),0<m→m<10 ^ f→m≤18446744073709551615→f+1≤n→out.length+f≤900→aB.l0 aG k n x (m:Int) out=some (ug x (li f m++out))
 |0,m,_,_,h0,h1,_,_,_=>by simp at h1;omega
 |f+1,m,out,n,h0,h1,h2,h3,h4=>by
  obtain ⟨n,rfl⟩:∃q,n=q+1:=⟨n - 1,by omega⟩
  rw [aB.l0_eq,dT (show (m:Int)>0 by omega),Bool.not_true,cF,BL,Be h2,dT (by simp;omega),cT]
  by_cases h:m<10
  ·have e:m / 10=0:=by omega
   obtain ⟨n,rfl⟩:∃q,n=q+1:=⟨n - 1,by omega⟩
   rw [e,show ((0:Nat):Int)=0 from rfl,qe x (by simp) (by simp;omega)]
   unfold li
   rw [if_pos h,show m % 10=m by omega]
  ·rw [rU k x f (m / 10) _ n (by omega) (by rw [Nat.pow_succ] at h1;omega) (by omega) (by omega) (by simp;omega)]
   conv=>rhs;unfold li
   rw [if_neg h,List.append_assoc]
theorem rF {k:Nat}(hk:100≤k)(x:Int){m:Nat}(hm:m≤18446744073709551615):aB.j4 aG k x (m:Int)=some (ug x (li 20 m)):=by
 rw [aB.j4_eq]
 by_cases h:0<m
 ·rw [rU k x 20 m [] k h (by omega) hm (by omega) (by simp),List.append_nil]
 ·obtain rfl:m=0:=by omega
  obtain ⟨q,rfl⟩:∃q,k=q+2:=⟨k - 2,by omega⟩
  rw [show ((0:Nat):Int)=0 from rfl]
  conv=>lhs;rw [aB.l0_eq]
  rw [dF (by omega),Bool.not_false,cT,show ((([]:List Int).length:Int)==0)=true from rfl,cT,dT (by simp),cT]
  have e:IntKind.u64.wrap (Int.tdiv 0 10)=0:=by decide
  have e2:IntKind.u8.wrap (IntKind.u64.wrap (48+(Int.tmod 0 10)))=48:=by decide
  rw [e,e2,qe x (by simp) (by simp)]
  rfl
def cC (x:Int):List UInt8:=if x<0 then 45 :: ni x.natAbs else ni x.toNat
theorem oV (x:Int):(cC x).length≤21:=by
 unfold cC
 split
 ·have:=qX x.natAbs;simp;omega
 ·have:=qX x.toNat;omega
theorem xB {k:Nat}(hk:101≤k){x:Int}(h0:-9223372036854775808≤x)(h1:x≤9223372036854775807):aB.f aG k x=some (cC x):=by
 obtain ⟨k,rfl⟩:∃m,k=m+1:=⟨k - 1,by omega⟩
 rw [aB.f_eq]
 unfold cC
 by_cases h:x<0
 ·rw [dT h,cT,if_pos h]
  have e1:IntKind.u64.wrap ((IntKind.u64.wrap (IntKind.i64.wrap (0 - (IntKind.i64.wrap (x+1)))))+1)=((x.natAbs:Nat):Int):=by
   rw [bb (x+1) (by omega),bb (0 - (x+1)) (by omega),qR (0 - (x+1)) (by omega),qR _ (by omega)];omega
  rw [sj,e1,rF (by omega) x (by omega)]
  unfold ug ni
  rw [if_pos h]
  rfl
 ·rw [dF h,cF,if_neg h]
  have e1:IntKind.u64.wrap x=((x.toNat:Nat):Int):=by rw [qR _ (by omega)];omega
  rw [sj,e1,rF (by omega) x (by omega)]
  unfold ug ni
  rw [if_neg h]
theorem zU {m:Nat}:IntKind.u8.wrap (IntKind.i64.wrap (48 - (Int.tmod (-(m:Int)) 10)))=48+((m % 10:Nat):Int):=by
 have e:Int.tmod (-(m:Int)) 10=-(((m % 10:Nat):Int)):=by
  rw [Int.neg_tmod,Int.tmod_eq_emod_of_nonneg (by omega)];omega
 rw [e,bb _ (by omega),yc];omega
theorem E9 {m:Nat}(h:m≤9223372036854775808):IntKind.i64.wrap (Int.tdiv (-(m:Int)) 10)=-((m / 10:Nat):Int):=by
 rw [Int.neg_tdiv,Int.tdiv_eq_ediv_of_nonneg (by omega),bb _ (by omega)];omega
theorem uh (k:Nat):∀(f m:Nat) (s:List UInt8) (n:Nat),0<m→m<10 ^ f→m≤9223372036854775808→f+1≤n→s.length+f≤900→aW.l0 aG k n (-(m:Int)) s=some (45 :: (ae (li f m)++s))
 |0,m,_,_,h0,h1,_,_,_=>by simp at h1;omega
 |f+1,m,s,n,h0,h1,h2,h3,h4=>by
  obtain ⟨n,rfl⟩:∃q,n=q+1:=⟨n - 1,by omega⟩
  rw [aW.l0_eq,dT (show -(m:Int)<0 by omega),cT,zU,E9 h2,dT (by simp [ae];omega),cT]
  by_cases h:m<10
  ·have e:m / 10=0:=by omega
   obtain ⟨n,rfl⟩:∃q,n=q+1:=⟨n - 1,by omega⟩
   rw [e,show -((0:Nat):Int)=0 from rfl,aW.l0_eq,dF (by omega),cF,dT (by simp [ae];omega),cT]
   unfold li
   rw [if_pos h,show m % 10=m by omega]
   rfl
  ·rw [uh k f (m / 10) _ n (by omega) (by rw [Nat.pow_succ] at h1;omega) (by omega) (by omega) (by simp [ae];omega)]
   conv=>rhs;unfold li
   rw [if_neg h,eU,List.append_assoc]
theorem o1 {k:Nat}(hk:110≤k){x:Int}(h0:-9223372036854775808≤x)(h1:x≤9223372036854775807):aW.f aG k x=some (cC x):=by
 obtain ⟨k,rfl⟩:∃m,k=m+1:=⟨k - 1,by omega⟩
 rw [aW.f_eq]
 by_cases h:0≤x
 ·rw [dT h,cT,xB (by omega) h0 h1,bS]
 ·rw [dF h,cF]
  have e:x=-((x.natAbs:Nat):Int):=by omega
  have:=uh k 20 x.natAbs [] k (by omega) (by omega) (by omega) (by omega) (by simp)
  rw [←e] at this
  rw [this]
  unfold cC ni
  rw [if_pos (by omega),List.append_nil]
def f6 (x:Int):List UInt8:=[105]++cC x++[59]
def jt (b:Bool):List UInt8:=if b then [116] else [102]
def cr (s:List UInt8):List UInt8:=[115]++ni s.length++[58]++s
def f8 (vs:List (List UInt8)):List UInt8:=[91]++vs.flatten++[93]
def du (vs:List (List UInt8)):List UInt8:=[123]++vs.flatten++[125]
def T (g:Nat→Nat)(p c:Nat):Nat:=((List.range' p c).map g).sum
theorem xX:∀(f n:Nat),n<10 ^ f→0<f→ae (li f n)=Lib.decDigits n
 |0,_,_,h=>by omega
 |f+1,n,hf,_=>by
  rw [Lib.decDigits]
  unfold li
  by_cases h:n<10
  ·rw [if_pos h,dif_pos h]
   unfold ae
   simp only [List.map_cons,List.map_nil,List.cons.injEq,and_true]
   congr 1
  ·rw [if_neg h,dif_neg h]
   have f0:0<f:=by
    rcases Nat.eq_zero_or_pos f with e|e
    ·subst e;omega
    ·exact e
   rw [eU,xX f (n / 10) (by rw [Nat.pow_succ] at hf;omega) f0]
   congr 1
theorem EY {x:Int}(h0:-9223372036854775808≤x)(h1:x≤9223372036854775807):Lib.itoa x=cC x:=by
 unfold Lib.itoa cC ni
 have e:(10:Nat) ^ 20=100000000000000000000:=by decide
 split
 ·rw [xX 20 _ (by omega) (by omega)]
 ·rw [xX 20 _ (by omega) (by omega)]
theorem jX (n:Nat):cC (n:Int)=ni n:=by
 unfold cC
 rw [if_neg (by omega),Int.toNat_natCast]
def mI:Nat→Nat→List Nat
 |0,_=>[]
 |f+1,n=>if n<10 then [n] else mI f (n / 10)++[n % 10]
def dE (l:List Nat):Nat:=l.foldl (fun a d=>10*a+d) 0
theorem mb (l:List Nat)(d:Nat):dE (l++[d])=10*dE l+d:=by unfold dE;rw [List.foldl_append];rfl
theorem uF:∀f n,li f n=List.map (fun (d:Nat)=>(48:Int)+(d:Int)) (mI f n)
 |0,_=>rfl
 |f+1,n=>by
  unfold li mI
  split
  ·rfl
  ·rw [uF f (n / 10),List.map_append];rfl
theorem lT:∀f n,n<10 ^ f→0<f→dE (mI f n)=n∧(∀d∈mI f n,d<10)∧mI f n≠[]
 |0,_,_,h=>by omega
 |f+1,n,hf,_=>by
  unfold mI
  by_cases h:n<10
  ·rw [if_pos h]
   refine ⟨by simp [dE],fun d hd=>?_,by simp⟩
   rw [List.mem_singleton.1 hd];exact h
  ·rw [if_neg h]
   have f0:0<f:=by
    rcases Nat.eq_zero_or_pos f with e|e
    ·subst e;omega
    ·exact e
   obtain ⟨h1,h2,h3⟩:=lT f (n / 10) (by rw [Nat.pow_succ] at hf;omega) f0
   refine ⟨by rw [mb,h1];omega,fun d hd=>?_,by simp⟩
   rcases List.mem_append.1 hd with hd|hd
   ·exact h2 d hd
   ·rw [List.mem_singleton.1 hd];omega
theorem od:∀f n,(mI f n).length≤f
 |0,_=>Nat.le_refl _
 |f+1,n=>by
  unfold mI
  split
  ·simp
  ·have:=od f (n / 10)
   simp;omega
def cJ (l:List Nat):List UInt8:=l.map fun d=>UInt8.ofNat (48+d)
theorem kx {n:Nat}(h:n<10 ^ 19):ni n=cJ (mI 19 n):=by
 unfold ni cJ ae
 rw [uf 20 19 n (by omega) h (by omega) (by omega),uF,List.map_map]
 refine List.map_congr_left fun d _=>?_
 simp only [Function.comp_apply]
 congr 1
theorem nr {l : List Nat} (hd : ∀ d ∈ l, d < 10) {j : Nat} (hj : j < l.length) : ((cJ l)[j]'(by unfold cJ; simpa using hj)).toNat = 48 + l[j] := by
 unfold cJ
 have:=hd l[j] (List.getElem_mem hj)
 rw [List.getElem_map,UInt8.toNat_ofNat']
 omega
theorem pS (l:List Nat):∀j,j≤l.length→dE (l.take j)≤dE l:=by
 have snoc:∀(m l:List Nat),dE l≤dE (l++m):=by
  intro m
  induction m with
  |nil=>intro l;simp
  |cons d m ih=>
   intro l
   have:=ih (l++[d])
   rw [List.append_assoc,List.singleton_append,mb] at this
   omega
 intro j _
 have:=snoc (l.drop j) (l.take j)
 rw [List.take_append_drop] at this
 exact this
theorem ke {l:List Nat}{j:Nat}(h:j<l.length):dE (l.take (j+1))=10*dE (l.take j)+l[j]:=by
 rw [List.take_succ_eq_append_getElem h,mb]
theorem Ai {k:Nat}(hk:130≤k){l:List Nat}(hd:∀d∈l,d<10)(hn:l≠[])(hl:l.length≤19)(hv:dE l≤9223372036854775807)(he:cC ((dE l:Nat):Int)=cJ l):
  aj.f aG k (cJ l)=some (((dE l:Nat):Int),true):=by
 obtain ⟨k,rfl⟩:∃m,k=m+1:=⟨k - 1,by omega⟩
 have hlen:(cJ l).length=l.length:=by unfold cJ;simp
 have hpos:0<l.length:=List.length_pos_iff.2 hn
 rw [aj.f_eq]
 refine di (F:=fun n j=>aj.l0 aG k n (cJ l) ((dE (l.take j):Nat):Int) (j:Int)) (N:=l.length) ?_ ?_ k 0 (by omega) (by omega)
 ·intro n j hj
  have hb:=aM (l:=cJ l) (i:=j) (by omega)
  have hb0:=aM (l:=cJ l) (i:=0) (by omega)
  have e1:=nr hd hj
  have e0:=nr hd hpos
  have hdj:=hd l[j] (List.getElem_mem hj)
  have hd0:=hd l[0] (List.getElem_mem hpos)
  have ht:=ke hj
  have hm:=pS l (j+1) (by omega)
  rw [show ((0:Nat):Int)=0 from rfl] at hb0
  rw [aj.l0_eq,dT (by omega),cT,dT (by omega),cT,hb,bS,e1,show ((((48+l[j]:Nat)):Int)==45)=false by rw [beq_eq_false_iff_ne];omega,cF,bS,e1,dF (by omega),Bool.not_false,cT,bS,e1,dF (by omega),cF,hb0,bS,e0,
   show ((((48+l[0]:Nat)):Int)==45)=false by rw [beq_eq_false_iff_ne];omega,cF,bS,e1,yc,bb (10*_) (by omega),show (((48+l[j]:Nat):Int) - 48) % 256=(l[j]:Int) by omega,bb (l[j]:Int) (by omega),bb _ (by omega),bu (by omega),ht]
  congr 1
 ·intro n
  rw [aj.l0_eq,dF (by omega),cF,List.take_length,o1 (by omega) (by omega) (by omega),bS,he,BEq.rfl]
theorem za {k:Nat}(hk:130≤k){l:List Nat}(hd:∀d∈l,d<10)(hl:l.length≤19)(hv:dE l≤9223372036854775808)(he:cC (-((dE l:Nat):Int))=45 :: cJ l):
  aj.f aG k (45 :: cJ l)=some (-((dE l:Nat):Int),true):=by
 obtain ⟨k,rfl⟩:∃m,k=m+1:=⟨k - 1,by omega⟩
 have hlen:(cJ l).length=l.length:=by unfold cJ;simp
 have hb0:=aM (l:=45 :: cJ l) (i:=0) (by simp)
 rw [show ((0:Nat):Int)=0 from rfl] at hb0
 have b0 : (((45 :: cJ l)[0]'(by simp)).toNat : Int) = 45 := rfl
 obtain ⟨k,rfl⟩:∃m,k=m+1:=⟨k - 1,by omega⟩
 rw [aj.f_eq,aj.l0_eq,dT (by simp only [List.length_cons];omega),cT,dT (by simp only [List.length_cons];omega),cT,hb0,bS,b0,BEq.rfl,cT,BEq.rfl,cT,bb (0+1) (by omega)]
 refine di (F:=fun n j=>aj.l0 aG (k+1) n (45 :: cJ l) (-((dE (l.take j):Nat):Int)) ((j:Int)+1)) (N:=l.length) ?_ ?_ k 0 (by omega) (by omega)
 ·intro n j hj
  have hb:=aM (l:=45 :: cJ l) (i:=j+1) (by simp only [List.length_cons];omega)
  rw [show ((j+1:Nat):Int)=(j:Int)+1 by omega] at hb
  have e1:=nr hd hj
  have hdj:=hd l[j] (List.getElem_mem hj)
  have ht:=ke hj
  have hm:=pS l (j+1) (by omega)
  simp only [List.getElem_cons_succ] at hb
  rw [aj.l0_eq,dT (by simp only [List.length_cons];omega),cT,dT (by simp only [List.length_cons];omega),cT,hb,bS,e1,show ((((48+l[j]:Nat)):Int)==45)=false by rw [beq_eq_false_iff_ne];omega,cF,bS,e1,dF (by omega),Bool.not_false,cT,bS,e1,dF (by omega),cF,hb0,bS,b0,
   BEq.rfl,cT,bS,e1,yc,bb (10*_) (by omega),show (((48+l[j]:Nat):Int) - 48) % 256=(l[j]:Int) by omega,bb (l[j]:Int) (by omega),bb _ (by omega),bb _ (by omega),ht]
  congr 1
  omega
 ·intro n
  rw [aj.l0_eq,dF (by simp only [List.length_cons];omega),cF,List.take_length,o1 (by omega) (by omega) (by omega),bS,he,BEq.rfl]
theorem rH {k:Nat}(hk:130≤k){x:Int}(h0:-9223372036854775808≤x)(h1:x≤9223372036854775807):aj.f aG k (cC x)=some (x,true):=by
 have p19:(10:Nat) ^ 19=10000000000000000000:=by decide
 by_cases h:x<0
 ·obtain ⟨v1,v2,v3⟩:=lT 19 x.natAbs (by omega) (by omega)
  have e:cC x=45 :: cJ (mI 19 x.natAbs):=by unfold cC;rw [if_pos h,kx (by omega)]
  have hx:-((dE (mI 19 x.natAbs):Nat):Int)=x:=by rw [v1];omega
  have:=za hk v2 (od _ _) (by rw [v1];omega) (by rw [hx];exact e)
  rw [hx] at this
  rw [e];exact this
 ·obtain ⟨v1,v2,v3⟩:=lT 19 x.toNat (by omega) (by omega)
  have e:cC x=cJ (mI 19 x.toNat):=by unfold cC;rw [if_neg h,kx (by omega)]
  have hx:((dE (mI 19 x.toNat):Nat):Int)=x:=by rw [v1];omega
  have:=Ai hk v2 v3 (od _ _) (by rw [v1];omega) (by rw [hx];exact e)
  rw [hx] at this
  rw [e];exact this
def At (s:List UInt8)(p:Nat)(v:List UInt8):Prop:=∃pre post,s=pre++v++post∧pre.length=p
theorem At.left {s a b:List UInt8}{p:Nat}(h:At s p (a++b)):At s p a:=by
 obtain ⟨pre,post,rfl,e⟩:=h
 exact ⟨pre,b++post,by simp [List.append_assoc],e⟩
theorem At.right {s a b:List UInt8}{p:Nat}(h:At s p (a++b)):At s (p+a.length) b:=by
 obtain ⟨pre,post,rfl,e⟩:=h
 exact ⟨pre++a,post,by simp [List.append_assoc],by simp [e]⟩
theorem At.le {s v:List UInt8}{p:Nat}(h:At s p v):p+v.length≤s.length:=by
 obtain ⟨pre,post,rfl,e⟩:=h
 simp only [List.length_append];omega
theorem At.get {s v:List UInt8}{p:Nat}(h:At s p v){j:Nat}(hj:j<v.length):s[p+j]?=v[j]?:=by
 obtain ⟨pre,post,rfl,e⟩:=h
 rw [List.append_assoc,List.getElem?_append_right (by omega),List.getElem?_append_left (by omega)]
 congr 1;omega
theorem At.head {s r:List UInt8}{b:UInt8}{p:Nat}(h:At s p (b :: r)):rd s (p:Int)=some b:=by
 have:=h.get (j:=0) (by simp)
 have hl:=h.le
 rw [List.length_cons] at hl
 rw [aM (by omega)]
 rw [Nat.add_zero,List.getElem?_eq_getElem (by omega)] at this
 exact this
theorem At.slice {s v:List UInt8}{p:Nat}(h:At s p v):(s.take (p+v.length)).drop p=v:=by
 obtain ⟨pre,post,rfl,e⟩:=h
 subst e
 rw [show pre.length+v.length=(pre++v).length by simp,List.take_left',List.drop_left']
 ·rfl
 ·rfl
theorem vh {k:Nat}(hk:40≤k){s m:List UInt8}{c:UInt8}{p:Nat}(h:At s p (m++[c]))(hm:m.length≤21)(hn:∀b∈m,b≠c)(hp:p≤1000000):aI.f aG k s (p:Int) (c.toNat:Int)=some ((p+m.length:Nat):Int):=by
 obtain ⟨k,rfl⟩:∃q,k=q+1:=⟨k - 1,by omega⟩
 have hl:=h.le
 rw [List.length_append,List.length_singleton] at hl
 rw [aI.f_eq]
 refine di (F:=fun n j=>aI.l0 aG k n s (p:Int) (c.toNat:Int) ((p+j:Nat):Int)) (N:=m.length) ?_ ?_ k 0 (by omega) (by omega)
 ·intro n j hj
  have hb:=aM (l:=s) (i:=p+j) (by omega)
  have e:=h.get (j:=j) (by simp;omega)
  rw [List.getElem?_append_left hj,List.getElem?_eq_getElem (by omega),List.getElem?_eq_getElem hj,Option.some.injEq] at e
  have hne:(((m[j]).toNat:Int)==(c.toNat:Int))=false:=by
   rw [beq_eq_false_iff_ne]
   intro e'
   exact hn _ (List.getElem_mem hj) (UInt8.toNat_inj.1 (by omega))
  rw [aI.l0_eq,dT (by omega),cT,bb ((p:Int)+22) (by omega),dT (by omega),cT,hb,bS,e,hne,cF,bu (by omega)]
  rfl
 ·intro n
  have hb:=aM (l:=s) (i:=p+m.length) (by omega)
  have e:=h.get (j:=m.length) (by simp)
  rw [List.getElem?_append_right (Nat.le_refl _),List.getElem?_eq_getElem (by omega),Nat.sub_self,List.getElem?_cons_zero,Option.some.injEq] at e
  rw [aI.l0_eq,dT (by omega),cT,bb ((p:Int)+22) (by omega),dT (by omega),cT,hb,bS,e,BEq.rfl,cT]
inductive eJ:List UInt8→Prop
 |n:eJ [110]
 |t:eJ [116]
 |f:eJ [102]
 |i (x:Int) (h0:-9223372036854775808≤x) (h1:x≤9223372036854775807):eJ (f6 x)
 |s (l:List UInt8) (h:l.length≤100000):eJ (cr l)
def Tx:Nat→List UInt8→Prop
 |0,v=>eJ v∨v=f8 []∨v=du []
 |d+1,v=>eJ v∨∃vs,(∀w∈vs,Tx d w)∧(v=f8 vs∨v=du vs)
theorem eJ.tx {v:List UInt8}(h:eJ v)(d:Nat):Tx d v:=by
 cases d with
 |zero=>exact .inl h
 |succ d=>exact .inl h
theorem eJ.head {v:List UInt8}(h:eJ v):∃b r,v=b :: r∧b≠93∧b≠125:=by
 cases h with
 |n=>exact ⟨_,_,rfl,by decide,by decide⟩
 |t=>exact ⟨_,_,rfl,by decide,by decide⟩
 |f=>exact ⟨_,_,rfl,by decide,by decide⟩
 |i x=>exact ⟨105,_,rfl,by decide,by decide⟩
 |s l=>exact ⟨115,_,rfl,by decide,by decide⟩
theorem Tx.head {d:Nat}{v:List UInt8}(h:Tx d v):∃b r,v=b :: r∧b≠93∧b≠125:=by
 cases d with
 |zero=>
  rcases h with h|rfl|rfl
  ·exact h.head
  ·exact ⟨91,_,rfl,by decide,by decide⟩
  ·exact ⟨123,_,rfl,by decide,by decide⟩
 |succ d=>
  rcases h with h|⟨vs,_,rfl|rfl⟩
  ·exact h.head
  ·exact ⟨91,_,rfl,by decide,by decide⟩
  ·exact ⟨123,_,rfl,by decide,by decide⟩
theorem iM {x:Int}(h0:-9223372036854775808≤x)(h1:x≤9223372036854775807):(cC x).length≤20∧∀b∈cC x,b≠58∧b≠59:=by
 have p19:(10:Nat) ^ 19=10000000000000000000:=by decide
 have key:∀n:Nat,n<10 ^ 19→(ni n).length≤19∧∀b∈ni n,b≠58∧b≠59:=by
  intro n hn
  obtain ⟨_,hd,_⟩:=lT 19 n hn (by omega)
  rw [kx hn]
  refine ⟨by unfold cJ;rw [List.length_map];exact od 19 n,fun b hb=>?_⟩
  unfold cJ at hb
  obtain ⟨d,hd',rfl⟩:=List.mem_map.1 hb
  have hlt:=hd d hd'
  have e:(UInt8.ofNat (48+d)).toNat=48+d:=by rw [UInt8.toNat_ofNat'];omega
  constructor<;>(intro e';rw [e'] at e;simp at e;omega)
 unfold cC
 split
 ·obtain ⟨k1,k2⟩:=key x.natAbs (by omega)
  refine ⟨by simp only [List.length_cons];omega,fun b hb=>?_⟩
  rcases List.mem_cons.1 hb with rfl|hb
  ·exact ⟨by decide,by decide⟩
  ·exact k2 b hb
 ·obtain ⟨k1,k2⟩:=key x.toNat (by omega)
  exact ⟨by omega,k2⟩
theorem wm {k:Nat}(hk:200≤k){s v:List UInt8}(hv:eJ v){p:Nat}(h:At s p v)(hs:s.length≤1000000)(D:Int):ah.f aG k s (p:Int) D=some ((p+v.length:Nat):Int):=by
 obtain ⟨k,rfl⟩:∃q,k=q+1:=⟨k - 1,by omega⟩
 have hl:=h.le
 cases hv with
 |n=>
  simp only [List.length_cons,List.length_nil] at hl ⊢
  rw [ah.f_eq,dF (by omega),cF,h.head,bS,show (((110:UInt8).toNat:Int))=110 from rfl]
  simp only [BEq.rfl,cT]
  rw [bu (by omega)]
 |t=>
  simp only [List.length_cons,List.length_nil] at hl ⊢
  rw [ah.f_eq,dF (by omega),cF,h.head,bS,show (((116:UInt8).toNat:Int))=116 from rfl]
  simp only [show ((116:Int)==110)=false from by decide,BEq.rfl,cT,cF]
  rw [bu (by omega)]
 |f=>
  simp only [List.length_cons,List.length_nil] at hl ⊢
  rw [ah.f_eq,dF (by omega),cF,h.head,bS,show (((102:UInt8).toNat:Int))=102 from rfl]
  simp only [show ((102:Int)==110)=false from by decide,show ((102:Int)==116)=false from by decide,BEq.rfl,cT,cF]
  rw [bu (by omega)]
 |i x h0 h1=>
  obtain ⟨c1,c2⟩:=iM h0 h1
  have hu:=vh (k:=k) (by omega) (s:=s) (m:=[105]++cC x) (c:=59) (p:=p) h (by simp;omega) (fun b hb=>by
   rcases List.mem_append.1 hb with hb|hb
   ·rw [List.mem_singleton.1 hb];decide
   ·exact (c2 b hb).2) (by omega)
  have hh:At s p (105 :: (cC x++[59])):=h
  have hsl:At s (p+1) (cC x):=by
   have h':At s p ([105]++(cC x++[59])):=h
   exact h'.right.left
  have hslice:=hsl.slice
  unfold f6 at hl ⊢
  simp only [List.length_append,List.length_cons,List.length_nil] at hl ⊢
  rw [List.length_append,List.length_singleton,show (((59:UInt8).toNat:Int))=59 from rfl] at hu
  rw [ah.f_eq,dF (by omega),cF,hh.head,bS,show (((105:UInt8).toNat:Int))=105 from rfl]
  simp only [show ((105:Int)==110)=false from by decide,show ((105:Int)==116)=false from by decide,show ((105:Int)==102)=false from by decide,BEq.rfl,cT,cF]
  rw [hu,bS,dF (by omega),cF,dT (by omega),dT (by omega),bb ((p:Int)+1) (by omega),dT (by omega),dT (by omega)]
  simp only [Bool.and_self,cT,Int.toNat_natCast]
  rw [show ((p:Int)+1).toNat=p+1 by omega,show p+(1+(cC x).length)=p+1+(cC x).length by omega,hslice,rH (by omega) h0 h1,bS]
  simp only [Bool.not_true,cF]
  rw [bb _ (by omega)]
  congr 1;omega
 |s l hl4=>
  have hx:cC ((l.length:Nat):Int)=ni l.length:=jX _
  obtain ⟨c1,c2⟩:=iM (x:=((l.length:Nat):Int)) (by omega) (by omega)
  rw [hx] at c1 c2
  have hb1:At s p (([115]++ni l.length)++[58]):=At.left (b:=l) h
  have hu:=vh (k:=k) (by omega) (s:=s) (m:=[115]++ni l.length) (c:=58) (p:=p) hb1 (by simp;omega) (fun b hb=>by
   rcases List.mem_append.1 hb with hb|hb
   ·rw [List.mem_singleton.1 hb];decide
   ·exact (c2 b hb).1) (by omega)
  have hh:At s p (115 :: (ni l.length++[58])):=hb1
  have hsl:At s (p+1) (ni l.length):=by
   have h':At s p ([115]++(ni l.length++[58])):=hb1
   exact h'.right.left
  have hslice:=hsl.slice
  unfold cr at hl ⊢
  simp only [List.length_append,List.length_cons,List.length_nil] at hl ⊢
  rw [List.length_append,List.length_singleton,show (((58:UInt8).toNat:Int))=58 from rfl] at hu
  have hw:=rH (k:=k) (by omega) (x:=((l.length:Nat):Int)) (by omega) (by omega)
  rw [hx] at hw
  rw [ah.f_eq,dF (by omega),cF,hh.head,bS,show (((115:UInt8).toNat:Int))=115 from rfl]
  simp only [show ((115:Int)==110)=false from by decide,show ((115:Int)==116)=false from by decide,show ((115:Int)==102)=false from by decide,show ((115:Int)==105)=false from by decide,BEq.rfl,cT,cF]
  rw [hu,bS,dF (by omega),cF,dT (by omega),dT (by omega),bb ((p:Int)+1) (by omega),dT (by omega),dT (by omega)]
  simp only [Bool.and_self,cT,Int.toNat_natCast]
  rw [show ((p:Int)+1).toNat=p+1 by omega,show p+(1+(ni l.length).length)=p+1+(ni l.length).length by omega,hslice,hw,bS]
  simp only [Bool.not_true,Bool.not_false,cT]
  rw [dF (by omega),Bool.not_false,cT,bb ((s.length:Int) - _) (by omega),bb (_ - 1) (by omega),dF (by omega),cF,bb (_+1) (by omega),bb _ (by omega)]
  congr 1;omega
def cat (vs:List (List UInt8))(j:Nat):Nat:=((vs.take j).flatten).length
theorem mo {vs:List (List UInt8)}{j:Nat}(h:j<vs.length):cat vs (j+1)=cat vs j+(vs[j]).length:=by
 unfold cat
 rw [List.take_succ_eq_append_getElem h,List.flatten_append,List.length_append]
 simp
theorem vz (vs:List (List UInt8)):cat vs vs.length=vs.flatten.length:=by unfold cat;rw [List.take_length]
theorem At.cat {s:List UInt8}{p:Nat}{vs:List (List UInt8)}(h:At s p vs.flatten){j:Nat}(hj:j<vs.length):At s (p+cat vs j) vs[j]:=by
 have e:vs.flatten=(vs.take j).flatten++(vs[j]++(vs.drop (j+1)).flatten):=by
  have e:vs.take j++(vs[j] :: vs.drop (j+1))=vs:=by rw [←List.drop_eq_getElem_cons hj,List.take_append_drop]
  exact (congrArg List.flatten e).symm.trans (by rw [List.flatten_append,List.flatten_cons])
 rw [e] at h
 exact h.right.left
theorem EB {s v:List UInt8}{d p:Nat}(hv:Tx d v)(h:At s p v):∃b,rd s (p:Int)=some b∧b≠93∧b≠125:=by
 obtain ⟨b,r,rfl,h1,h2⟩:=hv.head
 exact ⟨b,h.head,h1,h2⟩
theorem Tx.pos {d:Nat}{v:List UInt8}(h:Tx d v):0<v.length:=by
 obtain ⟨b,r,rfl,_⟩:=h.head
 simp
theorem nJ:∀(vs:List (List UInt8)),(∀w∈vs,0<w.length)→vs.length≤vs.flatten.length
 |[],_=>Nat.le_refl _
 |v :: vs,h=>by
  have h1:=h v List.mem_cons_self
  have h2:=nJ vs fun w hw=>h w (List.mem_cons_of_mem _ hw)
  simp only [List.length_cons,List.flatten_cons,List.length_append];omega
theorem iw {vs:List (List UInt8)}(j:Nat):cat vs j≤vs.flatten.length:=by
 have e:vs.flatten=(vs.take j).flatten++(vs.drop j).flatten:=by rw [←List.flatten_append,List.take_append_drop]
 unfold cat
 rw [e,List.length_append];omega
theorem wo {k:Nat}(hk:200≤k){s v:List UInt8}(b:Bool)(hv:v=if b then f8 [] else du []){p:Nat}(h:At s p v)(hs:s.length≤100000)(D:Int):ah.f aG k s (p:Int) D=some ((p+v.length:Nat):Int):=by
 obtain ⟨k,rfl⟩:∃q,k=q+1:=⟨k - 1,by omega⟩
 obtain ⟨k,rfl⟩:∃q,k=q+1:=⟨k - 1,by omega⟩
 have hl:=h.le
 have row:∀c:UInt8,At s (p+1) [c]→p+1<s.length→ah.l1 aG (k+1) (k+1) s ((p+1:Nat):Int) D (c.toNat:Int)=some ((p+2:Nat):Int):=by
  intro c hc hlt
  have hh:=At.head hc
  rw [ah.l1_eq,dT (show ((p+1:Nat):Int)<(s.length:Int) by omega),cT,hh,bS,bne_self_eq_false,cF,bS,BEq.rfl,cT,bu (by omega),cT]
  cases decide (D>0)<;>rfl
 subst hv
 cases b with
 |true=>
  have hl':p+2≤s.length:=hl
  have hh:At s p (91 :: [93]):=h
  have hr:At s (p+1) [93]:=At.right (a:=[91]) hh
  rw [ah.f_eq,dF (by omega),cF,hh.head,bS,show (((91:UInt8).toNat:Int))=91 from rfl]
  simp only [show ((91:Int)==110)=false from by decide,show ((91:Int)==116)=false from by decide,show ((91:Int)==102)=false from by decide,show ((91:Int)==105)=false from by decide,show ((91:Int)==115)=false from by decide,BEq.rfl,cT,cF]
  rw [bS,bu (by omega),show IntKind.u8.wrap (((91:UInt8).toNat:Int)+2)=(((93:UInt8)).toNat:Int) from by decide]
  exact row 93 hr (by omega)
 |false=>
  have hl':p+2≤s.length:=hl
  have hh:At s p (123 :: [125]):=h
  have hr:At s (p+1) [125]:=At.right (a:=[123]) hh
  rw [ah.f_eq,dF (by omega),cF,hh.head,bS,show (((123:UInt8).toNat:Int))=123 from rfl]
  simp only [show ((123:Int)==110)=false from by decide,show ((123:Int)==116)=false from by decide,show ((123:Int)==102)=false from by decide,show ((123:Int)==105)=false from by decide,show ((123:Int)==115)=false from by decide,show ((123:Int)==91)=false from by decide,BEq.rfl,cT,cF]
  rw [bS,bu (by omega),show IntKind.u8.wrap (((123:UInt8).toNat:Int)+2)=(((125:UInt8)).toNat:Int) from by decide]
  exact row 125 hr (by omega)
theorem xZ:∀(d:Nat) {k:Nat},100200+d≤k→∀{s v:List UInt8},Tx d v→∀{p:Nat},At s p v→s.length≤100000→∀{D:Int},(d:Int)≤D→D≤100→ah.f aG k s (p:Int) D=some ((p+v.length:Nat):Int)
 |0,k,hk,s,v,hv,p,h,hs,D,_,_=>by
  rcases hv with hv|hv|hv
  ·exact wm (by omega) hv h (by omega) D
  ·exact wo (by omega) true hv h hs D
  ·exact wo (by omega) false hv h hs D
 |d+1,k,hk,s,v,hv,p,h,hs,D,hD,hD2=>by
  rcases hv with hv|⟨vs,hvs,hv⟩
  ·exact wm (by omega) hv h (by omega) D
  obtain ⟨k,rfl⟩:∃q,k=q+1:=⟨k - 1,by omega⟩
  have hl:=h.le
  have hvl:v.length=vs.flatten.length+2:=by
   rcases hv with rfl|rfl
   ·unfold f8;simp only [List.length_append,List.length_cons,List.length_nil];omega
   ·unfold du;simp only [List.length_append,List.length_cons,List.length_nil];omega
  have hn:=nJ vs fun w hw=>(hvs w hw).pos
  -- the row
  have row:∀c:UInt8,(c=93∨c=125)→At s (p+1) (vs.flatten++[c])→ah.l1 aG k k s ((p+1:Nat):Int) D (c.toNat:Int)=some ((p+v.length:Nat):Int):=by
   intro c hc hrow
   have hfl:=hrow.left
   have hlast:=hrow.right
   have key:=di (F:=fun n j=>ah.l1 aG k n s ((p+1+cat vs j:Nat):Int) D (c.toNat:Int)) (N:=vs.length) (r:=some ((p+v.length:Nat):Int)) ?_ ?_ k 0 (by omega) (by omega)
   ·exact key
   ·intro n j hj
    have hw:=hvs _ (List.getElem_mem hj)
    have hat:=hfl.cat hj
    obtain ⟨b,hb,n1,n2⟩:=EB hw hat
    have hle:=hat.le
    have hp:=hw.pos
    have hne:((b.toNat:Int) != (c.toNat:Int))=true:=by
     rw [bne_iff_ne]
     intro e
     have:b=c:=UInt8.toNat_inj.1 (by omega)
     rcases hc with rfl|rfl
     ·exact n1 this
     ·exact n2 this
    rw [ah.l1_eq,dT (by omega),cT,dT (by omega),cT,hb,bS,hne,cT,bb (D - 1) (by omega),xZ d (k:=k) (by omega) hw hat hs (by omega) (by omega),bS,dF (by omega),cF,mo hj,Nat.add_assoc (p+1)]
   ·intro n
    have hh:rd s ((p+1+cat vs vs.length:Nat):Int)=some c:=by rw [vz];exact At.head hlast
    have hle:=hlast.le
    rw [List.length_singleton] at hle
    have e:=vz vs
    have hne:((c.toNat:Int) != (c.toNat:Int))=false:=by simp
    rw [ah.l1_eq,dT (by omega),cT,dT (by omega),cT,hh,bS,hne,cF,bS,BEq.rfl,cT,cT,bu (by omega),show p+1+cat vs vs.length+1=p+v.length by omega]
  rcases hv with rfl|rfl
  ·have hh:At s p (91 :: (vs.flatten++[93])):=by have:=h;unfold f8 at this;simpa using this
   have hr:At s (p+1) (vs.flatten++[93]):=At.right (a:=[91]) hh
   rw [ah.f_eq,dF (by omega),cF,hh.head,bS,show (((91:UInt8).toNat:Int))=91 from rfl]
   simp only [show ((91:Int)==110)=false from by decide,show ((91:Int)==116)=false from by decide,show ((91:Int)==102)=false from by decide,show ((91:Int)==105)=false from by decide,show ((91:Int)==115)=false from by decide,BEq.rfl,cT,cF]
   rw [bS,bu (by omega),show IntKind.u8.wrap (((91:UInt8).toNat:Int)+2)=(((93:UInt8)).toNat:Int) from by decide]
   exact row 93 (.inl rfl) hr
  ·have hh:At s p (123 :: (vs.flatten++[125])):=by have:=h;unfold du at this;simpa using this
   have hr:At s (p+1) (vs.flatten++[125]):=At.right (a:=[123]) hh
   rw [ah.f_eq,dF (by omega),cF,hh.head,bS,show (((123:UInt8).toNat:Int))=123 from rfl]
   simp only [show ((123:Int)==110)=false from by decide,show ((123:Int)==116)=false from by decide,show ((123:Int)==102)=false from by decide,show ((123:Int)==105)=false from by decide,show ((123:Int)==115)=false from by decide,show ((123:Int)==91)=false from by decide,BEq.rfl,cT,cF]
   rw [bS,bu (by omega),show IntKind.u8.wrap (((123:UInt8).toNat:Int)+2)=(((125:UInt8)).toNat:Int) from by decide]
   exact row 125 (.inr rfl) hr
theorem At.whole (v:List UInt8):At v 0 v:=⟨[],[],by simp,rfl⟩
theorem Tx.mono:∀(d:Nat) {v:List UInt8},Tx d v→Tx (d+1) v
 |0,_,h=>by
  rcases h with h|rfl|rfl
  ·exact .inl h
  ·exact .inr ⟨[],(fun w hw=>by cases hw),.inl rfl⟩
  ·exact .inr ⟨[],(fun w hw=>by cases hw),.inr rfl⟩
 |d+1,_,h=>by
  rcases h with h|⟨vs,hvs,hv⟩
  ·exact .inl h
  ·exact .inr ⟨vs,fun w hw=>Tx.mono d (hvs w hw),hv⟩
theorem Tx.up {d e:Nat}{v:List UInt8}(h:Tx d v)(hde:d≤e):Tx e v:=by
 induction e with
 |zero=>rw [show d=0 by omega] at h;exact h
 |succ e ih=>
  by_cases hd:d≤e
  ·exact (ih hd).mono
  ·rw [show d=e+1 by omega] at h;exact h
theorem iG {k:Nat}(hk:100300≤k){v:List UInt8}(hv:Tx 4 v)(hl:v.length≤65536):ah.f aG k v 0 4=some ((v.length:Nat):Int):=by
 have:=xZ 4 (k:=k) (by omega) hv (At.whole v) (by omega) (D:=4) (by omega) (by omega)
 rw [show ((0:Nat):Int)=0 from rfl,Nat.zero_add] at this
 exact this
theorem zL {k:Nat}(hk:100301≤k):af.f aG k [110]=some (-1,[],0):=by
 obtain ⟨k,rfl⟩:∃q,k=q+1:=⟨k - 1,by omega⟩
 have:=iG (k:=k) (by omega) (eJ.n.tx 4) (by decide)
 rw [af.f_eq,dF (by decide),Bool.not_false,cT,this,bS]
 rfl
theorem sW {k:Nat}(hk:100301≤k)(b:Bool):af.f aG k (jt b)=some (1,[jt b],0):=by
 obtain ⟨k,rfl⟩:∃q,k=q+1:=⟨k - 1,by omega⟩
 cases b with
 |true=>
  have:=iG (k:=k) (by omega) (eJ.t.tx 4) (by decide)
  show af.f aG (k+1) [116]=_
  rw [af.f_eq,dF (by decide),Bool.not_false,cT,this,bS]
  rfl
 |false=>
  have:=iG (k:=k) (by omega) (eJ.f.tx 4) (by decide)
  show af.f aG (k+1) [102]=_
  rw [af.f_eq,dF (by decide),Bool.not_false,cT,this,bS]
  rfl
theorem nZ {k:Nat}(hk:100301≤k){l:List UInt8}(hl:(cr l).length≤65536):af.f aG k (cr l)=some (2,[l],0):=by
 obtain ⟨k,rfl⟩:∃q,k=q+1:=⟨k - 1,by omega⟩
 have hx:cC ((l.length:Nat):Int)=ni l.length:=jX _
 have hlen:(cr l).length=(ni l.length).length+2+l.length:=by unfold cr;simp only [List.length_append,List.length_cons,List.length_nil];omega
 obtain ⟨c1,c2⟩:=iM (x:=((l.length:Nat):Int)) (by omega) (by omega)
 rw [hx] at c1 c2
 have:=iG (k:=k) (by omega) ((eJ.s l (by omega)).tx 4) (by omega)
 have hh:At (cr l) 0 (115 :: (ni l.length++[58]++l)):=by have:=At.whole (cr l);unfold cr at this ⊢;simpa using this
 have hd:=hh.head
 rw [show ((0:Nat):Int)=0 from rfl] at hd
 have hb1:At (cr l) 0 (([115]++ni l.length)++[58]):=At.left (b:=l) (At.whole _)
 have hu:=vh (k:=k) (by omega) (m:=[115]++ni l.length) (c:=58) (p:=0) hb1 (by simp;omega) (fun b hb=>by
  rcases List.mem_append.1 hb with hb|hb
  ·rw [List.mem_singleton.1 hb];decide
  ·exact (c2 b hb).1) (by omega)
 rw [List.length_append,List.length_singleton,show (((58:UInt8).toNat:Int))=58 from rfl,show ((0:Nat):Int)=0 from rfl] at hu
 rw [af.f_eq,dF (by omega),Bool.not_false,cT,this,bS,show (((cr l).length:Int) != ((cr l).length:Int))=false by simp,cF,hd,bS,show (((115:UInt8).toNat:Int))=115 from rfl]
 simp only [show ((115:Int)==110)=false from by decide,show ((115:Int)==105)=false from by decide,show ((115:Int)==116)=false from by decide,show ((115:Int)==102)=false from by decide,BEq.rfl,cT,cF]
 rw [hu,bS,bu (by omega),dT (by omega),dT (by omega)]
 simp only [Bool.and_self,cT,Int.toNat_natCast]
 have e:(cr l).drop (0+(1+(ni l.length).length)+1)=l:=by
  unfold cr
  rw [List.drop_left']
  simp only [List.length_append,List.length_cons,List.length_nil];omega
 rw [List.take_length,e]
theorem uc {k:Nat}(hk:100301≤k){d:Nat}(hd:d+1≤4){vs:List (List UInt8)}(hvs:∀w∈vs,Tx d w)(b:Bool)(hl:vs.flatten.length≤65534):
  af.f aG k (if b then f8 vs else du vs)=some (if b then 3 else 4,vs,0):=by
 obtain ⟨k,rfl⟩:∃q,k=q+1:=⟨k - 1,by omega⟩
 generalize hv:(if b then f8 vs else du vs)=v
 have hvl:v.length=vs.flatten.length+2:=by
  rw [←hv]
  cases b
  ·simp only [Bool.false_eq_true,if_false];unfold du;simp only [List.length_append,List.length_cons,List.length_nil];omega
  ·simp only [if_true];unfold f8;simp only [List.length_append,List.length_cons,List.length_nil];omega
 have htx:Tx (d+1) v:=.inr ⟨vs,hvs,by rw [←hv];cases b<;>simp⟩
 have hen:=iG (k:=k) (by omega) (htx.up hd) (by omega)
 have hn:=nJ vs fun w hw=>(hvs w hw).pos
 have hfl:At v 1 vs.flatten:=by
  rw [←hv]
  cases b
  ·simp only [Bool.false_eq_true,if_false];unfold du;exact ⟨[123],[125],by simp,rfl⟩
  ·simp only [if_true];unfold f8;exact ⟨[91],[93],by simp,rfl⟩
 have hd0:rd v 0=some (if b then 91 else 123):=by
  have hh:At v 0 ((if b then 91 else 123) :: (vs.flatten++[if b then 93 else 125])):=by
   rw [←hv]
   cases b
   ·exact ⟨[],[],by simp [du],rfl⟩
   ·exact ⟨[],[],by simp [f8],rfl⟩
  exact hh.head
 have row:af.l1 aG k k v 1 []=some (if b then 3 else 4,vs,0):=by
  have key:=di (F:=fun n j=>af.l1 aG k n v ((1+cat vs j:Nat):Int) (vs.take j)) (N:=vs.length) (r:=some (if b then 3 else 4,vs,0)) ?_ ?_ k 0 (by omega) (by omega)
  ·exact key
  ·intro n j hj
   have hw:=hvs _ (List.getElem_mem hj)
   have hat:=hfl.cat hj
   have hle:=hat.le
   have hp:=hw.pos
   have hsl:=hat.slice
   have hc:=iw (vs:=vs) (j+1)
   rw [mo hj] at hc
   have hend:=xZ d (k:=k) (by omega) hw hat (by omega) (D:=4) (by omega) (by omega)
   rw [af.l1_eq,bb ((v.length:Int) - 1) (by omega),dT (by omega),cT,hend,bS,dT (by omega),dT (by omega),dT (by omega),dT (by omega)]
   simp only [Bool.and_self,cT,Int.toNat_natCast]
   rw [hsl,dT (by simp only [List.length_take,List.length_cons,List.length_nil];omega),cT,mo hj,←List.take_succ_eq_append_getElem hj,Nat.add_assoc 1]
  ·intro n
   have e:=vz vs
   rw [af.l1_eq,bb ((v.length:Int) - 1) (by omega),dF (by omega),cF,hd0,bS,List.take_length]
   cases b<;>rfl
 rw [af.f_eq,dF (by omega),Bool.not_false,cT,hen,bS,show ((v.length:Int) != (v.length:Int))=false by simp,cF,hd0,bS]
 have q1:((((if b then 91 else 123:UInt8)).toNat:Int)==110)=false:=by cases b<;>rfl
 have q2:((((if b then 91 else 123:UInt8)).toNat:Int)==105)=false:=by cases b<;>rfl
 have q3:((((if b then 91 else 123:UInt8)).toNat:Int)==116)=false:=by cases b<;>rfl
 have q4:((((if b then 91 else 123:UInt8)).toNat:Int)==102)=false:=by cases b<;>rfl
 have q5:((((if b then 91 else 123:UInt8)).toNat:Int)==115)=false:=by cases b<;>rfl
 simp only [q1,q2,q3,q4,q5,cF]
 show af.j13 aG k v=_
 rw [af.j13_eq]
 exact row
def dp (t:List aL)(a:Int):Nat:=5 - (dm t a).length
theorem pa {t:List aL}(hm:iz t=true){i j:Nat}(hj:j<(bA t (i:Int)).length):dp t (i:Int)=dp t (vB t (i:Int) j)+1:=by
 have hmem:vB t (i:Int) j∈bA t (i:Int):=by unfold vB;rw [sD hj];exact List.getElem_mem hj
 obtain ⟨q,h1,_,h3,h4⟩:=mG.1 hmem
 have hs:=ig hm
 have hw:=mt hs h1
 have h5:=(((ia t).1 hm).2.2 q h1).2
 unfold dp
 rw [h4,hw,h3]
 rw [hw,h3] at h5
 simp only [List.length_cons] at h5 ⊢
 omega
theorem HU {t:List aL}(hm:iz t=true){i:Nat}(hi:i<t.length):dp t (i:Int)≤4:=by
 have:=qO (ig hm) i hi
 unfold dp;omega
theorem ut {k n:Nat}{t:List aL}{ps:List (List UInt8)}{ks:List Int}{kd:Int}(hk:2≤k)(hin:dH kd=false):ac.l0 aG k (n+1) kd 0 t ps ks=some true:=by
 rw [ac.l0_eq,dY (by omega),hin]
 cases decide ((0:Int)<(ps.length:Int))<;>rfl
def fl (x:Int):Prop:=-9223372036854775808≤x∧x≤9223372036854775807
theorem fl.wrap (x:Int):fl (IntKind.i64.wrap x):=by unfold fl;rw [IntKind.wrap_i64];omega
theorem wl {k:Nat}(hk:120≤k){s:List UInt8}(hs:s.length≤1000):∀(d i n:Nat) (x:Int),i+d=s.length→d+1≤n→fl x→
  ∃y b,aj.l0 aG k n s x (i:Int)=some (y,b)∧fl y∧(b=true→s=cC y)
 |d,i,n,x,h,hn,hx=>by
  obtain ⟨n,rfl⟩:∃q,n=q+1:=⟨n - 1,by omega⟩
  have fin:∃y b,((aW.f aG k x).bind fun r=>some (x,r==s))=some (y,b)∧fl y∧(b=true→s=cC y):=by
   refine ⟨x,cC x==s,?_,hx,fun e=>?_⟩
   ·rw [o1 (by omega) hx.1 hx.2,bS]
   ·exact (eq_of_beq e).symm
  have no:∃y b,(some (0,false):Option (Int×Bool))=some (y,b)∧fl y∧(b=true→s=cC y):=⟨0,false,rfl,by unfold fl;omega,fun e=>by cases e⟩
  rw [aj.l0_eq]
  by_cases hi:i<s.length
  ·have next:∀y,fl y→∃z b,aj.l0 aG k n s y (IntKind.i64.wrap ((i:Int)+1))=some (z,b)∧fl z∧(b=true→s=cC z):=by
    intro y hy
    obtain ⟨d,rfl⟩:∃q,d=q+1:=⟨d - 1,by omega⟩
    rw [bu (by omega)]
    exact wl hk hs d (i+1) n y (by omega) (by omega) hy
   have h0:rd s 0=some s[0]:=aM (i:=0) (by omega)
   rw [dT (by omega),cT,aM hi,h0]
   simp only [bS]
   cases decide ((s.length:Int)<21) with
   |false=>exact fin
   |true=>
    rw [cT]
    cases ((s[i].toNat:Int)==45) with
    |true=>
     rw [cT]
     cases ((i:Int)==0) with
     |true=>exact next x hx
     |false=>
      rw [cF]
      cases (!decide ((s[i].toNat:Int)<48)) with
      |false=>exact no
      |true=>
       rw [cT]
       cases decide ((s[i].toNat:Int)>57) with
       |true=>exact no
       |false=>
        rw [cF]
        cases ((s[0].toNat:Int)==45) with
        |true=>exact next _ (.wrap _)
        |false=>exact next _ (.wrap _)
    |false=>
     rw [cF]
     cases (!decide ((s[i].toNat:Int)<48)) with
     |false=>exact no
     |true=>
      rw [cT]
      cases decide ((s[i].toNat:Int)>57) with
      |true=>exact no
      |false=>
       rw [cF]
       cases ((s[0].toNat:Int)==45) with
       |true=>exact next _ (.wrap _)
       |false=>exact next _ (.wrap _)
  ·rw [dF (by omega),cF]
   exact fin
theorem ue {k:Nat}(hk:200≤k){s:List UInt8}(hs:s.length≤50):∃y b,aj.f aG k s=some (y,b)∧fl y∧(b=true→s=cC y):=by
 obtain ⟨k,rfl⟩:∃q,k=q+1:=⟨k - 1,by omega⟩
 rw [aj.f_eq]
 exact wl (by omega) (by omega) s.length 0 k 0 (by omega) (by omega) (by unfold fl;omega)
theorem At.of_take {s:List UInt8}{p q:Nat}(hpq:p≤q)(hq:q≤s.length):At s p ((s.take q).drop p):=by
 refine ⟨s.take p,s.drop q,?_,by rw [List.length_take];omega⟩
 have h1:s.take p=(s.take q).take p:=by rw [List.take_take,Nat.min_eq_left hpq]
 rw [h1,List.take_append_drop,List.take_append_drop]
theorem yx {k:Nat}{s:List UInt8}(hs:s.length≤1000000){p:Nat}(c:UInt8):∀(d i n:Nat),i+d=s.length→d+1≤n→p≤i→(∀b∈(s.take i).drop p,b≠c)→
  ∃r,aI.l0 aG k n s (p:Int) (c.toNat:Int) (i:Int)=some r∧(r=-1∨∃m,At s p (m++[c])∧m.length≤21∧(∀b∈m,b≠c)∧r=((p+m.length:Nat):Int))
 |d,i,n,h,hn,hp,hm=>by
  obtain ⟨n,rfl⟩:∃q,n=q+1:=⟨n - 1,by omega⟩
  rw [aI.l0_eq]
  by_cases hi:i<s.length
  ·rw [dT (by omega),cT,bb _ (by omega)]
   by_cases h22:i<p+22
   ·rw [dT (by omega),cT,aM hi,bS]
    have hsnoc:(s.take (i+1)).drop p=(s.take i).drop p++[s[i]]:=by
     rw [List.take_succ_eq_append_getElem hi,List.drop_append_of_le_length (by rw [List.length_take];omega)]
    by_cases he:s[i]=c
    ·rw [he,BEq.rfl,cT]
     refine ⟨_,rfl,.inr ⟨(s.take i).drop p,?_,?_,hm,?_⟩⟩
     ·have:=At.of_take (s:=s) (p:=p) (q:=i+1) (by omega) (by omega)
      rw [hsnoc,he] at this
      exact this
     ·rw [List.length_drop,List.length_take];omega
     ·rw [List.length_drop,List.length_take];omega
    ·rw [show ((s[i].toNat:Int)==(c.toNat:Int))=false by rw [beq_eq_false_iff_ne];intro e;exact he (UInt8.toNat_inj.1 (by omega)),cF,bu (by omega)]
     obtain ⟨d,rfl⟩:∃q,d=q+1:=⟨d - 1,by omega⟩
     refine yx hs c d (i+1) n (by omega) (by omega) (by omega) fun b hb=>?_
     rw [hsnoc] at hb
     rcases List.mem_append.1 hb with hb|hb
     ·exact hm b hb
     ·rw [List.mem_singleton.1 hb];exact he
   ·rw [dF (by omega),cF]
    exact ⟨_,rfl,.inl rfl⟩
  ·rw [dF (by omega),cF]
   exact ⟨_,rfl,.inl rfl⟩
theorem C0 {k:Nat}{s:List UInt8}(hk:s.length+3≤k)(hs:s.length≤1000000){p:Nat}(hp:p≤s.length)(c:UInt8):
  ∃r,aI.f aG k s (p:Int) (c.toNat:Int)=some r∧(r=-1∨∃m,At s p (m++[c])∧m.length≤21∧(∀b∈m,b≠c)∧r=((p+m.length:Nat):Int)):=by
 obtain ⟨k,rfl⟩:∃q,k=q+1:=⟨k - 1,by omega⟩
 rw [aI.f_eq]
 exact yx hs c (s.length - p) p k (by omega) (by omega) (Nat.le_refl _) fun b hb=>by
  rw [List.drop_eq_nil_of_le (by rw [List.length_take];omega)] at hb;cases hb
theorem At.eq {s v:List UInt8}{p:Nat}(h:At s p v):(s.drop p).take v.length=v:=by
 obtain ⟨pre,post,rfl,rfl⟩:=h
 rw [List.append_assoc,List.drop_left,List.take_left]
theorem At.join {s a b:List UInt8}{p:Nat}(ha:At s p a)(hb:At s (p+a.length) b):At s p (a++b):=by
 have h1:=ha.eq
 obtain ⟨pre,post,rfl,hl⟩:=ha
 obtain ⟨pre',post',e,hl'⟩:=hb
 refine ⟨pre,post',?_,hl⟩
 have:pre++a=pre':=by
  have:=congrArg (List.take (p+a.length)) e
  rw [List.take_left' (by rw [List.length_append,hl]),List.append_assoc,List.take_left' hl'] at this
  exact this
 rw [e,←this];simp
theorem At.one {s:List UInt8}{p:Nat}(h:p<s.length):At s p [s[p]]:=by
 refine ⟨s.take p,s.drop (p+1),?_,by rw [List.length_take];omega⟩
 rw [List.append_assoc,List.singleton_append,←List.drop_eq_getElem_cons h,List.take_append_drop]
theorem EK {k:Nat}{s:List UInt8}(hs:s.length≤100000){p d:Nat}(hd:d≤50)(c:UInt8)(hc:c=93∨c=125)
  (ih:∀q,q≤s.length→∃r,ah.f aG k s (q:Int) (d:Int)=some r∧(r=-1∨∃v,Tx d v∧At s q v∧r=((q+v.length:Nat):Int))):
  ∀(m q n:Nat) (vs:List (List UInt8)),q+m=s.length→m+1≤n→(∀w∈vs,Tx d w)→At s p vs.flatten→q=p+vs.flatten.length→
  ∃r,ah.l1 aG k n s (q:Int) ((d+1:Nat):Int) (c.toNat:Int)=some r∧(r=-1∨∃us:List (List UInt8),(∀w∈us,Tx d w)∧At s p (us.flatten++[c])∧r=((p+us.flatten.length+1:Nat):Int)):=by
 intro m
 induction m using Nat.strongRecOn with
 |_ m ihm=>
  intro q n vs hq hn hvs hat hqe
  obtain ⟨n,rfl⟩:∃q,n=q+1:=⟨n - 1,by omega⟩
  rw [ah.l1_eq,dT (show ((d+1:Nat):Int)>0 by omega),cT]
  by_cases hlt:q<s.length
  ·rw [dT (by omega),cT,aM hlt,bS]
   by_cases hb:s[q]=c
   ·rw [hb,bne_self_eq_false,cF,cT,bS,BEq.rfl,cT,bu (by omega)]
    refine ⟨_,rfl,.inr ⟨vs,hvs,hat.join ?_,by rw [hqe]⟩⟩
    rw [←hqe,←hb]
    exact At.one hlt
   ·rw [show ((s[q].toNat:Int) != (c.toNat:Int))=true by rw [bne_iff_ne];intro e;exact hb (UInt8.toNat_inj.1 (by omega)),cT,bb _ (by omega),show ((d+1:Nat):Int) - 1=(d:Int) by omega]
    obtain ⟨r,hr,hr'⟩:=ih q (by omega)
    rw [hr,bS]
    rcases hr' with rfl|⟨v,hv,hav,rfl⟩
    ·exact ⟨_,rfl,.inl rfl⟩
    ·have hp:=hv.pos
     have hle:=hav.le
     rw [dF (by omega),cF]
     refine ihm (s.length - (q+v.length)) (by omega) (q+v.length) n (vs++[v]) (by omega) (by omega) ?_ ?_ ?_
     ·intro w hw
      rcases List.mem_append.1 hw with hw|hw
      ·exact hvs w hw
      ·rw [List.mem_singleton.1 hw];exact hv
     ·rw [List.flatten_append,List.flatten_singleton]
      exact hat.join (by rw [←hqe];exact hav)
     ·rw [List.flatten_append,List.flatten_singleton,List.length_append];omega
  ·rw [dF (by omega),cF,cF]
   exact ⟨_,rfl,.inl rfl⟩
theorem B6 {k n:Nat}{s:List UInt8}(hs:s.length≤100000){q:Nat}(c:UInt8):∃r,ah.l1 aG k (n+1) s (q:Int) 0 (c.toNat:Int)=some r∧(r=-1∨(At s q [c]∧r=((q+1:Nat):Int))):=by
 rw [ah.l1_eq,dF (show¬((0:Int)>0) by omega),cF]
 by_cases hlt:q<s.length
 ·rw [dT (by omega),cT,aM hlt,bS]
  by_cases hb:s[q]=c
  ·rw [hb,BEq.rfl,cT,bu (by omega)]
   exact ⟨_,rfl,.inr ⟨by rw [←hb];exact At.one hlt,rfl⟩⟩
  ·rw [show ((s[q].toNat:Int)==(c.toNat:Int))=false by rw [beq_eq_false_iff_ne];intro e;exact hb (UInt8.toNat_inj.1 (by omega)),cF]
   exact ⟨_,rfl,.inl rfl⟩
 ·rw [dF (by omega),cF]
  exact ⟨_,rfl,.inl rfl⟩
theorem bq {b c:UInt8}(h:b≠c){z:Int}(hz:z=(c.toNat:Int)):((b.toNat:Int)==z)=false:=by
 rw [beq_eq_false_iff_ne,hz];intro e;exact h (UInt8.toNat_inj.1 (by omega))
def Rows:Nat→List (List UInt8)→Prop
 |0,us=>us=[]
 |d+1,us=>∀w∈us,Tx d w
theorem Rows.list {d:Nat}{us:List (List UInt8)}(h:Rows d us):Tx d (f8 us):=by
 cases d with
 |zero=>rw [show us=[] from h];exact .inr (.inl rfl)
 |succ d=>exact .inr ⟨us,h,.inl rfl⟩
theorem Rows.struct {d:Nat}{us:List (List UInt8)}(h:Rows d us):Tx d (du us):=by
 cases d with
 |zero=>rw [show us=[] from h];exact .inr (.inr rfl)
 |succ d=>exact .inr ⟨us,h,.inr rfl⟩
theorem wO {d k:Nat}(hk:100200≤k){s:List UInt8}(hs:s.length≤100000){p:Nat}(hp:p≤s.length)
  (row:∀c:UInt8,(c=93∨c=125)→∀k',k=k'+1→∀q,q≤s.length→∃r,ah.l1 aG k' k' s (q:Int) (d:Int) (c.toNat:Int)=some r∧(r=-1∨∃us,Rows d us∧At s q (us.flatten++[c])∧r=((q+us.flatten.length+1:Nat):Int))):
  ∃r,ah.f aG k s (p:Int) (d:Int)=some r∧(r=-1∨∃v,Tx d v∧At s p v∧r=((p+v.length:Nat):Int)):=by
 obtain ⟨k,rfl⟩:∃q,k=q+1:=⟨k - 1,by omega⟩
 have no:∃r,(some (-1):Option Int)=some r∧(r=-1∨∃v,Tx d v∧At s p v∧r=((p+v.length:Nat):Int)):=⟨-1,rfl,.inl rfl⟩
 rw [ah.f_eq]
 by_cases hlt:p<s.length
 ·have hone:=At.one hlt
  rw [dF (by omega),cF,aM hlt]
  simp only [bS]
  have byte:∀b:UInt8,s[p]=b→eJ [b]→∃r,(some (IntKind.i64.wrap ((p:Int)+1)):Option Int)=some r∧(r=-1∨∃v,Tx d v∧At s p v∧r=((p+v.length:Nat):Int)):=by
   intro b hb hl
   rw [bu (by omega)]
   rw [hb] at hone
   exact ⟨_,rfl,.inr ⟨[b],hl.tx d,hone,rfl⟩⟩
  have join:∀b:UInt8,s[p]=b→∀u,At s (p+1) u→At s p (b :: u):=by
   intro b hb u hu
   rw [hb] at hone
   exact hone.join hu
  by_cases h110:s[p]=110
  ·rw [h110,show ((((110:UInt8)).toNat:Int)==110)=true from rfl,cT,cT]
   exact byte 110 h110 .n
  rw [bq h110 (z:=110) rfl,cF]
  by_cases h116:s[p]=116
  ·rw [h116,show ((((116:UInt8)).toNat:Int)==116)=true from rfl,cT,cT]
   exact byte 116 h116 .t
  rw [bq h116 (z:=116) rfl,cF]
  by_cases h102:s[p]=102
  ·rw [h102,show ((((102:UInt8)).toNat:Int)==102)=true from rfl,cT]
   exact byte 102 h102 .f
  rw [bq h102 (z:=102) rfl,cF]
  have upto:∀c:UInt8,s[p]≠c→∃r,aI.f aG k s (p:Int) (c.toNat:Int)=some r∧(r=-1∨∃m,At s (p+1) (m++[c])∧m.length≤20∧r=((p+1+m.length:Nat):Int)):=by
   intro c hc
   obtain ⟨r,h1,h2⟩:=C0 (k:=k) (s:=s) (by omega) (by omega) hp c
   refine ⟨r,h1,h2.imp_right fun ⟨m,m1,m2,m3,m4⟩=>?_⟩
   cases m with
   |nil=>
    have:=m1.get (j:=0) (by simp)
    rw [Nat.add_zero,List.getElem?_eq_getElem hlt] at this
    simp at this
    exact absurd this hc
   |cons b m=>
    have hr:At s (p+1) (m++[c]):=At.right (a:=[b]) m1
    simp only [List.length_cons] at m2 m4
    exact ⟨m,hr,by omega,by rw [m4];congr 1;omega⟩
  by_cases h105:s[p]=105
  ·rw [h105,show ((((105:UInt8)).toNat:Int)==105)=true from rfl,cT]
   obtain ⟨r,hr,hr'⟩:=upto 59 (by rw [h105];decide)
   rw [show ((59:Int))=((59:UInt8).toNat:Int) from rfl,hr,bS]
   rcases hr' with rfl|⟨m,m1,m2,rfl⟩
   ·exact no
   ·have hle:=m1.le
    rw [List.length_append,List.length_singleton] at hle
    have hsl:=m1.left.slice
    rw [dF (by omega),cF,bu (by omega),dT (by omega),dT (by omega),dT (by omega),dT (by omega)]
    simp only [Bool.and_self,cT,Int.toNat_natCast]
    rw [hsl]
    obtain ⟨y,b,hw,hy,hb⟩:=ue (k:=k) (by omega) (s:=m) (by omega)
    rw [hw,bS]
    cases b with
    |false=>exact no
    |true=>
     have hm:=hb rfl
     rw [Bool.not_true,cF,bu (by omega)]
     refine ⟨_,rfl,.inr ⟨f6 y,(eJ.i y hy.1 hy.2).tx d,?_,?_⟩⟩
     ·have:=join 105 h105 _ m1
      rw [hm] at this
      exact this
     ·unfold f6
      rw [←hm]
      simp only [List.length_append,List.length_cons,List.length_nil]
      congr 1;omega
  rw [bq h105 (z:=105) rfl,cF]
  by_cases h115:s[p]=115
  ·rw [h115,show ((((115:UInt8)).toNat:Int)==115)=true from rfl,cT]
   obtain ⟨r,hr,hr'⟩:=upto 58 (by rw [h115];decide)
   rw [show ((58:Int))=((58:UInt8).toNat:Int) from rfl,hr,bS]
   rcases hr' with rfl|⟨m,m1,m2,rfl⟩
   ·exact no
   ·have hle:=m1.le
    rw [List.length_append,List.length_singleton] at hle
    have hsl:=m1.left.slice
    rw [dF (by omega),cF,bu (by omega),dT (by omega),dT (by omega),dT (by omega),dT (by omega)]
    simp only [Bool.and_self,cT,Int.toNat_natCast]
    rw [hsl]
    obtain ⟨y,b,hw,hy,hb⟩:=ue (k:=k) (by omega) (s:=m) (by omega)
    rw [hw,bS]
    cases b with
    |false=>exact no
    |true=>
     have hm:=hb rfl
     simp only [Bool.not_true,Bool.not_false,cT]
     by_cases hneg:y<0
     ·rw [dT hneg,Bool.not_true,cF];exact no
     rw [dF hneg,Bool.not_false,cT,bb ((s.length:Int) - ((p+1+m.length:Nat):Int)) (by omega),bb _ (by omega)]
     by_cases hbig:y>(s.length:Int) - ((p+1+m.length:Nat):Int) - 1
     ·rw [dT hbig,cT];exact no
     obtain ⟨y',rfl⟩:∃q:Nat,y=(q:Int):=⟨y.toNat,by omega⟩
     rw [dF hbig,cF,bu (by omega),bb _ (by omega)]
     have hq:p+1+m.length+1+y'≤s.length:=by omega
     have hbody:=At.of_take (s:=s) (p:=p+1+m.length+1) (q:=p+1+m.length+1+y') (by omega) hq
     have hbl:((s.take (p+1+m.length+1+y')).drop (p+1+m.length+1)).length=y':=by rw [List.length_drop,List.length_take];omega
     generalize hl:(s.take (p+1+m.length+1+y')).drop (p+1+m.length+1)=l at hbody hbl
     have hmd:m=ni l.length:=by rw [hm,hbl];exact jX y'
     have hall:=join 115 h115 _ (m1.join (by rw [List.length_append,List.length_singleton];exact hbody))
     refine ⟨_,rfl,.inr ⟨cr l,(eJ.s l (by omega)).tx d,?_,?_⟩⟩
     ·rw [hmd] at hall
      unfold cr
      simpa using hall
     ·unfold cr
      rw [←hmd]
      simp only [List.length_append,List.length_cons,List.length_nil,hbl]
      omega
  rw [bq h115 (z:=115) rfl,cF]
  by_cases h91:s[p]=91
  ·rw [h91,show ((((91:UInt8)).toNat:Int)==91)=true from rfl,cT,cT,bu (by omega),show IntKind.u8.wrap ((((91:UInt8)).toNat:Int)+2)=(((93:UInt8)).toNat:Int) from by decide]
   obtain ⟨r,hr,hr'⟩:=row 93 (.inl rfl) k rfl (p+1) (by omega)
   rw [hr]
   refine ⟨r,rfl,hr'.imp_right fun ⟨us,h1,h2,h3⟩=>⟨f8 us,h1.list,?_,?_⟩⟩
   ·have:=join 91 h91 _ h2
    unfold f8
    simpa using this
   ·rw [h3];unfold f8
    simp only [List.length_append,List.length_cons,List.length_nil]
    congr 1;omega
  rw [bq h91 (z:=91) rfl,cF]
  by_cases h123:s[p]=123
  ·rw [h123,show ((((123:UInt8)).toNat:Int)==123)=true from rfl,cT,bu (by omega),show IntKind.u8.wrap ((((123:UInt8)).toNat:Int)+2)=(((125:UInt8)).toNat:Int) from by decide]
   obtain ⟨r,hr,hr'⟩:=row 125 (.inr rfl) k rfl (p+1) (by omega)
   rw [hr]
   refine ⟨r,rfl,hr'.imp_right fun ⟨us,h1,h2,h3⟩=>⟨du us,h1.struct,?_,?_⟩⟩
   ·have:=join 123 h123 _ h2
    unfold du
    simpa using this
   ·rw [h3];unfold du
    simp only [List.length_append,List.length_cons,List.length_nil]
    congr 1;omega
  rw [bq h123 (z:=123) rfl,cF]
  exact no
 ·rw [dT (by omega),cT]
  exact no
theorem En:∀(d:Nat),d≤50→∀{k:Nat},100200+d≤k→∀{s:List UInt8},s.length≤100000→∀{p:Nat},p≤s.length→
  ∃r,ah.f aG k s (p:Int) (d:Int)=some r∧(r=-1∨∃v,Tx d v∧At s p v∧r=((p+v.length:Nat):Int)):=by
 intro d
 induction d with
 |zero=>
  intro _ k hk s hs p hp
  refine wO (d:=0) hk hs hp fun c _ k' hk' q hq=>?_
  obtain ⟨k',rfl⟩:∃q,k'=q+1:=⟨k' - 1,by omega⟩
  obtain ⟨r,h1,h2⟩:=B6 (k:=k'+1) (n:=k') hs (q:=q) c
  exact ⟨r,h1,h2.imp_right fun ⟨h3,h4⟩=>⟨[],rfl,h3,h4⟩⟩
 |succ d ih=>
  intro hd k hk s hs p hp
  refine wO (d:=d+1) (by omega) hs hp fun c hc k' hk' q hq=>?_
  exact EK hs (p:=q) (by omega) c hc (fun q' hq'=>ih (by omega) (by omega) hs hq') (s.length - q) q k' [] (by omega) (by omega) (fun w hw=>by cases hw) ⟨s.take q,s.drop q,by simp,by rw [List.length_take];omega⟩ (by simp)
inductive gk:List UInt8→Int→List (List UInt8)→Prop
 |n:gk [110] (-1) []
 |i (x:Int) (h:fl x):gk (f6 x) 0 [cC x]
 |b (b:Bool):gk (jt b) 1 [jt b]
 |s (l:List UInt8):gk (cr l) 2 [l]
 |l (vs:List (List UInt8)) (h:∀w∈vs,Tx 3 w):gk (f8 vs) 3 vs
 |r (vs:List (List UInt8)) (h:∀w∈vs,Tx 3 w):gk (du vs) 4 vs
theorem kD {k:Nat}(hk:100301≤k){x:Int}(h:fl x):af.f aG k (f6 x)=some (0,[cC x],0):=by
 obtain ⟨h0,h1⟩:=h
 obtain ⟨k,rfl⟩:∃q,k=q+1:=⟨k - 1,by omega⟩
 obtain ⟨c1,_⟩:=iM h0 h1
 have hlen:(f6 x).length=(cC x).length+2:=by unfold f6;simp only [List.length_append,List.length_cons,List.length_nil];omega
 have:=iG (k:=k) (by omega) ((eJ.i x h0 h1).tx 4) (by omega)
 have hh:At (f6 x) 0 (105 :: (cC x++[59])):=At.whole _
 have hd:=hh.head
 rw [show ((0:Nat):Int)=0 from rfl] at hd
 have hs:At (f6 x) 1 (cC x++[59]):=At.right (a:=[105]) hh
 have hsl:=hs.left.slice
 rw [af.f_eq,dF (by omega),Bool.not_false,cT,this,bS,show (((f6 x).length:Int) != ((f6 x).length:Int))=false by simp,cF,hd,bS,show (((105:UInt8).toNat:Int))=105 from rfl]
 simp only [show ((105:Int)==110)=false from by decide,BEq.rfl,cT,cF]
 rw [bb _ (by omega),dT (by omega),dT (by omega),dT (show (0:Nat)≤1 by omega),dT (by omega)]
 simp only [Bool.and_self,cT]
 rw [show ((((f6 x).length:Nat):Int) - 1).toNat=1+(cC x).length by omega,hsl]
theorem qb {k:Nat}(hk:100301≤k){v:List UInt8}{kd:Int}{ps:List (List UInt8)}(h:gk v kd ps)(hl:v.length≤65536):af.f aG k v=some (kd,ps,0):=by
 cases h with
 |n=>exact zL hk
 |i x h=>exact kD hk h
 |b b=>exact sW hk b
 |s l=>exact nZ hk hl
 |l vs h=>
  have:=uc hk (d:=3) (by omega) h true (by unfold f8 at hl;simp only [List.length_append,List.length_cons,List.length_nil] at hl;omega)
  simpa using this
 |r vs h=>
  have:=uc hk (d:=3) (by omega) h false (by unfold du at hl;simp only [List.length_append,List.length_cons,List.length_nil] at hl;omega)
  simpa using this
theorem Tx.shape {v:List UInt8}(h:Tx 4 v):∃kd ps,gk v kd ps:=by
 rcases h with h|⟨vs,hvs,rfl|rfl⟩
 ·cases h with
  |n=>exact ⟨_,_,.n⟩
  |t=>exact ⟨_,_,.b true⟩
  |f=>exact ⟨_,_,.b false⟩
  |i x h0 h1=>exact ⟨_,_,.i x ⟨h0,h1⟩⟩
  |s l=>exact ⟨_,_,.s l⟩
 ·exact ⟨_,_,.l vs hvs⟩
 ·exact ⟨_,_,.r vs hvs⟩
theorem Ah {k:Nat}(hk:100301≤k)(v:List UInt8):af.f aG k v=some (0,[],700)∨∃kd ps,gk v kd ps∧v.length≤65536∧af.f aG k v=some (kd,ps,0):=by
 by_cases hl:v.length≤65536
 ·obtain ⟨r,hr,hr'⟩:=En 4 (by omega) (k:=k - 1) (by omega) (s:=v) (by omega) (p:=0) (by omega)
  by_cases he:r=(v.length:Int)
  ·right
   rcases hr' with rfl|⟨u,hu,hat,e⟩
   ·omega
   ·have hs:=hat.slice
    rw [Nat.zero_add,show u.length=v.length by omega,List.take_length,List.drop_zero] at hs
    subst hs
    obtain ⟨kd,ps,h⟩:=hu.shape
    exact ⟨kd,ps,h,hl,qb hk h hl⟩
  ·left
   obtain ⟨k,rfl⟩:∃q,k=q+1:=⟨k - 1,by omega⟩
   rw [Nat.add_sub_cancel,show ((0:Nat):Int)=0 from rfl,show ((4:Nat):Int)=4 from rfl] at hr
   rw [af.f_eq,dF (by omega),Bool.not_false,cT,hr,bS,show (r != (v.length:Int))=true by rw [bne_iff_ne];exact he,cT]
 ·left
  obtain ⟨k,rfl⟩:∃q,k=q+1:=⟨k - 1,by omega⟩
  rw [af.f_eq,dT (by omega),Bool.not_true,cF]
inductive Vl where
 |n
 |i (x:Int)
 |b (b:Bool)
 |s (l:List UInt8)
 |l (vs:List Vl)
 |r (vs:List Vl)
mutual
def Vl.txt:Vl→List UInt8
 |.n=>[110]
 |.i x=>f6 x
 |.b c=>jt c
 |.s y=>cr y
 |.l vs=>[91]++Vl.txts vs++[93]
 |.r vs=>[123]++Vl.txts vs++[125]
def Vl.txts:List Vl→List UInt8
 |[]=>[]
 |v :: vs=>v.txt++Vl.txts vs
end
theorem sA:∀vs:List Vl,Vl.txts vs=(vs.map Vl.txt).flatten
 |[]=>by simp [Vl.txts]
 |v :: vs=>by rw [Vl.txts,sA vs];rfl
theorem yJ (vs:List Vl):(Vl.l vs).txt=f8 (vs.map Vl.txt):=by rw [Vl.txt,sA];rfl
theorem yp (vs:List Vl):(Vl.r vs).txt=du (vs.map Vl.txt):=by rw [Vl.txt,sA];rfl
def iy:Nat→List aL→Int→Vl→Prop
 |0,_,_,_=>False
 |f+1,t,a,v=>cS t a=true∧match v with
  |.n=>xb t a.toNat=true
  |.i x=>dX t a.toNat=0∧fl x
  |.b _=>dX t a.toNat=1
  |.s l=>dX t a.toNat=2∧l.length≤16
  |.l vs=>dX t a.toNat=3∧vs.length≤64∧∀w∈vs,iy f t (vB t a 0) w
  |.r vs=>dX t a.toNat=4∧vs.length=(bA t a).length∧∀j (h:j<vs.length),iy f t (vB t a j) vs[j]
theorem Es {t:List aL}(hm:iz t=true){i:Nat}(hi:i<t.length)(h:dX t i=3):(bA t (i:Int)).length=1:=by
 have:=(((ia t).1 hm).2.2 i hi).1
 unfold ly at this
 rw [h] at this
 simp only [Bool.and_eq_true,Bool.or_eq_true,Bool.not_eq_true',beq_eq_false_iff_ne,beq_iff_eq] at this
 rcases this.1 with h|h
 ·exact absurd rfl h
 ·exact h
theorem GH {t:List aL}(hm:iz t=true){i:Nat}(hi:i<t.length)(h:dX t i=4):0<(bA t (i:Int)).length:=by
 have:=(((ia t).1 hm).2.2 i hi).1
 unfold ly at this
 rw [h] at this
 simp only [Bool.and_eq_true,Bool.or_eq_true,Bool.not_eq_true',beq_eq_false_iff_ne] at this
 rcases this.2 with h|h
 ·simp at h
 ·omega
theorem iy.tx:∀(f:Nat) {t:List aL}{a:Int}{v:Vl},iy f t a v→Tx (dp t a) v.txt
 |0,_,_,_,h=>h.elim
 |f+1,t,a,v,h=>by
  obtain ⟨hn,h⟩:=h
  obtain ⟨hm,i,hi,rfl⟩:=c8 hn
  rw [Int.toNat_natCast] at h
  cases v with
  |n=>rw [Vl.txt];exact eJ.n.tx _
  |i x=>rw [Vl.txt];exact (eJ.i x h.2.1 h.2.2).tx _
  |b b=>
   rw [Vl.txt]
   cases b with
   |false=>exact eJ.f.tx _
   |true=>exact eJ.t.tx _
  |s l=>rw [Vl.txt];exact (eJ.s l (by have:=h.2;omega)).tx _
  |l vs=>
   obtain ⟨h3,h64,h⟩:=h
   rw [yJ,pa hm (i:=i) (j:=0) (by rw [Es hm hi h3];omega)]
   refine .inr ⟨_,fun w hw=>?_,.inl rfl⟩
   obtain ⟨u,hu,rfl⟩:=List.mem_map.1 hw
   exact (h u hu).tx f
  |r vs=>
   obtain ⟨h4,hl,h⟩:=h
   have hk:=GH hm hi h4
   rw [yp,pa hm (i:=i) (j:=0) hk]
   refine .inr ⟨_,fun w hw=>?_,.inr rfl⟩
   obtain ⟨u,hu,rfl⟩:=List.mem_map.1 hw
   obtain ⟨j,hj,rfl⟩:=List.mem_iff_getElem.1 hu
   have:=(h j hj).tx f
   have e1:=pa hm (i:=i) (j:=0) hk
   have e2:=pa hm (i:=i) (j:=j) (by omega)
   rw [show dp t (vB t (i:Int) 0)=dp t (vB t (i:Int) j) by omega]
   exact this
def Vl.kd:Vl→Int
 |.n=>-1|.i _=>0|.b _=>1|.s _=>2|.l _=>3|.r _=>4
def Vl.ps:Vl→List (List UInt8)
 |.n=>[]|.i x=>[cC x]|.b c=>[jt c]|.s y=>[y]|.l vs=>vs.map Vl.txt|.r vs=>vs.map Vl.txt
theorem iy.shape {f:Nat}{t:List aL}{a:Int}{v:Vl}(h:iy f t a v):gk v.txt v.kd v.ps:=by
 have htx:=h.tx f
 cases f with
 |zero=>exact h.elim
 |succ f=>
  obtain ⟨hn,h⟩:=h
  obtain ⟨hm,i,hi,rfl⟩:=c8 hn
  have hd:=HU hm hi
  rw [Int.toNat_natCast] at h
  cases v with
  |n=>rw [Vl.txt];exact .n
  |i x=>rw [Vl.txt];exact .i x h.2
  |b b=>rw [Vl.txt];exact .b b
  |s l=>rw [Vl.txt];exact .s l
  |l vs=>
   rw [yJ]
   refine gk.l (vs.map Vl.txt) fun w hw=>?_
   obtain ⟨u,hu,rfl⟩:=List.mem_map.1 hw
   have e:=pa hm (i:=i) (j:=0) (by rw [Es hm hi h.1];omega)
   exact ((h.2.2 u hu).tx f).up (by omega)
  |r vs=>
   rw [yp]
   refine gk.r (vs.map Vl.txt) fun w hw=>?_
   obtain ⟨u,hu,rfl⟩:=List.mem_map.1 hw
   obtain ⟨j,hj,rfl⟩:=List.mem_iff_getElem.1 hu
   have e:=pa hm (i:=i) (j:=j) (by have:=h.2.1;omega)
   exact ((h.2.2 j hj).tx f).up (by omega)
theorem uG {k:Nat}(hk:100≤k){t:List aL}{i:Nat}(hn:cS t (i:Int)=true)(hi:i<t.length){v:List UInt8}{kd:Int}{ps:List (List UInt8)}(hp:af.f aG k v=some (kd,ps,0))(h0:kd<0):ac.f aG (k+1) t (i:Int) v=some (xb t i):=by
 rw [ac.f_eq,bX (by omega),bS,hn,Bool.not_true,cF,aM hi,bS,hp,bS]
 simp only
 rw [show ((0:Int) != 0)=false from rfl,cF,iC hi,dT h0,cT]
theorem l7 {k:Nat}(hk:100≤k){t:List aL}{i:Nat}(hn:cS t (i:Int)=true)(hi:i<t.length){v:List UInt8}{kd:Int}{ps:List (List UInt8)}(hp:af.f aG k v=some (kd,ps,0))(h0:0≤kd)(hkd:kd≠dX t i):ac.f aG (k+1) t (i:Int) v=some false:=by
 rw [ac.f_eq,bX (by omega),bS,hn,Bool.not_true,cF,aM hi,bS,hp,bS]
 simp only
 rw [show ((0:Int) != 0)=false from rfl,cF,iC hi,dF (by omega),cF,fU (by omega),bS,eC hi]
 unfold lC
 rw [if_pos hn]
 simp only
 rw [show (kd != dX t i)=true by rw [bne_iff_ne];exact hkd,Bool.not_true,cF]
theorem hY {k:Nat}(hk:100≤k){t:List aL}{i:Nat}(hn:cS t (i:Int)=true)(hi:i<t.length){v:List UInt8}{kd:Int}{ps:List (List UInt8)}(hp:af.f aG k v=some (kd,ps,0))(h0:0≤kd)(hkd:kd=dX t i)(h2:kd<2):ac.f aG (k+1) t (i:Int) v=some true:=by
 rw [ac.f_eq,bX (by omega),bS,hn,Bool.not_true,cF,aM hi,bS,hp,bS]
 simp only
 rw [show ((0:Int) != 0)=false from rfl,cF,iC hi,dF (by omega),cF,fU (by omega),bS,eC hi]
 unfold lC
 rw [if_pos hn]
 simp only
 obtain ⟨k,rfl⟩:∃q,k=q+1:=⟨k - 1,by omega⟩
 rw [show (kd != dX t i)=false by rw [hkd];simp,Bool.not_false,cT,show (kd==2)=false by rw [beq_eq_false_iff_ne];omega,cF,show (kd==3)=false by rw [beq_eq_false_iff_ne];omega,cF,show (kd==4)=false by rw [beq_eq_false_iff_ne];omega,cF,
  ut (by omega) (by unfold dH;rw [show (kd==3)=false by rw [beq_eq_false_iff_ne];omega,show (kd==4)=false by rw [beq_eq_false_iff_ne];omega];rfl)]
theorem sR {k:Nat}(hk:100≤k){t:List aL}{i:Nat}(hn:cS t (i:Int)=true)(hi:i<t.length){v:List UInt8}{l:List UInt8}(hp:af.f aG k v=some (2,[l],0))(hkd:dX t i=2):ac.f aG (k+1) t (i:Int) v=some (decide (l.length≤16)):=by
 rw [ac.f_eq,bX (by omega),bS,hn,Bool.not_true,cF,aM hi,bS,hp,bS]
 simp only
 rw [show ((0:Int) != 0)=false from rfl,cF,iC hi,dF (by omega),cF,fU (by omega),bS,eC hi]
 unfold lC
 rw [if_pos hn]
 simp only
 obtain ⟨k,rfl⟩:∃q,k=q+1:=⟨k - 1,by omega⟩
 rw [show ((2:Int) != dX t i)=false by rw [hkd];rfl,Bool.not_false,cT,show ((2:Int)==2)=true from rfl,cT,show (decide ((0:Nat)≤0)&&decide ((0:Int)<(([l]:List (List UInt8)).length:Int)))=true from rfl,cT,show ([l]:List (List UInt8))[0]?=some l from rfl,bS]
 by_cases hl:l.length≤16
 ·rw [dF (by omega),Bool.not_false,cT,show ((2:Int)==3)=false from rfl,cF,show ((2:Int)==4)=false from rfl,cF,ut (by omega) rfl,dT hl]
 ·rw [dT (show ((l.length:Int))>16 by omega),Bool.not_true,cF,dF hl]
theorem uE {k:Nat}(hk:100≤k){t:List aL}{i:Nat}(hn:cS t (i:Int)=true)(hi:i<t.length){v:List UInt8}{ps:List (List UInt8)}(hp:af.f aG k v=some (3,ps,0))(hkd:dX t i=3):ac.f aG (k+1) t (i:Int) v=if 64<ps.length then some false else ac.l0 aG k k 3 0 t ps (bA t (i:Int)):=by
 rw [ac.f_eq,bX (by omega),bS,hn,Bool.not_true,cF,aM hi,bS,hp,bS]
 simp only
 rw [show ((0:Int) != 0)=false from rfl,cF,iC hi,dF (by omega),cF,fU (by omega),bS,eC hi]
 unfold lC
 rw [if_pos hn]
 simp only
 rw [show ((3:Int) != dX t i)=false by rw [hkd];rfl,Bool.not_false,cT,show ((3:Int)==2)=false from rfl,cF,show ((3:Int)==3)=true from rfl,cT]
 by_cases hl:64<ps.length
 ·rw [dT (by omega),Bool.not_true,cF,if_pos hl]
 ·rw [dF (by omega),Bool.not_false,cT,if_neg hl]
  rfl
theorem qz {k:Nat}(hk:100≤k){t:List aL}{i:Nat}(hn:cS t (i:Int)=true)(hi:i<t.length){v:List UInt8}{ps:List (List UInt8)}(hp:af.f aG k v=some (4,ps,0))(hkd:dX t i=4):ac.f aG (k+1) t (i:Int) v=if ps.length=(bA t (i:Int)).length then ac.l0 aG k k 4 0 t ps (bA t (i:Int)) else some false:=by
 rw [ac.f_eq,bX (by omega),bS,hn,Bool.not_true,cF,aM hi,bS,hp,bS]
 simp only
 rw [show ((0:Int) != 0)=false from rfl,cF,iC hi,dF (by omega),cF,fU (by omega),bS,eC hi]
 unfold lC
 rw [if_pos hn]
 simp only
 rw [show ((4:Int) != dX t i)=false by rw [hkd];rfl,Bool.not_false,cT,show ((4:Int)==2)=false from rfl,cF,show ((4:Int)==3)=false from rfl,cF,show ((4:Int)==4)=true from rfl,cT]
 by_cases hl:ps.length=(bA t (i:Int)).length
 ·rw [show ((ps.length:Int) != ((bA t (i:Int)).length:Int))=false by rw [hl];simp,cF,if_pos hl]
 ·rw [show ((ps.length:Int) != ((bA t (i:Int)).length:Int))=true by rw [bne_iff_ne];omega,cT,if_neg hl]
theorem pM:∀(f:Nat) {t:List aL}{a:Int}{v:Vl},iy f t a v→v.txt.length≤65536→∀k,100400+f≤k→ac.f aG k t a v.txt=some true
 |0,_,_,_,h,_,_,_=>h.elim
 |f+1,t,a,v,h,hlen,k,hk=>by
  have hsh:=h.shape
  obtain ⟨hn,h⟩:=h
  obtain ⟨hm,i,hi,rfl⟩:=c8 hn
  rw [Int.toNat_natCast] at h
  obtain ⟨k,rfl⟩:∃q,k=q+1:=⟨k - 1,by omega⟩
  obtain ⟨k,rfl⟩:∃q,k=q+1:=⟨k - 1,by omega⟩
  have hp:=qb (k:=k+1) (by omega) hsh hlen
  cases v with
  |n=>rw [uG (by omega) hn hi hp (by decide),h]
  |i x=>
   exact hY (by omega) hn hi hp (show (0:Int)≤0 by decide) h.1.symm (show (0:Int)<2 by decide)
  |b b=>
   exact hY (by omega) hn hi hp (show (0:Int)≤1 by decide) h.symm (show (1:Int)<2 by decide)
  |s l=>
   rw [sR (by omega) hn hi hp h.1,dT h.2]
  |l vs=>
   obtain ⟨h3,h64,h⟩:=h
   have h1:=Es hm hi h3
   rw [yJ] at hlen
   have hlen':(vs.map Vl.txt).flatten.length+2=(f8 (vs.map Vl.txt)).length:=by unfold f8;simp only [List.length_append,List.length_cons,List.length_nil];omega
   rw [uE (by omega) hn hi hp h3,if_neg (by simp only [Vl.ps];rw [List.length_map];omega)]
   simp only [Vl.ps]
   have hks0:=mF (t:=t) (a:=(i:Int)) (j:=0) (by omega)
   refine di (F:=fun n j=>ac.l0 aG (k+1) n 3 (j:Int) t (vs.map Vl.txt) (bA t (i:Int))) (N:=vs.length) ?_ ?_ (k+1) 0 (by omega) (by omega)
   ·intro n j hj
    have hw:=h vs[j] (List.getElem_mem hj)
    have hwl:vs[j].txt.length≤(vs.map Vl.txt).flatten.length:=by
     have:=iw (vs:=vs.map Vl.txt) (j+1)
     rw [mo (by rw [List.length_map];exact hj),List.getElem_map] at this
     omega
    have e1:(decide ((0:Nat)≤0)&&decide ((0:Int)<((bA t (i:Int)).length:Int)))=true:=by rw [h1];decide
    rw [ac.l0_eq,dT (by rw [List.length_map];omega),cT,dY (by omega),bS,show (!(!dH 3))=true from rfl,cT,e1,cT,hks0,bS,show ((3:Int)==4)=false from rfl,cF,dT (by omega)]
    simp only [Bool.and_self,cT,Int.toNat_natCast]
    rw [List.getElem?_eq_getElem (by rw [List.length_map];exact hj),bS,List.getElem_map,pM f hw (by omega) _ (by omega),bS,Bool.not_true,cF,bu (by omega)]
   ·intro n
    rw [ac.l0_eq,dF (by rw [List.length_map];omega),cF]
  |r vs=>
   obtain ⟨h4,hvl,h⟩:=h
   have hk0:=GH hm hi h4
   rw [yp] at hlen
   have hlen':(vs.map Vl.txt).flatten.length+2=(du (vs.map Vl.txt)).length:=by unfold du;simp only [List.length_append,List.length_cons,List.length_nil];omega
   rw [qz (by omega) hn hi hp h4,if_pos (by simp only [Vl.ps];rw [List.length_map];exact hvl)]
   simp only [Vl.ps]
   have hkk:=gi t (i:Int) t.length
   have htl:=eY hm
   have hkl:(bA t (i:Int)).length≤8:=by unfold bA;omega
   have hks0:=mF (t:=t) (a:=(i:Int)) (j:=0) (by omega)
   refine di (F:=fun n j=>ac.l0 aG (k+1) n 4 (j:Int) t (vs.map Vl.txt) (bA t (i:Int))) (N:=vs.length) ?_ ?_ (k+1) 0 (by omega) (by omega)
   ·intro n j hj
    have hw:=h j hj
    have hwl:vs[j].txt.length≤(vs.map Vl.txt).flatten.length:=by
     have:=iw (vs:=vs.map Vl.txt) (j+1)
     rw [mo (by rw [List.length_map];exact hj),List.getElem_map] at this
     omega
    have hksj:=mF (t:=t) (a:=(i:Int)) (j:=j) (by omega)
    have e1:(decide ((0:Nat)≤0)&&decide ((0:Int)<((bA t (i:Int)).length:Int)))=true:=by rw [dT (show (0:Nat)≤0 by omega),dT (by omega)];rfl
    rw [ac.l0_eq,dT (by rw [List.length_map];omega),cT,dY (by omega),bS,show (!(!dH 4))=true from rfl,cT,e1,cT,hks0,bS,show ((4:Int)==4)=true from rfl,cT,dT (show (j:Int)<((bA t (i:Int)).length:Int) by omega),dT (show (0:Int)≤(j:Int) by omega)]
    simp only [Bool.and_self,cT,Int.toNat_natCast]
    rw [hksj,bS,List.getElem?_eq_getElem (by rw [List.length_map];exact hj),bS,List.getElem_map,pM f hw (by omega) _ (by omega),bS,Bool.not_true,cF,bu (by omega)]
   ·intro n
    rw [ac.l0_eq,dF (by rw [List.length_map];omega),cF]
theorem rh {α β:Type}{g:α→β}{p:α→Prop}:∀(l:List β),(∀y∈l,∃x,p x∧y=g x)→∃m:List α,l=m.map g∧∀x∈m,p x
 |[],_=>⟨[],rfl,fun x hx=>by cases hx⟩
 |y :: l,h=>by
  obtain ⟨x,hx,rfl⟩:=h y List.mem_cons_self
  obtain ⟨m,rfl,hm⟩:=rh l fun z hz=>h z (List.mem_cons_of_mem _ hz)
  exact ⟨x :: m,rfl,fun z hz=>by
   rcases List.mem_cons.1 hz with rfl|hz
   ·exact hx
   ·exact hm z hz⟩
theorem mR {α β:Type}{g:α→β}{p:Nat→α→Prop}:∀(l:List β) (o:Nat),(∀j (h:j<l.length),∃x,p (o+j) x∧l[j]=g x)→∃m:List α,l=m.map g∧∀j (h:j<m.length),p (o+j) m[j]
 |[],_,_=>⟨[],rfl,fun j h=>by cases h⟩
 |y :: l,o,h=>by
  obtain ⟨x,hx,e⟩:=h 0 (by simp)
  obtain ⟨m,e',hm⟩:=mR (p:=p) l (o+1) fun j hj=>by
   have:=h (j+1) (by simpa using hj)
   rw [show o+(j+1)=o+1+j by omega] at this
   simpa using this
  refine ⟨x :: m,by rw [List.map_cons,←e',←e];rfl,fun j hj=>?_⟩
  cases j with
  |zero=>exact hx
  |succ j=>
   have:=hm j (by simpa using hj)
   rw [show o+1+j=o+(j+1) by omega] at this
   simpa using this
theorem rS:∀(f:Nat) {t:List aL}{a:Int} (v:List UInt8),t.length - a.toNat<f→∀k,100400+f≤k→
  ∃b,ac.f aG k t a v=some b∧(b=true→∃V,iy f t a V∧v=V.txt∧v.length≤65536)
 |0,_,_,_,h,_,_=>by omega
 |f+1,t,a,v,hf,k,hk=>by
  obtain ⟨k,rfl⟩:∃q,k=q+1:=⟨k - 1,by omega⟩
  have no:∃b,(some false:Option Bool)=some b∧(b=true→∃V,iy (f+1) t a V∧v=V.txt∧v.length≤65536):=⟨false,rfl,fun e=>by cases e⟩
  cases hn:cS t a with
  |false=>
   rw [ac.f_eq,bX (by omega),bS,hn,Bool.not_false,cT]
   exact no
  |true=>
   obtain ⟨hm,i,hi,rfl⟩:=c8 hn
   have htl:=eY hm
   rw [Int.toNat_natCast] at hf
   rcases Ah (k:=k) (by omega) v with hp|⟨kd,ps,hsh,hlen,hp⟩
   ·rw [ac.f_eq,bX (by omega),bS,hn,Bool.not_true,cF,aM hi,bS,hp,bS]
    exact no
   ·obtain ⟨k,rfl⟩:∃q,k=q+1:=⟨k - 1,by omega⟩
    have yes:∀V:Vl,iy (f+1) t (i:Int) V→v=V.txt→∃V,iy (f+1) t (i:Int) V∧v=V.txt∧v.length≤65536:=fun V hV e=>⟨V,hV,e,hlen⟩
    cases hsh with
    |n=>
     rw [uG (by omega) hn hi hp (by decide)]
     exact ⟨_,rfl,fun e=>yes .n ⟨hn,e⟩ (by rw [Vl.txt])⟩
    |i x hx=>
     by_cases hk0:(0:Int)=dX t i
     ·rw [hY (by omega) hn hi hp (by decide) hk0 (by decide)]
      exact ⟨_,rfl,fun _=>yes (.i x) ⟨hn,hk0.symm,hx⟩ (by rw [Vl.txt])⟩
     ·rw [l7 (by omega) hn hi hp (by decide) hk0];exact no
    |b c=>
     by_cases hk0:(1:Int)=dX t i
     ·rw [hY (by omega) hn hi hp (by decide) hk0 (by decide)]
      exact ⟨_,rfl,fun _=>yes (.b c) ⟨hn,hk0.symm⟩ (by rw [Vl.txt])⟩
     ·rw [l7 (by omega) hn hi hp (by decide) hk0];exact no
    |s l=>
     by_cases hk0:(2:Int)=dX t i
     ·rw [sR (by omega) hn hi hp hk0.symm]
      exact ⟨_,rfl,fun e=>yes (.s l) ⟨hn,hk0.symm,of_decide_eq_true e⟩ (by rw [Vl.txt])⟩
     ·rw [l7 (by omega) hn hi hp (by decide) hk0];exact no
    |l vs hvs=>
     by_cases hk0:(3:Int)=dX t i
     ·rw [uE (by omega) hn hi hp hk0.symm]
      by_cases hl:64<ps.length
      ·rw [if_pos hl];exact no
      ·rw [if_neg hl]
       have h1:=Es hm hi hk0.symm
       have hks0:=mF (t:=t) (a:=(i:Int)) (j:=0) (by omega)
       obtain ⟨q,hq1,hq2,hq3⟩:=BJ hm (i:=i) (j:=0) (by omega)
       have key:∀(d j n:Nat),j+d=ps.length→d+1≤n→∃b,ac.l0 aG (k+1) n 3 (j:Int) t ps (bA t (i:Int))=some b∧(b=true→∀r (hr:r<ps.length),j≤r→∃V,iy f t (vB t (i:Int) 0) V∧ps[r]=V.txt):=by
        intro d
        induction d with
        |zero=>
         intro j n hj hn'
         obtain ⟨n,rfl⟩:∃q,n=q+1:=⟨n - 1,by omega⟩
         rw [ac.l0_eq,dF (by omega),cF]
         exact ⟨_,rfl,fun _ r hr hjr=>by omega⟩
        |succ d ih=>
         intro j n hj hn'
         obtain ⟨n,rfl⟩:∃q,n=q+1:=⟨n - 1,by omega⟩
         have hjl:j<ps.length:=by omega
         have e1:(decide ((0:Nat)≤0)&&decide ((0:Int)<((bA t (i:Int)).length:Int)))=true:=by rw [h1];decide
         obtain ⟨b,hb,hb'⟩:=rS f (t:=t) (a:=vB t (i:Int) 0) ps[j] (by rw [hq1,Int.toNat_natCast];omega) (k+1) (by omega)
         rw [ac.l0_eq,dT (by omega),cT,dY (by omega),bS,show (!(!dH 3))=true from rfl,cT,e1,cT,hks0,bS,show ((3:Int)==4)=false from rfl,cF,dT (by omega)]
         simp only [Bool.and_self,cT,Int.toNat_natCast]
         rw [List.getElem?_eq_getElem hjl,bS,hb,bS]
         cases b with
         |false=>exact ⟨false,rfl,fun e=>by cases e⟩
         |true=>
          rw [Bool.not_true,cF,bu (by omega)]
          obtain ⟨b',h',h''⟩:=ih (j+1) n (by omega) (by omega)
          refine ⟨b',h',fun e r hr hjr=>?_⟩
          by_cases hrj:r=j
          ·subst hrj
           obtain ⟨V,hV,he,_⟩:=hb' rfl
           exact ⟨V,hV,he⟩
          ·exact h'' e r hr (by omega)
       obtain ⟨b,hb,hb'⟩:=key ps.length 0 (k+1) (by omega) (by omega)
       refine ⟨b,hb,fun e=>?_⟩
       obtain ⟨Vs,hVs,hT⟩:=rh (g:=Vl.txt) (p:=iy f t (vB t (i:Int) 0)) ps (fun y hy=>by
        obtain ⟨r,hr,rfl⟩:=List.mem_iff_getElem.1 hy
        exact hb' e r hr (Nat.zero_le _))
       exact yes (.l Vs) ⟨hn,hk0.symm,by rw [hVs,List.length_map] at hl;omega,hT⟩ (by rw [yJ,hVs])
     ·rw [l7 (by omega) hn hi hp (by decide) hk0];exact no
    |r vs hvs=>
     by_cases hk0:(4:Int)=dX t i
     ·rw [qz (by omega) hn hi hp hk0.symm]
      by_cases hl:ps.length=(bA t (i:Int)).length
      ·rw [if_pos hl]
       have h1:=GH hm hi hk0.symm
       have hkk:=gi t (i:Int) t.length
       have hkl:(bA t (i:Int)).length≤8:=by unfold bA;omega
       have hks0:=mF (t:=t) (a:=(i:Int)) (j:=0) (by omega)
       have key:∀(d j n:Nat),j+d=ps.length→d+1≤n→∃b,ac.l0 aG (k+1) n 4 (j:Int) t ps (bA t (i:Int))=some b∧(b=true→∀r (hr:r<ps.length),j≤r→∃V,iy f t (vB t (i:Int) r) V∧ps[r]=V.txt):=by
        intro d
        induction d with
        |zero=>
         intro j n hj hn'
         obtain ⟨n,rfl⟩:∃q,n=q+1:=⟨n - 1,by omega⟩
         rw [ac.l0_eq,dF (by omega),cF]
         exact ⟨_,rfl,fun _ r hr hjr=>by omega⟩
        |succ d ih=>
         intro j n hj hn'
         obtain ⟨n,rfl⟩:∃q,n=q+1:=⟨n - 1,by omega⟩
         have hjl:j<ps.length:=by omega
         have hksj:=mF (t:=t) (a:=(i:Int)) (j:=j) (by omega)
         obtain ⟨q,hq1,hq2,hq3⟩:=BJ hm (i:=i) (j:=j) (by omega)
         have e1:(decide ((0:Nat)≤0)&&decide ((0:Int)<((bA t (i:Int)).length:Int)))=true:=by rw [dT (show (0:Nat)≤0 by omega),dT (by omega)];rfl
         obtain ⟨b,hb,hb'⟩:=rS f (t:=t) (a:=vB t (i:Int) j) ps[j] (by rw [hq1,Int.toNat_natCast];omega) (k+1) (by omega)
         rw [ac.l0_eq,dT (by omega),cT,dY (by omega),bS,show (!(!dH 4))=true from rfl,cT,e1,cT,hks0,bS,show ((4:Int)==4)=true from rfl,cT,dT (show (j:Int)<((bA t (i:Int)).length:Int) by omega),dT (show (0:Int)≤(j:Int) by omega)]
         simp only [Bool.and_self,cT,Int.toNat_natCast]
         rw [hksj,bS,List.getElem?_eq_getElem hjl,bS,hb,bS]
         cases b with
         |false=>exact ⟨false,rfl,fun e=>by cases e⟩
         |true=>
          rw [Bool.not_true,cF,bu (by omega)]
          obtain ⟨b',h',h''⟩:=ih (j+1) n (by omega) (by omega)
          refine ⟨b',h',fun e r hr hjr=>?_⟩
          by_cases hrj:r=j
          ·subst hrj
           obtain ⟨V,hV,he,_⟩:=hb' rfl
           exact ⟨V,hV,he⟩
          ·exact h'' e r hr (by omega)
       obtain ⟨b,hb,hb'⟩:=key ps.length 0 (k+1) (by omega) (by omega)
       refine ⟨b,hb,fun e=>?_⟩
       obtain ⟨Vs,hVs,hT⟩:=mR (g:=Vl.txt) (p:=fun j V=>iy f t (vB t (i:Int) j) V) ps 0 (fun j hj=>by rw [Nat.zero_add];exact hb' e j hj (Nat.zero_le _))
       exact yes (.r Vs) ⟨hn,hk0.symm,by rw [hVs,List.length_map] at hl;exact hl,fun j hj=>by have:=hT j hj;rwa [Nat.zero_add] at this⟩ (by rw [yp,hVs])
      ·rw [if_neg hl];exact no
     ·rw [l7 (by omega) hn hi hp (by decide) hk0];exact no
theorem Ci {x:Int}:aH .and .u8 x 1=x % 2:=by
 rw [kR,yc]
 have e1:(1 % (2 ^ IntKind.u8.bits:Int)).toNat=1:=by decide
 rw [e1,Nat.and_one_is_mod]
 simp only [IntKind.bits]
 omega
theorem mz (x:Int)(n:Nat):Int.fdiv x (2 ^ n)=x / 2 ^ n:=Int.fdiv_eq_ediv_of_nonneg _ (Int.le_of_lt (Int.pow_pos (by omega)))
def ef (xs:List Bool)(q:Nat):Nat→Nat
 |0=>0
 |n+1=>ef xs q n+(if xs[8*q+n]?=some true then 2 ^ n else 0)
theorem lA (xs:List Bool)(q:Nat):∀n,ef xs q n<2 ^ n
 |0=>Nat.one_pos
 |n+1=>by
  have:=lA xs q n
  rw [ef,Nat.pow_succ]
  split<;>omega
theorem uu (xs:List Bool)(q:Nat):∀n r,ef xs q n / 2 ^ r % 2=if r<n∧xs[8*q+r]?=some true then 1 else 0
 |0,r=>by rw [ef,Nat.zero_div,if_neg (by omega)]
 |n+1,r=>by
  have hlt:=lA xs q n
  have ih:=uu xs q n r
  rw [ef]
  by_cases hr:r<n
  ·obtain ⟨d,hd⟩:∃d,n=r+1+d:=⟨n - (r+1),by omega⟩
   have e:∀z:Nat,(ef xs q n+2 ^ n*z) / 2 ^ r % 2=ef xs q n / 2 ^ r % 2:=by
    intro z
    have:2 ^ n*z=2 ^ r*(2*(2 ^ d*z)):=by rw [hd,Nat.pow_add,Nat.pow_succ];simp only [Nat.mul_assoc]
    rw [this,Nat.add_mul_div_left _ _ (Nat.two_pow_pos r),Nat.add_mul_mod_self_left]
   have h2:(r<n+1∧xs[8*q+r]?=some true)↔(r<n∧xs[8*q+r]?=some true):=by constructor<;>rintro ⟨_,h⟩<;>exact ⟨by omega,h⟩
   have goal:ef xs q n / 2 ^ r % 2=if r<n+1∧xs[8*q+r]?=some true then 1 else 0:=by
    rw [ih]
    by_cases hx:xs[8*q+r]?=some true
    ·rw [if_pos ⟨hr,hx⟩,if_pos ⟨by omega,hx⟩]
    ·rw [if_neg (fun h=>hx h.2),if_neg (fun h=>hx h.2)]
   split
   ·have:=e 1;rw [Nat.mul_one] at this;rw [this];exact goal
   ·rw [Nat.add_zero];exact goal
  ·by_cases hrn:r=n
   ·subst hrn
    by_cases hx:xs[8*q+r]?=some true
    ·rw [if_pos hx,if_pos ⟨by omega,hx⟩,Nat.add_div_right _ (Nat.two_pow_pos r),Nat.div_eq_of_lt hlt]
    ·rw [if_neg hx,if_neg (fun h=>hx h.2),Nat.add_zero,Nat.div_eq_of_lt hlt]
   ·have hlt2:ef xs q n+(if xs[8*q+n]?=some true then 2 ^ n else 0)<2 ^ r:=by
     have:2 ^ (n+1)≤2 ^ r:=Nat.pow_le_pow_right (by omega) (by omega)
     rw [Nat.pow_succ] at this
     split<;>omega
    rw [Nat.div_eq_of_lt hlt2,if_neg (by omega)]
def ge (xs:List Bool):List UInt8:=(List.range ((xs.length+7) / 8)).map fun q=>UInt8.ofNat (ef xs q 8)
theorem pq (xs:List Bool):(ge xs).length=(xs.length+7) / 8:=by unfold ge;rw [List.length_map,List.length_range]
theorem Bf (xs:List Bool){i:Nat}(h:i<xs.length):Gm (ge xs) i=xs[i]:=by
 have hl:=pq xs
 have hq:i / 8<(ge xs).length:=by omega
 have hb:(ge xs)[i / 8]=UInt8.ofNat (ef xs (i / 8) 8):=by simp [ge]
 have hlt:ef xs (i / 8) 8<256:=lA xs (i / 8) 8
 unfold Gm
 rw [List.getElem?_eq_getElem hq,hb]
 simp only
 have e:(UInt8.ofNat (ef xs (i / 8) 8)).toNat=ef xs (i / 8) 8:=by rw [UInt8.toNat_ofNat'];omega
 have hm:min (i % 8) IntKind.u8.bits=i % 8:=by simp only [IntKind.bits];omega
 rw [e,hm,Ci,mz]
 have e2:((ef xs (i / 8) 8:Nat):Int) / 2 ^ (i % 8) % 2=((ef xs (i / 8) 8 / 2 ^ (i % 8) % 2:Nat):Int):=by push_cast;rfl
 rw [e2,uu,show 8*(i / 8)+i % 8=i by omega,List.getElem?_eq_getElem h]
 cases xs[i] with
 |true=>rw [if_pos ⟨by omega,rfl⟩];rfl
 |false=>rw [if_neg (by simp)];rfl
theorem Am {n:Int}(h0:0≤n)(h1:n≤1000000000000000):IntKind.i64.wrap (Int.tdiv (IntKind.i64.wrap (n+7)) 8)=gK n:=by
 rw [bb (n+7) (by omega),Int.tdiv_eq_ediv_of_nonneg (by omega),bb _ (by omega)];rfl
def cu (xs:List Bool)(i:Nat):List Int:=(List.range ((xs.length+7) / 8)).map fun q=>((ef xs q (min 8 (i - 8*q)):Nat):Int)
theorem re (xs:List Bool):ae (cu xs xs.length)=ge xs:=by
 unfold ae cu ge
 rw [List.map_map]
 refine List.map_congr_left fun q hq=>?_
 have hq:=List.mem_range.1 hq
 show UInt8.ofNat (((ef xs q (min 8 (xs.length - 8*q)):Nat):Int)).toNat=_
 rw [Int.toNat_natCast]
 congr 1
 by_cases h:8≤xs.length - 8*q
 ·rw [Nat.min_eq_left h]
 ·have key:∀d n,n+d=8→xs.length - 8*q≤n→ef xs q n=ef xs q 8:=by
   intro d
   induction d with
   |zero=>intro n h1 _;rw [show n=8 by omega]
   |succ d ih=>
    intro n h1 h2
    rw [←ih (n+1) (by omega) (by omega),ef,if_neg (by rw [List.getElem?_eq_none (by omega)];simp),Nat.add_zero]
  rw [Nat.min_eq_right (by omega)]
  exact key (8 - (xs.length - 8*q)) _ (by omega) (Nat.le_refl _)
theorem sV (e r:Nat)(hr:r<8)(he:e<2 ^ r):aH .or .u8 (e:Int) (IntKind.u8.wrap (1*2 ^ (min r IntKind.u8.bits)))=((e+2 ^ r:Nat):Int):=by
 have h2:2 ^ r≤128:=by
  have:2 ^ r≤2 ^ 7:=Nat.pow_le_pow_right (by omega) (by omega)
  omega
 have hm:min r IntKind.u8.bits=r:=by simp only [IntKind.bits];omega
 have hp:((2:Int) ^ r)=((2 ^ r:Nat):Int):=by push_cast;rfl
 rw [hm,Int.one_mul,hp,yc,mC]
 have e1:((e:Int) % (2 ^ IntKind.u8.bits:Int)).toNat=e:=by simp only [IntKind.bits];omega
 have e2:((((2 ^ r:Nat):Int) % 256) % (2 ^ IntKind.u8.bits:Int)).toNat=1*2 ^ r:=by simp only [IntKind.bits];omega
 rw [e1,e2,sy e 1 r he,yc]
 omega
theorem ie {xs:List Bool}{i q:Nat}(hq:q<(xs.length+7) / 8):(cu xs i)[q]?=some ((ef xs q (min 8 (i - 8*q)):Nat):Int):=by
 unfold cu
 rw [List.getElem?_map,List.getElem?_range hq];rfl
theorem ry {xs:List Bool}{i:Nat}(h:i<xs.length)(hx:xs[i]=true):(cu xs i).set (i / 8) (((ef xs (i / 8) (i % 8)+2 ^ (i % 8):Nat)):Int)=cu xs (i+1):=by
 refine List.ext_getElem? fun q=>?_
 by_cases hq:q<(xs.length+7) / 8
 ·rw [List.getElem?_set]
  have hl:i / 8<(cu xs i).length:=by unfold cu;rw [List.length_map,List.length_range];omega
  by_cases hiq:i / 8=q
  ·rw [if_pos hiq,if_pos hl,ie hq,←hiq,show min 8 (i+1 - 8*(i / 8))=i % 8+1 by omega,ef,show 8*(i / 8)+i % 8=i by omega,List.getElem?_eq_getElem h,hx,if_pos rfl]
  ·rw [if_neg hiq,ie hq,ie hq]
   congr 3
   omega
 ·rw [List.getElem?_eq_none (by rw [List.length_set];unfold cu;rw [List.length_map,List.length_range];omega),List.getElem?_eq_none (by unfold cu;rw [List.length_map,List.length_range];omega)]
theorem qA {xs:List Bool}{i:Nat}(h:i<xs.length)(hx:xs[i]=false):cu xs i=cu xs (i+1):=by
 unfold cu
 refine List.map_congr_left fun q _=>?_
 congr 1
 by_cases hiq:i / 8=q
 ·rw [←hiq,show min 8 (i+1 - 8*(i / 8))=i % 8+1 by omega,show min 8 (i - 8*(i / 8))=i % 8 by omega,ef,show 8*(i / 8)+i % 8=i by omega,List.getElem?_eq_getElem h,hx,if_neg (by simp),Nat.add_zero]
 ·rw [show min 8 (i+1 - 8*q)=min 8 (i - 8*q) by omega]
theorem zM {k:Nat}{xs:List Bool}(hk:xs.length+3≤k)(hl:xs.length≤100000000000000):aQ.f aG k xs=some (ge xs):=by
 obtain ⟨k,rfl⟩:∃q,k=q+1:=⟨k - 1,by omega⟩
 have hb:b7.f aG k ((xs.length:Nat):Int)=some (gK (xs.length:Int)):=by
  obtain ⟨k,rfl⟩:∃q,k=q+1:=⟨k - 1,by omega⟩
  rw [b7.f_eq,Am (by omega) (by omega)]
 have hbb:gK (xs.length:Int)=(((xs.length+7) / 8:Nat):Int):=by unfold gK;omega
 rw [aQ.f_eq,hb,bS,BEq.rfl,hbb,dT (by omega),dT (by omega)]
 simp only [Bool.and_self,cT,Int.toNat_natCast]
 have h0:(List.replicate ((xs.length+7) / 8) (0:Int))=cu xs 0:=by
  unfold cu
  refine List.ext_getElem (by simp) fun q h1 h2=>?_
  simp [ef]
 rw [h0,←re]
 refine di (F:=fun n i=>aQ.l0 aG k n xs (i:Int) (cu xs i)) (N:=xs.length) ?_ ?_ k 0 (by omega) (by omega)
 ·intro n i hi
  have hq:i / 8<(xs.length+7) / 8:=by omega
  have hlen:(cu xs i).length=(xs.length+7) / 8:=by unfold cu;rw [List.length_map,List.length_range]
  have e1:Int.tdiv (i:Int) 8=((i / 8:Nat):Int):=by rw [Int.tdiv_eq_ediv_of_nonneg (by omega)];omega
  have e2:Int.tmod (i:Int) 8=((i % 8:Nat):Int):=by rw [Int.tmod_eq_emod_of_nonneg (by omega)];omega
  rw [aQ.l0_eq,dT (by omega),cT,aM hi,bS,bu (by omega)]
  cases hx:xs[i] with
  |false=>rw [cF,qA hi hx]
  |true=>
   rw [cT,e1,e2,bb ((i / 8:Nat):Int) (by omega),dT (show (0:Int)≤((i / 8:Nat):Int) by omega),dT (show ((i / 8:Nat):Int)<((cu xs i).length:Int) by omega),dF (show¬(((i % 8:Nat):Int)<0) by omega)]
   simp only [Bool.and_self,cT,cF,Int.toNat_natCast]
   rw [ie hq,show min 8 (i - 8*(i / 8))=i % 8 by omega]
   simp only [bS]
   rw [sV _ _ (by omega) (lA xs (i / 8) (i % 8)),ry hi hx]
 ·intro n
  rw [aQ.l0_eq,dF (by omega),cF]
end Go.Proofs.YtjkokaockhecnaaGreatDoorP
