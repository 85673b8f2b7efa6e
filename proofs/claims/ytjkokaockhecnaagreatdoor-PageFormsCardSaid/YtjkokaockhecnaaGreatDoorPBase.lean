/- What the functions below the laws answer, in plain lists and numbers; no condition but the sizes that a machine has. -/
import Derived.Test.YtjkokaockhecnaaGreatDoorEqs0
import Derived.Test.YtjkokaockhecnaaGreatDoorEqs1
import Derived.Laws.BitsLemmas
import Derived.KernelRfl
namespace Go.Proofs.YtjkokaockhecnaaGreatDoorP
open Go Go.Proofs.YtjkokaockhecnaaGreatDoorA
theorem ek (n:Int)(h:-9223372036854775808≤n∧n≤9223372036854775807):IntKind.i64.wrap n=n:=by rw [IntKind.wrap_i64];omega
theorem Au (n:Int):IntKind.u8.wrap n=n % 256:=IntKind.wrap_u8 n
theorem wX (x y:Nat)(m:Nat)(h:x<2 ^ m):x ||| (y*2 ^ m)=x+y*2 ^ m:=by
 have:=Nat.two_pow_add_eq_or_of_lt (i:=m) (b:=x) h y
 rw [Nat.mul_comm y,Nat.or_comm,←this,Nat.add_comm]
theorem toNat_ofInt (n:Nat)(x:Int):(BitVec.ofInt n x).toNat=(x % (2 ^ n:Int)).toNat:=by
 rw [BitVec.toNat_ofInt];simp
theorem sL (k:IntKind)(x y:Int):aN .and k x y=k.wrap ((((x % (2 ^ k.bits:Int)).toNat &&& (y % (2 ^ k.bits:Int)).toNat:Nat)):Int):=by
 unfold aN
 simp only [BitVec.toNat_and,toNat_ofInt]
theorem pm (k:IntKind)(x y:Int):aN .or k x y=k.wrap ((((x % (2 ^ k.bits:Int)).toNat ||| (y % (2 ^ k.bits:Int)).toNat:Nat)):Int):=by
 unfold aN
 simp only [BitVec.toNat_or,toNat_ofInt]
theorem wP (x:Int)(m:Nat)(hm:m≤62):aN .and .i64 x (2 ^ m - 1)=x % 2 ^ m:=by
 rw [sL]
 have hp:(0:Int)<2 ^ m:=Int.pow_pos (by omega)
 have hle:(2 ^ m:Int)≤2 ^ 62:=by exact_mod_cast (Nat.pow_le_pow_right (n:=2) (by omega) hm)
 have e1:((2 ^ m - 1:Int) % (2 ^ IntKind.i64.bits:Int))=((2 ^ m - 1:Nat):Int):=by
  have:((2 ^ m - 1:Nat):Int)=2 ^ m - 1:=by
   have h1:1≤2 ^ m:=Nat.one_le_two_pow
   push_cast [h1];simp
  rw [this,Int.emod_eq_of_lt (by omega)]
  show (2 ^ m - 1:Int)<2 ^ 64
  have:(2 ^ 62:Int)<2 ^ 64:=by decide
  omega
 rw [e1,Int.toNat_natCast,Nat.and_two_pow_sub_one_eq_mod]
 have hx0:0≤x % (2 ^ IntKind.i64.bits:Int):=Int.emod_nonneg _ (by decide)
 have e2:(((x % (2 ^ IntKind.i64.bits:Int)).toNat % 2 ^ m:Nat):Int)=x % 2 ^ m:=by
  rw [Int.natCast_emod,Int.toNat_of_nonneg hx0]
  push_cast
  have hd:(2 ^ m:Int) ∣ (2 ^ IntKind.i64.bits:Int):=by
   refine ⟨2 ^ (64 - m),?_⟩
   rw [←Int.pow_add]
   show (2:Int) ^ 64=_
   congr 1;omega
  rw [Int.emod_emod_of_dvd _ hd]
 rw [e2]
 have h1:0≤x % 2 ^ m:=Int.emod_nonneg _ (by omega)
 have h2:x % 2 ^ m<2 ^ m:=Int.emod_lt_of_pos _ hp
 have h3:(2 ^ 62:Int)≤9223372036854775807:=by decide
 exact ek _ ⟨by omega,by omega⟩
def wb (x:Int):Bool:=decide (0≤x)&&decide (x≤2147483647)
theorem tc {k:Nat}(hk:1≤k)(x:Int):lk.f bK k x=some (wb x):=by
 obtain ⟨k,rfl⟩:∃m,k=m+1:=⟨k - 1,by omega⟩
 rw [lk.f_eq]
 unfold wb
 by_cases h:0≤x
 ·have:x≥0:=h
  simp [h]
 ·have:¬x≥0:=h
  simp [h]
def w4 (x:Int):List UInt8:=ah [IntKind.u8.wrap (Int.fdiv x 1),IntKind.u8.wrap (Int.fdiv x (2 ^ 8)),IntKind.u8.wrap (Int.fdiv x (2 ^ 16)),IntKind.u8.wrap (Int.fdiv x (2 ^ 24))]
def w8 (x:Int):List UInt8:=ah [IntKind.u8.wrap (Int.fdiv x 1),IntKind.u8.wrap (Int.fdiv x (2 ^ 8)),IntKind.u8.wrap (Int.fdiv x (2 ^ 16)),IntKind.u8.wrap (Int.fdiv x (2 ^ 24)),
 IntKind.u8.wrap (Int.fdiv x (2 ^ 32)),IntKind.u8.wrap (Int.fdiv x (2 ^ 40)),IntKind.u8.wrap (Int.fdiv x (2 ^ 48)),IntKind.u8.wrap (Int.fdiv x (2 ^ 56))]
theorem BS (m:Nat)(x:Int):bW.f bK (m+12) x 4=some (w4 x):=by kernel_rfl
theorem A7 (m:Nat)(x:Int):bW.f bK (m+12) x 8=some (w8 x):=by kernel_rfl
def put (x w:Int):List UInt8×Int:=if w=8 then (w8 x,0) else if w=4∧wb x=true then (w4 x,0) else ([],300)
def val:List UInt8→Nat
 |[]=>0
 |b :: l=>b.toNat+256*val l
def AI (s:List UInt8):Int:=IntKind.i64.wrap (val s)
theorem cw {α:Type}{l:List α}{i:Nat}(h:i<l.length):rd l (i:Int)=some l[i]:=by
 unfold rd
 have:decide ((0:Int)≤(i:Int))=true:=by simp
 rw [this]
 simp only [cond,Int.toNat_natCast]
 exact List.getElem?_eq_getElem h
def wI:Nat→Int→List Int
 |0,x=>[x]
 |f+1,x=>if 128≤x then (x % 128+128) :: wI f (x / 128) else [x]
def qz (x:Int):List UInt8×Int:=if wb x=true then (ah (wI 4 x),0) else ([],300)
theorem BO:∀n:Nat,n<256→n ||| 128=n % 128+128:=by decide+kernel
theorem BK (x:Int)(hx:0≤x):aN .or .u8 (IntKind.u8.wrap x) 128=x % 128+128:=by
 rw [pm,Au x]
 have e1:(x % 256) % (2 ^ IntKind.u8.bits:Int)=x % 256:=Int.emod_emod_of_dvd _ ⟨1,rfl⟩
 have e2:((128:Int) % (2 ^ IntKind.u8.bits:Int)).toNat=128:=rfl
 rw [e1,e2,BO _ (by omega),Au]
 omega
theorem xZ (x:Int):Int.fdiv x (2 ^ (min 7 IntKind.i64.bits))=x / 128:=by
 show Int.fdiv x (2 ^ 7)=x / 128
 rw [Int.fdiv_eq_ediv_of_nonneg _ (by decide)]
 rfl
theorem oK:∀(f:Nat) (x:Int),1≤(wI f x).length∧(wI f x).length≤f+1
 |0,x=>by simp [wI]
 |f+1,x=>by
  unfold wI
  split
  ·have:=oK f (x / 128);simp;omega
  ·simp
theorem j9:∀(f:Nat) (x:Int) (out:List Int) (k n:Nat),0≤x→x<128 ^ (f+1)→f+1≤n→out.length+f+1≤140737488355328→bq.l0 bK k n x out=some (ah (out++wI f x),0)
 |0,x,out,k,n,hx,hx2,hn,hl=>by
  obtain ⟨n,rfl⟩:∃m,n=m+1:=⟨n - 1,by omega⟩
  rw [bq.l0_eq]
  have h1:¬(x≥128):=by simp at hx2;omega
  have h2:∀y:Int,decide ((out.length+[y].length)*1≤140737488355328)=true:=fun y=>by simp;omega
  have h3:IntKind.u8.wrap x=x:=by rw [Au];omega
  simp only [h1,h2,h3,decide_true,decide_false,cond,wI]
 |f+1,x,out,k,n,hx,hx2,hn,hl=>by
  obtain ⟨n,rfl⟩:∃m,n=m+1:=⟨n - 1,by omega⟩
  rw [bq.l0_eq]
  by_cases h1:128≤x
  ·have h1':x≥128:=h1
   have h2:∀y:Int,decide ((out.length+[y].length)*1≤140737488355328)=true:=fun y=>by simp;omega
   simp only [h1',h2,decide_true,cond,xZ,BK x hx]
   rw [j9 f (x / 128) _ k n (by omega) (by rw [Int.pow_succ] at hx2;exact Int.ediv_lt_of_lt_mul (by omega) hx2) (by omega) (by simp;omega)]
   simp [wI,h1]
  ·have h1':¬(x≥128):=h1
   have h2:∀y:Int,decide ((out.length+[y].length)*1≤140737488355328)=true:=fun y=>by simp;omega
   have h3:IntKind.u8.wrap x=x:=by rw [Au];omega
   simp only [h1',h2,h3,decide_true,decide_false,cond,wI,h1,if_false]
theorem qu {x:Int}:wb x=true↔0≤x∧x≤2147483647:=by simp [wb]
theorem j4 {k:Nat}(hk:7≤k)(x:Int):bq.f bK k x=some (qz x):=by
 obtain ⟨k,rfl⟩:∃m,k=m+1:=⟨k - 1,by omega⟩
 rw [bq.f_eq,tc (by omega)]
 unfold qz
 cases hm:wb x with
 |false=>simp
 |true=>
  obtain ⟨h1,h2⟩:=qu.1 hm
  have:=j9 4 x [] k k h1 (by have:(128:Int) ^ (4+1)=34359738368:=(by decide);omega) (by omega) (by simp)
  simp only [Option.bind_some,Bool.not_true,cond,this,List.nil_append,if_true]
theorem dD (x:Int):(w4 x).length=4:=rfl
theorem dX (l m:List Int):ah (l++m)=ah l++ah m:=by simp [ah]
theorem fK (l:List Int):(ah l).length=l.length:=by simp [ah]
def pv (x:Int):List UInt8:=ah (wI 4 x)
theorem od {x:Int}(h:wb x=true):qz x=(pv x,0):=by simp [qz,h,pv]
theorem jH (x:Int):1≤(pv x).length∧(pv x).length≤5:=by unfold pv;rw [fK];exact oK 4 x
theorem pick {α:Type}{l:List α}{Q:α→Prop}(hl:∀e∈l,Q e){i:Int}(h0:0≤i)(h1:i<(l.length:Int)):∃e,l[i.toNat]?=some e∧Q e:=by
 have:i.toNat<l.length:=by omega
 exact ⟨_,List.getElem?_eq_getElem this,hl _ (List.getElem_mem this)⟩
def iL (t:List aM)(i:Nat):Int:=match t[i]? with|some n=>n.parent|none=>-1
def gq (t:List aM)(i:Nat):Int:=match t[i]? with|some n=>n.kind|none=>0
def w9 (t:List aM)(i:Nat):Bool:=match t[i]? with|some n=>n.null|none=>false
theorem qs {t:List aM}{i:Nat}(h:i<t.length):t[i].parent=iL t i:=by simp [iL,h]
theorem jG {t:List aM}{i:Nat}(h:i<t.length):t[i].kind=gq t i:=by simp [gq,h]
theorem tY {t:List aM}{i:Nat}(h:i<t.length):t[i].null=w9 t i:=by simp [w9,h]
def iT (k:Int):Bool:=k==3||k==4
def j5 (t:List aM)(a:Int)(i:Nat):List Int:=((List.range i).filter fun j=>decide (0<j)&&iL t j==a).map fun j=>((j:Nat):Int)
def iF (t:List aM)(a:Int):List Int:=j5 t a t.length
theorem oL (t:List aM)(a:Int)(i:Nat):j5 t a (i+1)=if 0<i∧iL t i=a then j5 t a i++[(i:Int)] else j5 t a i:=by
 unfold j5
 rw [List.range_succ,List.filter_append,List.map_append]
 by_cases h:0<i∧iL t i=a
 ·simp [h]
 ·rw [if_neg h]
  have:(decide (0<i)&&iL t i==a)=false:=by
   simp only [Bool.and_eq_false_iff,decide_eq_false_iff_not,beq_eq_false_iff_ne]
   by_cases h0:0<i
   ·exact .inr fun e=>h ⟨h0,e⟩
   ·exact .inl h0
  simp [this]
theorem kR (t:List aM)(a:Int):∀i,(j5 t a i).length≤i
 |0=>by simp [j5]
 |i+1=>by
  have:=kR t a i
  rw [oL]
  split<;>simp<;>omega
theorem eZ {i:Nat}(h:(i:Int)≤4611686018427387904):IntKind.i64.wrap ((i:Int)+1)=((i+1:Nat):Int):=by rw [ek _ (by omega)];push_cast;rfl
theorem j6 (t:List aM)(a:Int)(ht:t.length≤17592186044415)(k:Nat):∀(j i:Nat),i+j=t.length→∀n,j+1≤n→a7.l0 bK k n a t (t.length:Int) (i:Int) (j5 t a i)=some (iF t a)
 |0,i,hij,n,hn=>by
  obtain ⟨n,rfl⟩:∃m,n=m+1:=⟨n - 1,by omega⟩
  rw [a7.l0_eq]
  have h1:¬((i:Int)<(t.length:Int)):=by omega
  simp only [h1,decide_false,cond,iF]
  rw [show i=t.length by omega]
 |j+1,i,hij,n,hn=>by
  obtain ⟨n,rfl⟩:∃m,n=m+1:=⟨n - 1,by omega⟩
  rw [a7.l0_eq]
  have hlt:i<t.length:=by omega
  have h1:((i:Int)<(t.length:Int)):=by omega
  have ih:=j6 t a ht k j (i+1) (by omega) n (by omega)
  rw [oL] at ih
  have hl:=kR t a i
  have h2:((j5 t a i).length+[(i:Int)].length)*8≤140737488355328:=by simp;omega
  simp only [h1,decide_true,cond,cw hlt,Option.bind_some,eZ (show (i:Int)≤_ by omega),qs hlt]
  by_cases h3:(i:Int)>0
  ·have h3':0<i:=by omega
   by_cases h4:iL t i=a
   ·rw [if_pos ⟨h3',h4⟩] at ih
    have hb:(iL t i==a)=true:=by simpa using h4
    simp only [h3,decide_true,hb,h2]
    exact ih
   ·rw [if_neg (fun h=>h4 h.2)] at ih
    have hb:(iL t i==a)=false:=by simpa using h4
    simp only [h3,decide_true,hb]
    exact ih
  ·rw [if_neg (fun h=>h3 (by omega))] at ih
   simp only [h3,decide_false]
   exact ih
theorem jY {k:Nat}(t:List aM)(a:Int)(ht:t.length≤17592186044415)(hk:t.length+2≤k):a7.f bK k t a=some (iF t a):=by
 obtain ⟨k,rfl⟩:∃m,k=m+1:=⟨k - 1,by omega⟩
 rw [a7.f_eq]
 have:=j6 t a ht k t.length 0 (by omega) k (by omega)
 simpa [j5] using this
def fb (t:List aM)(i:Nat):Bool:=
 if i=0 then iL t 0==-1 else decide (0≤iL t i)&&decide (iL t i<(i:Int))&&iT (gq t (iL t i).toNat)
theorem jp {k:Nat}(hk:1≤k)(x:Int):dG.f bK k x=some (iT x):=by
 obtain ⟨k,rfl⟩:∃m,k=m+1:=⟨k - 1,by omega⟩
 rw [dG.f_eq]
 unfold iT
 cases h:(x==3)<;>simp
theorem mX {k:Nat}(hk:2≤k)(t:List aM)(i:Nat)(hi:i<t.length):ef.f bK k t (i:Int)=some (fb t i):=by
 obtain ⟨k,rfl⟩:∃m,k=m+1:=⟨k - 1,by omega⟩
 rw [ef.f_eq]
 unfold fb
 simp only [cw hi,Option.bind_some,qs hi,jp (show 1≤k by omega)]
 by_cases h0:i=0
 ·subst h0;simp
 ·have hb:((i:Int)==0)=false:=by simp;omega
  rw [if_neg h0]
  simp only [hb,cond]
  by_cases h1:0≤iL t i
  ·have h1':iL t i≥0:=h1
   by_cases h2:iL t i<(i:Int)
   ·have h3:(iL t i).toNat<t.length:=by omega
    have e:iL t i=(((iL t i).toNat:Nat):Int):=by omega
    have hr:rd t (iL t i)=some t[(iL t i).toNat]:=by
     have:=cw h3
     rw [←e] at this
     exact this
    simp only [h1',h1,h2,decide_true,hr,Option.bind_some,jG h3,Bool.true_and]
   ·simp [h1,h2]
  ·have h1':¬iL t i≥0:=h1
   simp [h1]
def mT (t:List aM):Nat→Int→List Int
 |0,_=>[]
 |f+1,a=>if 0≤a then a :: mT t f (iL t a.toNat) else []
def eG (t:List aM)(a:Int):List Int:=mT t (a+1).toNat a
def gm (t:List aM):Prop:=∀i,i<t.length→fb t i=true
theorem gm.up {t:List aM}(h:gm t){i:Nat}(hi:i<t.length):iL t i<(i:Int)∧-1≤iL t i:=by
 have:=h i hi
 unfold fb at this
 split at this
 ·rename_i h0
  subst h0
  have:iL t 0=-1:=by simpa using this
  omega
 ·simp only [Bool.and_eq_true,decide_eq_true_eq] at this
  omega
theorem pn {t:List aM}(h:gm t):∀(f g:Nat) (a:Int),a<(t.length:Int)→a<(f:Int)→a<(g:Int)→mT t f a=mT t g a
 |0,0,_,_,_,_=>rfl
 |0,g+1,a,_,h1,_=>by
  have:¬0≤a:=by omega
  simp [mT,this]
 |f+1,0,a,_,_,h1=>by
  have:¬0≤a:=by omega
  simp [mT,this]
 |f+1,g+1,a,hl,h1,h2=>by
  simp only [mT]
  split
  ·rename_i h0
   have hup:=h.up (i:=a.toNat) (by omega)
   rw [pn h f g _ (by omega) (by omega) (by omega)]
  ·rfl
theorem sd {t:List aM}{a:Int}(h:a<0):eG t a=[]:=by
 unfold eG
 rw [show (a+1).toNat=0 by omega];rfl
theorem uf {t:List aM}(h:gm t){i:Nat}(hi:i<t.length):eG t (i:Int)=(i:Int) :: eG t (iL t i):=by
 have hup:=h.up hi
 unfold eG
 rw [show ((i:Int)+1).toNat=i+1 by omega]
 simp only [mT]
 rw [if_pos (by omega),Int.toNat_natCast,pn h i ((iL t i+1).toNat) (iL t i) (by omega) (by omega) (by omega)]
theorem rT {t:List aM}(h:gm t):∀i:Nat,i<t.length→1≤(eG t (i:Int)).length∧(eG t (i:Int)).length≤i+1:=by
 intro i
 induction i using Nat.strongRecOn with
 |_ i ih=>
  intro hi
  rw [uf h hi]
  have hup:=h.up hi
  by_cases hp:iL t i<0
  ·rw [sd hp];simp
  ·have e:iL t i=(((iL t i).toNat:Nat):Int):=by omega
   rw [e]
   have:=ih (iL t i).toNat (by omega) (by omega)
   simp only [List.length_cons];omega
theorem kT {t:List aM}(h:gm t)(ht:t.length≤1000)(k:Nat):∀(f:Nat) (a:Int) (out:List Int) (n:Nat),a<(t.length:Int)→a<(f:Int)→f+1≤n→out.length+f≤10000→bj.l0 bK k n t a out=some (out++mT t f a)
 |0,a,out,n,hl,hf,hn,ho=>by
  obtain ⟨n,rfl⟩:∃m,n=m+1:=⟨n - 1,by omega⟩
  rw [bj.l0_eq]
  have h1:¬a≥0:=by omega
  simp [h1,mT]
 |f+1,a,out,n,hl,hf,hn,ho=>by
  obtain ⟨n,rfl⟩:∃m,n=m+1:=⟨n - 1,by omega⟩
  rw [bj.l0_eq]
  by_cases h0:0≤a
  ·have h1:a≥0:=h0
   have hlt:a.toNat<t.length:=by omega
   have e:a=((a.toNat:Nat):Int):=by omega
   have hr:rd t a=some t[a.toNat]:=by
    have:=cw hlt
    rw [←e] at this
    exact this
   have h2:(out.length+[a].length)*8≤140737488355328:=by simp;omega
   have hup:=h.up hlt
   simp only [h1,h2,decide_true,cond,hr,Option.bind_some,qs hlt]
   rw [kT h ht k f _ _ n (by omega) (by omega) (by omega) (by simp;omega)]
   simp [mT,h0]
  ·have h1:¬a≥0:=h0
   simp [h1,mT,h0]
theorem ll {t:List aM}(h:gm t)(ht:t.length≤1000){k:Nat}(i:Nat)(hi:i<t.length)(hk:t.length+3≤k):bj.f bK k t (i:Int)=some (eG t (i:Int)):=by
 obtain ⟨k,rfl⟩:∃m,k=m+1:=⟨k - 1,by omega⟩
 rw [bj.f_eq,kT h ht k (i+1) _ [] k (by omega) (by omega) (by omega) (by simp;omega)]
 unfold eG
 rw [show ((i:Int)+1).toNat=i+1 by omega]
 rfl
theorem xd (n m:Nat):((n:Int)==(m:Int))=(n==m):=by
 by_cases h:n=m
 ·simp [h]
 ·have:¬((n:Int)=(m:Int)):=by omega
  exact (beq_eq_false_iff_ne.2 this).trans (beq_eq_false_iff_ne.2 h).symm
def pG (t:List aM)(i:Nat):Bool:=decide (0≤gq t i)&&decide (gq t i≤4)
def rK (t:List aM)(i:Nat):Bool:=(!(gq t i==3)||(iF t (i:Int)).length==1)&&(!(gq t i==4)||!((iF t (i:Int)).length==0))
def li (t:List aM):Bool:=
 decide (1≤t.length)&&decide (t.length≤8)&&(List.range t.length).all (fun i=>pG t i&&fb t i)&&(List.range t.length).all (fun i=>rK t i&&decide ((eG t (i:Int)).length≤5))
theorem rD (p:Nat→Bool)(N i:Nat)(hi:i<N):((List.range' i (N - i)).all p)=(p i&&(List.range' (i+1) (N - (i+1))).all p):=by
 rw [show N - i=(N - (i+1))+1 by omega,List.range'_succ,List.all_cons]
theorem kP (t:List aM)(h:gm t)(ht:t.length≤8)(k:Nat)(hk:20≤k):∀(j i:Nat),i+j=t.length→∀n,j+1≤n→
  aI.l2 bK k n t (t.length:Int) (i:Int)=some ((List.range' i (t.length - i)).all fun i=>rK t i&&decide ((eG t (i:Int)).length≤5))
 |0,i,hij,n,hn=>by
  obtain ⟨n,rfl⟩:∃m,n=m+1:=⟨n - 1,by omega⟩
  rw [aI.l2_eq]
  have h1:¬((i:Int)<(t.length:Int)):=by omega
  simp only [h1,decide_false,cond]
  rw [show t.length - i=0 by omega];rfl
 |j+1,i,hij,n,hn=>by
  obtain ⟨n,rfl⟩:∃m,n=m+1:=⟨n - 1,by omega⟩
  rw [aI.l2_eq]
  have hlt:i<t.length:=by omega
  have h1:((i:Int)<(t.length:Int)):=by omega
  have ih:=kP t h ht k hk j (i+1) (by omega) n (by omega)
  rw [rD _ _ _ hlt]
  simp only [h1,decide_true,cond,cw hlt,Option.bind_some,jG hlt,jY t _ (show t.length≤17592186044415 by omega) (show t.length+2≤k by omega),ll h (show t.length≤1000 by omega) i hlt (show t.length+3≤k by omega),eZ (show (i:Int)≤_ by omega),ih]
  unfold rK
  have e1:(((iF t (i:Int)).length:Int) != 1)=!((iF t (i:Int)).length==1):=by
   simp only [bne]
   congr 1
   exact xd _ 1
  have e2:(((iF t (i:Int)).length:Int)==0)=((iF t (i:Int)).length==0):=xd _ 0
  have e3:decide (((eG t (i:Int)).length:Int)>5)=!decide ((eG t (i:Int)).length≤5):=by
   by_cases hh:(eG t (i:Int)).length≤5
   ·have:¬(((eG t (i:Int)).length:Int)>5):=by omega
    simp [hh,this]
   ·have:(((eG t (i:Int)).length:Int)>5):=by omega
    simp [hh,this]
  simp only [e1,e2,e3]
  cases (gq t i==3)<;>cases (gq t i==4)<;>cases ((iF t (i:Int)).length==1)<;>cases ((iF t (i:Int)).length==0)<;>cases (decide ((eG t (i:Int)).length≤5))<;>simp
theorem kL (t:List aM)(ht:t.length≤8)(k:Nat)(hk:20≤k):∀(j i:Nat),i+j=t.length→(∀q,q<i→fb t q=true)→∀n,j+1≤n→
  aI.l0 bK k n t (t.length:Int) (i:Int)=some ((List.range' i (t.length - i)).all (fun i=>pG t i&&fb t i)&&(List.range t.length).all (fun i=>rK t i&&decide ((eG t (i:Int)).length≤5)))
 |0,i,hij,hst,n,hn=>by
  obtain ⟨n,rfl⟩:∃m,n=m+1:=⟨n - 1,by omega⟩
  rw [aI.l0_eq]
  have h1:¬((i:Int)<(t.length:Int)):=by omega
  have:=kP t (fun q hq=>hst q (by omega)) ht k hk t.length 0 (by omega) k (by omega)
  simp only [h1,decide_false,cond]
  rw [show t.length - i=0 by omega]
  rw [Nat.sub_zero] at this
  rw [List.range_eq_range']
  simpa using this
 |j+1,i,hij,hst,n,hn=>by
  obtain ⟨n,rfl⟩:∃m,n=m+1:=⟨n - 1,by omega⟩
  rw [aI.l0_eq]
  have hlt:i<t.length:=by omega
  have h1:((i:Int)<(t.length:Int)):=by omega
  rw [rD _ _ _ hlt]
  simp only [h1,decide_true,cond,cw hlt,Option.bind_some,jG hlt,mX (show 2≤k by omega) t i hlt,eZ (show (i:Int)≤_ by omega)]
  unfold pG
  by_cases h2:0≤gq t i
  ·have h2':¬(gq t i<0):=by omega
   by_cases h3:gq t i≤4
   ·have h3':¬(gq t i>4):=by omega
    cases hs:fb t i with
    |false=>simp [h2,h2',h3,h3']
    |true=>
     have ih:=kL t ht k hk j (i+1) (by omega) (fun q hq=>by
      by_cases e:q=i
      ·subst e;exact hs
      ·exact hst q (by omega)) n (by omega)
     unfold pG at ih
     simp only [h2,h2',h3,h3',decide_true,decide_false,Bool.not_false,Bool.not_true,Bool.true_and,ih]
   ·have h3':(gq t i>4):=by omega
    simp [h2,h2',h3,h3']
  ·have h2':(gq t i<0):=by omega
   simp [h2,h2']
theorem pP {k:Nat}(hk:21≤k)(t:List aM):aI.f bK k t=some (li t):=by
 obtain ⟨k,rfl⟩:∃m,k=m+1:=⟨k - 1,by omega⟩
 rw [aI.f_eq]
 unfold li
 by_cases h0:t.length=0
 ·simp [h0]
 ·have b0:((t.length:Int)==0)=false:=beq_eq_false_iff_ne.2 (by omega)
  by_cases h8:t.length≤8
  ·have b8:¬((t.length:Int)>8):=by omega
   have h1:1≤t.length:=by omega
   have:=kL t h8 k (by omega) t.length 0 (by omega) (fun q hq=>absurd hq (Nat.not_lt_zero q)) k (by omega)
   rw [Nat.sub_zero,←List.range_eq_range'] at this
   simp only [b0,Bool.not_false,cond,b8,decide_false,h1,h8,decide_true,Bool.true_and]
   exact this
  ·have b8:((t.length:Int)>8):=by omega
   simp [b0,b8,h8]
theorem lb (t:List aM):li t=true↔(1≤t.length∧t.length≤8)∧(∀i,i<t.length→pG t i=true∧fb t i=true)∧∀i,i<t.length→rK t i=true∧(eG t (i:Int)).length≤5:=by
 unfold li
 simp only [Bool.and_eq_true,decide_eq_true_eq,List.all_eq_true,List.mem_range]
 constructor
 ·rintro ⟨⟨⟨h1,h2⟩,h3⟩,h4⟩;exact ⟨⟨h1,h2⟩,h3,h4⟩
 ·rintro ⟨⟨h1,h2⟩,h3,h4⟩;exact ⟨⟨⟨h1,h2⟩,h3⟩,h4⟩
theorem sr {t:List aM}(h:li t=true):gm t:=fun i hi=>(((lb t).1 h).2.1 i hi).2
theorem mI {t:List aM}(h:li t=true):1≤t.length∧t.length≤8:=((lb t).1 h).1
theorem uX {α:Type}{b:Bool}(h:b=true)(x y:α):(bif b then x else y)=x:=by subst h;rfl
theorem yc (a1:Int):∃d:Int,IntKind.i64.wrap (1+(aN .and .i64 a1 1023))=d∧1≤d∧d≤1024:=by
 have h:=wP a1 10 (by omega)
 rw [show (2:Int) ^ 10 - 1=1023 by decide,show (2:Int) ^ 10=1024 by decide] at h
 rw [h,ek _ (by omega)]
 exact ⟨_,rfl,by omega,by omega⟩
def em (t:List aM)(a:Int):Bool:=li t&&(decide (0≤a)&&decide (a<(t.length:Int)))
theorem eK {k:Nat}(hk:30≤k)(t:List aM)(a:Int):c8.f bK k t a=some (em t a):=by
 obtain ⟨k,rfl⟩:∃m,k=m+1:=⟨k - 1,by omega⟩
 rw [c8.f_eq,pP (by omega)]
 unfold em
 cases hm:li t with
 |false=>simp
 |true=>
  by_cases h0:0≤a
  ·have h0':a≥0:=h0
   simp [h0]
  ·have h0':¬a≥0:=h0
   simp [h0]
theorem fe {t:List aM}{a:Int}(h:em t a=true):li t=true∧∃i:Nat,i<t.length∧a=(i:Int):=by
 unfold em at h
 simp only [Bool.and_eq_true,decide_eq_true_eq] at h
 exact ⟨h.1,a.toNat,by omega,by omega⟩
theorem xi {t:List aM}(h:li t=true){i:Nat}(hi:i<t.length):em t (i:Int)=true:=by
 unfold em
 simp [h,hi]
def vC (t:List aM)(a:Int):List Int×Int:=if em t a then (iF t a,0) else ([],500)
theorem o8 {k:Nat}(hk:40≤k)(t:List aM)(a:Int):fw.f bK k t a=some (vC t a):=by
 obtain ⟨k,rfl⟩:∃m,k=m+1:=⟨k - 1,by omega⟩
 rw [fw.f_eq,eK (by omega)]
 unfold vC
 cases hn:em t a with
 |false=>simp
 |true=>
  have hl:=mI (fe hn).1
  simp [jY t a (show t.length≤17592186044415 by omega) (show t.length+2≤k by omega)]
def b1 (b:Bool):Int:=if b then 1 else 0
theorem ji (b:Bool):0≤b1 b∧b1 b≤1:=by cases b<;>decide
def nf (t:List aM):List Int→Int
 |[]=>0
 |a :: ws=>nf t ws+b1 (gq t a.toNat==3)
def nB (t:List aM):List Int→Int
 |[]=>0
 |a :: ws=>nB t ws+b1 (gq t a.toNat==3)+b1 (w9 t a.toNat)
theorem np (t:List aM):∀ws,0≤nf t ws∧nf t ws≤(ws.length:Int)
 |[]=>by simp [nf]
 |a :: ws=>by
  have:=np t ws
  have:=ji (gq t a.toNat==3)
  simp only [nf,List.length_cons];omega
theorem oP (t:List aM):∀ws,0≤nB t ws∧nB t ws≤2*(ws.length:Int)
 |[]=>by simp [nB]
 |a :: ws=>by
  have:=oP t ws
  have:=ji (gq t a.toNat==3)
  have:=ji (w9 t a.toNat)
  simp only [nB,List.length_cons];omega
def ez (t:List aM)(a:Int):Int×Int×Int:=if em t a then (nf t (eG t a),nB t (eG t a),0) else (0,0,500)
theorem xy {t:List aM}(h:gm t):∀i:Nat,i<t.length→∀x∈eG t (i:Int),∃j:Nat,j<t.length∧x=(j:Int):=by
 intro i
 induction i using Nat.strongRecOn with
 |_ i ih=>
  intro hi x hx
  rw [uf h hi] at hx
  rcases List.mem_cons.1 hx with rfl|hx
  ·exact ⟨i,hi,rfl⟩
  ·have hup:=h.up hi
   by_cases hp:iL t i<0
   ·rw [sd hp] at hx;exact absurd hx (by simp)
   ·have e:iL t i=(((iL t i).toNat:Nat):Int):=by omega
    rw [e] at hx
    exact ih (iL t i).toNat (by omega) (by omega) x hx
theorem iC (t:List aM)(k:Nat):∀(q p:List Int),(p++q).length≤1000→(∀x∈q,∃j:Nat,j<t.length∧x=(j:Int))→∀(r d:Int),0≤r→0≤d→r+q.length≤10000→d+2*q.length≤10000→∀n,q.length+1≤n→
  aE.l0 bK k n r d ((p++q).length:Int) (p.length:Int) t (p++q)=some (r+nf t q,d+nB t q,0)
 |[],p,hl,hq,r,d,hr,hd,hr2,hd2,n,hn=>by
  obtain ⟨n,rfl⟩:∃m,n=m+1:=⟨n - 1,by omega⟩
  rw [aE.l0_eq]
  have h1:¬((p.length:Int)<((p++([]:List Int)).length:Int)):=by simp
  simp only [h1,decide_false,cond,nf,nB,Int.add_zero]
 |a :: q,p,hl,hq,r,d,hr,hd,hr2,hd2,n,hn=>by
  obtain ⟨n,rfl⟩:∃m,n=m+1:=⟨n - 1,by omega⟩
  rw [aE.l0_eq]
  obtain ⟨j,hj,rfl⟩:=hq a List.mem_cons_self
  have hlen:(p++(j:Int) :: q).length=p.length+(q.length+1):=by simp
  rw [List.length_cons] at hr2 hd2
  have h1:((p.length:Int)<((p++(j:Int) :: q).length:Int)):=by rw [hlen];omega
  have h0:(0:Int)≤(p.length:Int):=by omega
  have hg:(p++(j:Int) :: q)[((p.length:Nat):Int).toNat]?=some (j:Int):=by simp
  have hstep:∀r' d':Int,r'=r+b1 (gq t j==3)→d'=d+b1 (gq t j==3)+b1 (w9 t j)→
    aE.l0 bK k n r' d' ((p++(j:Int) :: q).length:Int) ((p.length+1:Nat):Int) t (p++(j:Int) :: q)=some (r+nf t ((j:Int) :: q),d+nB t ((j:Int) :: q),0):=by
   intro r' d' h5 h6
   have hb1:=ji (gq t j==3)
   have hb2:=ji (w9 t j)
   have ih:=iC t k q (p++[(j:Int)]) (by simpa using hl) (fun x hx=>hq x (List.mem_cons_of_mem _ hx)) r' d' (by omega) (by omega) (by omega) (by omega) n (by simpa using hn)
   have e1:p++[(j:Int)]++q=p++(j:Int) :: q:=by simp
   have e2:((p++[(j:Int)]).length:Int)=((p.length+1:Nat):Int):=by simp
   rw [e1,e2] at ih
   rw [ih]
   simp only [nf,nB,Int.toNat_natCast,h5,h6]
   congr 1
   refine Prod.ext ?_ (Prod.ext ?_ rfl)
   ·simp only;omega
   ·simp only;omega
  simp only [h1,h0,decide_true,Bool.and_self,cond,hg,Option.bind_some,cw hj,jG hj,tY hj,eZ (show (p.length:Int)≤_ by omega),ek (r+1) (by omega),ek (d+1) (by omega),ek (d+1+1) (by omega)]
  have hs:=hstep
  cases h3:(gq t j==3)<;>cases h4:w9 t j<;>rw [h3,h4] at hs<;>exact hs _ _ (by simp [b1]) (by simp [b1])
theorem iy {k:Nat}(hk:50≤k)(t:List aM)(a:Int):aE.f bK k t a=some (ez t a):=by
 obtain ⟨k,rfl⟩:∃m,k=m+1:=⟨k - 1,by omega⟩
 rw [aE.f_eq,eK (by omega)]
 unfold ez
 cases hn:em t a with
 |false=>simp
 |true=>
  obtain ⟨hm,i,hi,rfl⟩:=fe hn
  have hl:=mI hm
  have hst:=sr hm
  have hw:=rT hst i hi
  have h:=iC t k (eG t (i:Int)) [] (by simp;omega) (xy hst i hi) 0 0 (by omega) (by omega) (by omega) (by omega) k (by omega)
  simp only [Option.bind_some,Bool.not_true,cond,if_true,ll hst (show t.length≤1000 by omega) i hi (show t.length+3≤k by omega)]
  simpa using h
theorem cT {α:Type}(x y:α):(bif true then x else y)=x:=uX rfl x y
theorem C9 {α:Type}{b:Bool}(h:b=false)(x y:α):(bif b then x else y)=y:=by subst h;rfl
theorem cF {α:Type}(x y:α):(bif false then x else y)=y:=C9 rfl x y
theorem C5 {α β:Type}{o:Option α}{a:α}(h:o=some a)(f:α→Option β):o.bind f=f a:=by subst h;rfl
theorem bS {α β:Type}(a:α)(f:α→Option β):(some a).bind f=f a:=C5 rfl f
theorem yx {t:List aM}{a:Int}(h:em t a=false):ez t a=(0,0,500):=by unfold ez;rw [h];rfl
theorem xM {t:List aM}(h:li t=true){i:Nat}(hi:i<t.length):ez t (i:Int)=(nf t (eG t (i:Int)),nB t (eG t (i:Int)),0):=by unfold ez;rw [xi h hi];rfl
end Go.Proofs.YtjkokaockhecnaaGreatDoorP
