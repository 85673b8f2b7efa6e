/- What the functions below the laws answer, in plain lists and numbers; no condition but the sizes that a machine has. -/
import Derived.Test.YtjkokaockhecnaaGreatDoorEqs0
import Derived.Test.YtjkokaockhecnaaGreatDoorEqs1
import Derived.Test.YtjkokaockhecnaaGreatDoorEqs2
import Derived.Laws.BitsLemmas
import Derived.KernelRfl
namespace Go.Proofs.YtjkokaockhecnaaGreatDoorP
open Go Go.Proofs.YtjkokaockhecnaaGreatDoorA
theorem bb (n:Int)(h:-9223372036854775808≤n∧n≤9223372036854775807):IntKind.i64.wrap n=n:=by rw [IntKind.wrap_i64];omega
theorem qR (n:Int)(h:0≤n∧n≤18446744073709551615):IntKind.u64.wrap n=n:=by
 simp [IntKind.wrap,IntKind.bits,IntKind.signed];omega
theorem yc (n:Int):IntKind.u8.wrap n=n % 256:=IntKind.wrap_u8 n
theorem sy (x y:Nat)(m:Nat)(h:x<2 ^ m):x ||| (y*2 ^ m)=x+y*2 ^ m:=by
 have:=Nat.two_pow_add_eq_or_of_lt (i:=m) (b:=x) h y
 rw [Nat.mul_comm y,Nat.or_comm,←this,Nat.add_comm]
theorem toNat_ofInt (n:Nat)(x:Int):(BitVec.ofInt n x).toNat=(x % (2 ^ n:Int)).toNat:=by
 rw [BitVec.toNat_ofInt];simp
theorem kR (k:IntKind)(x y:Int):aH .and k x y=k.wrap ((((x % (2 ^ k.bits:Int)).toNat &&& (y % (2 ^ k.bits:Int)).toNat:Nat)):Int):=by
 unfold aH
 simp only [BitVec.toNat_and,toNat_ofInt]
theorem mC (k:IntKind)(x y:Int):aH .or k x y=k.wrap ((((x % (2 ^ k.bits:Int)).toNat ||| (y % (2 ^ k.bits:Int)).toNat:Nat)):Int):=by
 unfold aH
 simp only [BitVec.toNat_or,toNat_ofInt]
theorem rA (x:Int)(m:Nat)(hm:m≤62):aH .and .i64 x (2 ^ m - 1)=x % 2 ^ m:=by
 rw [kR]
 have hp:(0:Int)<2 ^ m:=Int.pow_pos (by omega)
 have hle:(2 ^ m:Int)≤2 ^ 62:=by exact_mod_cast (Nat.pow_le_pow_right (n:=2) (by omega) hm)
 have e1:((2 ^ m - 1:Int) % (2 ^ IntKind.i64.bits:Int))=((2 ^ m - 1:Nat):Int):=by
  have:((2 ^ m - 1:Nat):Int)=2 ^ m - 1:=by
   have h1:1≤2 ^ m:=Nat.one_le_two_pow
   push_cast [h1];simp
  rw [this,Int.emod_eq_of_lt (by omega)]
  show (2 ^ m - 1:Int)<2 ^ 64
  have:(2 ^ 62:Int)<2 ^ 64:=by decide
  omega
 rw [e1,Int.toNat_natCast,Nat.and_two_pow_sub_one_eq_mod]
 have hx0:0≤x % (2 ^ IntKind.i64.bits:Int):=Int.emod_nonneg _ (by decide)
 have e2:(((x % (2 ^ IntKind.i64.bits:Int)).toNat % 2 ^ m:Nat):Int)=x % 2 ^ m:=by
  rw [Int.natCast_emod,Int.toNat_of_nonneg hx0]
  push_cast
  have hd:(2 ^ m:Int) ∣ (2 ^ IntKind.i64.bits:Int):=by
   refine ⟨2 ^ (64 - m),?_⟩
   rw [←Int.pow_add]
   show (2:Int) ^ 64=_
   congr 1;omega
  rw [Int.emod_emod_of_dvd _ hd]
 rw [e2]
 have h1:0≤x % 2 ^ m:=Int.emod_nonneg _ (by omega)
 have h2:x % 2 ^ m<2 ^ m:=Int.emod_lt_of_pos _ hp
 have h3:(2 ^ 62:Int)≤9223372036854775807:=by decide
 exact bb _ ⟨by omega,by omega⟩
theorem o9 (x y:Int)(m:Nat)(hx:0≤x)(hxm:x<2 ^ m)(hy:0≤y)(ht:x+y*2 ^ m≤9223372036854775807):aH .or .i64 x (y*2 ^ m)=x+y*2 ^ m:=by
 rw [mC]
 have hp:(0:Int)<2 ^ m:=Int.pow_pos (by omega)
 have hym:0≤y*2 ^ m:=Int.mul_nonneg hy (by omega)
 have e1:x % (2 ^ IntKind.i64.bits:Int)=x:=Int.emod_eq_of_lt hx (Int.lt_of_le_of_lt (b:=9223372036854775807) (by omega) (by decide))
 have e2:(y*2 ^ m) % (2 ^ IntKind.i64.bits:Int)=y*2 ^ m:=Int.emod_eq_of_lt hym (Int.lt_of_le_of_lt (b:=9223372036854775807) (by omega) (by decide))
 rw [e1,e2]
 have e3:(y*2 ^ m).toNat=y.toNat*2 ^ m:=by
  rw [Int.toNat_mul hy (by omega)]
  congr 1
 have hxn:x.toNat<2 ^ m:=by
  have:((x.toNat:Nat):Int)<((2 ^ m:Nat):Int):=by rw [Int.toNat_of_nonneg hx];push_cast;exact hxm
  exact Int.ofNat_lt.1 this
 rw [e3,sy _ _ _ hxn]
 have:((x.toNat+y.toNat*2 ^ m:Nat):Int)=x+y*2 ^ m:=by
  push_cast
  rw [Int.toNat_of_nonneg hx,Int.toNat_of_nonneg hy]
 rw [this]
 exact bb _ ⟨by omega,ht⟩
theorem CJ (x y:Int)(m:Nat)(hx:0≤x)(hxm:x<2 ^ m)(hy:0≤y)(ht:x+y*2 ^ m≤18446744073709551615):aH .or .u64 x (y*2 ^ m)=x+y*2 ^ m:=by
 rw [mC]
 have hp:(0:Int)<2 ^ m:=Int.pow_pos (by omega)
 have hym:0≤y*2 ^ m:=Int.mul_nonneg hy (by omega)
 have e1:x % (2 ^ IntKind.u64.bits:Int)=x:=Int.emod_eq_of_lt hx (Int.lt_of_le_of_lt (b:=18446744073709551615) (by omega) (by decide))
 have e2:(y*2 ^ m) % (2 ^ IntKind.u64.bits:Int)=y*2 ^ m:=Int.emod_eq_of_lt hym (Int.lt_of_le_of_lt (b:=18446744073709551615) (by omega) (by decide))
 rw [e1,e2]
 have e3:(y*2 ^ m).toNat=y.toNat*2 ^ m:=by
  rw [Int.toNat_mul hy (by omega)]
  congr 1
 have hxn:x.toNat<2 ^ m:=by
  have:((x.toNat:Nat):Int)<((2 ^ m:Nat):Int):=by rw [Int.toNat_of_nonneg hx];push_cast;exact hxm
  exact Int.ofNat_lt.1 this
 rw [e3,sy _ _ _ hxn]
 have:((x.toNat+y.toNat*2 ^ m:Nat):Int)=x+y*2 ^ m:=by
  push_cast
  rw [Int.toNat_of_nonneg hx,Int.toNat_of_nonneg hy]
 rw [this]
 exact qR _ ⟨by omega,ht⟩
def may (x:Int):Bool:=decide (0≤x)&&decide (x≤2147483647)
theorem s8 {k:Nat}(hk:1≤k)(x:Int):jx.f aG k x=some (may x):=by
 obtain ⟨k,rfl⟩:∃m,k=m+1:=⟨k - 1,by omega⟩
 rw [jx.f_eq]
 unfold may
 by_cases h:0≤x
 ·have:x≥0:=h
  simp [h]
 ·have:¬x≥0:=h
  simp [h]
theorem HW {k:Nat}(hk:2≤k)(x:Int):fq.f aG k x=some (may x):=by
 obtain ⟨k,rfl⟩:∃m,k=m+2:=⟨k - 2,by omega⟩
 rw [fq.f_eq,bj.f_eq]
 unfold may
 by_cases h:0≤x
 ·have:x≥0:=h
  simp [h]
 ·have:¬x≥0:=h
  simp [h]
def w4 (x:Int):List UInt8:=ae [IntKind.u8.wrap (Int.fdiv x 1),IntKind.u8.wrap (Int.fdiv x (2 ^ 8)),IntKind.u8.wrap (Int.fdiv x (2 ^ 16)),IntKind.u8.wrap (Int.fdiv x (2 ^ 24))]
def w8 (x:Int):List UInt8:=ae [IntKind.u8.wrap (Int.fdiv x 1),IntKind.u8.wrap (Int.fdiv x (2 ^ 8)),IntKind.u8.wrap (Int.fdiv x (2 ^ 16)),IntKind.u8.wrap (Int.fdiv x (2 ^ 24)),
 IntKind.u8.wrap (Int.fdiv x (2 ^ 32)),IntKind.u8.wrap (Int.fdiv x (2 ^ 40)),IntKind.u8.wrap (Int.fdiv x (2 ^ 48)),IntKind.u8.wrap (Int.fdiv x (2 ^ 56))]
theorem Ir (m:Nat)(x:Int):dD.f aG (m+12) x 4=some (w4 x):=by kernel_rfl
theorem IC (m:Nat)(x:Int):dD.f aG (m+12) x 8=some (w8 x):=by kernel_rfl
theorem JY (m:Nat)(x:Int):aT.f aG (m+12) x 4=some (w4 x):=by kernel_rfl
theorem J0 (m:Nat)(x:Int):aT.f aG (m+12) x 8=some (w8 x):=by kernel_rfl
def put (x w:Int):List UInt8×Int:=if w=8 then (w8 x,0) else if w=4∧may x=true then (w4 x,0) else ([],300)
def val:List UInt8→Nat
 |[]=>0
 |b :: l=>b.toNat+256*val l
theorem Bg:∀l:List UInt8,val l<2 ^ (8*l.length)
 |[]=>by simp [val]
 |b :: l=>by
  have:=Bg l
  have hb:b.toNat<256:=b.toNat_lt
  simp only [val,List.length_cons]
  rw [show 8*(l.length+1)=8+8*l.length by omega,Nat.pow_add]
  have:256*(val l+1)≤256*2 ^ (8*l.length):=Nat.mul_le_mul_left _ this
  omega
theorem rW:∀l m:List UInt8,val (l++m)=val l+2 ^ (8*l.length)*val m
 |[],m=>by simp [val]
 |b :: l,m=>by
  simp only [List.cons_append,val,rW l m,List.length_cons]
  rw [show 8*(l.length+1)=8+8*l.length by omega,Nat.pow_add,Nat.mul_add,←Nat.mul_assoc,Nat.add_assoc]
def ja (s:List UInt8):Int:=IntKind.i64.wrap (val s)
theorem aM {α:Type}{l:List α}{i:Nat}(h:i<l.length):rd l (i:Int)=some l[i]:=by
 unfold rd
 have:decide ((0:Int)≤(i:Int))=true:=by simp
 rw [this]
 simp only [cond,Int.toNat_natCast]
 exact List.getElem?_eq_getElem h
theorem ul (s:List UInt8)(hs:s.length≤8):∀(j i:Nat),i+j=s.length→∀k n,j+1≤n→eH.l0 aG k n s (val (s.take i):Int) (s.length:Int) (i:Int)=some (ja s)
 |0,i,hij,k,n,hn=>by
  obtain ⟨n,rfl⟩:∃m,n=m+1:=⟨n - 1,by omega⟩
  rw [eH.l0_eq]
  have:¬((i:Int)<(s.length:Int)):=by omega
  simp only [this,decide_false,cond,ja]
  rw [List.take_of_length_le (by omega)]
 |j+1,i,hij,k,n,hn=>by
  obtain ⟨n,rfl⟩:∃m,n=m+1:=⟨n - 1,by omega⟩
  rw [eH.l0_eq]
  have hlt:i<s.length:=by omega
  have h1:((i:Int)<(s.length:Int)):=by omega
  have e8:IntKind.i64.wrap (8*(i:Int))=8*(i:Int):=bb _ (by omega)
  have e9:IntKind.i64.wrap ((i:Int)+1)=((i+1:Nat):Int):=by rw [bb _ (by omega)];rfl
  have h2:¬(8*(i:Int)<0):=by omega
  have hb:(s[i].toNat:Int)≤255:=by have:s[i].toNat<256:=s[i].toNat_lt;omega
  have hv:=Bg (s.take i)
  rw [List.length_take,Nat.min_eq_left (by omega)] at hv
  have hpow:(2:Nat) ^ (8*i)≤2 ^ 56:=Nat.pow_le_pow_right (by omega) (by omega)
  have hbp:s[i].toNat*2 ^ (8*i)≤255*2 ^ (8*i):=Nat.mul_le_mul_right _ (by omega)
  have e10:(8*(i:Int)).toNat=8*i:=by omega
  have e11:min (8*i) IntKind.u64.bits=8*i:=Nat.min_eq_left (by show 8*i≤64;omega)
  have e12:IntKind.u64.wrap (s[i].toNat:Int)=(s[i].toNat:Int):=qR _ (by omega)
  have c1:((2:Int) ^ (8*i))=((2 ^ (8*i):Nat):Int):=by push_cast;rfl
  have hmulI:(s[i].toNat:Int)*2 ^ (8*i)=((s[i].toNat*2 ^ (8*i):Nat):Int):=by rw [c1];push_cast;rfl
  have p56:(2:Nat) ^ 56=72057594037927936:=by decide
  have e13:IntKind.u64.wrap ((s[i].toNat:Int)*2 ^ (8*i))=(s[i].toNat:Int)*2 ^ (8*i):=by
   rw [hmulI];exact qR _ (by omega)
  simp only [h1,decide_true,cond,aM hlt,Option.bind_some,e8,h2,decide_false,e9,e10,e11,e12,e13]
  rw [CJ _ _ _ (by omega) (by rw [c1];exact Int.ofNat_lt.2 hv) (by omega) (by rw [hmulI];omega)]
  have e14:(val (s.take i):Int)+(s[i].toNat:Int)*2 ^ (8*i)=(val (s.take (i+1)):Int):=by
   rw [List.take_succ_eq_append_getElem hlt,rW,List.length_take,Nat.min_eq_left (by omega),hmulI]
   simp only [val]
   rw [Nat.mul_zero,Nat.add_zero,Nat.mul_comm]
   push_cast;rfl
  rw [e14]
  exact ul s hs j (i+1) (by omega) k n (by omega)
theorem g9 {k:Nat}(hk:11≤k)(s:List UInt8)(hs:s.length≤8):eH.f aG k s=some (ja s):=by
 obtain ⟨k,rfl⟩:∃m,k=m+1:=⟨k - 1,by omega⟩
 rw [eH.f_eq]
 have:=ul s hs s.length 0 (by omega) k k (by omega)
 simpa [val] using this
def get (s:List UInt8)(at_ w:Int):Int×Int:=
 if (w=4∨w=8)∧0≤at_∧at_+w≤(s.length:Int) then
  if w=4∧may (ja ((s.take (at_+w).toNat).drop at_.toNat))=false then (0,300) else (ja ((s.take (at_+w).toNat).drop at_.toNat),0)
 else (0,300)
theorem vq (s:List UInt8)(a w:Int)(h0:0≤a)(hw:0≤w)(hl:a+w≤(s.length:Int)):((s.take (a+w).toNat).drop a.toNat).length=w.toNat:=by
 simp only [List.length_drop,List.length_take];omega
theorem xe {k:Nat}(hk:13≤k)(s:List UInt8)(hs:(s.length:Int)≤9223372036854775000)(a w:Int)(ha:-9223372036854775808≤a∧a≤9223372036854775807):nW.f aG k s a w=some (get s a w):=by
 obtain ⟨k,rfl⟩:∃m,k=m+1:=⟨k - 1,by omega⟩
 rw [nW.f_eq]
 have body:∀v:Int,v=4∨v=8→
   (bif (!(decide (a<0))) then
    bif (!(decide (a>(s.length:Int)))) then
     bif decide ((IntKind.i64.wrap ((s.length:Int) - a))<v) then
     some ((0:Int),(300:Int))
     else
     bif decide (0≤IntKind.i64.wrap (a+v))&&decide (IntKind.i64.wrap (a+v)≤((s.length:Nat):Int)) then
      bif decide (0≤a)&&decide (a≤(((IntKind.i64.wrap (a+v)).toNat:Nat):Int)) then
      (eH.f aG k (List.drop (a.toNat) (List.take ((IntKind.i64.wrap (a+v)).toNat) s))).bind fun r_1=>
      bif (v==4) then
       (jx.f aG k r_1).bind fun r_2=>
       bif (!r_2) then
       some (0,300)
       else
       some (r_1,0)
      else
       some (r_1,0)
      else
      none
     else
      none
    else
     some (0,300)
    else
    some (0,300))=some (get s a v):=by
  intro v hv
  unfold get
  by_cases h0:a<0
  ·have:¬((v=4∨v=8)∧0≤a∧a+v≤(s.length:Int)):=by omega
   simp [h0,this]
  ·by_cases h1:a>(s.length:Int)
   ·have:¬((v=4∨v=8)∧0≤a∧a+v≤(s.length:Int)):=by omega
    simp [h0,h1,this]
   ·rw [bb ((s.length:Int) - a) (by omega)]
    by_cases h2:(s.length:Int) - a<v
    ·have:¬((v=4∨v=8)∧0≤a∧a+v≤(s.length:Int)):=by omega
     simp [h0,h1,h2,this]
    ·have h3:(v=4∨v=8)∧0≤a∧a+v≤(s.length:Int):=by omega
     have h3':=h3.2
     have hv8:v≤8:=by omega
     rw [bb (a+v) (by omega)]
     have h4:0≤a+v:=by omega
     have h5:a≤(((a+v).toNat:Nat):Int):=by omega
     rw [g9 (by omega) _ (by rw [vq s a v (by omega) (by omega) (by omega)];omega),if_pos h3]
     simp only [h0,h1,h2,h3'.1,h3'.2,h4,h5,decide_true,decide_false,Bool.not_false,Bool.and_self,cond,Option.bind_some,s8 (k:=k) (by omega)]
     by_cases h6:v=4
     ·subst h6
      cases hm:may (ja ((s.take (a+4).toNat).drop a.toNat))<;>simp [hm]
     ·have:(v==4)=false:=by simpa using h6
      simp [h6,this]
 by_cases h4:w=4
 ·subst h4
  simpa using body 4 (.inl rfl)
 ·by_cases h8:w=8
  ·subst h8
   simpa using body 8 (.inr rfl)
  ·have b8:(w != 8)=true:=by simpa using h8
   have b4:(w != 4)=true:=by simpa using h4
   simp [b4,b8,get,h4,h8]
def lj:Nat→Int→List Int
 |0,x=>[x]
 |f+1,x=>if 128≤x then (x % 128+128) :: lj f (x / 128) else [x]
def nL (x:Int):List UInt8×Int:=if may x=true then (ae (lj 4 x),0) else ([],300)
theorem ID:∀n:Nat,n<256→n ||| 128=n % 128+128:=by decide+kernel
theorem IB (x:Int)(hx:0≤x):aH .or .u8 (IntKind.u8.wrap x) 128=x % 128+128:=by
 rw [mC,yc x]
 have e1:(x % 256) % (2 ^ IntKind.u8.bits:Int)=x % 256:=Int.emod_emod_of_dvd _ ⟨1,rfl⟩
 have e2:((128:Int) % (2 ^ IntKind.u8.bits:Int)).toNat=128:=rfl
 rw [e1,e2,ID _ (by omega),yc]
 omega
theorem B9 (x:Int)(hx:0≤x):IntKind.u8.wrap (aH .or .i64 (aH .and .i64 x 127) 128)=x % 128+128:=by
 have e0:aH .and .i64 x 127=x % 128:=rA x 7 (by omega)
 rw [e0]
 have e3:(x % 128).toNat % 128=(x % 128).toNat:=by omega
 have e4:aH .or .i64 (x % 128) 128=x % 128+128:=by
  have:=o9 (x % 128) 1 7 (by omega) (by omega) (by omega) (by omega)
  simpa using this
 rw [e4,yc]
 omega
theorem yT (x:Int):Int.fdiv x (2 ^ (min 7 IntKind.i64.bits))=x / 128:=by
 show Int.fdiv x (2 ^ 7)=x / 128
 rw [Int.fdiv_eq_ediv_of_nonneg _ (by decide)]
 rfl
theorem tz:∀(f:Nat) (x:Int),1≤(lj f x).length∧(lj f x).length≤f+1
 |0,x=>by simp [lj]
 |f+1,x=>by
  unfold lj
  split
  ·have:=tz f (x / 128);simp;omega
  ·simp
theorem m7:∀(f:Nat) (x:Int) (out:List Int) (k n:Nat),0≤x→x<128 ^ (f+1)→f+1≤n→out.length+f+1≤140737488355328→cw.l0 aG k n x out=some (ae (out++lj f x),0)
 |0,x,out,k,n,hx,hx2,hn,hl=>by
  obtain ⟨n,rfl⟩:∃m,n=m+1:=⟨n - 1,by omega⟩
  rw [cw.l0_eq]
  have h1:¬(x≥128):=by simp at hx2;omega
  have h2:∀y:Int,decide ((out.length+[y].length)*1≤140737488355328)=true:=fun y=>by simp;omega
  have h3:IntKind.u8.wrap x=x:=by rw [yc];omega
  simp only [h1,h2,h3,decide_true,decide_false,cond,lj]
 |f+1,x,out,k,n,hx,hx2,hn,hl=>by
  obtain ⟨n,rfl⟩:∃m,n=m+1:=⟨n - 1,by omega⟩
  rw [cw.l0_eq]
  by_cases h1:128≤x
  ·have h1':x≥128:=h1
   have h2:∀y:Int,decide ((out.length+[y].length)*1≤140737488355328)=true:=fun y=>by simp;omega
   simp only [h1',h2,decide_true,cond,yT,IB x hx]
   rw [m7 f (x / 128) _ k n (by omega) (by rw [Int.pow_succ] at hx2;exact Int.ediv_lt_of_lt_mul (by omega) hx2) (by omega) (by simp;omega)]
   simp [lj,h1]
  ·have h1':¬(x≥128):=h1
   have h2:∀y:Int,decide ((out.length+[y].length)*1≤140737488355328)=true:=fun y=>by simp;omega
   have h3:IntKind.u8.wrap x=x:=by rw [yc];omega
   simp only [h1',h2,h3,decide_true,decide_false,cond,lj,h1,if_false]
theorem mX:∀(f:Nat) (x:Int) (out:List Int) (k n:Nat),0≤x→x<128 ^ (f+1)→f+1≤n→out.length+f+1≤140737488355328→aR.l0 aG k n x out=some (ae (out++lj f x),0)
 |0,x,out,k,n,hx,hx2,hn,hl=>by
  obtain ⟨n,rfl⟩:∃m,n=m+1:=⟨n - 1,by omega⟩
  rw [aR.l0_eq]
  have h1:¬(x>127):=by simp at hx2;omega
  have h2:∀y:Int,decide ((out.length+[y].length)*1≤140737488355328)=true:=fun y=>by simp;omega
  have h3:IntKind.u8.wrap x=x:=by rw [yc];omega
  simp only [h1,h2,h3,decide_true,decide_false,cond,lj]
 |f+1,x,out,k,n,hx,hx2,hn,hl=>by
  obtain ⟨n,rfl⟩:∃m,n=m+1:=⟨n - 1,by omega⟩
  rw [aR.l0_eq]
  by_cases h1:128≤x
  ·have h1':x>127:=by omega
   have h2:∀y:Int,decide ((out.length+[y].length)*1≤140737488355328)=true:=fun y=>by simp;omega
   simp only [h1',h2,decide_true,cond,yT,B9 x hx]
   rw [mX f (x / 128) _ k n (by omega) (by rw [Int.pow_succ] at hx2;exact Int.ediv_lt_of_lt_mul (by omega) hx2) (by omega) (by simp;omega)]
   simp [lj,h1]
  ·have h1':¬(x>127):=by omega
   have h2:∀y:Int,decide ((out.length+[y].length)*1≤140737488355328)=true:=fun y=>by simp;omega
   have h3:IntKind.u8.wrap x=x:=by rw [yc];omega
   simp only [h1',h2,h3,decide_true,decide_false,cond,lj,h1,if_false]
theorem fe {x:Int}:may x=true↔0≤x∧x≤2147483647:=by simp [may]
theorem jO {k:Nat}(hk:7≤k)(x:Int):cw.f aG k x=some (nL x):=by
 obtain ⟨k,rfl⟩:∃m,k=m+1:=⟨k - 1,by omega⟩
 rw [cw.f_eq,s8 (by omega)]
 unfold nL
 cases hm:may x with
 |false=>simp
 |true=>
  obtain ⟨h1,h2⟩:=fe.1 hm
  have:=m7 4 x [] k k h1 (by have:(128:Int) ^ (4+1)=34359738368:=(by decide);omega) (by omega) (by simp)
  simp only [Option.bind_some,Bool.not_true,cond,this,List.nil_append,if_true]
theorem mW {k:Nat}(hk:7≤k)(x:Int):aR.f aG k x=some (nL x):=by
 obtain ⟨k,rfl⟩:∃m,k=m+1:=⟨k - 1,by omega⟩
 rw [aR.f_eq,HW (by omega)]
 unfold nL
 cases hm:may x with
 |false=>simp
 |true=>
  obtain ⟨h1,h2⟩:=fe.1 hm
  have:=mX 4 x [] k k h1 (by have:(128:Int) ^ (4+1)=34359738368:=(by decide);omega) (by omega) (by simp)
  simp only [Option.bind_some,Bool.not_true,cond,this,List.nil_append,if_true]
def Aj (s:List UInt8)(a:Nat):Nat→Int→Nat→Int×Int×Int
 |0,_,_=>(0,0,300)
 |f+1,x,i=>
  match s[a+i]? with
  |none=>(0,0,300)
  |some b=>
   if 128≤b.toNat then Aj s a f (x+((b.toNat:Int) % 128)*2 ^ (7*i)) (i+1)
   else if may (x+((b.toNat:Int) % 128)*2 ^ (7*i))=true∧ae (lj 4 (x+((b.toNat:Int) % 128)*2 ^ (7*i)))=(s.take (a+i+1)).drop a then
    (x+((b.toNat:Int) % 128)*2 ^ (7*i),((a+i+1:Nat):Int),0)
   else (0,0,300)
def jJ (s:List UInt8)(a:Int):Int×Int×Int:=if 0≤a∧a≤(s.length:Int) then Aj s a.toNat 5 0 0 else (0,0,300)
theorem Eg {α:Type}{l:List α}{i:Nat}(h:l.length≤i):l[i]?=none:=List.getElem?_eq_none h
theorem B5 (x:Int)(b:UInt8)(i:Nat)(hi:i≤4)(hx:0≤x)(hx2:x<2 ^ (7*i)):
  aH .or .i64 x (IntKind.i64.wrap ((IntKind.i64.wrap (Int.tmod (b.toNat:Int) 128))*2 ^ (min (IntKind.i64.wrap (7*(i:Int))).toNat IntKind.i64.bits)))=x+((b.toNat:Int) % 128)*2 ^ (7*i)∧
  0≤x+((b.toNat:Int) % 128)*2 ^ (7*i)∧x+((b.toNat:Int) % 128)*2 ^ (7*i)<2 ^ (7*(i+1)):=by
 have hb:b.toNat<256:=b.toNat_lt
 have e1:Int.tmod (b.toNat:Int) 128=(b.toNat:Int) % 128:=Int.tmod_eq_emod_of_nonneg (by omega)
 have e2:IntKind.i64.wrap ((b.toNat:Int) % 128)=(b.toNat:Int) % 128:=bb _ (by omega)
 have e3:(IntKind.i64.wrap (7*(i:Int))).toNat=7*i:=by rw [bb _ (by omega)];omega
 have e4:min (7*i) IntKind.i64.bits=7*i:=Nat.min_eq_left (by show 7*i≤64;omega)
 rw [e1,e2,e3,e4]
 have hp:(2:Int) ^ (7*i)≤268435456:=by
  have h28:(2:Nat) ^ 28=268435456:=by decide
  have:(2:Nat) ^ (7*i)≤2 ^ 28:=Nat.pow_le_pow_right (by omega) (by omega)
  rw [h28] at this
  have c:((2 ^ (7*i):Nat):Int)=2 ^ (7*i):=Int.natCast_pow 2 (7*i)
  omega
 have hp0:(0:Int)<2 ^ (7*i):=Int.pow_pos (by omega)
 have hm0:0≤(b.toNat:Int) % 128:=by omega
 have hm1:(b.toNat:Int) % 128≤127:=by omega
 have hmul0:0≤((b.toNat:Int) % 128)*2 ^ (7*i):=Int.mul_nonneg hm0 (by omega)
 have hmul1:((b.toNat:Int) % 128)*2 ^ (7*i)≤127*2 ^ (7*i):=Int.mul_le_mul_of_nonneg_right hm1 (by omega)
 have e5:IntKind.i64.wrap (((b.toNat:Int) % 128)*2 ^ (7*i))=((b.toNat:Int) % 128)*2 ^ (7*i):=bb _ (by omega)
 rw [e5,o9 x _ _ hx hx2 hm0 (by omega)]
 refine ⟨rfl,by omega,?_⟩
 have:(2:Int) ^ (7*(i+1))=128*2 ^ (7*i):=by rw [show 7*(i+1)=7+7*i by omega,Int.pow_add];rfl
 omega
theorem mM (s:List UInt8)(hs:(s.length:Int)≤9223372036854775000)(a:Nat)(ha:a≤s.length):∀(f i:Nat) (x:Int) (k n:Nat),i+f=5→0≤x→x<2 ^ (7*i)→f+1≤n→7≤k→
  db.l0 aG k n s (a:Int) x (i:Int)=some (Aj s a f x i)
 |0,i,x,k,n,hi,hx,hx2,hn,hk=>by
  obtain ⟨n,rfl⟩:∃m,n=m+1:=⟨n - 1,by omega⟩
  rw [db.l0_eq]
  have h1:¬((i:Int)<5):=by omega
  simp only [h1,decide_false,cond,Aj]
 |f+1,i,x,k,n,hi,hx,hx2,hn,hk=>by
  obtain ⟨n,rfl⟩:∃m,n=m+1:=⟨n - 1,by omega⟩
  rw [db.l0_eq]
  have h1:((i:Int)<5):=by omega
  have e1:IntKind.i64.wrap ((a:Int)+(i:Int))=((a+i:Nat):Int):=by rw [bb _ (by omega)];push_cast;rfl
  simp only [h1,decide_true,cond,e1,Aj]
  by_cases hlt:a+i<s.length
  ·have h2:(((a+i:Nat):Int)<(s.length:Int)):=by omega
   have h3:¬(IntKind.i64.wrap (7*(i:Int))<0):=by rw [bb _ (by omega)];omega
   obtain ⟨v1,v2,v3⟩:=B5 x s[a+i] i (by omega) hx hx2
   have e2:IntKind.i64.wrap ((i:Int)+1)=((i+1:Nat):Int):=by rw [bb _ (by omega)];push_cast;rfl
   have e3:IntKind.i64.wrap (((a+i:Nat):Int)+1)=((a+i+1:Nat):Int):=by rw [bb _ (by omega)];push_cast;rfl
   simp only [h2,h3,decide_true,decide_false,aM hlt,Option.bind_some,v1,e2,e3,jO hk,List.getElem?_eq_getElem hlt]
   by_cases hb:128≤s[a+i].toNat
   ·have hb':((s[a+i].toNat:Int)≥128):=by omega
    simp only [hb',decide_true,hb,if_true]
    exact mM s hs a ha f (i+1) _ k n (by omega) v2 v3 (by omega) hk
   ·have hb':¬((s[a+i].toNat:Int)≥128):=by omega
    simp only [hb',decide_false,hb,if_false]
    unfold nL
    cases hm:may (x+((s[a+i].toNat:Int) % 128)*2 ^ (7*i)) with
    |false=>simp
    |true=>
     have h4:(0:Int)≤((a+i+1:Nat):Int):=by omega
     have h5:(((a+i+1:Nat):Int)≤((s.length:Nat):Int)):=by omega
     have h6:(0:Int)≤(a:Int):=by omega
     have h7:(a:Int)≤((a+i+1:Nat):Int):=by omega
     simp only [if_true,h4,h5,h6,h7,decide_true,Bool.and_self,Int.toNat_natCast,true_and]
     by_cases he:ae (lj 4 (x+((s[a+i].toNat:Int) % 128)*2 ^ (7*i)))=(s.take (a+i+1)).drop a
     ·simp [he]
     ·have he':(ae (lj 4 (x+((s[a+i].toNat:Int) % 128)*2 ^ (7*i))) != (s.take (a+i+1)).drop a)=true:=by simpa using he
      simp [he,he']
  ·have h2:¬(((a+i:Nat):Int)<(s.length:Int)):=by omega
   simp only [h2,decide_false,Eg (l:=s) (i:=a+i) (by omega)]
theorem tI {k:Nat}(hk:8≤k)(s:List UInt8)(hs:(s.length:Int)≤9223372036854775000)(a:Int):db.f aG k s a=some (jJ s a):=by
 obtain ⟨k,rfl⟩:∃m,k=m+1:=⟨k - 1,by omega⟩
 rw [db.f_eq]
 unfold jJ
 by_cases h0:a<0
 ·have:¬(0≤a∧a≤(s.length:Int)):=by omega
  simp [h0,this]
 ·by_cases h1:a>(s.length:Int)
  ·have:¬(0≤a∧a≤(s.length:Int)):=by omega
   simp [h0,h1,this]
  ·have h2:0≤a∧a≤(s.length:Int):=by omega
   have:=mM s hs a.toNat (by omega) 5 0 0 k k (by omega) (by omega) (by decide) (by omega) (by omega)
   have ea:((a.toNat:Nat):Int)=a:=by omega
   rw [ea] at this
   simp only [h0,h1,decide_false,Bool.not_false,cond,if_pos h2]
   exact this
theorem pT {n:Nat}(h:n<256):(UInt8.ofNat n).toNat=n:=by simp [UInt8.toNat_ofNat];omega
theorem ot (x:Int):((UInt8.ofNat (IntKind.u8.wrap x).toNat).toNat:Int)=x % 256:=by
 rw [yc,pT (by omega)];omega
theorem dI (x y:Int)(h:0≤y):Int.fdiv x y=x / y:=Int.fdiv_eq_ediv_of_nonneg _ h
theorem bO (x:Int):(w4 x).length=4:=rfl
theorem oZ (x:Int):(w8 x).length=8:=rfl
theorem BZ (x:Int)(h:0≤x∧x<4294967296):(val (w4 x):Int)=x:=by
 have e:(val (w4 x):Int)=((UInt8.ofNat (IntKind.u8.wrap (Int.fdiv x 1)).toNat).toNat:Int)+256*(((UInt8.ofNat (IntKind.u8.wrap (Int.fdiv x (2 ^ 8))).toNat).toNat:Int)+256*(((UInt8.ofNat (IntKind.u8.wrap (Int.fdiv x (2 ^ 16))).toNat).toNat:Int)+
   256*(((UInt8.ofNat (IntKind.u8.wrap (Int.fdiv x (2 ^ 24))).toNat).toNat:Int)+256*0))):=by
  simp only [w4,ae,List.map_cons,List.map_nil,val,Int.natCast_add,Int.natCast_mul];rfl
 rw [e]
 simp only [ot,dI _ _ (show (0:Int)≤1 by decide),dI _ _ (show (0:Int)≤2 ^ 8 by decide),dI _ _ (show (0:Int)≤2 ^ 16 by decide),dI _ _ (show (0:Int)≤2 ^ 24 by decide)]
 have p8:(2:Int) ^ 8=256:=by decide
 have p16:(2:Int) ^ 16=65536:=by decide
 have p24:(2:Int) ^ 24=16777216:=by decide
 rw [p8,p16,p24]
 omega
theorem HK (x:Int):(val (w8 x):Int)=x % 18446744073709551616:=by
 have e:(val (w8 x):Int)=((UInt8.ofNat (IntKind.u8.wrap (Int.fdiv x 1)).toNat).toNat:Int)+256*(((UInt8.ofNat (IntKind.u8.wrap (Int.fdiv x (2 ^ 8))).toNat).toNat:Int)+256*(((UInt8.ofNat (IntKind.u8.wrap (Int.fdiv x (2 ^ 16))).toNat).toNat:Int)+
   256*(((UInt8.ofNat (IntKind.u8.wrap (Int.fdiv x (2 ^ 24))).toNat).toNat:Int)+256*(((UInt8.ofNat (IntKind.u8.wrap (Int.fdiv x (2 ^ 32))).toNat).toNat:Int)+256*(((UInt8.ofNat (IntKind.u8.wrap (Int.fdiv x (2 ^ 40))).toNat).toNat:Int)+
   256*(((UInt8.ofNat (IntKind.u8.wrap (Int.fdiv x (2 ^ 48))).toNat).toNat:Int)+256*(((UInt8.ofNat (IntKind.u8.wrap (Int.fdiv x (2 ^ 56))).toNat).toNat:Int)+256*0))))))):=by
  simp only [w8,ae,List.map_cons,List.map_nil,val,Int.natCast_add,Int.natCast_mul];rfl
 rw [e]
 simp only [ot,dI _ _ (show (0:Int)≤1 by decide),dI _ _ (show (0:Int)≤2 ^ 8 by decide),dI _ _ (show (0:Int)≤2 ^ 16 by decide),dI _ _ (show (0:Int)≤2 ^ 24 by decide),
  dI _ _ (show (0:Int)≤2 ^ 32 by decide),dI _ _ (show (0:Int)≤2 ^ 40 by decide),dI _ _ (show (0:Int)≤2 ^ 48 by decide),dI _ _ (show (0:Int)≤2 ^ 56 by decide)]
 have p8:(2:Int) ^ 8=256:=by decide
 have p16:(2:Int) ^ 16=65536:=by decide
 have p24:(2:Int) ^ 24=16777216:=by decide
 have p32:(2:Int) ^ 32=4294967296:=by decide
 have p40:(2:Int) ^ 40=1099511627776:=by decide
 have p48:(2:Int) ^ 48=281474976710656:=by decide
 have p56:(2:Int) ^ 56=72057594037927936:=by decide
 rw [p8,p16,p24,p32,p40,p48,p56]
 omega
theorem C4 (x:Int)(h:may x=true):ja (w4 x)=x:=by
 obtain ⟨h1,h2⟩:=fe.1 h
 unfold ja
 rw [BZ x ⟨h1,by omega⟩,bb _ (by omega)]
theorem BK (x:Int)(h:-9223372036854775808≤x∧x≤9223372036854775807):ja (w8 x)=x:=by
 unfold ja
 rw [HK,IntKind.wrap_i64];omega
theorem pK (a b c:List UInt8)(n:Nat)(hn:n=b.length):((a++b++c).take (a.length+n)).drop a.length=b:=by
 subst hn
 rw [List.append_assoc,List.take_length_add_append,List.drop_left,List.take_left]
theorem CX (a c:List UInt8)(x:Int)(h:may x=true):get (a++w4 x++c) (a.length:Int) 4=(x,0):=by
 unfold get
 have e:(((a++w4 x++c).take ((a.length:Int)+4).toNat).drop (a.length:Int).toNat)=w4 x:=by
  have e1:((a.length:Int)+4).toNat=a.length+4:=by omega
  have e2:(a.length:Int).toNat=a.length:=by omega
  rw [e1,e2];exact pK a (w4 x) c 4 rfl
 rw [if_pos ⟨.inl rfl,by omega,by simp [bO];omega⟩,e,C4 x h,h]
 simp
theorem eU (l m:List Int):ae (l++m)=ae l++ae m:=by simp [ae]
theorem ji (l:List Int):(ae l).length=l.length:=by simp [ae]
theorem u2 {n:Int}(h0:0≤n)(h1:n<256):((UInt8.ofNat n.toNat).toNat:Int)=n:=by rw [pT (by omega)];omega
theorem Dk (a c d:List UInt8)(x:Int)(hx:may x=true):∀(f i:Nat) (acc y:Int),f+i=4→0≤y→y<128 ^ (f+1)→x=acc+y*2 ^ (7*i)→ae (lj 4 x)=c++ae (lj f y)→c.length=i→
  Aj (a++ae (lj 4 x)++d) a.length (f+1) acc i=(x,((a.length+(ae (lj 4 x)).length:Nat):Int),0):=by
 intro f
 induction f generalizing c with
 |zero=>
  intro i acc y hfi hy hy2 hxe hc hcl
  have hy3:y<128:=by simpa using hy2
  have hby:(a++ae (lj 4 x)++d)[a.length+i]?=some (UInt8.ofNat y.toNat):=by
   rw [List.append_assoc,List.getElem?_append_right (by omega),hc]
   simp only [lj,ae,List.map_cons,List.map_nil]
   rw [show a.length+i - a.length=c.length by omega,List.append_assoc,List.getElem?_append_right (by omega)]
   simp
  have hbv:=u2 hy (by omega:y<256)
  have hlen:(ae (lj 4 x)).length=i+1:=by rw [hc];simp [lj,ae,hcl]
  rw [Aj,hby]
  have h1:¬(128≤(UInt8.ofNat y.toNat).toNat):=by omega
  have h2:((UInt8.ofNat y.toNat).toNat:Int) % 128=y:=by omega
  simp only [h1,if_false,h2,←hxe,hx,true_and]
  have h3:ae (lj 4 x)=((a++ae (lj 4 x)++d).take (a.length+i+1)).drop a.length:=by
   rw [Nat.add_assoc];exact (pK a _ d (i+1) hlen.symm).symm
  rw [if_pos h3,hlen,Nat.add_assoc]
 |succ f ih=>
  intro i acc y hfi hy hy2 hxe hc hcl
  by_cases hb:128≤y
  ·have hby:(a++ae (lj 4 x)++d)[a.length+i]?=some (UInt8.ofNat (y % 128+128).toNat):=by
    rw [List.append_assoc,List.getElem?_append_right (by omega),hc]
    simp only [lj,hb,if_true,ae,List.map_cons]
    rw [show a.length+i - a.length=c.length by omega,List.append_assoc,List.getElem?_append_right (by omega)]
    simp
   have hbv:=u2 (n:=y % 128+128) (by omega) (by omega)
   rw [Aj,hby]
   have h1:128≤(UInt8.ofNat (y % 128+128).toNat).toNat:=by omega
   have h2:((UInt8.ofNat (y % 128+128).toNat).toNat:Int) % 128=y % 128:=by omega
   simp only [h1,if_true,h2]
   refine ih (c++[UInt8.ofNat (y % 128+128).toNat]) (i+1) _ (y / 128) (by omega) (by omega) (by rw [Int.pow_succ] at hy2;exact Int.ediv_lt_of_lt_mul (by omega) hy2) ?_ ?_ (by simp [hcl])
   ·rw [hxe]
    have e:(2:Int) ^ (7*(i+1))=128*2 ^ (7*i):=by rw [show 7*(i+1)=7+7*i by omega,Int.pow_add];rfl
    rw [e,←Int.mul_assoc,Int.add_assoc,←Int.add_mul]
    congr 2
    omega
   ·rw [hc]
    simp [lj,hb,ae]
  ·have hby:(a++ae (lj 4 x)++d)[a.length+i]?=some (UInt8.ofNat y.toNat):=by
    rw [List.append_assoc,List.getElem?_append_right (by omega),hc]
    simp only [lj,hb,if_false,ae,List.map_cons,List.map_nil]
    rw [show a.length+i - a.length=c.length by omega,List.append_assoc,List.getElem?_append_right (by omega)]
    simp
   have hbv:=u2 hy (by omega:y<256)
   have hlen:(ae (lj 4 x)).length=i+1:=by rw [hc];simp [lj,hb,ae,hcl]
   rw [Aj,hby]
   have h1:¬(128≤(UInt8.ofNat y.toNat).toNat):=by omega
   have h2:((UInt8.ofNat y.toNat).toNat:Int) % 128=y:=by omega
   simp only [h1,if_false,h2,←hxe,hx,true_and]
   have h3:ae (lj 4 x)=((a++ae (lj 4 x)++d).take (a.length+i+1)).drop a.length:=by
    rw [Nat.add_assoc];exact (pK a _ d (i+1) hlen.symm).symm
   rw [if_pos h3,hlen,Nat.add_assoc]
def pv (x:Int):List UInt8:=ae (lj 4 x)
theorem kJ {x:Int}(h:may x=true):nL x=(pv x,0):=by simp [nL,h,pv]
theorem iJ (x:Int):1≤(pv x).length∧(pv x).length≤5:=by unfold pv;rw [ji];exact tz 4 x
theorem ya (a d:List UInt8)(x:Int)(h:may x=true):jJ (a++pv x++d) (a.length:Int)=(x,(a.length:Int)+((pv x).length:Int),0):=by
 obtain ⟨h1,h2⟩:=fe.1 h
 unfold jJ
 rw [if_pos ⟨by omega,by simp;omega⟩]
 have:=Dk a [] d x h 4 0 0 x (by omega) h1 (by have:(128:Int) ^ (4+1)=34359738368:=(by decide);omega) (by simp) (by simp) rfl
 have e:(a.length:Int).toNat=a.length:=by omega
 rw [e]
 unfold pv at*
 rw [this]
 simp
theorem pick {α:Type}{l:List α}{Q:α→Prop}(hl:∀e∈l,Q e){i:Int}(h0:0≤i)(h1:i<(l.length:Int)):∃e,l[i.toNat]?=some e∧Q e:=by
 have:i.toNat<l.length:=by omega
 exact ⟨_,List.getElem?_eq_getElem this,hl _ (List.getElem_mem this)⟩
def dx (t:List aL)(i:Nat):Int:=match t[i]? with|some n=>n.parent|none=>-1
def dX (t:List aL)(i:Nat):Int:=match t[i]? with|some n=>n.kind|none=>0
def xb (t:List aL)(i:Nat):Bool:=match t[i]? with|some n=>n.null|none=>false
theorem kV {t:List aL}{i:Nat}(h:i<t.length):t[i].parent=dx t i:=by simp [dx,h]
theorem eC {t:List aL}{i:Nat}(h:i<t.length):t[i].kind=dX t i:=by simp [dX,h]
theorem iC {t:List aL}{i:Nat}(h:i<t.length):t[i].null=xb t i:=by simp [xb,h]
def dH (k:Int):Bool:=k==3||k==4
def jd (t:List aL)(a:Int)(i:Nat):List Int:=((List.range i).filter fun j=>decide (0<j)&&dx t j==a).map fun j=>((j:Nat):Int)
def bA (t:List aL)(a:Int):List Int:=jd t a t.length
theorem kn (t:List aL)(a:Int)(i:Nat):jd t a (i+1)=if 0<i∧dx t i=a then jd t a i++[(i:Int)] else jd t a i:=by
 unfold jd
 rw [List.range_succ,List.filter_append,List.map_append]
 by_cases h:0<i∧dx t i=a
 ·simp [h]
 ·rw [if_neg h]
  have:(decide (0<i)&&dx t i==a)=false:=by
   simp only [Bool.and_eq_false_iff,decide_eq_false_iff_not,beq_eq_false_iff_ne]
   by_cases h0:0<i
   ·exact .inr fun e=>h ⟨h0,e⟩
   ·exact .inl h0
  simp [this]
theorem gi (t:List aL)(a:Int):∀i,(jd t a i).length≤i
 |0=>by simp [jd]
 |i+1=>by
  have:=gi t a i
  rw [kn]
  split<;>simp<;>omega
theorem mG {t:List aL}{a:Int}{x:Int}:x∈bA t a↔∃j:Nat,j<t.length∧0<j∧dx t j=a∧x=(j:Int):=by
 unfold bA jd
 simp only [List.mem_map,List.mem_filter,List.mem_range,Bool.and_eq_true,decide_eq_true_eq,beq_iff_eq]
 constructor
 ·rintro ⟨j,⟨h1,h2,h3⟩,rfl⟩;exact ⟨j,h1,h2,h3,rfl⟩
 ·rintro ⟨j,h1,h2,h3,rfl⟩;exact ⟨j,⟨h1,h2,h3⟩,rfl⟩
theorem bu {i:Nat}(h:(i:Int)≤4611686018427387904):IntKind.i64.wrap ((i:Int)+1)=((i+1:Nat):Int):=by rw [bb _ (by omega)];push_cast;rfl
theorem m6 (t:List aL)(a:Int)(ht:t.length≤17592186044415)(k:Nat):∀(j i:Nat),i+j=t.length→∀n,j+1≤n→cm.l0 aG k n a t (t.length:Int) (i:Int) (jd t a i)=some (bA t a)
 |0,i,hij,n,hn=>by
  obtain ⟨n,rfl⟩:∃m,n=m+1:=⟨n - 1,by omega⟩
  rw [cm.l0_eq]
  have h1:¬((i:Int)<(t.length:Int)):=by omega
  simp only [h1,decide_false,cond,bA]
  rw [show i=t.length by omega]
 |j+1,i,hij,n,hn=>by
  obtain ⟨n,rfl⟩:∃m,n=m+1:=⟨n - 1,by omega⟩
  rw [cm.l0_eq]
  have hlt:i<t.length:=by omega
  have h1:((i:Int)<(t.length:Int)):=by omega
  have ih:=m6 t a ht k j (i+1) (by omega) n (by omega)
  rw [kn] at ih
  have hl:=gi t a i
  have h2:((jd t a i).length+[(i:Int)].length)*8≤140737488355328:=by simp;omega
  simp only [h1,decide_true,cond,aM hlt,Option.bind_some,bu (show (i:Int)≤_ by omega),kV hlt]
  by_cases h3:(i:Int)>0
  ·have h3':0<i:=by omega
   by_cases h4:dx t i=a
   ·rw [if_pos ⟨h3',h4⟩] at ih
    have hb:(dx t i==a)=true:=by simpa using h4
    simp only [h3,decide_true,hb,h2]
    exact ih
   ·rw [if_neg (fun h=>h4 h.2)] at ih
    have hb:(dx t i==a)=false:=by simpa using h4
    simp only [h3,decide_true,hb]
    exact ih
  ·rw [if_neg (fun h=>h3 (by omega))] at ih
   simp only [h3,decide_false]
   exact ih
theorem mK {k:Nat}(t:List aL)(a:Int)(ht:t.length≤17592186044415)(hk:t.length+2≤k):cm.f aG k t a=some (bA t a):=by
 obtain ⟨k,rfl⟩:∃m,k=m+1:=⟨k - 1,by omega⟩
 rw [cm.f_eq]
 have:=m6 t a ht k t.length 0 (by omega) k (by omega)
 simpa [jd] using this
theorem qG (t:List aL)(a:Int)(ht:t.length≤17592186044415)(k:Nat):∀(j i:Nat),0<i→t.length≤i+j→∀n,j+1≤n→(i≤t.length∨jd t a i=bA t a)→bh.l0 aG k n a (i:Int) t (jd t a i)=some (bA t a)
 |0,i,hi,hij,n,hn,hc=>by
  obtain ⟨n,rfl⟩:∃m,n=m+1:=⟨n - 1,by omega⟩
  rw [bh.l0_eq]
  have h1:¬((i:Int)<(t.length:Int)):=by omega
  simp only [h1,decide_false,cond]
  rcases hc with hc|hc
  ·rw [show i=t.length by omega];rfl
  ·rw [hc]
 |j+1,i,hi,hij,n,hn,hc=>by
  obtain ⟨n,rfl⟩:∃m,n=m+1:=⟨n - 1,by omega⟩
  rw [bh.l0_eq]
  by_cases hlt:i<t.length
  ·have h1:((i:Int)<(t.length:Int)):=by omega
   have ih:=qG t a ht k j (i+1) (by omega) (by omega) n (by omega) (.inl hlt)
   rw [kn] at ih
   have hl:=gi t a i
   have h2:((jd t a i).length+[(i:Int)].length)*8≤140737488355328:=by simp;omega
   simp only [h1,decide_true,cond,aM hlt,Option.bind_some,bu (show (i:Int)≤_ by omega),kV hlt]
   by_cases h4:dx t i=a
   ·rw [if_pos ⟨hi,h4⟩] at ih
    have hb:(dx t i==a)=true:=by simpa using h4
    simp only [hb,h2,decide_true]
    exact ih
   ·rw [if_neg (fun h=>h4 h.2)] at ih
    have hb:(dx t i==a)=false:=by simpa using h4
    simp only [hb]
    exact ih
  ·have h1:¬((i:Int)<(t.length:Int)):=by omega
   simp only [h1,decide_false,cond]
   rcases hc with hc|hc
   ·rw [show i=t.length by omega];rfl
   ·rw [hc]
theorem qs {k:Nat}(t:List aL)(a:Int)(ht:t.length≤17592186044415)(hk:t.length+2≤k):bh.f aG k t a=some (bA t a):=by
 obtain ⟨k,rfl⟩:∃m,k=m+1:=⟨k - 1,by omega⟩
 rw [bh.f_eq]
 have:=qG t a ht k t.length 1 (by omega) (by omega) k (by omega) (by
  by_cases h:1≤t.length
  ·exact .inl h
  ·refine .inr ?_
   have:t=[]:=List.eq_nil_of_length_eq_zero (by omega)
   subst this
   rfl)
 have e:jd t a 1=[]:=by rw [kn,if_neg (by omega)];rfl
 rw [e] at this
 exact this
def fj (t:List aL)(i:Nat):Bool:=
 if i=0 then dx t 0==-1 else decide (0≤dx t i)&&decide (dx t i<(i:Int))&&dH (dX t (dx t i).toNat)
theorem lN {k:Nat}(hk:1≤k)(x:Int):fY.f aG k x=some (dH x):=by
 obtain ⟨k,rfl⟩:∃m,k=m+1:=⟨k - 1,by omega⟩
 rw [fY.f_eq]
 unfold dH
 cases h:(x==3)<;>simp
theorem dY {k:Nat}(hk:1≤k)(x:Int):cV.f aG k x=some (!dH x):=by
 obtain ⟨k,rfl⟩:∃m,k=m+1:=⟨k - 1,by omega⟩
 rw [cV.f_eq]
 unfold dH
 simp only [bne]
 cases h:(x==3)<;>simp
theorem qU {k:Nat}(hk:2≤k)(t:List aL)(i:Nat)(hi:i<t.length):gj.f aG k t (i:Int)=some (fj t i):=by
 obtain ⟨k,rfl⟩:∃m,k=m+1:=⟨k - 1,by omega⟩
 rw [gj.f_eq]
 unfold fj
 simp only [aM hi,Option.bind_some,kV hi,lN (show 1≤k by omega)]
 by_cases h0:i=0
 ·subst h0;simp
 ·have hb:((i:Int)==0)=false:=by simp;omega
  rw [if_neg h0]
  simp only [hb,cond]
  by_cases h1:0≤dx t i
  ·have h1':dx t i≥0:=h1
   by_cases h2:dx t i<(i:Int)
   ·have h3:(dx t i).toNat<t.length:=by omega
    have e:dx t i=(((dx t i).toNat:Nat):Int):=by omega
    have hr:rd t (dx t i)=some t[(dx t i).toNat]:=by
     have:=aM h3
     rw [←e] at this
     exact this
    simp only [h1',h1,h2,decide_true,hr,Option.bind_some,eC h3,Bool.true_and]
   ·simp [h1,h2]
  ·have h1':¬dx t i≥0:=h1
   simp [h1]
def kX (t:List aL):Nat→Int→List Int
 |0,_=>[]
 |f+1,a=>if 0≤a then a :: kX t f (dx t a.toNat) else []
def dm (t:List aL)(a:Int):List Int:=kX t (a+1).toNat a
def gW (t:List aL):Prop:=∀i,i<t.length→fj t i=true
theorem gW.up {t:List aL}(h:gW t){i:Nat}(hi:i<t.length):dx t i<(i:Int)∧-1≤dx t i:=by
 have:=h i hi
 unfold fj at this
 split at this
 ·rename_i h0
  subst h0
  have:dx t 0=-1:=by simpa using this
  omega
 ·simp only [Bool.and_eq_true,decide_eq_true_eq] at this
  omega
theorem uB {t:List aL}(h:gW t):∀(f g:Nat) (a:Int),a<(t.length:Int)→a<(f:Int)→a<(g:Int)→kX t f a=kX t g a
 |0,0,_,_,_,_=>rfl
 |0,g+1,a,_,h1,_=>by
  have:¬0≤a:=by omega
  simp [kX,this]
 |f+1,0,a,_,_,h1=>by
  have:¬0≤a:=by omega
  simp [kX,this]
 |f+1,g+1,a,hl,h1,h2=>by
  simp only [kX]
  split
  ·rename_i h0
   have hup:=h.up (i:=a.toNat) (by omega)
   rw [uB h f g _ (by omega) (by omega) (by omega)]
  ·rfl
theorem kg {t:List aL}{a:Int}(h:a<0):dm t a=[]:=by
 unfold dm
 rw [show (a+1).toNat=0 by omega];rfl
theorem mt {t:List aL}(h:gW t){i:Nat}(hi:i<t.length):dm t (i:Int)=(i:Int) :: dm t (dx t i):=by
 have hup:=h.up hi
 unfold dm
 rw [show ((i:Int)+1).toNat=i+1 by omega]
 simp only [kX]
 rw [if_pos (by omega),Int.toNat_natCast,uB h i ((dx t i+1).toNat) (dx t i) (by omega) (by omega) (by omega)]
theorem qO {t:List aL}(h:gW t):∀i:Nat,i<t.length→1≤(dm t (i:Int)).length∧(dm t (i:Int)).length≤i+1:=by
 intro i
 induction i using Nat.strongRecOn with
 |_ i ih=>
  intro hi
  rw [mt h hi]
  have hup:=h.up hi
  by_cases hp:dx t i<0
  ·rw [kg hp];simp
  ·have e:dx t i=(((dx t i).toNat:Nat):Int):=by omega
   rw [e]
   have:=ih (dx t i).toNat (by omega) (by omega)
   simp only [List.length_cons];omega
theorem oa {t:List aL}(h:gW t)(ht:t.length≤1000)(k:Nat):∀(f:Nat) (a:Int) (out:List Int) (n:Nat),a<(t.length:Int)→a<(f:Int)→f+1≤n→out.length+f≤10000→cA.l0 aG k n t a out=some (out++kX t f a)
 |0,a,out,n,hl,hf,hn,ho=>by
  obtain ⟨n,rfl⟩:∃m,n=m+1:=⟨n - 1,by omega⟩
  rw [cA.l0_eq]
  have h1:¬a≥0:=by omega
  simp [h1,kX]
 |f+1,a,out,n,hl,hf,hn,ho=>by
  obtain ⟨n,rfl⟩:∃m,n=m+1:=⟨n - 1,by omega⟩
  rw [cA.l0_eq]
  by_cases h0:0≤a
  ·have h1:a≥0:=h0
   have hlt:a.toNat<t.length:=by omega
   have e:a=((a.toNat:Nat):Int):=by omega
   have hr:rd t a=some t[a.toNat]:=by
    have:=aM hlt
    rw [←e] at this
    exact this
   have h2:(out.length+[a].length)*8≤140737488355328:=by simp;omega
   have hup:=h.up hlt
   simp only [h1,h2,decide_true,cond,hr,Option.bind_some,kV hlt]
   rw [oa h ht k f _ _ n (by omega) (by omega) (by omega) (by simp;omega)]
   simp [kX,h0]
  ·have h1:¬a≥0:=h0
   simp [h1,kX,h0]
theorem nY {t:List aL}(h:gW t)(ht:t.length≤1000){k:Nat}(i:Nat)(hi:i<t.length)(hk:t.length+3≤k):cA.f aG k t (i:Int)=some (dm t (i:Int)):=by
 obtain ⟨k,rfl⟩:∃m,k=m+1:=⟨k - 1,by omega⟩
 rw [cA.f_eq,oa h ht k (i+1) _ [] k (by omega) (by omega) (by omega) (by simp;omega)]
 unfold dm
 rw [show ((i:Int)+1).toNat=i+1 by omega]
 rfl
theorem xr (n m:Nat):((n:Int)==(m:Int))=(n==m):=by
 by_cases h:n=m
 ·simp [h]
 ·have:¬((n:Int)=(m:Int)):=by omega
  exact (beq_eq_false_iff_ne.2 this).trans (beq_eq_false_iff_ne.2 h).symm
def lX (t:List aL)(i:Nat):Bool:=decide (0≤dX t i)&&decide (dX t i≤4)
def ly (t:List aL)(i:Nat):Bool:=(!(dX t i==3)||(bA t (i:Int)).length==1)&&(!(dX t i==4)||!((bA t (i:Int)).length==0))
def iz (t:List aL):Bool:=
 decide (1≤t.length)&&decide (t.length≤8)&&(List.range t.length).all (fun i=>lX t i&&fj t i)&&(List.range t.length).all (fun i=>ly t i&&decide ((dm t (i:Int)).length≤5))
theorem sJ (p:Nat→Bool)(N i:Nat)(hi:i<N):((List.range' i (N - i)).all p)=(p i&&(List.range' (i+1) (N - (i+1))).all p):=by
 rw [show N - i=(N - (i+1))+1 by omega,List.range'_succ,List.all_cons]
theorem oJ (t:List aL)(h:gW t)(ht:t.length≤8)(k:Nat)(hk:20≤k):∀(j i:Nat),i+j=t.length→∀n,j+1≤n→
  bK.l2 aG k n t (t.length:Int) (i:Int)=some ((List.range' i (t.length - i)).all fun i=>ly t i&&decide ((dm t (i:Int)).length≤5))
 |0,i,hij,n,hn=>by
  obtain ⟨n,rfl⟩:∃m,n=m+1:=⟨n - 1,by omega⟩
  rw [bK.l2_eq]
  have h1:¬((i:Int)<(t.length:Int)):=by omega
  simp only [h1,decide_false,cond]
  rw [show t.length - i=0 by omega];rfl
 |j+1,i,hij,n,hn=>by
  obtain ⟨n,rfl⟩:∃m,n=m+1:=⟨n - 1,by omega⟩
  rw [bK.l2_eq]
  have hlt:i<t.length:=by omega
  have h1:((i:Int)<(t.length:Int)):=by omega
  have ih:=oJ t h ht k hk j (i+1) (by omega) n (by omega)
  rw [sJ _ _ _ hlt]
  simp only [h1,decide_true,cond,aM hlt,Option.bind_some,eC hlt,mK t _ (show t.length≤17592186044415 by omega) (show t.length+2≤k by omega),nY h (show t.length≤1000 by omega) i hlt (show t.length+3≤k by omega),bu (show (i:Int)≤_ by omega),ih]
  unfold ly
  have e1:(((bA t (i:Int)).length:Int) != 1)=!((bA t (i:Int)).length==1):=by
   simp only [bne]
   congr 1
   exact xr _ 1
  have e2:(((bA t (i:Int)).length:Int)==0)=((bA t (i:Int)).length==0):=xr _ 0
  have e3:decide (((dm t (i:Int)).length:Int)>5)=!decide ((dm t (i:Int)).length≤5):=by
   by_cases hh:(dm t (i:Int)).length≤5
   ·have:¬(((dm t (i:Int)).length:Int)>5):=by omega
    simp [hh,this]
   ·have:(((dm t (i:Int)).length:Int)>5):=by omega
    simp [hh,this]
  simp only [e1,e2,e3]
  cases (dX t i==3)<;>cases (dX t i==4)<;>cases ((bA t (i:Int)).length==1)<;>cases ((bA t (i:Int)).length==0)<;>cases (decide ((dm t (i:Int)).length≤5))<;>simp
theorem oy (t:List aL)(ht:t.length≤8)(k:Nat)(hk:20≤k):∀(j i:Nat),i+j=t.length→(∀q,q<i→fj t q=true)→∀n,j+1≤n→
  bK.l0 aG k n t (t.length:Int) (i:Int)=some ((List.range' i (t.length - i)).all (fun i=>lX t i&&fj t i)&&(List.range t.length).all (fun i=>ly t i&&decide ((dm t (i:Int)).length≤5)))
 |0,i,hij,hst,n,hn=>by
  obtain ⟨n,rfl⟩:∃m,n=m+1:=⟨n - 1,by omega⟩
  rw [bK.l0_eq]
  have h1:¬((i:Int)<(t.length:Int)):=by omega
  have:=oJ t (fun q hq=>hst q (by omega)) ht k hk t.length 0 (by omega) k (by omega)
  simp only [h1,decide_false,cond]
  rw [show t.length - i=0 by omega]
  rw [Nat.sub_zero] at this
  rw [List.range_eq_range']
  simpa using this
 |j+1,i,hij,hst,n,hn=>by
  obtain ⟨n,rfl⟩:∃m,n=m+1:=⟨n - 1,by omega⟩
  rw [bK.l0_eq]
  have hlt:i<t.length:=by omega
  have h1:((i:Int)<(t.length:Int)):=by omega
  rw [sJ _ _ _ hlt]
  simp only [h1,decide_true,cond,aM hlt,Option.bind_some,eC hlt,qU (show 2≤k by omega) t i hlt,bu (show (i:Int)≤_ by omega)]
  unfold lX
  by_cases h2:0≤dX t i
  ·have h2':¬(dX t i<0):=by omega
   by_cases h3:dX t i≤4
   ·have h3':¬(dX t i>4):=by omega
    cases hs:fj t i with
    |false=>simp [h2,h2',h3,h3']
    |true=>
     have ih:=oy t ht k hk j (i+1) (by omega) (fun q hq=>by
      by_cases e:q=i
      ·subst e;exact hs
      ·exact hst q (by omega)) n (by omega)
     unfold lX at ih
     simp only [h2,h2',h3,h3',decide_true,decide_false,Bool.not_false,Bool.not_true,Bool.true_and,ih]
   ·have h3':(dX t i>4):=by omega
    simp [h2,h2',h3,h3']
  ·have h2':(dX t i<0):=by omega
   simp [h2,h2']
theorem vu {k:Nat}(hk:21≤k)(t:List aL):bK.f aG k t=some (iz t):=by
 obtain ⟨k,rfl⟩:∃m,k=m+1:=⟨k - 1,by omega⟩
 rw [bK.f_eq]
 unfold iz
 by_cases h0:t.length=0
 ·simp [h0]
 ·have b0:((t.length:Int)==0)=false:=beq_eq_false_iff_ne.2 (by omega)
  by_cases h8:t.length≤8
  ·have b8:¬((t.length:Int)>8):=by omega
   have h1:1≤t.length:=by omega
   have:=oy t h8 k (by omega) t.length 0 (by omega) (fun q hq=>absurd hq (Nat.not_lt_zero q)) k (by omega)
   rw [Nat.sub_zero,←List.range_eq_range'] at this
   simp only [b0,Bool.not_false,cond,b8,decide_false,h1,h8,decide_true,Bool.true_and]
   exact this
  ·have b8:((t.length:Int)>8):=by omega
   simp [b0,b8,h8]
def Iu (t:List aL)(m:Nat):Prop:=∀q,q<m→dx t q<(q:Int)
theorem wP {t:List aL}{m:Nat}(h:Iu t m):∀(f g:Nat) (a:Int),a<(m:Int)→a<(f:Int)→a<(g:Int)→kX t f a=kX t g a
 |0,0,_,_,_,_=>rfl
 |0,g+1,a,_,h1,_=>by
  have:¬0≤a:=by omega
  simp [kX,this]
 |f+1,0,a,_,_,h1=>by
  have:¬0≤a:=by omega
  simp [kX,this]
 |f+1,g+1,a,hl,h1,h2=>by
  simp only [kX]
  split
  ·rename_i h0
   have hup:=h a.toNat (by omega)
   rw [wP h f g _ (by omega) (by omega) (by omega)]
  ·rfl
theorem wN {t:List aL}{m:Nat}(h:Iu t m){i:Nat}(hi:i<m):dm t (i:Int)=(i:Int) :: dm t (dx t i):=by
 have hup:=h i hi
 unfold dm
 rw [show ((i:Int)+1).toNat=i+1 by omega]
 simp only [kX]
 rw [if_pos (by omega),Int.toNat_natCast]
 by_cases hp:0≤dx t i
 ·rw [wP h i ((dx t i+1).toNat) (dx t i) (by omega) (by omega) (by omega)]
 ·rw [show (dx t i+1).toNat=0 by omega]
  congr 1
  cases i with
  |zero=>rfl
  |succ i=>simp [kX,hp]
def nX (t:List aL)(i:Nat):Bool:=
 lX t i&&(dH (dX t i)||(bA t (i:Int)).length==0)&&ly t i&&(i==0||(decide (0≤dx t i)&&decide (dx t i<(i:Int))&&decide ((dm t (dx t i)).length≤4)))
theorem wt {k:Nat}(hk:1≤k)(x a b:Int):bj.f aG k x a b=some (decide (a≤x)&&decide (x≤b)):=by
 obtain ⟨k,rfl⟩:∃m,k=m+1:=⟨k - 1,by omega⟩
 rw [bj.f_eq]
 by_cases h:a≤x
 ·have:x≥a:=h
  simp [h]
 ·have:¬x≥a:=h
  simp [h]
set_option maxHeartbeats 2000000 in
theorem nQ (t:List aL)(ht:t.length≤8)(k:Nat)(hk:20≤k)(h0:dx t 0=-1):∀(j i:Nat),i+j=t.length→Iu t i→∀deep:List Int,deep.length=t.length→(i=0→deep[0]?=some 0)→
  (∀q,q<i→deep[q]?=some (((dm t (q:Int)).length:Int) - 1))→∀n,j+1≤n→ai.l0 aG k n (i:Int) t deep=some ((List.range' i (t.length - i)).all (nX t))
 |0,i,hij,hu,deep,hdl,hd0,hd,n,hn=>by
  obtain ⟨n,rfl⟩:∃m,n=m+1:=⟨n - 1,by omega⟩
  rw [ai.l0_eq]
  have h1:¬((i:Int)<(t.length:Int)):=by omega
  simp only [h1,decide_false,cond]
  rw [show t.length - i=0 by omega];rfl
 |j+1,i,hij,hu,deep,hdl,hd0,hd,n,hn=>by
  obtain ⟨n,rfl⟩:∃m,n=m+1:=⟨n - 1,by omega⟩
  have hlt:i<t.length:=by omega
  have h1:((i:Int)<(t.length:Int)):=by omega
  rw [ai.l0_eq,sJ _ _ _ hlt]
  simp only [h1,decide_true,cond,aM hlt,Option.bind_some,eC hlt,kV hlt,wt (show 1≤k by omega),qs t _ (show t.length≤17592186044415 by omega) (show t.length+2≤k by omega),dY (show 1≤k by omega),
   bu (show (i:Int)≤_ by omega),bb ((i:Int) - 1) (by omega)]
  -- what comes behind the looks at the kind and the kids
  have rest:∀g:Bool,nX t i=(g&&(i==0||(decide (0≤dx t i)&&decide (dx t i<(i:Int))&&decide ((dm t (dx t i)).length≤4))))→g=true→
    (bif ((i:Int)==0) then ai.l0 aG k n ((i+1:Nat):Int) t deep
     else bif (!(!(decide (0≤dx t i)&&decide (dx t i≤(i:Int) - 1)))) then
     bif decide (0≤dx t i)&&decide (dx t i<(deep.length:Int)) then
      (deep[(dx t i).toNat]?).bind fun e_6=>
      bif decide (e_6≥4) then some false
      else
      bif decide (0≤dx t i)&&decide (dx t i<(deep.length:Int)) then
       (deep[(dx t i).toNat]?).bind fun e_7=>
       bif decide (0≤(i:Int))&&decide ((i:Int)<(deep.length:Int)) then
       (deep[((i:Int)).toNat]?).bind fun e_8=>
       ai.l0 aG k n ((i+1:Nat):Int) t (deep.set ((i:Int)).toNat (IntKind.i64.wrap (e_7+1)))
       else none
      else none
     else none
     else some false)=some (nX t i&&(List.range' (i+1) (t.length - (i+1))).all (nX t)):=by
   intro g hg hgt
   subst hgt
   rw [Bool.true_and] at hg
   by_cases hi0:i=0
   ·subst hi0
    have hr:nX t 0=true:=by rw [hg];rfl
    have hu1:Iu t 1:=fun q hq=>by
     have:q=0:=by omega
     subst this;rw [h0];decide
    have hw:(dm t ((0:Nat):Int)).length=1:=by
     rw [wN hu1 (by omega),h0,kg (by decide)];rfl
    have ih:=nQ t ht k hk h0 j 1 (by omega) hu1 deep hdl (fun h=>by omega) (fun q hq=>by
     have:q=0:=by omega
     subst this
     rw [hd0 rfl,hw];rfl) n (by omega)
    have b0:(((0:Nat):Int)==0)=true:=rfl
    simp only [b0,cond,hr,Bool.true_and]
    exact ih
   ·have b0:((i:Int)==0)=false:=beq_eq_false_iff_ne.2 (by omega)
    have bn:(i==0)=false:=beq_eq_false_iff_ne.2 hi0
    rw [bn,Bool.false_or] at hg
    simp only [b0,cond]
    by_cases hp:0≤dx t i∧dx t i<(i:Int)
    ·obtain ⟨hp1,hp2⟩:=hp
     have hp3:dx t i≤(i:Int) - 1:=by omega
     have hp4:dx t i<(deep.length:Int):=by omega
     have hq:(dx t i).toNat<i:=by omega
     have e:(((dx t i).toNat:Nat):Int)=dx t i:=by omega
     have hv:=hd _ hq
     rw [e] at hv
     have hi1:(0:Int)≤(i:Int):=by omega
     have hi2:(i:Int)<(deep.length:Int):=by omega
     have hget : deep[((i : Int)).toNat]? = some (deep[i]'(by omega)) := by rw [Int.toNat_natCast]; exact List.getElem?_eq_getElem (by omega)
     simp only [hp1,hp2,hp3,hp4,decide_true,Bool.and_self,Bool.not_true,Bool.not_false,hv,Option.bind_some,hi1,hi2,hget]
     simp only [hp1,hp2,decide_true,Bool.true_and] at hg
     by_cases hw:(dm t (dx t i)).length≤4
     ·have hw':¬(((dm t (dx t i)).length:Int) - 1≥4):=by omega
      have hr:nX t i=true:=by rw [hg];simpa using hw
      have hu1:Iu t (i+1):=fun q hq=>by
       by_cases e:q=i
       ·subst e;exact hp2
       ·exact hu q (by omega)
      have hwl:dm t (i:Int)=(i:Int) :: dm t (dx t i):=wN hu1 (by omega)
      have hs:IntKind.i64.wrap (((dm t (dx t i)).length:Int) - 1+1)=((dm t (i:Int)).length:Int) - 1:=by
       rw [bb _ (by omega),hwl,List.length_cons];omega
      have ih:=nQ t ht k hk h0 j (i+1) (by omega) hu1 (deep.set i (((dm t (i:Int)).length:Int) - 1)) (by simpa using hdl) (fun h=>by omega) (fun q hq=>by
       by_cases e:q=i
       ·subst e
        rw [List.getElem?_set_self (by omega)]
       ·rw [List.getElem?_set_ne (fun h=>e h.symm)]
        exact hd q (by omega)) n (by omega)
      simp only [hw',decide_false,hr,Bool.true_and,hs,Int.toNat_natCast]
      exact ih
     ·have hw':(((dm t (dx t i)).length:Int) - 1≥4):=by omega
      have hr:nX t i=false:=by rw [hg];simpa using hw
      simp only [hw',decide_true,hr,Bool.false_and]
    ·have hr:nX t i=false:=by
      rw [hg]
      by_cases hp1:0≤dx t i
      ·have hp2:¬dx t i<(i:Int):=fun h=>hp ⟨hp1,h⟩
       simp [hp2]
      ·simp [hp1]
     have hb:(decide (0≤dx t i)&&decide (dx t i≤(i:Int) - 1))=false:=by
      by_cases hp1:0≤dx t i
      ·have hp2:¬dx t i≤(i:Int) - 1:=fun h=>hp ⟨hp1,by omega⟩
       simp [hp2]
      ·simp [hp1]
     simp only [hb,Bool.not_false,Bool.not_true,hr,Bool.false_and]
  have e1:(((bA t (i:Int)).length:Int) != 1)=!((bA t (i:Int)).length==1):=by
   simp only [bne]
   congr 1
   exact xr _ 1
  have e2:decide (((bA t (i:Int)).length:Int)<1)=((bA t (i:Int)).length==0):=by
   by_cases hh:(bA t (i:Int)).length=0
   ·simp [hh]
   ·have h3:¬(((bA t (i:Int)).length:Int)<1):=by omega
    rw [beq_eq_false_iff_ne.2 hh,decide_eq_false h3]
  have e3:decide (((bA t (i:Int)).length:Int)>0)=!((bA t (i:Int)).length==0):=by
   by_cases hh:(bA t (i:Int)).length=0
   ·simp [hh]
   ·have h3:(((bA t (i:Int)).length:Int)>0):=by omega
    rw [beq_eq_false_iff_ne.2 hh,decide_eq_true h3]
    rfl
  simp only [e1,e2,e3]
  have hrefl:nX t i=(lX t i&&(dH (dX t i)||(bA t (i:Int)).length==0)&&ly t i&&(i==0||(decide (0≤dx t i)&&decide (dx t i<(i:Int))&&decide ((dm t (dx t i)).length≤4)))):=rfl
  have hkb:(decide (0≤dX t i)&&decide (dX t i≤4))=lX t i:=rfl
  rw [hkb]
  have rest':=rest _ hrefl
  unfold ly dH at rest' hrefl
  unfold dH
  generalize lX t i=bk at rest' hrefl ⊢
  generalize (dX t i==3)=b3 at rest' hrefl ⊢
  generalize (dX t i==4)=b4 at rest' hrefl ⊢
  generalize ((bA t (i:Int)).length==0)=z at rest' hrefl ⊢
  generalize ((bA t (i:Int)).length==1)=o at rest' hrefl ⊢
  generalize nX t i=rb at rest' hrefl ⊢
  cases bk with
  |false=>simp only [Bool.false_and] at hrefl;subst hrefl;simp only [Bool.not_false,Bool.false_and]
  |true=>
   cases b3<;>cases b4<;>cases z<;>cases o<;>simp only [Bool.not_true,Bool.not_false,Bool.true_and,Bool.false_and,Bool.and_true,Bool.and_false,Bool.or_true,Bool.true_or,Bool.or_false,Bool.false_or,Bool.and_self,Bool.or_self] at rest' hrefl ⊢<;>
    first|(exact rest' trivial)|(exact rest' rfl)|(subst hrefl;simp only [Bool.false_and];done)|(subst hrefl;rfl)
theorem xQ {k:Nat}(hk:21≤k)(t:List aL):ai.f aG k t=some (decide (1≤t.length)&&decide (t.length≤8)&&(dx t 0==-1)&&(List.range t.length).all (nX t)):=by
 obtain ⟨k,rfl⟩:∃m,k=m+1:=⟨k - 1,by omega⟩
 rw [ai.f_eq]
 by_cases h1:1≤t.length
 ·have h1':¬((t.length:Int)<1):=by omega
  by_cases h8:t.length≤8
  ·have h8':¬((t.length:Int)>8):=by omega
   have hr:rd t 0=some t[0]:=aM (i:=0) h1
   have hb:(((t.length:Int)==(t.length:Int))&&(decide (0≤(t.length:Int))&&decide ((t.length:Int)*8≤140737488355328)))=true:=by simp;omega
   simp only [h1,h1',h8,h8',decide_true,decide_false,Bool.not_false,cond,hr,Option.bind_some,kV h1,hb,Bool.true_and]
   by_cases hp:dx t 0=-1
   ·have b1:(dx t 0 != -1)=false:=by simp [hp]
    have b2:(dx t 0==-1)=true:=by simp [hp]
    have:=nQ t h8 k (by omega) hp t.length 0 (by omega) (fun q hq=>absurd hq (Nat.not_lt_zero q)) (List.replicate ((t.length:Int)).toNat 0) (by simp) (fun _=>by
     rw [List.getElem?_replicate,if_pos (by omega)]) (fun q hq=>absurd hq (Nat.not_lt_zero q)) k (by omega)
    rw [Nat.sub_zero,←List.range_eq_range'] at this
    simp only [b1,b2,Bool.true_and]
    exact this
   ·have b1:(dx t 0 != -1)=true:=by simpa using hp
    have b2:(dx t 0==-1)=false:=by simpa using hp
    simp only [b1,b2,Bool.false_and]
  ·have h8':((t.length:Int)>8):=by omega
   simp only [h1',h8,h8',decide_true,decide_false,Bool.not_false,Bool.not_true,cond,Bool.false_and,Bool.and_false]
 ·have h1':((t.length:Int)<1):=by omega
  simp only [h1,h1',decide_true,decide_false,Bool.not_true,cond,Bool.false_and]
theorem ia (t:List aL):iz t=true↔(1≤t.length∧t.length≤8)∧(∀i,i<t.length→lX t i=true∧fj t i=true)∧∀i,i<t.length→ly t i=true∧(dm t (i:Int)).length≤5:=by
 unfold iz
 simp only [Bool.and_eq_true,decide_eq_true_eq,List.all_eq_true,List.mem_range]
 constructor
 ·rintro ⟨⟨⟨h1,h2⟩,h3⟩,h4⟩;exact ⟨⟨h1,h2⟩,h3,h4⟩
 ·rintro ⟨⟨h1,h2⟩,h3,h4⟩;exact ⟨⟨⟨h1,h2⟩,h3⟩,h4⟩
theorem ig {t:List aL}(h:iz t=true):gW t:=fun i hi=>(((ia t).1 h).2.1 i hi).2
theorem Aw (t:List aL):(decide (1≤t.length)&&decide (t.length≤8)&&(dx t 0==-1)&&(List.range t.length).all (nX t))=iz t:=by
 apply Bool.eq_iff_iff.2
 rw [ia]
 simp only [Bool.and_eq_true,decide_eq_true_eq,List.all_eq_true,List.mem_range,beq_iff_eq]
 constructor
 ·rintro ⟨⟨⟨h1,h2⟩,h0⟩,hall⟩
  have href:∀i,i<t.length→lX t i=true∧(dH (dX t i)=true∨(bA t (i:Int)).length=0)∧ly t i=true∧(i=0∨(0≤dx t i∧dx t i<(i:Int)∧(dm t (dx t i)).length≤4)):=by
   intro i hi
   have:=hall i hi
   simp only [nX,Bool.and_eq_true,Bool.or_eq_true,beq_iff_eq,decide_eq_true_eq] at this
   obtain ⟨⟨⟨q1,q2⟩,q3⟩,q4⟩:=this
   refine ⟨q1,q2,q3,?_⟩
   rcases q4 with q4|⟨⟨q5,q6⟩,q7⟩
   ·exact .inl q4
   ·exact .inr ⟨q5,q6,q7⟩
  have hst:gW t:=by
   intro i hi
   unfold fj
   split
   ·simpa using h0
   ·rename_i hi0
    obtain ⟨_,_,_,q4⟩:=href i hi
    rcases q4 with q4|⟨q5,q6,q7⟩
    ·exact absurd q4 hi0
    ·have hp:(dx t i).toNat<t.length:=by omega
     have hm:(i:Int)∈bA t (((dx t i).toNat:Nat):Int):=mG.2 ⟨i,hi,by omega,by omega,rfl⟩
     obtain ⟨_,q2,_,_⟩:=href _ hp
     have hin:dH (dX t (dx t i).toNat)=true:=by
      rcases q2 with q2|q2
      ·exact q2
      ·rw [List.eq_nil_of_length_eq_zero q2] at hm;simp at hm
     simp [q5,q6,hin]
  refine ⟨⟨h1,h2⟩,fun i hi=>⟨(href i hi).1,hst i hi⟩,fun i hi=>⟨(href i hi).2.2.1,?_⟩⟩
  rw [mt hst hi,List.length_cons]
  rcases (href i hi).2.2.2 with q4|⟨_,_,q7⟩
  ·subst q4
   rw [h0,kg (by decide)];simp
  ·omega
 ·rintro ⟨⟨h1,h2⟩,h3,h4⟩
  have hst:gW t:=fun i hi=>(h3 i hi).2
  have h0:dx t 0=-1:=by
   have:=hst 0 (by omega)
   simpa [fj] using this
  refine ⟨⟨⟨h1,h2⟩,h0⟩,fun i hi=>?_⟩
  simp only [nX,Bool.and_eq_true,Bool.or_eq_true,beq_iff_eq,decide_eq_true_eq]
  refine ⟨⟨⟨(h3 i hi).1,?_⟩,(h4 i hi).1⟩,?_⟩
  ·by_cases hk:(bA t (i:Int)).length=0
   ·exact .inr hk
   ·refine .inl ?_
    obtain ⟨x,hx⟩:=List.exists_mem_of_length_pos (Nat.pos_of_ne_zero hk)
    obtain ⟨j,hj,hj0,hpj,_⟩:=mG.1 hx
    have:=hst j hj
    unfold fj at this
    rw [if_neg (by omega)] at this
    simp only [Bool.and_eq_true] at this
    rw [hpj,Int.toNat_natCast] at this
    exact this.2
  ·by_cases hi0:i=0
   ·exact .inl hi0
   ·refine .inr ?_
    have hs:=hst i hi
    unfold fj at hs
    rw [if_neg hi0] at hs
    simp only [Bool.and_eq_true,decide_eq_true_eq] at hs
    have hw:=(h4 i hi).2
    rw [mt hst hi,List.length_cons] at hw
    exact ⟨⟨hs.1.1,hs.1.2⟩,by omega⟩
theorem rk {k:Nat}(hk:21≤k)(t:List aL):ai.f aG k t=some (iz t):=by rw [xQ hk,Aw]
theorem sa (R:Type)(x:Option R):aG R x=x:=by cases x<;>rfl
theorem eY {t:List aL}(h:iz t=true):1≤t.length∧t.length≤8:=((ia t).1 h).1
theorem Aa {α:Type}{b:Bool}(h:b=true)(x y:α):(bif b then x else y)=x:=by subst h;rfl
theorem E0 (a1:Int):∃d:Int,IntKind.i64.wrap (1+(aH .and .i64 a1 1023))=d∧1≤d∧d≤1024:=by
 have h:=rA a1 10 (by omega)
 rw [show (2:Int) ^ 10 - 1=1023 by decide,show (2:Int) ^ 10=1024 by decide] at h
 rw [h,bb _ (by omega)]
 exact ⟨_,rfl,by omega,by omega⟩
def cS (t:List aL)(a:Int):Bool:=iz t&&(decide (0≤a)&&decide (a<(t.length:Int)))
theorem hI {k:Nat}(hk:30≤k)(t:List aL)(a:Int):eX.f aG k t a=some (cS t a):=by
 obtain ⟨k,rfl⟩:∃m,k=m+1:=⟨k - 1,by omega⟩
 rw [eX.f_eq,vu (by omega)]
 unfold cS
 cases hm:iz t with
 |false=>simp
 |true=>
  by_cases h0:0≤a
  ·have h0':a≥0:=h0
   simp [h0]
  ·have h0':¬a≥0:=h0
   simp [h0]
theorem bX {k:Nat}(hk:30≤k)(t:List aL)(a:Int):bW.f aG k t a=some (cS t a):=by
 obtain ⟨k,rfl⟩:∃m,k=m+1:=⟨k - 1,by omega⟩
 rw [bW.f_eq,rk (by omega)]
 unfold cS
 cases hm:iz t with
 |false=>simp
 |true=>
  by_cases h0:0≤a
  ·have h0':a≥0:=h0
   simp [h0]
  ·have h0':¬a≥0:=h0
   simp [h0]
theorem c8 {t:List aL}{a:Int}(h:cS t a=true):iz t=true∧∃i:Nat,i<t.length∧a=(i:Int):=by
 unfold cS at h
 simp only [Bool.and_eq_true,decide_eq_true_eq] at h
 exact ⟨h.1,a.toNat,by omega,by omega⟩
theorem BX {t:List aL}(h:iz t=true){i:Nat}(hi:i<t.length):cS t (i:Int)=true:=by
 unfold cS
 simp [h,hi]
def lC (t:List aL)(a:Int):List Int×Int:=if cS t a then (bA t a,0) else ([],500)
theorem tY {k:Nat}(hk:40≤k)(t:List aL)(a:Int):jc.f aG k t a=some (lC t a):=by
 obtain ⟨k,rfl⟩:∃m,k=m+1:=⟨k - 1,by omega⟩
 rw [jc.f_eq,hI (by omega)]
 unfold lC
 cases hn:cS t a with
 |false=>simp
 |true=>
  have hl:=eY (c8 hn).1
  simp [mK t a (show t.length≤17592186044415 by omega) (show t.length+2≤k by omega)]
theorem fU {k:Nat}(hk:40≤k)(t:List aL)(a:Int):dM.f aG k t a=some (lC t a):=by
 obtain ⟨k,rfl⟩:∃m,k=m+1:=⟨k - 1,by omega⟩
 rw [dM.f_eq,bX (by omega)]
 unfold lC
 cases hn:cS t a with
 |false=>simp
 |true=>
  have hl:=eY (c8 hn).1
  simp [qs t a (show t.length≤17592186044415 by omega) (show t.length+2≤k by omega)]
def b1 (b:Bool):Int:=if b then 1 else 0
theorem je (b:Bool):0≤b1 b∧b1 b≤1:=by cases b<;>decide
def lS (t:List aL):List Int→Int
 |[]=>0
 |a :: ws=>lS t ws+b1 (dX t a.toNat==3)
def lE (t:List aL):List Int→Int
 |[]=>0
 |a :: ws=>lE t ws+b1 (dX t a.toNat==3)+b1 (xb t a.toNat)
theorem tl (t:List aL):∀ws,0≤lS t ws∧lS t ws≤(ws.length:Int)
 |[]=>by simp [lS]
 |a :: ws=>by
  have:=tl t ws
  have:=je (dX t a.toNat==3)
  simp only [lS,List.length_cons];omega
theorem sF (t:List aL):∀ws,0≤lE t ws∧lE t ws≤2*(ws.length:Int)
 |[]=>by simp [lE]
 |a :: ws=>by
  have:=sF t ws
  have:=je (dX t a.toNat==3)
  have:=je (xb t a.toNat)
  simp only [lE,List.length_cons];omega
def cn (t:List aL)(a:Int):Int×Int×Int:=if cS t a then (lS t (dm t a),lE t (dm t a),0) else (0,0,500)
theorem C3 {t:List aL}(h:gW t):∀i:Nat,i<t.length→∀x∈dm t (i:Int),∃j:Nat,j<t.length∧x=(j:Int):=by
 intro i
 induction i using Nat.strongRecOn with
 |_ i ih=>
  intro hi x hx
  rw [mt h hi] at hx
  rcases List.mem_cons.1 hx with rfl|hx
  ·exact ⟨i,hi,rfl⟩
  ·have hup:=h.up hi
   by_cases hp:dx t i<0
   ·rw [kg hp] at hx;exact absurd hx (by simp)
   ·have e:dx t i=(((dx t i).toNat:Nat):Int):=by omega
    rw [e] at hx
    exact ih (dx t i).toNat (by omega) (by omega) x hx
theorem lb (t:List aL)(k:Nat):∀(q p:List Int),(p++q).length≤1000→(∀x∈q,∃j:Nat,j<t.length∧x=(j:Int))→∀(r d:Int),0≤r→0≤d→r+q.length≤10000→d+2*q.length≤10000→∀n,q.length+1≤n→
  aZ.l0 aG k n r d ((p++q).length:Int) (p.length:Int) t (p++q)=some (r+lS t q,d+lE t q,0)
 |[],p,hl,hq,r,d,hr,hd,hr2,hd2,n,hn=>by
  obtain ⟨n,rfl⟩:∃m,n=m+1:=⟨n - 1,by omega⟩
  rw [aZ.l0_eq]
  have h1:¬((p.length:Int)<((p++([]:List Int)).length:Int)):=by simp
  simp only [h1,decide_false,cond,lS,lE,Int.add_zero]
 |a :: q,p,hl,hq,r,d,hr,hd,hr2,hd2,n,hn=>by
  obtain ⟨n,rfl⟩:∃m,n=m+1:=⟨n - 1,by omega⟩
  rw [aZ.l0_eq]
  obtain ⟨j,hj,rfl⟩:=hq a List.mem_cons_self
  have hlen:(p++(j:Int) :: q).length=p.length+(q.length+1):=by simp
  rw [List.length_cons] at hr2 hd2
  have h1:((p.length:Int)<((p++(j:Int) :: q).length:Int)):=by rw [hlen];omega
  have h0:(0:Int)≤(p.length:Int):=by omega
  have hg:(p++(j:Int) :: q)[((p.length:Nat):Int).toNat]?=some (j:Int):=by simp
  have hstep:∀r' d':Int,r'=r+b1 (dX t j==3)→d'=d+b1 (dX t j==3)+b1 (xb t j)→
    aZ.l0 aG k n r' d' ((p++(j:Int) :: q).length:Int) ((p.length+1:Nat):Int) t (p++(j:Int) :: q)=some (r+lS t ((j:Int) :: q),d+lE t ((j:Int) :: q),0):=by
   intro r' d' h5 h6
   have hb1:=je (dX t j==3)
   have hb2:=je (xb t j)
   have ih:=lb t k q (p++[(j:Int)]) (by simpa using hl) (fun x hx=>hq x (List.mem_cons_of_mem _ hx)) r' d' (by omega) (by omega) (by omega) (by omega) n (by simpa using hn)
   have e1:p++[(j:Int)]++q=p++(j:Int) :: q:=by simp
   have e2:((p++[(j:Int)]).length:Int)=((p.length+1:Nat):Int):=by simp
   rw [e1,e2] at ih
   rw [ih]
   simp only [lS,lE,Int.toNat_natCast,h5,h6]
   congr 1
   refine Prod.ext ?_ (Prod.ext ?_ rfl)
   ·simp only;omega
   ·simp only;omega
  simp only [h1,h0,decide_true,Bool.and_self,cond,hg,Option.bind_some,aM hj,eC hj,iC hj,bu (show (p.length:Int)≤_ by omega),bb (r+1) (by omega),bb (d+1) (by omega),bb (d+1+1) (by omega)]
  have hs:=hstep
  cases h3:(dX t j==3)<;>cases h4:xb t j<;>rw [h3,h4] at hs<;>exact hs _ _ (by simp [b1]) (by simp [b1])
theorem fC {k:Nat}(hk:50≤k)(t:List aL)(a:Int):aZ.f aG k t a=some (cn t a):=by
 obtain ⟨k,rfl⟩:∃m,k=m+1:=⟨k - 1,by omega⟩
 rw [aZ.f_eq,hI (by omega)]
 unfold cn
 cases hn:cS t a with
 |false=>simp
 |true=>
  obtain ⟨hm,i,hi,rfl⟩:=c8 hn
  have hl:=eY hm
  have hst:=ig hm
  have hw:=qO hst i hi
  have h:=lb t k (dm t (i:Int)) [] (by simp;omega) (C3 hst i hi) 0 0 (by omega) (by omega) (by omega) (by omega) k (by omega)
  simp only [Option.bind_some,Bool.not_true,cond,if_true,nY hst (show t.length≤1000 by omega) i hi (show t.length+3≤k by omega)]
  simpa using h
theorem mT {t:List aL}(hst:gW t)(k:Nat):∀(f:Nat) (a:Int),a<(t.length:Int)→a<(f:Int)→-1≤a→∀(r d:Int),0≤r→0≤d→r+f≤10000→d+2*f≤10000→∀n,f+1≤n→
  aC.l0 aG k n a r d t=some (r+lS t (dm t a),d+lE t (dm t a),0)
 |0,a,hl,hf,h0,r,d,hr,hd,hr2,hd2,n,hn=>by
  obtain ⟨n,rfl⟩:∃m,n=m+1:=⟨n - 1,by omega⟩
  rw [aC.l0_eq]
  have h1:¬a≥0:=by omega
  simp only [h1,decide_false,cond,kg (show a<0 by omega),lS,lE,Int.add_zero]
 |f+1,a,hl,hf,h0,r,d,hr,hd,hr2,hd2,n,hn=>by
  obtain ⟨n,rfl⟩:∃m,n=m+1:=⟨n - 1,by omega⟩
  rw [aC.l0_eq]
  by_cases h1:a≥0
  ·obtain ⟨i,rfl⟩:∃i:Nat,a=(i:Int):=⟨a.toNat,by omega⟩
   have hi:i<t.length:=by omega
   have hup:=hst.up hi
   have hstep:∀r' d':Int,r'=r+b1 (dX t i==3)→d'=d+b1 (dX t i==3)+b1 (xb t i)→
     aC.l0 aG k n (dx t i) r' d' t=some (r+lS t (dm t (i:Int)),d+lE t (dm t (i:Int)),0):=by
    intro r' d' h5 h6
    have hb1:=je (dX t i==3)
    have hb2:=je (xb t i)
    rw [mT hst k f (dx t i) (by omega) (by omega) (by omega) r' d' (by omega) (by omega) (by omega) (by omega) n (by omega),mt hst hi]
    simp only [lS,lE,Int.toNat_natCast,h5,h6]
    congr 1
    refine Prod.ext ?_ (Prod.ext ?_ rfl)
    ·simp only;omega
    ·simp only;omega
   have hj:∀r' d':Int,0≤d'→d'≤10000→r'=r+b1 (dX t i==3)→d'=d+b1 (dX t i==3)→aC.j8 aG k n (i:Int) r' d' t=some (r+lS t (dm t (i:Int)),d+lE t (dm t (i:Int)),0):=by
    intro r' d' h7 h8 h5 h6
    rw [aC.j8_eq]
    simp only [aM hi,Option.bind_some,iC hi,kV hi,bb (d'+1) (by omega)]
    have hs:=hstep
    cases h4:xb t i<;>rw [h4] at hs<;>exact hs _ _ (by simp [b1,h5]) (by simp [b1,h6])
   simp only [h1,decide_true,cond,aM hi,Option.bind_some,eC hi,sa,bb (r+1) (by omega),bb (d+1) (by omega)]
   have hs:=hj
   cases h3:(dX t i==3)<;>rw [h3] at hs<;>exact hs _ _ (by omega) (by omega) (by simp [b1]) (by simp [b1])
  ·simp only [h1,decide_false,cond,kg (show a<0 by omega),lS,lE,Int.add_zero]
theorem ng {k:Nat}(hk:50≤k)(t:List aL)(a:Int):aC.f aG k t a=some (cn t a):=by
 obtain ⟨k,rfl⟩:∃m,k=m+1:=⟨k - 1,by omega⟩
 rw [aC.f_eq,bX (by omega)]
 unfold cn
 cases hn:cS t a with
 |false=>simp
 |true=>
  obtain ⟨hm,i,hi,rfl⟩:=c8 hn
  have hl:=eY hm
  have hst:=ig hm
  have h:=mT hst k 8 (i:Int) (by omega) (by omega) (by omega) 0 0 (by omega) (by omega) (by omega) (by omega) k (by omega)
  simp only [Option.bind_some,Bool.not_true,cond,if_true]
  simpa using h
theorem cT {α:Type}(x y:α):(bif true then x else y)=x:=Aa rfl x y
theorem Kr {α:Type}{b:Bool}(h:b=false)(x y:α):(bif b then x else y)=y:=by subst h;rfl
theorem cF {α:Type}(x y:α):(bif false then x else y)=y:=Kr rfl x y
theorem Kw {α β:Type}{o:Option α}{a:α}(h:o=some a)(f:α→Option β):o.bind f=f a:=by subst h;rfl
theorem bS {α β:Type}(a:α)(f:α→Option β):(some a).bind f=f a:=Kw rfl f
theorem Ey {t:List aL}{a:Int}(h:cS t a=false):cn t a=(0,0,500):=by unfold cn;rw [h];rfl
theorem Eh {t:List aL}(h:iz t=true){i:Nat}(hi:i<t.length):cn t (i:Int)=(lS t (dm t (i:Int)),lE t (dm t (i:Int)),0):=by unfold cn;rw [BX h hi];rfl
end Go.Proofs.YtjkokaockhecnaaGreatDoorP
