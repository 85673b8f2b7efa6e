/- What the functions below the laws answer, in plain lists and numbers; no condition but the sizes that a machine has. -/
import Derived.Test.YtjkokaockhecnaaGreatDoorEqs0
import Derived.Test.YtjkokaockhecnaaGreatDoorEqs1
import Derived.Test.YtjkokaockhecnaaGreatDoorEqs2
import Derived.Laws.BitsLemmas
import Derived.KernelRfl
namespace Go.Proofs.YtjkokaockhecnaaGreatDoorP
open Go Go.Proofs.YtjkokaockhecnaaGreatDoorA
theorem aK (n:Int)(h:-9223372036854775808≤n∧n≤9223372036854775807):IntKind.i64.wrap n=n:=by rw [IntKind.wrap_i64];omega
theorem qW (n:Int)(h:0≤n∧n≤18446744073709551615):IntKind.u64.wrap n=n:=by
 simp [IntKind.wrap,IntKind.bits,IntKind.signed];omega
theorem zL (n:Int):IntKind.u8.wrap n=n % 256:=IntKind.wrap_u8 n
theorem tL (x y:Nat)(m:Nat)(h:x<2 ^ m):x ||| (y*2 ^ m)=x+y*2 ^ m:=by
 have:=Nat.two_pow_add_eq_or_of_lt (i:=m) (b:=x) h y
 rw [Nat.mul_comm y,Nat.or_comm,←this,Nat.add_comm]
theorem toNat_ofInt (n:Nat)(x:Int):(BitVec.ofInt n x).toNat=(x % (2 ^ n:Int)).toNat:=by
 rw [BitVec.toNat_ofInt];simp
theorem jy (k:IntKind)(x y:Int):aB .and k x y=k.wrap ((((x % (2 ^ k.bits:Int)).toNat &&& (y % (2 ^ k.bits:Int)).toNat:Nat)):Int):=by
 unfold aB
 simp only [BitVec.toNat_and,toNat_ofInt]
theorem ji (k:IntKind)(x y:Int):aB .or k x y=k.wrap ((((x % (2 ^ k.bits:Int)).toNat ||| (y % (2 ^ k.bits:Int)).toNat:Nat)):Int):=by
 unfold aB
 simp only [BitVec.toNat_or,toNat_ofInt]
theorem tB (x:Int)(m:Nat)(hm:m≤62):aB .and .i64 x (2 ^ m - 1)=x % 2 ^ m:=by
 rw [jy]
 have hp:(0:Int)<2 ^ m:=Int.pow_pos (by omega)
 have hle:(2 ^ m:Int)≤2 ^ 62:=by exact_mod_cast (Nat.pow_le_pow_right (n:=2) (by omega) hm)
 have e1:((2 ^ m - 1:Int) % (2 ^ IntKind.i64.bits:Int))=((2 ^ m - 1:Nat):Int):=by
  have:((2 ^ m - 1:Nat):Int)=2 ^ m - 1:=by
   have h1:1≤2 ^ m:=Nat.one_le_two_pow
   push_cast [h1];simp
  rw [this,Int.emod_eq_of_lt (by omega)]
  show (2 ^ m - 1:Int)<2 ^ 64
  have:(2 ^ 62:Int)<2 ^ 64:=by decide
  omega
 rw [e1,Int.toNat_natCast,Nat.and_two_pow_sub_one_eq_mod]
 have hx0:0≤x % (2 ^ IntKind.i64.bits:Int):=Int.emod_nonneg _ (by decide)
 have e2:(((x % (2 ^ IntKind.i64.bits:Int)).toNat % 2 ^ m:Nat):Int)=x % 2 ^ m:=by
  rw [Int.natCast_emod,Int.toNat_of_nonneg hx0]
  push_cast
  have hd:(2 ^ m:Int) ∣ (2 ^ IntKind.i64.bits:Int):=by
   refine ⟨2 ^ (64 - m),?_⟩
   rw [←Int.pow_add]
   show (2:Int) ^ 64=_
   congr 1;omega
  rw [Int.emod_emod_of_dvd _ hd]
 rw [e2]
 have h1:0≤x % 2 ^ m:=Int.emod_nonneg _ (by omega)
 have h2:x % 2 ^ m<2 ^ m:=Int.emod_lt_of_pos _ hp
 have h3:(2 ^ 62:Int)≤9223372036854775807:=by decide
 exact aK _ ⟨by omega,by omega⟩
theorem qI (x y:Int)(m:Nat)(hx:0≤x)(hxm:x<2 ^ m)(hy:0≤y)(ht:x+y*2 ^ m≤9223372036854775807):aB .or .i64 x (y*2 ^ m)=x+y*2 ^ m:=by
 rw [ji]
 have hp:(0:Int)<2 ^ m:=Int.pow_pos (by omega)
 have hym:0≤y*2 ^ m:=Int.mul_nonneg hy (by omega)
 have e1:x % (2 ^ IntKind.i64.bits:Int)=x:=Int.emod_eq_of_lt hx (Int.lt_of_le_of_lt (b:=9223372036854775807) (by omega) (by decide))
 have e2:(y*2 ^ m) % (2 ^ IntKind.i64.bits:Int)=y*2 ^ m:=Int.emod_eq_of_lt hym (Int.lt_of_le_of_lt (b:=9223372036854775807) (by omega) (by decide))
 rw [e1,e2]
 have e3:(y*2 ^ m).toNat=y.toNat*2 ^ m:=by
  rw [Int.toNat_mul hy (by omega)]
  congr 1
 have hxn:x.toNat<2 ^ m:=by
  have:((x.toNat:Nat):Int)<((2 ^ m:Nat):Int):=by rw [Int.toNat_of_nonneg hx];push_cast;exact hxm
  exact Int.ofNat_lt.1 this
 rw [e3,tL _ _ _ hxn]
 have:((x.toNat+y.toNat*2 ^ m:Nat):Int)=x+y*2 ^ m:=by
  push_cast
  rw [Int.toNat_of_nonneg hx,Int.toNat_of_nonneg hy]
 rw [this]
 exact aK _ ⟨by omega,ht⟩
theorem zw (x y:Int)(m:Nat)(hx:0≤x)(hxm:x<2 ^ m)(hy:0≤y)(ht:x+y*2 ^ m≤18446744073709551615):aB .or .u64 x (y*2 ^ m)=x+y*2 ^ m:=by
 rw [ji]
 have hp:(0:Int)<2 ^ m:=Int.pow_pos (by omega)
 have hym:0≤y*2 ^ m:=Int.mul_nonneg hy (by omega)
 have e1:x % (2 ^ IntKind.u64.bits:Int)=x:=Int.emod_eq_of_lt hx (Int.lt_of_le_of_lt (b:=18446744073709551615) (by omega) (by decide))
 have e2:(y*2 ^ m) % (2 ^ IntKind.u64.bits:Int)=y*2 ^ m:=Int.emod_eq_of_lt hym (Int.lt_of_le_of_lt (b:=18446744073709551615) (by omega) (by decide))
 rw [e1,e2]
 have e3:(y*2 ^ m).toNat=y.toNat*2 ^ m:=by
  rw [Int.toNat_mul hy (by omega)]
  congr 1
 have hxn:x.toNat<2 ^ m:=by
  have:((x.toNat:Nat):Int)<((2 ^ m:Nat):Int):=by rw [Int.toNat_of_nonneg hx];push_cast;exact hxm
  exact Int.ofNat_lt.1 this
 rw [e3,tL _ _ _ hxn]
 have:((x.toNat+y.toNat*2 ^ m:Nat):Int)=x+y*2 ^ m:=by
  push_cast
  rw [Int.toNat_of_nonneg hx,Int.toNat_of_nonneg hy]
 rw [this]
 exact qW _ ⟨by omega,ht⟩
def may (x:Int):Bool:=decide (0≤x)&&decide (x≤2147483647)
theorem uy {k:Nat}(hk:1≤k)(x:Int):ka.f aF k x=some (may x):=by
 obtain ⟨k,rfl⟩:∃m,k=m+1:=⟨k - 1,by omega⟩
 rw [ka.f_eq]
 unfold may
 by_cases h:0≤x
 ·have:x≥0:=h
  simp [h]
 ·have:¬x≥0:=h
  simp [h]
theorem JZ {k:Nat}(hk:2≤k)(x:Int):dE.f aF k x=some (may x):=by
 obtain ⟨k,rfl⟩:∃m,k=m+2:=⟨k - 2,by omega⟩
 rw [dE.f_eq,bB.f_eq]
 unfold may
 by_cases h:0≤x
 ·have:x≥0:=h
  simp [h]
 ·have:¬x≥0:=h
  simp [h]
def w4 (x:Int):List UInt8:=ag [IntKind.u8.wrap (Int.fdiv x 1),IntKind.u8.wrap (Int.fdiv x (2 ^ 8)),IntKind.u8.wrap (Int.fdiv x (2 ^ 16)),IntKind.u8.wrap (Int.fdiv x (2 ^ 24))]
def w8 (x:Int):List UInt8:=ag [IntKind.u8.wrap (Int.fdiv x 1),IntKind.u8.wrap (Int.fdiv x (2 ^ 8)),IntKind.u8.wrap (Int.fdiv x (2 ^ 16)),IntKind.u8.wrap (Int.fdiv x (2 ^ 24)),
 IntKind.u8.wrap (Int.fdiv x (2 ^ 32)),IntKind.u8.wrap (Int.fdiv x (2 ^ 40)),IntKind.u8.wrap (Int.fdiv x (2 ^ 48)),IntKind.u8.wrap (Int.fdiv x (2 ^ 56))]
theorem M6 (m:Nat)(x:Int):dM.f aF (m+12) x 4=some (w4 x):=by kernel_rfl
theorem M7 (m:Nat)(x:Int):dM.f aF (m+12) x 8=some (w8 x):=by kernel_rfl
theorem OS (m:Nat)(x:Int):aT.f aF (m+12) x 4=some (w4 x):=by kernel_rfl
theorem OE (m:Nat)(x:Int):aT.f aF (m+12) x 8=some (w8 x):=by kernel_rfl
def put (x w:Int):List UInt8×Int:=if w=8 then (w8 x,0) else if w=4∧may x=true then (w4 x,0) else ([],300)
def val:List UInt8→Nat
 |[]=>0
 |b :: l=>b.toNat+256*val l
theorem xn:∀l:List UInt8,val l<2 ^ (8*l.length)
 |[]=>by simp [val]
 |b :: l=>by
  have:=xn l
  have hb:b.toNat<256:=b.toNat_lt
  simp only [val,List.length_cons]
  rw [show 8*(l.length+1)=8+8*l.length by omega,Nat.pow_add]
  have:256*(val l+1)≤256*2 ^ (8*l.length):=Nat.mul_le_mul_left _ this
  omega
theorem vo:∀l m:List UInt8,val (l++m)=val l+2 ^ (8*l.length)*val m
 |[],m=>by simp [val]
 |b :: l,m=>by
  simp only [List.cons_append,val,vo l m,List.length_cons]
  rw [show 8*(l.length+1)=8+8*l.length by omega,Nat.pow_add,Nat.mul_add,←Nat.mul_assoc,Nat.add_assoc]
def dG (s:List UInt8):Int:=IntKind.i64.wrap (val s)
theorem aP {α:Type}{l:List α}{i:Nat}(h:i<l.length):rd l (i:Int)=some l[i]:=by
 unfold rd
 have:decide ((0:Int)≤(i:Int))=true:=by simp
 rw [this]
 simp only [cond,Int.toNat_natCast]
 exact List.getElem?_eq_getElem h
theorem wb (s:List UInt8)(hs:s.length≤8):∀(j i:Nat),i+j=s.length→∀k n,j+1≤n→eQ.l0 aF k n s (val (s.take i):Int) (s.length:Int) (i:Int)=some (dG s)
 |0,i,hij,k,n,hn=>by
  obtain ⟨n,rfl⟩:∃m,n=m+1:=⟨n - 1,by omega⟩
  rw [eQ.l0_eq]
  have:¬((i:Int)<(s.length:Int)):=by omega
  simp only [this,decide_false,cond,dG]
  rw [List.take_of_length_le (by omega)]
 |j+1,i,hij,k,n,hn=>by
  obtain ⟨n,rfl⟩:∃m,n=m+1:=⟨n - 1,by omega⟩
  rw [eQ.l0_eq]
  have hlt:i<s.length:=by omega
  have h1:((i:Int)<(s.length:Int)):=by omega
  have e8:IntKind.i64.wrap (8*(i:Int))=8*(i:Int):=aK _ (by omega)
  have e9:IntKind.i64.wrap ((i:Int)+1)=((i+1:Nat):Int):=by rw [aK _ (by omega)];rfl
  have h2:¬(8*(i:Int)<0):=by omega
  have hb:(s[i].toNat:Int)≤255:=by have:s[i].toNat<256:=s[i].toNat_lt;omega
  have hv:=xn (s.take i)
  rw [List.length_take,Nat.min_eq_left (by omega)] at hv
  have hpow:(2:Nat) ^ (8*i)≤2 ^ 56:=Nat.pow_le_pow_right (by omega) (by omega)
  have hbp:s[i].toNat*2 ^ (8*i)≤255*2 ^ (8*i):=Nat.mul_le_mul_right _ (by omega)
  have e10:(8*(i:Int)).toNat=8*i:=by omega
  have e11:min (8*i) IntKind.u64.bits=8*i:=Nat.min_eq_left (by show 8*i≤64;omega)
  have e12:IntKind.u64.wrap (s[i].toNat:Int)=(s[i].toNat:Int):=qW _ (by omega)
  have c1:((2:Int) ^ (8*i))=((2 ^ (8*i):Nat):Int):=by push_cast;rfl
  have hmulI:(s[i].toNat:Int)*2 ^ (8*i)=((s[i].toNat*2 ^ (8*i):Nat):Int):=by rw [c1];push_cast;rfl
  have p56:(2:Nat) ^ 56=72057594037927936:=by decide
  have e13:IntKind.u64.wrap ((s[i].toNat:Int)*2 ^ (8*i))=(s[i].toNat:Int)*2 ^ (8*i):=by
   rw [hmulI];exact qW _ (by omega)
  simp only [h1,decide_true,cond,aP hlt,Option.bind_some,e8,h2,decide_false,e9,e10,e11,e12,e13]
  rw [zw _ _ _ (by omega) (by rw [c1];exact Int.ofNat_lt.2 hv) (by omega) (by rw [hmulI];omega)]
  have e14:(val (s.take i):Int)+(s[i].toNat:Int)*2 ^ (8*i)=(val (s.take (i+1)):Int):=by
   rw [List.take_succ_eq_append_getElem hlt,vo,List.length_take,Nat.min_eq_left (by omega),hmulI]
   simp only [val]
   rw [Nat.mul_zero,Nat.add_zero,Nat.mul_comm]
   push_cast;rfl
  rw [e14]
  exact wb s hs j (i+1) (by omega) k n (by omega)
theorem eE {k:Nat}(hk:11≤k)(s:List UInt8)(hs:s.length≤8):eQ.f aF k s=some (dG s):=by
 obtain ⟨k,rfl⟩:∃m,k=m+1:=⟨k - 1,by omega⟩
 rw [eQ.f_eq]
 have:=wb s hs s.length 0 (by omega) k k (by omega)
 simpa [val] using this
theorem tY (s:List UInt8)(hs:s.length≤8):∀(i:Nat),i≤s.length→∀k n,i+1≤n→bh.l0 aF k n s (val (s.drop i):Int) ((i:Int) - 1)=some (dG s)
 |0,_,k,n,hn=>by
  obtain ⟨n,rfl⟩:∃m,n=m+1:=⟨n - 1,by omega⟩
  rw [bh.l0_eq]
  have h1:¬(((0:Nat):Int) - 1≥0):=by omega
  simp only [h1,decide_false,cond,List.drop_zero]
  rfl
 |i+1,hi,k,n,hn=>by
  obtain ⟨n,rfl⟩:∃m,n=m+1:=⟨n - 1,by omega⟩
  rw [bh.l0_eq]
  have hlt:i<s.length:=by omega
  have e0:(((i+1:Nat):Int) - 1)=(i:Int):=by omega
  have h1:((i:Int)≥0):=by omega
  have e9:IntKind.i64.wrap ((i:Int) - 1)=(i:Int) - 1:=aK _ (by omega)
  have hv:=xn (s.drop (i+1))
  rw [List.length_drop] at hv
  have hpow:(2:Nat) ^ (8*(s.length - (i+1)))≤2 ^ 56:=Nat.pow_le_pow_right (by omega) (by omega)
  have p56:(2:Nat) ^ 56=72057594037927936:=by decide
  have hb:s[i].toNat<256:=s[i].toNat_lt
  have e12:IntKind.u64.wrap (s[i].toNat:Int)=(s[i].toNat:Int):=qW _ (by omega)
  have e13:IntKind.u64.wrap ((val (s.drop (i+1)):Int)*2 ^ (min 8 IntKind.u64.bits))=(val (s.drop (i+1)):Int)*2 ^ 8:=by
   show IntKind.u64.wrap ((val (s.drop (i+1)):Int)*2 ^ 8)=_
   exact qW _ (by omega)
  have e14:aB .or .u64 ((val (s.drop (i+1)):Int)*2 ^ 8) (s[i].toNat:Int)=(val (s.drop i):Int):=by
   have hc:∀x y:Int,aB .or .u64 x y=aB .or .u64 y x:=by intro x y;rw [ji,ji,Nat.or_comm]
   rw [hc,zw _ _ 8 (by omega) (by show (s[i].toNat:Int)<256;omega) (by omega) (by omega),List.drop_eq_getElem_cons hlt]
   have e15:(val (s[i] :: s.drop (i+1)):Int)=(s[i].toNat:Int)+256*(val (s.drop (i+1)):Int):=by rw [val,Int.natCast_add,Int.natCast_mul];rfl
   rw [e15];omega
  simp only [e0,h1,decide_true,cond,aP hlt,Option.bind_some,e9,e12,e13,e14]
  exact tY s hs i (by omega) k n (by omega)
theorem lx {k:Nat}(hk:11≤k)(s:List UInt8)(hs:s.length≤8):bh.f aF k s=some (dG s):=by
 obtain ⟨k,rfl⟩:∃m,k=m+1:=⟨k - 1,by omega⟩
 rw [bh.f_eq,aK _ (by omega)]
 have:=tY s hs s.length (Nat.le_refl _) k k (by omega)
 simpa [val] using this
def get (s:List UInt8)(at_ w:Int):Int×Int:=
 if (w=4∨w=8)∧0≤at_∧at_+w≤(s.length:Int) then
  if w=4∧may (dG ((s.take (at_+w).toNat).drop at_.toNat))=false then (0,300) else (dG ((s.take (at_+w).toNat).drop at_.toNat),0)
 else (0,300)
theorem pw (s:List UInt8)(a w:Int)(h0:0≤a)(hw:0≤w)(hl:a+w≤(s.length:Int)):((s.take (a+w).toNat).drop a.toNat).length=w.toNat:=by
 simp only [List.length_drop,List.length_take];omega
theorem Ba {k:Nat}(hk:13≤k)(s:List UInt8)(hs:(s.length:Int)≤9223372036854775000)(a w:Int)(ha:-9223372036854775808≤a∧a≤9223372036854775807):qh.f aF k s a w=some (get s a w):=by
 obtain ⟨k,rfl⟩:∃m,k=m+1:=⟨k - 1,by omega⟩
 rw [qh.f_eq]
 have body:∀v:Int,v=4∨v=8→
   (bif (!(decide (a<0))) then
    bif (!(decide (a>(s.length:Int)))) then
     bif decide ((IntKind.i64.wrap ((s.length:Int) - a))<v) then
     some ((0:Int),(300:Int))
     else
     bif decide (0≤IntKind.i64.wrap (a+v))&&decide (IntKind.i64.wrap (a+v)≤((s.length:Nat):Int)) then
      bif decide (0≤a)&&decide (a≤(((IntKind.i64.wrap (a+v)).toNat:Nat):Int)) then
      (eQ.f aF k (List.drop (a.toNat) (List.take ((IntKind.i64.wrap (a+v)).toNat) s))).bind fun r_1=>
      bif (v==4) then
       (ka.f aF k r_1).bind fun r_2=>
       bif (!r_2) then
       some (0,300)
       else
       some (r_1,0)
      else
       some (r_1,0)
      else
      none
     else
      none
    else
     some (0,300)
    else
    some (0,300))=some (get s a v):=by
  intro v hv
  unfold get
  by_cases h0:a<0
  ·have:¬((v=4∨v=8)∧0≤a∧a+v≤(s.length:Int)):=by omega
   simp [h0,this]
  ·by_cases h1:a>(s.length:Int)
   ·have:¬((v=4∨v=8)∧0≤a∧a+v≤(s.length:Int)):=by omega
    simp [h0,h1,this]
   ·rw [aK ((s.length:Int) - a) (by omega)]
    by_cases h2:(s.length:Int) - a<v
    ·have:¬((v=4∨v=8)∧0≤a∧a+v≤(s.length:Int)):=by omega
     simp [h0,h1,h2,this]
    ·have h3:(v=4∨v=8)∧0≤a∧a+v≤(s.length:Int):=by omega
     have h3':=h3.2
     have hv8:v≤8:=by omega
     rw [aK (a+v) (by omega)]
     have h4:0≤a+v:=by omega
     have h5:a≤(((a+v).toNat:Nat):Int):=by omega
     rw [eE (by omega) _ (by rw [pw s a v (by omega) (by omega) (by omega)];omega),if_pos h3]
     simp only [h0,h1,h2,h3'.1,h3'.2,h4,h5,decide_true,decide_false,Bool.not_false,Bool.and_self,cond,Option.bind_some,uy (k:=k) (by omega)]
     by_cases h6:v=4
     ·subst h6
      cases hm:may (dG ((s.take (a+4).toNat).drop a.toNat))<;>simp [hm]
     ·have:(v==4)=false:=by simpa using h6
      simp [h6,this]
 by_cases h4:w=4
 ·subst h4
  simpa using body 4 (.inl rfl)
 ·by_cases h8:w=8
  ·subst h8
   simpa using body 8 (.inr rfl)
  ·have b8:(w != 8)=true:=by simpa using h8
   have b4:(w != 4)=true:=by simpa using h4
   simp [b4,b8,get,h4,h8]
theorem fy {k:Nat}(hk:13≤k)(s:List UInt8)(hs:(s.length:Int)≤9223372036854775000)(a w:Int)(ha:-9223372036854775808≤a∧a≤9223372036854775807):cz.f aF k s a w=some (get s a w):=by
 obtain ⟨k,rfl⟩:∃m,k=m+1:=⟨k - 1,by omega⟩
 rw [cz.f_eq]
 have body:∀v:Int,v=4∨v=8→
   (bif (!(decide (a<0))) then
    bif decide (a>(IntKind.i64.wrap ((s.length:Int) - v))) then
    some ((0:Int),(300:Int))
    else
    bif decide (0≤IntKind.i64.wrap (a+v))&&decide (IntKind.i64.wrap (a+v)≤((s.length:Nat):Int)) then
     bif decide (0≤a)&&decide (a≤(((IntKind.i64.wrap (a+v)).toNat:Nat):Int)) then
     (bh.f aF k (List.drop (a.toNat) (List.take ((IntKind.i64.wrap (a+v)).toNat) s))).bind fun r_1=>
     bif (v==4) then
      (dE.f aF k r_1).bind fun r_2=>
      bif (!r_2) then
      some (0,300)
      else
      some (r_1,0)
     else
      some (r_1,0)
     else
     none
    else
     none
   else
    some (0,300))=some (get s a v):=by
  intro v hv
  unfold get
  by_cases h0:a<0
  ·have:¬((v=4∨v=8)∧0≤a∧a+v≤(s.length:Int)):=by omega
   simp [h0,this]
  ·rw [aK ((s.length:Int) - v) (by omega)]
   by_cases h2:a>(s.length:Int) - v
   ·have:¬((v=4∨v=8)∧0≤a∧a+v≤(s.length:Int)):=by omega
    simp [h0,h2,this]
   ·have h3:(v=4∨v=8)∧0≤a∧a+v≤(s.length:Int):=by omega
    have h3':=h3.2
    have hv8:v≤8:=by omega
    rw [aK (a+v) (by omega)]
    have h4:0≤a+v:=by omega
    have h5:a≤(((a+v).toNat:Nat):Int):=by omega
    rw [lx (by omega) _ (by rw [pw s a v (by omega) (by omega) (by omega)];omega),if_pos h3]
    simp only [h0,h2,h3'.1,h3'.2,h4,h5,decide_true,decide_false,Bool.not_false,Bool.and_self,cond,Option.bind_some,JZ (k:=k) (by omega)]
    by_cases h6:v=4
    ·subst h6
     cases hm:may (dG ((s.take (a+4).toNat).drop a.toNat))<;>simp [hm]
    ·have:(v==4)=false:=by simpa using h6
     simp [h6,this]
 by_cases h4:w=4
 ·subst h4
  simpa using body 4 (.inl rfl)
 ·by_cases h8:w=8
  ·subst h8
   simpa using body 8 (.inr rfl)
  ·have b8:(w != 8)=true:=by simpa using h8
   have b4:(w != 4)=true:=by simpa using h4
   simp [b4,b8,get,h4,h8]
def k6:Nat→Int→List Int
 |0,x=>[x]
 |f+1,x=>if 128≤x then (x % 128+128) :: k6 f (x / 128) else [x]
def mI (x:Int):List UInt8×Int:=if may x=true then (ag (k6 4 x),0) else ([],300)
theorem Ny:∀n:Nat,n<256→n ||| 128=n % 128+128:=by decide+kernel
theorem K7:∀n:Nat,n<256→n &&& 127=n % 128:=by decide+kernel
theorem MW (x:Int)(hx:0≤x):aB .or .u8 (IntKind.u8.wrap x) 128=x % 128+128:=by
 rw [ji,zL x]
 have e1:(x % 256) % (2 ^ IntKind.u8.bits:Int)=x % 256:=Int.emod_emod_of_dvd _ ⟨1,rfl⟩
 have e2:((128:Int) % (2 ^ IntKind.u8.bits:Int)).toNat=128:=rfl
 rw [e1,e2,Ny _ (by omega),zL]
 omega
theorem Gq (x:Int)(hx:0≤x):IntKind.u8.wrap (aB .or .i64 (aB .and .i64 x 127) 128)=x % 128+128:=by
 have e0:aB .and .i64 x 127=x % 128:=tB x 7 (by omega)
 rw [e0]
 have e3:(x % 128).toNat % 128=(x % 128).toNat:=by omega
 have e4:aB .or .i64 (x % 128) 128=x % 128+128:=by
  have:=qI (x % 128) 1 7 (by omega) (by omega) (by omega) (by omega)
  simpa using this
 rw [e4,zL]
 omega
theorem By (x:Int):Int.fdiv x (2 ^ (min 7 IntKind.i64.bits))=x / 128:=by
 show Int.fdiv x (2 ^ 7)=x / 128
 rw [Int.fdiv_eq_ediv_of_nonneg _ (by decide)]
 rfl
theorem uX:∀(f:Nat) (x:Int),1≤(k6 f x).length∧(k6 f x).length≤f+1
 |0,x=>by simp [k6]
 |f+1,x=>by
  unfold k6
  split
  ·have:=uX f (x / 128);simp;omega
  ·simp
theorem oc:∀(f:Nat) (x:Int) (out:List Int) (k n:Nat),0≤x→x<128 ^ (f+1)→f+1≤n→out.length+f+1≤140737488355328→cD.l0 aF k n x out=some (ag (out++k6 f x),0)
 |0,x,out,k,n,hx,hx2,hn,hl=>by
  obtain ⟨n,rfl⟩:∃m,n=m+1:=⟨n - 1,by omega⟩
  rw [cD.l0_eq]
  have h1:¬(x≥128):=by simp at hx2;omega
  have h2:∀y:Int,decide ((out.length+[y].length)*1≤140737488355328)=true:=fun y=>by simp;omega
  have h3:IntKind.u8.wrap x=x:=by rw [zL];omega
  simp only [h1,h2,h3,decide_true,decide_false,cond,k6]
 |f+1,x,out,k,n,hx,hx2,hn,hl=>by
  obtain ⟨n,rfl⟩:∃m,n=m+1:=⟨n - 1,by omega⟩
  rw [cD.l0_eq]
  by_cases h1:128≤x
  ·have h1':x≥128:=h1
   have h2:∀y:Int,decide ((out.length+[y].length)*1≤140737488355328)=true:=fun y=>by simp;omega
   simp only [h1',h2,decide_true,cond,By,MW x hx]
   rw [oc f (x / 128) _ k n (by omega) (by rw [Int.pow_succ] at hx2;exact Int.ediv_lt_of_lt_mul (by omega) hx2) (by omega) (by simp;omega)]
   simp [k6,h1]
  ·have h1':¬(x≥128):=h1
   have h2:∀y:Int,decide ((out.length+[y].length)*1≤140737488355328)=true:=fun y=>by simp;omega
   have h3:IntKind.u8.wrap x=x:=by rw [zL];omega
   simp only [h1',h2,h3,decide_true,decide_false,cond,k6,h1,if_false]
theorem ol:∀(f:Nat) (x:Int) (out:List Int) (k n:Nat),0≤x→x<128 ^ (f+1)→f+1≤n→out.length+f+1≤140737488355328→aQ.l0 aF k n x out=some (ag (out++k6 f x),0)
 |0,x,out,k,n,hx,hx2,hn,hl=>by
  obtain ⟨n,rfl⟩:∃m,n=m+1:=⟨n - 1,by omega⟩
  rw [aQ.l0_eq]
  have h1:¬(x>127):=by simp at hx2;omega
  have h2:∀y:Int,decide ((out.length+[y].length)*1≤140737488355328)=true:=fun y=>by simp;omega
  have h3:IntKind.u8.wrap x=x:=by rw [zL];omega
  simp only [h1,h2,h3,decide_true,decide_false,cond,k6]
 |f+1,x,out,k,n,hx,hx2,hn,hl=>by
  obtain ⟨n,rfl⟩:∃m,n=m+1:=⟨n - 1,by omega⟩
  rw [aQ.l0_eq]
  by_cases h1:128≤x
  ·have h1':x>127:=by omega
   have h2:∀y:Int,decide ((out.length+[y].length)*1≤140737488355328)=true:=fun y=>by simp;omega
   simp only [h1',h2,decide_true,cond,By,Gq x hx]
   rw [ol f (x / 128) _ k n (by omega) (by rw [Int.pow_succ] at hx2;exact Int.ediv_lt_of_lt_mul (by omega) hx2) (by omega) (by simp;omega)]
   simp [k6,h1]
  ·have h1':¬(x>127):=by omega
   have h2:∀y:Int,decide ((out.length+[y].length)*1≤140737488355328)=true:=fun y=>by simp;omega
   have h3:IntKind.u8.wrap x=x:=by rw [zL];omega
   simp only [h1',h2,h3,decide_true,decide_false,cond,k6,h1,if_false]
theorem dO {x:Int}:may x=true↔0≤x∧x≤2147483647:=by simp [may]
theorem kp {k:Nat}(hk:7≤k)(x:Int):cD.f aF k x=some (mI x):=by
 obtain ⟨k,rfl⟩:∃m,k=m+1:=⟨k - 1,by omega⟩
 rw [cD.f_eq,uy (by omega)]
 unfold mI
 cases hm:may x with
 |false=>simp
 |true=>
  obtain ⟨h1,h2⟩:=dO.1 hm
  have:=oc 4 x [] k k h1 (by have:(128:Int) ^ (4+1)=34359738368:=(by decide);omega) (by omega) (by simp)
  simp only [Option.bind_some,Bool.not_true,cond,this,List.nil_append,if_true]
theorem kl {k:Nat}(hk:7≤k)(x:Int):aQ.f aF k x=some (mI x):=by
 obtain ⟨k,rfl⟩:∃m,k=m+1:=⟨k - 1,by omega⟩
 rw [aQ.f_eq,JZ (by omega)]
 unfold mI
 cases hm:may x with
 |false=>simp
 |true=>
  obtain ⟨h1,h2⟩:=dO.1 hm
  have:=ol 4 x [] k k h1 (by have:(128:Int) ^ (4+1)=34359738368:=(by decide);omega) (by omega) (by simp)
  simp only [Option.bind_some,Bool.not_true,cond,this,List.nil_append,if_true]
def Ae (s:List UInt8)(a:Nat):Nat→Int→Nat→Int×Int×Int
 |0,_,_=>(0,0,300)
 |f+1,x,i=>
  match s[a+i]? with
  |none=>(0,0,300)
  |some b=>
   if 128≤b.toNat then Ae s a f (x+((b.toNat:Int) % 128)*2 ^ (7*i)) (i+1)
   else if may (x+((b.toNat:Int) % 128)*2 ^ (7*i))=true∧ag (k6 4 (x+((b.toNat:Int) % 128)*2 ^ (7*i)))=(s.take (a+i+1)).drop a then
    (x+((b.toNat:Int) % 128)*2 ^ (7*i),((a+i+1:Nat):Int),0)
   else (0,0,300)
def ge (s:List UInt8)(a:Int):Int×Int×Int:=if 0≤a∧a≤(s.length:Int) then Ae s a.toNat 5 0 0 else (0,0,300)
theorem Bl {α:Type}{l:List α}{i:Nat}(h:l.length≤i):l[i]?=none:=List.getElem?_eq_none h
theorem zA (x:Int)(b:UInt8)(i:Nat)(hi:i≤4)(hx:0≤x)(hx2:x<2 ^ (7*i)):
  aB .or .i64 x (IntKind.i64.wrap ((IntKind.i64.wrap (Int.tmod (b.toNat:Int) 128))*2 ^ (min (IntKind.i64.wrap (7*(i:Int))).toNat IntKind.i64.bits)))=x+((b.toNat:Int) % 128)*2 ^ (7*i)∧
  0≤x+((b.toNat:Int) % 128)*2 ^ (7*i)∧x+((b.toNat:Int) % 128)*2 ^ (7*i)<2 ^ (7*(i+1)):=by
 have hb:b.toNat<256:=b.toNat_lt
 have e1:Int.tmod (b.toNat:Int) 128=(b.toNat:Int) % 128:=Int.tmod_eq_emod_of_nonneg (by omega)
 have e2:IntKind.i64.wrap ((b.toNat:Int) % 128)=(b.toNat:Int) % 128:=aK _ (by omega)
 have e3:(IntKind.i64.wrap (7*(i:Int))).toNat=7*i:=by rw [aK _ (by omega)];omega
 have e4:min (7*i) IntKind.i64.bits=7*i:=Nat.min_eq_left (by show 7*i≤64;omega)
 rw [e1,e2,e3,e4]
 have hp:(2:Int) ^ (7*i)≤268435456:=by
  have h28:(2:Nat) ^ 28=268435456:=by decide
  have:(2:Nat) ^ (7*i)≤2 ^ 28:=Nat.pow_le_pow_right (by omega) (by omega)
  rw [h28] at this
  have c:((2 ^ (7*i):Nat):Int)=2 ^ (7*i):=Int.natCast_pow 2 (7*i)
  omega
 have hp0:(0:Int)<2 ^ (7*i):=Int.pow_pos (by omega)
 have hm0:0≤(b.toNat:Int) % 128:=by omega
 have hm1:(b.toNat:Int) % 128≤127:=by omega
 have hmul0:0≤((b.toNat:Int) % 128)*2 ^ (7*i):=Int.mul_nonneg hm0 (by omega)
 have hmul1:((b.toNat:Int) % 128)*2 ^ (7*i)≤127*2 ^ (7*i):=Int.mul_le_mul_of_nonneg_right hm1 (by omega)
 have e5:IntKind.i64.wrap (((b.toNat:Int) % 128)*2 ^ (7*i))=((b.toNat:Int) % 128)*2 ^ (7*i):=aK _ (by omega)
 rw [e5,qI x _ _ hx hx2 hm0 (by omega)]
 refine ⟨rfl,by omega,?_⟩
 have:(2:Int) ^ (7*(i+1))=128*2 ^ (7*i):=by rw [show 7*(i+1)=7+7*i by omega,Int.pow_add];rfl
 omega
theorem K1 (b:UInt8):aB .and .u8 (b.toNat:Int) 127=(b.toNat:Int) % 128:=by
 have hb:b.toNat<256:=b.toNat_lt
 rw [jy]
 have e1:((b.toNat:Int) % (2 ^ IntKind.u8.bits:Int)).toNat=b.toNat:=by show ((b.toNat:Int) % 256).toNat=_;omega
 have e2:((127:Int) % (2 ^ IntKind.u8.bits:Int)).toNat=127:=rfl
 rw [e1,e2,K7 _ hb,zL]
 omega
theorem nY (s:List UInt8)(hs:(s.length:Int)≤9223372036854775000)(a:Nat)(ha:a≤s.length):∀(f i:Nat) (x:Int) (k n:Nat),i+f=5→0≤x→x<2 ^ (7*i)→f+1≤n→7≤k→
  di.l0 aF k n s (a:Int) x (i:Int)=some (Ae s a f x i)
 |0,i,x,k,n,hi,hx,hx2,hn,hk=>by
  obtain ⟨n,rfl⟩:∃m,n=m+1:=⟨n - 1,by omega⟩
  rw [di.l0_eq]
  have h1:¬((i:Int)<5):=by omega
  simp only [h1,decide_false,cond,Ae]
 |f+1,i,x,k,n,hi,hx,hx2,hn,hk=>by
  obtain ⟨n,rfl⟩:∃m,n=m+1:=⟨n - 1,by omega⟩
  rw [di.l0_eq]
  have h1:((i:Int)<5):=by omega
  have e1:IntKind.i64.wrap ((a:Int)+(i:Int))=((a+i:Nat):Int):=by rw [aK _ (by omega)];push_cast;rfl
  simp only [h1,decide_true,cond,e1,Ae]
  by_cases hlt:a+i<s.length
  ·have h2:(((a+i:Nat):Int)<(s.length:Int)):=by omega
   have h3:¬(IntKind.i64.wrap (7*(i:Int))<0):=by rw [aK _ (by omega)];omega
   obtain ⟨v1,v2,v3⟩:=zA x s[a+i] i (by omega) hx hx2
   have e2:IntKind.i64.wrap ((i:Int)+1)=((i+1:Nat):Int):=by rw [aK _ (by omega)];push_cast;rfl
   have e3:IntKind.i64.wrap (((a+i:Nat):Int)+1)=((a+i+1:Nat):Int):=by rw [aK _ (by omega)];push_cast;rfl
   simp only [h2,h3,decide_true,decide_false,aP hlt,Option.bind_some,v1,e2,e3,kp hk,List.getElem?_eq_getElem hlt]
   by_cases hb:128≤s[a+i].toNat
   ·have hb':((s[a+i].toNat:Int)≥128):=by omega
    simp only [hb',decide_true,hb,if_true]
    exact nY s hs a ha f (i+1) _ k n (by omega) v2 v3 (by omega) hk
   ·have hb':¬((s[a+i].toNat:Int)≥128):=by omega
    simp only [hb',decide_false,hb,if_false]
    unfold mI
    cases hm:may (x+((s[a+i].toNat:Int) % 128)*2 ^ (7*i)) with
    |false=>simp
    |true=>
     have h4:(0:Int)≤((a+i+1:Nat):Int):=by omega
     have h5:(((a+i+1:Nat):Int)≤((s.length:Nat):Int)):=by omega
     have h6:(0:Int)≤(a:Int):=by omega
     have h7:(a:Int)≤((a+i+1:Nat):Int):=by omega
     simp only [if_true,h4,h5,h6,h7,decide_true,Bool.and_self,Int.toNat_natCast,true_and]
     by_cases he:ag (k6 4 (x+((s[a+i].toNat:Int) % 128)*2 ^ (7*i)))=(s.take (a+i+1)).drop a
     ·simp [he]
     ·have he':(ag (k6 4 (x+((s[a+i].toNat:Int) % 128)*2 ^ (7*i))) != (s.take (a+i+1)).drop a)=true:=by simpa using he
      simp [he,he']
  ·have h2:¬(((a+i:Nat):Int)<(s.length:Int)):=by omega
   simp only [h2,decide_false,Bl (l:=s) (i:=a+i) (by omega)]
theorem vR {k:Nat}(hk:8≤k)(s:List UInt8)(hs:(s.length:Int)≤9223372036854775000)(a:Int):di.f aF k s a=some (ge s a):=by
 obtain ⟨k,rfl⟩:∃m,k=m+1:=⟨k - 1,by omega⟩
 rw [di.f_eq]
 unfold ge
 by_cases h0:a<0
 ·have:¬(0≤a∧a≤(s.length:Int)):=by omega
  simp [h0,this]
 ·by_cases h1:a>(s.length:Int)
  ·have:¬(0≤a∧a≤(s.length:Int)):=by omega
   simp [h0,h1,this]
  ·have h2:0≤a∧a≤(s.length:Int):=by omega
   have:=nY s hs a.toNat (by omega) 5 0 0 k k (by omega) (by omega) (by decide) (by omega) (by omega)
   have ea:((a.toNat:Nat):Int)=a:=by omega
   rw [ea] at this
   simp only [h0,h1,decide_false,Bool.not_false,cond,if_pos h2]
   exact this
theorem nM (s:List UInt8)(hs:(s.length:Int)≤9223372036854775000)(a:Nat)(ha:a≤s.length):∀(f i:Nat) (x:Int) (k n:Nat),i+f=5→0≤x→x<2 ^ (7*i)→f+1≤n→7≤k→
  bb.l0 aF k n s (a:Int) x ((a+i:Nat):Int)=some (Ae s a f x i)
 |0,i,x,k,n,hi,hx,hx2,hn,hk=>by
  obtain ⟨n,rfl⟩:∃m,n=m+1:=⟨n - 1,by omega⟩
  rw [bb.l0_eq]
  have h0:((a+i:Nat):Int)≥0:=by omega
  have h1:¬(((a+i:Nat):Int)<(IntKind.i64.wrap ((a:Int)+5))):=by rw [aK _ (by omega)];omega
  simp only [h0,h1,decide_true,decide_false,cond,Ae]
  cases decide (((a+i:Nat):Int)<(s.length:Int))<;>rfl
 |f+1,i,x,k,n,hi,hx,hx2,hn,hk=>by
  obtain ⟨n,rfl⟩:∃m,n=m+1:=⟨n - 1,by omega⟩
  rw [bb.l0_eq]
  have h0:((a+i:Nat):Int)≥0:=by omega
  have h1:(((a+i:Nat):Int)<(IntKind.i64.wrap ((a:Int)+5))):=by rw [aK _ (by omega)];omega
  simp only [h0,h1,decide_true,cond,Ae]
  by_cases hlt:a+i<s.length
  ·have h2:(((a+i:Nat):Int)<(s.length:Int)):=by omega
   have e0:IntKind.i64.wrap (((a+i:Nat):Int) - (a:Int))=(i:Int):=by rw [aK _ (by omega)];omega
   have h3:¬(IntKind.i64.wrap (7*(i:Int))<0):=by rw [aK _ (by omega)];omega
   obtain ⟨v1,v2,v3⟩:=zA x s[a+i] i (by omega) hx hx2
   have hbb:s[a+i].toNat<256:=s[a+i].toNat_lt
   have et:Int.tmod (s[a+i].toNat:Int) 128=(s[a+i].toNat:Int) % 128:=Int.tmod_eq_emod_of_nonneg (by omega)
   rw [et] at v1
   have e3:IntKind.i64.wrap (((a+i:Nat):Int)+1)=((a+(i+1):Nat):Int):=by rw [aK _ (by omega)];push_cast;omega
   simp only [h2,h3,decide_true,decide_false,aP hlt,Option.bind_some,e0,K1,v1,e3,kl hk,List.getElem?_eq_getElem hlt]
   by_cases hb:128≤s[a+i].toNat
   ·have hb':¬((s[a+i].toNat:Int)<128):=by omega
    simp only [hb',decide_false,hb,if_true]
    exact nM s hs a ha f (i+1) _ k n (by omega) v2 v3 (by omega) hk
   ·have hb':((s[a+i].toNat:Int)<128):=by omega
    simp only [hb',decide_true,hb,if_false]
    unfold mI
    cases hm:may (x+((s[a+i].toNat:Int) % 128)*2 ^ (7*i)) with
    |false=>simp
    |true=>
     have h4:(0:Int)≤((a+(i+1):Nat):Int):=by omega
     have h5:(((a+(i+1):Nat):Int)≤((s.length:Nat):Int)):=by omega
     have h6:(0:Int)≤(a:Int):=by omega
     have h7:(a:Int)≤((a+(i+1):Nat):Int):=by omega
     simp only [if_true,h4,h5,h6,h7,decide_true,Bool.and_self,Int.toNat_natCast,true_and]
     rw [show a+(i+1)=a+i+1 by omega]
     by_cases he:ag (k6 4 (x+((s[a+i].toNat:Int) % 128)*2 ^ (7*i)))=(s.take (a+i+1)).drop a
     ·simp [he]
     ·have he':(ag (k6 4 (x+((s[a+i].toNat:Int) % 128)*2 ^ (7*i))) != (s.take (a+i+1)).drop a)=true:=by simpa using he
      simp [he,he']
  ·have h2:¬(((a+i:Nat):Int)<(s.length:Int)):=by omega
   simp only [h2,decide_false,Bl (l:=s) (i:=a+i) (by omega)]
theorem oa {k:Nat}(hk:8≤k)(s:List UInt8)(hs:(s.length:Int)≤9223372036854775000)(a:Int):bb.f aF k s a=some (ge s a):=by
 obtain ⟨k,rfl⟩:∃m,k=m+2:=⟨k - 2,by omega⟩
 rw [bb.f_eq]
 unfold ge
 by_cases h0:a<0
 ·have:¬(0≤a∧a≤(s.length:Int)):=by omega
  have h0':¬(a≥0):=by omega
  rw [bb.l0_eq]
  simp [h0',this]
 ·by_cases h1:a>(s.length:Int)
  ·have:¬(0≤a∧a≤(s.length:Int)):=by omega
   have h1':¬(a<(s.length:Int)):=by omega
   rw [bb.l0_eq]
   simp only [h1',decide_false,cond,if_neg this]
   cases decide (a≥0)<;>rfl
  ·have h2:0≤a∧a≤(s.length:Int):=by omega
   have:=nM s hs a.toNat (by omega) 5 0 0 (k+1) (k+1) (by omega) (by omega) (by decide) (by omega) (by omega)
   have ea:((a.toNat:Nat):Int)=a:=by omega
   simp only [Nat.add_zero,ea] at this
   rw [if_pos h2]
   exact this
theorem rR {n:Nat}(h:n<256):(UInt8.ofNat n).toNat=n:=by simp [UInt8.toNat_ofNat];omega
theorem qi (x:Int):((UInt8.ofNat (IntKind.u8.wrap x).toNat).toNat:Int)=x % 256:=by
 rw [zL,rR (by omega)];omega
theorem dL (x y:Int)(h:0≤y):Int.fdiv x y=x / y:=Int.fdiv_eq_ediv_of_nonneg _ h
theorem bm (x:Int):(w4 x).length=4:=rfl
theorem kM (x:Int):(w8 x).length=8:=rfl
theorem Ar (x:Int)(h:0≤x∧x<4294967296):(val (w4 x):Int)=x:=by
 have e:(val (w4 x):Int)=((UInt8.ofNat (IntKind.u8.wrap (Int.fdiv x 1)).toNat).toNat:Int)+256*(((UInt8.ofNat (IntKind.u8.wrap (Int.fdiv x (2 ^ 8))).toNat).toNat:Int)+256*(((UInt8.ofNat (IntKind.u8.wrap (Int.fdiv x (2 ^ 16))).toNat).toNat:Int)+
   256*(((UInt8.ofNat (IntKind.u8.wrap (Int.fdiv x (2 ^ 24))).toNat).toNat:Int)+256*0))):=by
  simp only [w4,ag,List.map_cons,List.map_nil,val,Int.natCast_add,Int.natCast_mul];rfl
 rw [e]
 simp only [qi,dL _ _ (show (0:Int)≤1 by decide),dL _ _ (show (0:Int)≤2 ^ 8 by decide),dL _ _ (show (0:Int)≤2 ^ 16 by decide),dL _ _ (show (0:Int)≤2 ^ 24 by decide)]
 have p8:(2:Int) ^ 8=256:=by decide
 have p16:(2:Int) ^ 16=65536:=by decide
 have p24:(2:Int) ^ 24=16777216:=by decide
 rw [p8,p16,p24]
 omega
theorem KX (x:Int):(val (w8 x):Int)=x % 18446744073709551616:=by
 have e:(val (w8 x):Int)=((UInt8.ofNat (IntKind.u8.wrap (Int.fdiv x 1)).toNat).toNat:Int)+256*(((UInt8.ofNat (IntKind.u8.wrap (Int.fdiv x (2 ^ 8))).toNat).toNat:Int)+256*(((UInt8.ofNat (IntKind.u8.wrap (Int.fdiv x (2 ^ 16))).toNat).toNat:Int)+
   256*(((UInt8.ofNat (IntKind.u8.wrap (Int.fdiv x (2 ^ 24))).toNat).toNat:Int)+256*(((UInt8.ofNat (IntKind.u8.wrap (Int.fdiv x (2 ^ 32))).toNat).toNat:Int)+256*(((UInt8.ofNat (IntKind.u8.wrap (Int.fdiv x (2 ^ 40))).toNat).toNat:Int)+
   256*(((UInt8.ofNat (IntKind.u8.wrap (Int.fdiv x (2 ^ 48))).toNat).toNat:Int)+256*(((UInt8.ofNat (IntKind.u8.wrap (Int.fdiv x (2 ^ 56))).toNat).toNat:Int)+256*0))))))):=by
  simp only [w8,ag,List.map_cons,List.map_nil,val,Int.natCast_add,Int.natCast_mul];rfl
 rw [e]
 simp only [qi,dL _ _ (show (0:Int)≤1 by decide),dL _ _ (show (0:Int)≤2 ^ 8 by decide),dL _ _ (show (0:Int)≤2 ^ 16 by decide),dL _ _ (show (0:Int)≤2 ^ 24 by decide),
  dL _ _ (show (0:Int)≤2 ^ 32 by decide),dL _ _ (show (0:Int)≤2 ^ 40 by decide),dL _ _ (show (0:Int)≤2 ^ 48 by decide),dL _ _ (show (0:Int)≤2 ^ 56 by decide)]
 have p8:(2:Int) ^ 8=256:=by decide
 have p16:(2:Int) ^ 16=65536:=by decide
 have p24:(2:Int) ^ 24=16777216:=by decide
 have p32:(2:Int) ^ 32=4294967296:=by decide
 have p40:(2:Int) ^ 40=1099511627776:=by decide
 have p48:(2:Int) ^ 48=281474976710656:=by decide
 have p56:(2:Int) ^ 56=72057594037927936:=by decide
 rw [p8,p16,p24,p32,p40,p48,p56]
 omega
theorem EA (x:Int)(h:may x=true):dG (w4 x)=x:=by
 obtain ⟨h1,h2⟩:=dO.1 h
 unfold dG
 rw [Ar x ⟨h1,by omega⟩,aK _ (by omega)]
theorem yi (x:Int)(h:-9223372036854775808≤x∧x≤9223372036854775807):dG (w8 x)=x:=by
 unfold dG
 rw [KX,IntKind.wrap_i64];omega
theorem nj (a b c:List UInt8)(n:Nat)(hn:n=b.length):((a++b++c).take (a.length+n)).drop a.length=b:=by
 subst hn
 rw [List.append_assoc,List.take_length_add_append,List.drop_left,List.take_left]
theorem Az (a c:List UInt8)(x:Int)(h:may x=true):get (a++w4 x++c) (a.length:Int) 4=(x,0):=by
 unfold get
 have e:(((a++w4 x++c).take ((a.length:Int)+4).toNat).drop (a.length:Int).toNat)=w4 x:=by
  have e1:((a.length:Int)+4).toNat=a.length+4:=by omega
  have e2:(a.length:Int).toNat=a.length:=by omega
  rw [e1,e2];exact nj a (w4 x) c 4 rfl
 rw [if_pos ⟨.inl rfl,by omega,by simp [bm];omega⟩,e,EA x h,h]
 simp
theorem fj (l m:List Int):ag (l++m)=ag l++ag m:=by simp [ag]
theorem kc (l:List Int):(ag l).length=l.length:=by simp [ag]
theorem xc {n:Int}(h0:0≤n)(h1:n<256):((UInt8.ofNat n.toNat).toNat:Int)=n:=by rw [rR (by omega)];omega
theorem Ht (a c d:List UInt8)(x:Int)(hx:may x=true):∀(f i:Nat) (acc y:Int),f+i=4→0≤y→y<128 ^ (f+1)→x=acc+y*2 ^ (7*i)→ag (k6 4 x)=c++ag (k6 f y)→c.length=i→
  Ae (a++ag (k6 4 x)++d) a.length (f+1) acc i=(x,((a.length+(ag (k6 4 x)).length:Nat):Int),0):=by
 intro f
 induction f generalizing c with
 |zero=>
  intro i acc y hfi hy hy2 hxe hc hcl
  have hy3:y<128:=by simpa using hy2
  have hby:(a++ag (k6 4 x)++d)[a.length+i]?=some (UInt8.ofNat y.toNat):=by
   rw [List.append_assoc,List.getElem?_append_right (by omega),hc]
   simp only [k6,ag,List.map_cons,List.map_nil]
   rw [show a.length+i - a.length=c.length by omega,List.append_assoc,List.getElem?_append_right (by omega)]
   simp
  have hbv:=xc hy (by omega:y<256)
  have hlen:(ag (k6 4 x)).length=i+1:=by rw [hc];simp [k6,ag,hcl]
  rw [Ae,hby]
  have h1:¬(128≤(UInt8.ofNat y.toNat).toNat):=by omega
  have h2:((UInt8.ofNat y.toNat).toNat:Int) % 128=y:=by omega
  simp only [h1,if_false,h2,←hxe,hx,true_and]
  have h3:ag (k6 4 x)=((a++ag (k6 4 x)++d).take (a.length+i+1)).drop a.length:=by
   rw [Nat.add_assoc];exact (nj a _ d (i+1) hlen.symm).symm
  rw [if_pos h3,hlen,Nat.add_assoc]
 |succ f ih=>
  intro i acc y hfi hy hy2 hxe hc hcl
  by_cases hb:128≤y
  ·have hby:(a++ag (k6 4 x)++d)[a.length+i]?=some (UInt8.ofNat (y % 128+128).toNat):=by
    rw [List.append_assoc,List.getElem?_append_right (by omega),hc]
    simp only [k6,hb,if_true,ag,List.map_cons]
    rw [show a.length+i - a.length=c.length by omega,List.append_assoc,List.getElem?_append_right (by omega)]
    simp
   have hbv:=xc (n:=y % 128+128) (by omega) (by omega)
   rw [Ae,hby]
   have h1:128≤(UInt8.ofNat (y % 128+128).toNat).toNat:=by omega
   have h2:((UInt8.ofNat (y % 128+128).toNat).toNat:Int) % 128=y % 128:=by omega
   simp only [h1,if_true,h2]
   refine ih (c++[UInt8.ofNat (y % 128+128).toNat]) (i+1) _ (y / 128) (by omega) (by omega) (by rw [Int.pow_succ] at hy2;exact Int.ediv_lt_of_lt_mul (by omega) hy2) ?_ ?_ (by simp [hcl])
   ·rw [hxe]
    have e:(2:Int) ^ (7*(i+1))=128*2 ^ (7*i):=by rw [show 7*(i+1)=7+7*i by omega,Int.pow_add];rfl
    rw [e,←Int.mul_assoc,Int.add_assoc,←Int.add_mul]
    congr 2
    omega
   ·rw [hc]
    simp [k6,hb,ag]
  ·have hby:(a++ag (k6 4 x)++d)[a.length+i]?=some (UInt8.ofNat y.toNat):=by
    rw [List.append_assoc,List.getElem?_append_right (by omega),hc]
    simp only [k6,hb,if_false,ag,List.map_cons,List.map_nil]
    rw [show a.length+i - a.length=c.length by omega,List.append_assoc,List.getElem?_append_right (by omega)]
    simp
   have hbv:=xc hy (by omega:y<256)
   have hlen:(ag (k6 4 x)).length=i+1:=by rw [hc];simp [k6,hb,ag,hcl]
   rw [Ae,hby]
   have h1:¬(128≤(UInt8.ofNat y.toNat).toNat):=by omega
   have h2:((UInt8.ofNat y.toNat).toNat:Int) % 128=y:=by omega
   simp only [h1,if_false,h2,←hxe,hx,true_and]
   have h3:ag (k6 4 x)=((a++ag (k6 4 x)++d).take (a.length+i+1)).drop a.length:=by
    rw [Nat.add_assoc];exact (nj a _ d (i+1) hlen.symm).symm
   rw [if_pos h3,hlen,Nat.add_assoc]
def pv (x:Int):List UInt8:=ag (k6 4 x)
theorem kP {x:Int}(h:may x=true):mI x=(pv x,0):=by simp [mI,h,pv]
theorem gp (x:Int):1≤(pv x).length∧(pv x).length≤5:=by unfold pv;rw [kc];exact uX 4 x
theorem o4 (a d:List UInt8)(x:Int)(h:may x=true):ge (a++pv x++d) (a.length:Int)=(x,(a.length:Int)+((pv x).length:Int),0):=by
 obtain ⟨h1,h2⟩:=dO.1 h
 unfold ge
 rw [if_pos ⟨by omega,by simp;omega⟩]
 have:=Ht a [] d x h 4 0 0 x (by omega) h1 (by have:(128:Int) ^ (4+1)=34359738368:=(by decide);omega) (by simp) (by simp) rfl
 have e:(a.length:Int).toNat=a.length:=by omega
 rw [e]
 unfold pv at*
 rw [this]
 simp
theorem pick {α:Type}{l:List α}{Q:α→Prop}(hl:∀e∈l,Q e){i:Int}(h0:0≤i)(h1:i<(l.length:Int)):∃e,l[i.toNat]?=some e∧Q e:=by
 have:i.toNat<l.length:=by omega
 exact ⟨_,List.getElem?_eq_getElem this,hl _ (List.getElem_mem this)⟩
def O2 (x:Int):Int:=aB .and .i64 x 2147483647
def enc (l:List Int):List UInt8:=l.flatMap fun x=>pv (O2 x)
def dC (t:List bc)(i:Nat):Int:=match t[i]? with|some n=>n.parent|none=>-1
def dy (t:List bc)(i:Nat):Int:=match t[i]? with|some n=>n.kind|none=>0
def zK (t:List bc)(i:Nat):Bool:=match t[i]? with|some n=>n.null|none=>false
theorem k4 {t:List bc}{i:Nat}(h:i<t.length):t[i].parent=dC t i:=by simp [dC,h]
theorem d5 {t:List bc}{i:Nat}(h:i<t.length):t[i].kind=dy t i:=by simp [dy,h]
theorem jf {t:List bc}{i:Nat}(h:i<t.length):t[i].null=zK t i:=by simp [zK,h]
def c8 (k:Int):Bool:=k==3||k==4
def jk (t:List bc)(a:Int)(i:Nat):List Int:=((List.range i).filter fun j=>decide (0<j)&&dC t j==a).map fun j=>((j:Nat):Int)
def bH (t:List bc)(a:Int):List Int:=jk t a t.length
theorem lC (t:List bc)(a:Int)(i:Nat):jk t a (i+1)=if 0<i∧dC t i=a then jk t a i++[(i:Int)] else jk t a i:=by
 unfold jk
 rw [List.range_succ,List.filter_append,List.map_append]
 by_cases h:0<i∧dC t i=a
 ·simp [h]
 ·rw [if_neg h]
  have:(decide (0<i)&&dC t i==a)=false:=by
   simp only [Bool.and_eq_false_iff,decide_eq_false_iff_not,beq_eq_false_iff_ne]
   by_cases h0:0<i
   ·exact .inr fun e=>h ⟨h0,e⟩
   ·exact .inl h0
  simp [this]
theorem gY (t:List bc)(a:Int):∀i,(jk t a i).length≤i
 |0=>by simp [jk]
 |i+1=>by
  have:=gY t a i
  rw [lC]
  split<;>simp<;>omega
theorem nB {t:List bc}{a:Int}{x:Int}:x∈bH t a↔∃j:Nat,j<t.length∧0<j∧dC t j=a∧x=(j:Int):=by
 unfold bH jk
 simp only [List.mem_map,List.mem_filter,List.mem_range,Bool.and_eq_true,decide_eq_true_eq,beq_iff_eq]
 constructor
 ·rintro ⟨j,⟨h1,h2,h3⟩,rfl⟩;exact ⟨j,h1,h2,h3,rfl⟩
 ·rintro ⟨j,h1,h2,h3,rfl⟩;exact ⟨j,⟨h1,h2,h3⟩,rfl⟩
theorem bu {i:Nat}(h:(i:Int)≤4611686018427387904):IntKind.i64.wrap ((i:Int)+1)=((i+1:Nat):Int):=by rw [aK _ (by omega)];push_cast;rfl
theorem nR (t:List bc)(a:Int)(ht:t.length≤17592186044415)(k:Nat):∀(j i:Nat),i+j=t.length→∀n,j+1≤n→cq.l0 aF k n a t (t.length:Int) (i:Int) (jk t a i)=some (bH t a)
 |0,i,hij,n,hn=>by
  obtain ⟨n,rfl⟩:∃m,n=m+1:=⟨n - 1,by omega⟩
  rw [cq.l0_eq]
  have h1:¬((i:Int)<(t.length:Int)):=by omega
  simp only [h1,decide_false,cond,bH]
  rw [show i=t.length by omega]
 |j+1,i,hij,n,hn=>by
  obtain ⟨n,rfl⟩:∃m,n=m+1:=⟨n - 1,by omega⟩
  rw [cq.l0_eq]
  have hlt:i<t.length:=by omega
  have h1:((i:Int)<(t.length:Int)):=by omega
  have ih:=nR t a ht k j (i+1) (by omega) n (by omega)
  rw [lC] at ih
  have hl:=gY t a i
  have h2:((jk t a i).length+[(i:Int)].length)*8≤140737488355328:=by simp;omega
  simp only [h1,decide_true,cond,aP hlt,Option.bind_some,bu (show (i:Int)≤_ by omega),k4 hlt]
  by_cases h3:(i:Int)>0
  ·have h3':0<i:=by omega
   by_cases h4:dC t i=a
   ·rw [if_pos ⟨h3',h4⟩] at ih
    have hb:(dC t i==a)=true:=by simpa using h4
    simp only [h3,decide_true,hb,h2]
    exact ih
   ·rw [if_neg (fun h=>h4 h.2)] at ih
    have hb:(dC t i==a)=false:=by simpa using h4
    simp only [h3,decide_true,hb]
    exact ih
  ·rw [if_neg (fun h=>h3 (by omega))] at ih
   simp only [h3,decide_false]
   exact ih
theorem ot {k:Nat}(t:List bc)(a:Int)(ht:t.length≤17592186044415)(hk:t.length+2≤k):cq.f aF k t a=some (bH t a):=by
 obtain ⟨k,rfl⟩:∃m,k=m+1:=⟨k - 1,by omega⟩
 rw [cq.f_eq]
 have:=nR t a ht k t.length 0 (by omega) k (by omega)
 simpa [jk] using this
theorem rF (t:List bc)(a:Int)(ht:t.length≤17592186044415)(k:Nat):∀(j i:Nat),0<i→t.length≤i+j→∀n,j+1≤n→(i≤t.length∨jk t a i=bH t a)→bA.l0 aF k n a (i:Int) t (jk t a i)=some (bH t a)
 |0,i,hi,hij,n,hn,hc=>by
  obtain ⟨n,rfl⟩:∃m,n=m+1:=⟨n - 1,by omega⟩
  rw [bA.l0_eq]
  have h1:¬((i:Int)<(t.length:Int)):=by omega
  simp only [h1,decide_false,cond]
  rcases hc with hc|hc
  ·rw [show i=t.length by omega];rfl
  ·rw [hc]
 |j+1,i,hi,hij,n,hn,hc=>by
  obtain ⟨n,rfl⟩:∃m,n=m+1:=⟨n - 1,by omega⟩
  rw [bA.l0_eq]
  by_cases hlt:i<t.length
  ·have h1:((i:Int)<(t.length:Int)):=by omega
   have ih:=rF t a ht k j (i+1) (by omega) (by omega) n (by omega) (.inl hlt)
   rw [lC] at ih
   have hl:=gY t a i
   have h2:((jk t a i).length+[(i:Int)].length)*8≤140737488355328:=by simp;omega
   simp only [h1,decide_true,cond,aP hlt,Option.bind_some,bu (show (i:Int)≤_ by omega),k4 hlt]
   by_cases h4:dC t i=a
   ·rw [if_pos ⟨hi,h4⟩] at ih
    have hb:(dC t i==a)=true:=by simpa using h4
    simp only [hb,h2,decide_true]
    exact ih
   ·rw [if_neg (fun h=>h4 h.2)] at ih
    have hb:(dC t i==a)=false:=by simpa using h4
    simp only [hb]
    exact ih
  ·have h1:¬((i:Int)<(t.length:Int)):=by omega
   simp only [h1,decide_false,cond]
   rcases hc with hc|hc
   ·rw [show i=t.length by omega];rfl
   ·rw [hc]
theorem rW {k:Nat}(t:List bc)(a:Int)(ht:t.length≤17592186044415)(hk:t.length+2≤k):bA.f aF k t a=some (bH t a):=by
 obtain ⟨k,rfl⟩:∃m,k=m+1:=⟨k - 1,by omega⟩
 rw [bA.f_eq]
 have:=rF t a ht k t.length 1 (by omega) (by omega) k (by omega) (by
  by_cases h:1≤t.length
  ·exact .inl h
  ·refine .inr ?_
   have:t=[]:=List.eq_nil_of_length_eq_zero (by omega)
   subst this
   rfl)
 have e:jk t a 1=[]:=by rw [lC,if_neg (by omega)];rfl
 rw [e] at this
 exact this
def fG (t:List bc)(i:Nat):Bool:=
 if i=0 then dC t 0==-1 else decide (0≤dC t i)&&decide (dC t i<(i:Int))&&c8 (dy t (dC t i).toNat)
theorem m9 {k:Nat}(hk:1≤k)(x:Int):gy.f aF k x=some (c8 x):=by
 obtain ⟨k,rfl⟩:∃m,k=m+1:=⟨k - 1,by omega⟩
 rw [gy.f_eq]
 unfold c8
 cases h:(x==3)<;>simp
theorem ej {k:Nat}(hk:1≤k)(x:Int):cX.f aF k x=some (!c8 x):=by
 obtain ⟨k,rfl⟩:∃m,k=m+1:=⟨k - 1,by omega⟩
 rw [cX.f_eq]
 unfold c8
 simp only [bne]
 cases h:(x==3)<;>simp
theorem sK {k:Nat}(hk:2≤k)(t:List bc)(i:Nat)(hi:i<t.length):gJ.f aF k t (i:Int)=some (fG t i):=by
 obtain ⟨k,rfl⟩:∃m,k=m+1:=⟨k - 1,by omega⟩
 rw [gJ.f_eq]
 unfold fG
 simp only [aP hi,Option.bind_some,k4 hi,m9 (show 1≤k by omega)]
 by_cases h0:i=0
 ·subst h0;simp
 ·have hb:((i:Int)==0)=false:=by simp;omega
  rw [if_neg h0]
  simp only [hb,cond]
  by_cases h1:0≤dC t i
  ·have h1':dC t i≥0:=h1
   by_cases h2:dC t i<(i:Int)
   ·have h3:(dC t i).toNat<t.length:=by omega
    have e:dC t i=(((dC t i).toNat:Nat):Int):=by omega
    have hr:rd t (dC t i)=some t[(dC t i).toNat]:=by
     have:=aP h3
     rw [←e] at this
     exact this
    simp only [h1',h1,h2,decide_true,hr,Option.bind_some,d5 h3,Bool.true_and]
   ·simp [h1,h2]
  ·have h1':¬dC t i≥0:=h1
   simp [h1]
def lD (t:List bc):Nat→Int→List Int
 |0,_=>[]
 |f+1,a=>if 0≤a then a :: lD t f (dC t a.toNat) else []
def dx (t:List bc)(a:Int):List Int:=lD t (a+1).toNat a
def ix (t:List bc):Prop:=∀i,i<t.length→fG t i=true
theorem ix.up {t:List bc}(h:ix t){i:Nat}(hi:i<t.length):dC t i<(i:Int)∧-1≤dC t i:=by
 have:=h i hi
 unfold fG at this
 split at this
 ·rename_i h0
  subst h0
  have:dC t 0=-1:=by simpa using this
  omega
 ·simp only [Bool.and_eq_true,decide_eq_true_eq] at this
  omega
theorem wi {t:List bc}(h:ix t):∀(f g:Nat) (a:Int),a<(t.length:Int)→a<(f:Int)→a<(g:Int)→lD t f a=lD t g a
 |0,0,_,_,_,_=>rfl
 |0,g+1,a,_,h1,_=>by
  have:¬0≤a:=by omega
  simp [lD,this]
 |f+1,0,a,_,_,h1=>by
  have:¬0≤a:=by omega
  simp [lD,this]
 |f+1,g+1,a,hl,h1,h2=>by
  simp only [lD]
  split
  ·rename_i h0
   have hup:=h.up (i:=a.toNat) (by omega)
   rw [wi h f g _ (by omega) (by omega) (by omega)]
  ·rfl
theorem kG {t:List bc}{a:Int}(h:a<0):dx t a=[]:=by
 unfold dx
 rw [show (a+1).toNat=0 by omega];rfl
theorem nz {t:List bc}(h:ix t){i:Nat}(hi:i<t.length):dx t (i:Int)=(i:Int) :: dx t (dC t i):=by
 have hup:=h.up hi
 unfold dx
 rw [show ((i:Int)+1).toNat=i+1 by omega]
 simp only [lD]
 rw [if_pos (by omega),Int.toNat_natCast,wi h i ((dC t i+1).toNat) (dC t i) (by omega) (by omega) (by omega)]
theorem rH {t:List bc}(h:ix t):∀i:Nat,i<t.length→1≤(dx t (i:Int)).length∧(dx t (i:Int)).length≤i+1:=by
 intro i
 induction i using Nat.strongRecOn with
 |_ i ih=>
  intro hi
  rw [nz h hi]
  have hup:=h.up hi
  by_cases hp:dC t i<0
  ·rw [kG hp];simp
  ·have e:dC t i=(((dC t i).toNat:Nat):Int):=by omega
   rw [e]
   have:=ih (dC t i).toNat (by omega) (by omega)
   simp only [List.length_cons];omega
theorem qd {t:List bc}(h:ix t)(ht:t.length≤1000)(k:Nat):∀(f:Nat) (a:Int) (out:List Int) (n:Nat),a<(t.length:Int)→a<(f:Int)→f+1≤n→out.length+f≤10000→cJ.l0 aF k n t a out=some (out++lD t f a)
 |0,a,out,n,hl,hf,hn,ho=>by
  obtain ⟨n,rfl⟩:∃m,n=m+1:=⟨n - 1,by omega⟩
  rw [cJ.l0_eq]
  have h1:¬a≥0:=by omega
  simp [h1,lD]
 |f+1,a,out,n,hl,hf,hn,ho=>by
  obtain ⟨n,rfl⟩:∃m,n=m+1:=⟨n - 1,by omega⟩
  rw [cJ.l0_eq]
  by_cases h0:0≤a
  ·have h1:a≥0:=h0
   have hlt:a.toNat<t.length:=by omega
   have e:a=((a.toNat:Nat):Int):=by omega
   have hr:rd t a=some t[a.toNat]:=by
    have:=aP hlt
    rw [←e] at this
    exact this
   have h2:(out.length+[a].length)*8≤140737488355328:=by simp;omega
   have hup:=h.up hlt
   simp only [h1,h2,decide_true,cond,hr,Option.bind_some,k4 hlt]
   rw [qd h ht k f _ _ n (by omega) (by omega) (by omega) (by simp;omega)]
   simp [lD,h0]
  ·have h1:¬a≥0:=h0
   simp [h1,lD,h0]
theorem pF {t:List bc}(h:ix t)(ht:t.length≤1000){k:Nat}(i:Nat)(hi:i<t.length)(hk:t.length+3≤k):cJ.f aF k t (i:Int)=some (dx t (i:Int)):=by
 obtain ⟨k,rfl⟩:∃m,k=m+1:=⟨k - 1,by omega⟩
 rw [cJ.f_eq,qd h ht k (i+1) _ [] k (by omega) (by omega) (by omega) (by simp;omega)]
 unfold dx
 rw [show ((i:Int)+1).toNat=i+1 by omega]
 rfl
theorem Ad (n m:Nat):((n:Int)==(m:Int))=(n==m):=by
 by_cases h:n=m
 ·simp [h]
 ·have:¬((n:Int)=(m:Int)):=by omega
  exact (beq_eq_false_iff_ne.2 this).trans (beq_eq_false_iff_ne.2 h).symm
def lZ (t:List bc)(i:Nat):Bool:=decide (0≤dy t i)&&decide (dy t i≤4)
def m6 (t:List bc)(i:Nat):Bool:=(!(dy t i==3)||(bH t (i:Int)).length==1)&&(!(dy t i==4)||!((bH t (i:Int)).length==0))
def jd (t:List bc):Bool:=
 decide (1≤t.length)&&decide (t.length≤8)&&(List.range t.length).all (fun i=>lZ t i&&fG t i)&&(List.range t.length).all (fun i=>m6 t i&&decide ((dx t (i:Int)).length≤5))
theorem uP (p:Nat→Bool)(N i:Nat)(hi:i<N):((List.range' i (N - i)).all p)=(p i&&(List.range' (i+1) (N - (i+1))).all p):=by
 rw [show N - i=(N - (i+1))+1 by omega,List.range'_succ,List.all_cons]
theorem pR (t:List bc)(h:ix t)(ht:t.length≤8)(k:Nat)(hk:20≤k):∀(j i:Nat),i+j=t.length→∀n,j+1≤n→
  bQ.l2 aF k n t (t.length:Int) (i:Int)=some ((List.range' i (t.length - i)).all fun i=>m6 t i&&decide ((dx t (i:Int)).length≤5))
 |0,i,hij,n,hn=>by
  obtain ⟨n,rfl⟩:∃m,n=m+1:=⟨n - 1,by omega⟩
  rw [bQ.l2_eq]
  have h1:¬((i:Int)<(t.length:Int)):=by omega
  simp only [h1,decide_false,cond]
  rw [show t.length - i=0 by omega];rfl
 |j+1,i,hij,n,hn=>by
  obtain ⟨n,rfl⟩:∃m,n=m+1:=⟨n - 1,by omega⟩
  rw [bQ.l2_eq]
  have hlt:i<t.length:=by omega
  have h1:((i:Int)<(t.length:Int)):=by omega
  have ih:=pR t h ht k hk j (i+1) (by omega) n (by omega)
  rw [uP _ _ _ hlt]
  simp only [h1,decide_true,cond,aP hlt,Option.bind_some,d5 hlt,ot t _ (show t.length≤17592186044415 by omega) (show t.length+2≤k by omega),pF h (show t.length≤1000 by omega) i hlt (show t.length+3≤k by omega),bu (show (i:Int)≤_ by omega),ih]
  unfold m6
  have e1:(((bH t (i:Int)).length:Int) != 1)=!((bH t (i:Int)).length==1):=by
   simp only [bne]
   congr 1
   exact Ad _ 1
  have e2:(((bH t (i:Int)).length:Int)==0)=((bH t (i:Int)).length==0):=Ad _ 0
  have e3:decide (((dx t (i:Int)).length:Int)>5)=!decide ((dx t (i:Int)).length≤5):=by
   by_cases hh:(dx t (i:Int)).length≤5
   ·have:¬(((dx t (i:Int)).length:Int)>5):=by omega
    simp [hh,this]
   ·have:(((dx t (i:Int)).length:Int)>5):=by omega
    simp [hh,this]
  simp only [e1,e2,e3]
  cases (dy t i==3)<;>cases (dy t i==4)<;>cases ((bH t (i:Int)).length==1)<;>cases ((bH t (i:Int)).length==0)<;>cases (decide ((dx t (i:Int)).length≤5))<;>simp
theorem pz (t:List bc)(ht:t.length≤8)(k:Nat)(hk:20≤k):∀(j i:Nat),i+j=t.length→(∀q,q<i→fG t q=true)→∀n,j+1≤n→
  bQ.l0 aF k n t (t.length:Int) (i:Int)=some ((List.range' i (t.length - i)).all (fun i=>lZ t i&&fG t i)&&(List.range t.length).all (fun i=>m6 t i&&decide ((dx t (i:Int)).length≤5)))
 |0,i,hij,hst,n,hn=>by
  obtain ⟨n,rfl⟩:∃m,n=m+1:=⟨n - 1,by omega⟩
  rw [bQ.l0_eq]
  have h1:¬((i:Int)<(t.length:Int)):=by omega
  have:=pR t (fun q hq=>hst q (by omega)) ht k hk t.length 0 (by omega) k (by omega)
  simp only [h1,decide_false,cond]
  rw [show t.length - i=0 by omega]
  rw [Nat.sub_zero] at this
  rw [List.range_eq_range']
  simpa using this
 |j+1,i,hij,hst,n,hn=>by
  obtain ⟨n,rfl⟩:∃m,n=m+1:=⟨n - 1,by omega⟩
  rw [bQ.l0_eq]
  have hlt:i<t.length:=by omega
  have h1:((i:Int)<(t.length:Int)):=by omega
  rw [uP _ _ _ hlt]
  simp only [h1,decide_true,cond,aP hlt,Option.bind_some,d5 hlt,sK (show 2≤k by omega) t i hlt,bu (show (i:Int)≤_ by omega)]
  unfold lZ
  by_cases h2:0≤dy t i
  ·have h2':¬(dy t i<0):=by omega
   by_cases h3:dy t i≤4
   ·have h3':¬(dy t i>4):=by omega
    cases hs:fG t i with
    |false=>simp [h2,h2',h3,h3']
    |true=>
     have ih:=pz t ht k hk j (i+1) (by omega) (fun q hq=>by
      by_cases e:q=i
      ·subst e;exact hs
      ·exact hst q (by omega)) n (by omega)
     unfold lZ at ih
     simp only [h2,h2',h3,h3',decide_true,decide_false,Bool.not_false,Bool.not_true,Bool.true_and,ih]
   ·have h3':(dy t i>4):=by omega
    simp [h2,h2',h3,h3']
  ·have h2':(dy t i<0):=by omega
   simp [h2,h2']
theorem xr {k:Nat}(hk:21≤k)(t:List bc):bQ.f aF k t=some (jd t):=by
 obtain ⟨k,rfl⟩:∃m,k=m+1:=⟨k - 1,by omega⟩
 rw [bQ.f_eq]
 unfold jd
 by_cases h0:t.length=0
 ·simp [h0]
 ·have b0:((t.length:Int)==0)=false:=beq_eq_false_iff_ne.2 (by omega)
  by_cases h8:t.length≤8
  ·have b8:¬((t.length:Int)>8):=by omega
   have h1:1≤t.length:=by omega
   have:=pz t h8 k (by omega) t.length 0 (by omega) (fun q hq=>absurd hq (Nat.not_lt_zero q)) k (by omega)
   rw [Nat.sub_zero,←List.range_eq_range'] at this
   simp only [b0,Bool.not_false,cond,b8,decide_false,h1,h8,decide_true,Bool.true_and]
   exact this
  ·have b8:((t.length:Int)>8):=by omega
   simp [b0,b8,h8]
def NG (t:List bc)(m:Nat):Prop:=∀q,q<m→dC t q<(q:Int)
theorem yx {t:List bc}{m:Nat}(h:NG t m):∀(f g:Nat) (a:Int),a<(m:Int)→a<(f:Int)→a<(g:Int)→lD t f a=lD t g a
 |0,0,_,_,_,_=>rfl
 |0,g+1,a,_,h1,_=>by
  have:¬0≤a:=by omega
  simp [lD,this]
 |f+1,0,a,_,_,h1=>by
  have:¬0≤a:=by omega
  simp [lD,this]
 |f+1,g+1,a,hl,h1,h2=>by
  simp only [lD]
  split
  ·rename_i h0
   have hup:=h a.toNat (by omega)
   rw [yx h f g _ (by omega) (by omega) (by omega)]
  ·rfl
theorem yz {t:List bc}{m:Nat}(h:NG t m){i:Nat}(hi:i<m):dx t (i:Int)=(i:Int) :: dx t (dC t i):=by
 have hup:=h i hi
 unfold dx
 rw [show ((i:Int)+1).toNat=i+1 by omega]
 simp only [lD]
 rw [if_pos (by omega),Int.toNat_natCast]
 by_cases hp:0≤dC t i
 ·rw [yx h i ((dC t i+1).toNat) (dC t i) (by omega) (by omega) (by omega)]
 ·rw [show (dC t i+1).toNat=0 by omega]
  congr 1
  cases i with
  |zero=>rfl
  |succ i=>simp [lD,hp]
def pI (t:List bc)(i:Nat):Bool:=
 lZ t i&&(c8 (dy t i)||(bH t (i:Int)).length==0)&&m6 t i&&(i==0||(decide (0≤dC t i)&&decide (dC t i<(i:Int))&&decide ((dx t (dC t i)).length≤4)))
theorem yJ {k:Nat}(hk:1≤k)(x a b:Int):bB.f aF k x a b=some (decide (a≤x)&&decide (x≤b)):=by
 obtain ⟨k,rfl⟩:∃m,k=m+1:=⟨k - 1,by omega⟩
 rw [bB.f_eq]
 by_cases h:a≤x
 ·have:x≥a:=h
  simp [h]
 ·have:¬x≥a:=h
  simp [h]
set_option maxHeartbeats 2000000 in
theorem oL (t:List bc)(ht:t.length≤8)(k:Nat)(hk:20≤k)(h0:dC t 0=-1):∀(j i:Nat),i+j=t.length→NG t i→∀deep:List Int,deep.length=t.length→(i=0→deep[0]?=some 0)→
  (∀q,q<i→deep[q]?=some (((dx t (q:Int)).length:Int) - 1))→∀n,j+1≤n→aj.l0 aF k n (i:Int) t deep=some ((List.range' i (t.length - i)).all (pI t))
 |0,i,hij,hu,deep,hdl,hd0,hd,n,hn=>by
  obtain ⟨n,rfl⟩:∃m,n=m+1:=⟨n - 1,by omega⟩
  rw [aj.l0_eq]
  have h1:¬((i:Int)<(t.length:Int)):=by omega
  simp only [h1,decide_false,cond]
  rw [show t.length - i=0 by omega];rfl
 |j+1,i,hij,hu,deep,hdl,hd0,hd,n,hn=>by
  obtain ⟨n,rfl⟩:∃m,n=m+1:=⟨n - 1,by omega⟩
  have hlt:i<t.length:=by omega
  have h1:((i:Int)<(t.length:Int)):=by omega
  rw [aj.l0_eq,uP _ _ _ hlt]
  simp only [h1,decide_true,cond,aP hlt,Option.bind_some,d5 hlt,k4 hlt,yJ (show 1≤k by omega),rW t _ (show t.length≤17592186044415 by omega) (show t.length+2≤k by omega),ej (show 1≤k by omega),
   bu (show (i:Int)≤_ by omega),aK ((i:Int) - 1) (by omega)]
  -- what comes behind the looks at the kind and the kids
  have rest:∀g:Bool,pI t i=(g&&(i==0||(decide (0≤dC t i)&&decide (dC t i<(i:Int))&&decide ((dx t (dC t i)).length≤4))))→g=true→
    (bif ((i:Int)==0) then aj.l0 aF k n ((i+1:Nat):Int) t deep
     else bif (!(!(decide (0≤dC t i)&&decide (dC t i≤(i:Int) - 1)))) then
     bif decide (0≤dC t i)&&decide (dC t i<(deep.length:Int)) then
      (deep[(dC t i).toNat]?).bind fun e_6=>
      bif decide (e_6≥4) then some false
      else
      bif decide (0≤dC t i)&&decide (dC t i<(deep.length:Int)) then
       (deep[(dC t i).toNat]?).bind fun e_7=>
       bif decide (0≤(i:Int))&&decide ((i:Int)<(deep.length:Int)) then
       (deep[((i:Int)).toNat]?).bind fun e_8=>
       aj.l0 aF k n ((i+1:Nat):Int) t (deep.set ((i:Int)).toNat (IntKind.i64.wrap (e_7+1)))
       else none
      else none
     else none
     else some false)=some (pI t i&&(List.range' (i+1) (t.length - (i+1))).all (pI t)):=by
   intro g hg hgt
   subst hgt
   rw [Bool.true_and] at hg
   by_cases hi0:i=0
   ·subst hi0
    have hr:pI t 0=true:=by rw [hg];rfl
    have hu1:NG t 1:=fun q hq=>by
     have:q=0:=by omega
     subst this;rw [h0];decide
    have hw:(dx t ((0:Nat):Int)).length=1:=by
     rw [yz hu1 (by omega),h0,kG (by decide)];rfl
    have ih:=oL t ht k hk h0 j 1 (by omega) hu1 deep hdl (fun h=>by omega) (fun q hq=>by
     have:q=0:=by omega
     subst this
     rw [hd0 rfl,hw];rfl) n (by omega)
    have b0:(((0:Nat):Int)==0)=true:=rfl
    simp only [b0,cond,hr,Bool.true_and]
    exact ih
   ·have b0:((i:Int)==0)=false:=beq_eq_false_iff_ne.2 (by omega)
    have bn:(i==0)=false:=beq_eq_false_iff_ne.2 hi0
    rw [bn,Bool.false_or] at hg
    simp only [b0,cond]
    by_cases hp:0≤dC t i∧dC t i<(i:Int)
    ·obtain ⟨hp1,hp2⟩:=hp
     have hp3:dC t i≤(i:Int) - 1:=by omega
     have hp4:dC t i<(deep.length:Int):=by omega
     have hq:(dC t i).toNat<i:=by omega
     have e:(((dC t i).toNat:Nat):Int)=dC t i:=by omega
     have hv:=hd _ hq
     rw [e] at hv
     have hi1:(0:Int)≤(i:Int):=by omega
     have hi2:(i:Int)<(deep.length:Int):=by omega
     have hget : deep[((i : Int)).toNat]? = some (deep[i]'(by omega)) := by rw [Int.toNat_natCast]; exact List.getElem?_eq_getElem (by omega)
     simp only [hp1,hp2,hp3,hp4,decide_true,Bool.and_self,Bool.not_true,Bool.not_false,hv,Option.bind_some,hi1,hi2,hget]
     simp only [hp1,hp2,decide_true,Bool.true_and] at hg
     by_cases hw:(dx t (dC t i)).length≤4
     ·have hw':¬(((dx t (dC t i)).length:Int) - 1≥4):=by omega
      have hr:pI t i=true:=by rw [hg];simpa using hw
      have hu1:NG t (i+1):=fun q hq=>by
       by_cases e:q=i
       ·subst e;exact hp2
       ·exact hu q (by omega)
      have hwl:dx t (i:Int)=(i:Int) :: dx t (dC t i):=yz hu1 (by omega)
      have hs:IntKind.i64.wrap (((dx t (dC t i)).length:Int) - 1+1)=((dx t (i:Int)).length:Int) - 1:=by
       rw [aK _ (by omega),hwl,List.length_cons];omega
      have ih:=oL t ht k hk h0 j (i+1) (by omega) hu1 (deep.set i (((dx t (i:Int)).length:Int) - 1)) (by simpa using hdl) (fun h=>by omega) (fun q hq=>by
       by_cases e:q=i
       ·subst e
        rw [List.getElem?_set_self (by omega)]
       ·rw [List.getElem?_set_ne (fun h=>e h.symm)]
        exact hd q (by omega)) n (by omega)
      simp only [hw',decide_false,hr,Bool.true_and,hs,Int.toNat_natCast]
      exact ih
     ·have hw':(((dx t (dC t i)).length:Int) - 1≥4):=by omega
      have hr:pI t i=false:=by rw [hg];simpa using hw
      simp only [hw',decide_true,hr,Bool.false_and]
    ·have hr:pI t i=false:=by
      rw [hg]
      by_cases hp1:0≤dC t i
      ·have hp2:¬dC t i<(i:Int):=fun h=>hp ⟨hp1,h⟩
       simp [hp2]
      ·simp [hp1]
     have hb:(decide (0≤dC t i)&&decide (dC t i≤(i:Int) - 1))=false:=by
      by_cases hp1:0≤dC t i
      ·have hp2:¬dC t i≤(i:Int) - 1:=fun h=>hp ⟨hp1,by omega⟩
       simp [hp2]
      ·simp [hp1]
     simp only [hb,Bool.not_false,Bool.not_true,hr,Bool.false_and]
  have e1:(((bH t (i:Int)).length:Int) != 1)=!((bH t (i:Int)).length==1):=by
   simp only [bne]
   congr 1
   exact Ad _ 1
  have e2:decide (((bH t (i:Int)).length:Int)<1)=((bH t (i:Int)).length==0):=by
   by_cases hh:(bH t (i:Int)).length=0
   ·simp [hh]
   ·have h3:¬(((bH t (i:Int)).length:Int)<1):=by omega
    rw [beq_eq_false_iff_ne.2 hh,decide_eq_false h3]
  have e3:decide (((bH t (i:Int)).length:Int)>0)=!((bH t (i:Int)).length==0):=by
   by_cases hh:(bH t (i:Int)).length=0
   ·simp [hh]
   ·have h3:(((bH t (i:Int)).length:Int)>0):=by omega
    rw [beq_eq_false_iff_ne.2 hh,decide_eq_true h3]
    rfl
  simp only [e1,e2,e3]
  have hrefl:pI t i=(lZ t i&&(c8 (dy t i)||(bH t (i:Int)).length==0)&&m6 t i&&(i==0||(decide (0≤dC t i)&&decide (dC t i<(i:Int))&&decide ((dx t (dC t i)).length≤4)))):=rfl
  have hkb:(decide (0≤dy t i)&&decide (dy t i≤4))=lZ t i:=rfl
  rw [hkb]
  have rest':=rest _ hrefl
  unfold m6 c8 at rest' hrefl
  unfold c8
  generalize lZ t i=bk at rest' hrefl ⊢
  generalize (dy t i==3)=b3 at rest' hrefl ⊢
  generalize (dy t i==4)=b4 at rest' hrefl ⊢
  generalize ((bH t (i:Int)).length==0)=z at rest' hrefl ⊢
  generalize ((bH t (i:Int)).length==1)=o at rest' hrefl ⊢
  generalize pI t i=rb at rest' hrefl ⊢
  cases bk with
  |false=>simp only [Bool.false_and] at hrefl;subst hrefl;simp only [Bool.not_false,Bool.false_and]
  |true=>
   cases b3<;>cases b4<;>cases z<;>cases o<;>simp only [Bool.not_true,Bool.not_false,Bool.true_and,Bool.false_and,Bool.and_true,Bool.and_false,Bool.or_true,Bool.true_or,Bool.or_false,Bool.false_or,Bool.and_self,Bool.or_self] at rest' hrefl ⊢<;>
    first|(exact rest' trivial)|(exact rest' rfl)|(subst hrefl;simp only [Bool.false_and];done)|(subst hrefl;rfl)
theorem AB {k:Nat}(hk:21≤k)(t:List bc):aj.f aF k t=some (decide (1≤t.length)&&decide (t.length≤8)&&(dC t 0==-1)&&(List.range t.length).all (pI t)):=by
 obtain ⟨k,rfl⟩:∃m,k=m+1:=⟨k - 1,by omega⟩
 rw [aj.f_eq]
 by_cases h1:1≤t.length
 ·have h1':¬((t.length:Int)<1):=by omega
  by_cases h8:t.length≤8
  ·have h8':¬((t.length:Int)>8):=by omega
   have hr:rd t 0=some t[0]:=aP (i:=0) h1
   have hb:(((t.length:Int)==(t.length:Int))&&(decide (0≤(t.length:Int))&&decide ((t.length:Int)*8≤140737488355328)))=true:=by simp;omega
   simp only [h1,h1',h8,h8',decide_true,decide_false,Bool.not_false,cond,hr,Option.bind_some,k4 h1,hb,Bool.true_and]
   by_cases hp:dC t 0=-1
   ·have b1:(dC t 0 != -1)=false:=by simp [hp]
    have b2:(dC t 0==-1)=true:=by simp [hp]
    have:=oL t h8 k (by omega) hp t.length 0 (by omega) (fun q hq=>absurd hq (Nat.not_lt_zero q)) (List.replicate ((t.length:Int)).toNat 0) (by simp) (fun _=>by
     rw [List.getElem?_replicate,if_pos (by omega)]) (fun q hq=>absurd hq (Nat.not_lt_zero q)) k (by omega)
    rw [Nat.sub_zero,←List.range_eq_range'] at this
    simp only [b1,b2,Bool.true_and]
    exact this
   ·have b1:(dC t 0 != -1)=true:=by simpa using hp
    have b2:(dC t 0==-1)=false:=by simpa using hp
    simp only [b1,b2,Bool.false_and]
  ·have h8':((t.length:Int)>8):=by omega
   simp only [h1',h8,h8',decide_true,decide_false,Bool.not_false,Bool.not_true,cond,Bool.false_and,Bool.and_false]
 ·have h1':((t.length:Int)<1):=by omega
  simp only [h1,h1',decide_true,decide_false,Bool.not_true,cond,Bool.false_and]
theorem iG (t:List bc):jd t=true↔(1≤t.length∧t.length≤8)∧(∀i,i<t.length→lZ t i=true∧fG t i=true)∧∀i,i<t.length→m6 t i=true∧(dx t (i:Int)).length≤5:=by
 unfold jd
 simp only [Bool.and_eq_true,decide_eq_true_eq,List.all_eq_true,List.mem_range]
 constructor
 ·rintro ⟨⟨⟨h1,h2⟩,h3⟩,h4⟩;exact ⟨⟨h1,h2⟩,h3,h4⟩
 ·rintro ⟨⟨h1,h2⟩,h3,h4⟩;exact ⟨⟨⟨h1,h2⟩,h3⟩,h4⟩
theorem iP {t:List bc}(h:jd t=true):ix t:=fun i hi=>(((iG t).1 h).2.1 i hi).2
theorem D6 (t:List bc):(decide (1≤t.length)&&decide (t.length≤8)&&(dC t 0==-1)&&(List.range t.length).all (pI t))=jd t:=by
 apply Bool.eq_iff_iff.2
 rw [iG]
 simp only [Bool.and_eq_true,decide_eq_true_eq,List.all_eq_true,List.mem_range,beq_iff_eq]
 constructor
 ·rintro ⟨⟨⟨h1,h2⟩,h0⟩,hall⟩
  have href:∀i,i<t.length→lZ t i=true∧(c8 (dy t i)=true∨(bH t (i:Int)).length=0)∧m6 t i=true∧(i=0∨(0≤dC t i∧dC t i<(i:Int)∧(dx t (dC t i)).length≤4)):=by
   intro i hi
   have:=hall i hi
   simp only [pI,Bool.and_eq_true,Bool.or_eq_true,beq_iff_eq,decide_eq_true_eq] at this
   obtain ⟨⟨⟨q1,q2⟩,q3⟩,q4⟩:=this
   refine ⟨q1,q2,q3,?_⟩
   rcases q4 with q4|⟨⟨q5,q6⟩,q7⟩
   ·exact .inl q4
   ·exact .inr ⟨q5,q6,q7⟩
  have hst:ix t:=by
   intro i hi
   unfold fG
   split
   ·simpa using h0
   ·rename_i hi0
    obtain ⟨_,_,_,q4⟩:=href i hi
    rcases q4 with q4|⟨q5,q6,q7⟩
    ·exact absurd q4 hi0
    ·have hp:(dC t i).toNat<t.length:=by omega
     have hm:(i:Int)∈bH t (((dC t i).toNat:Nat):Int):=nB.2 ⟨i,hi,by omega,by omega,rfl⟩
     obtain ⟨_,q2,_,_⟩:=href _ hp
     have hin:c8 (dy t (dC t i).toNat)=true:=by
      rcases q2 with q2|q2
      ·exact q2
      ·rw [List.eq_nil_of_length_eq_zero q2] at hm;simp at hm
     simp [q5,q6,hin]
  refine ⟨⟨h1,h2⟩,fun i hi=>⟨(href i hi).1,hst i hi⟩,fun i hi=>⟨(href i hi).2.2.1,?_⟩⟩
  rw [nz hst hi,List.length_cons]
  rcases (href i hi).2.2.2 with q4|⟨_,_,q7⟩
  ·subst q4
   rw [h0,kG (by decide)];simp
  ·omega
 ·rintro ⟨⟨h1,h2⟩,h3,h4⟩
  have hst:ix t:=fun i hi=>(h3 i hi).2
  have h0:dC t 0=-1:=by
   have:=hst 0 (by omega)
   simpa [fG] using this
  refine ⟨⟨⟨h1,h2⟩,h0⟩,fun i hi=>?_⟩
  simp only [pI,Bool.and_eq_true,Bool.or_eq_true,beq_iff_eq,decide_eq_true_eq]
  refine ⟨⟨⟨(h3 i hi).1,?_⟩,(h4 i hi).1⟩,?_⟩
  ·by_cases hk:(bH t (i:Int)).length=0
   ·exact .inr hk
   ·refine .inl ?_
    obtain ⟨x,hx⟩:=List.exists_mem_of_length_pos (Nat.pos_of_ne_zero hk)
    obtain ⟨j,hj,hj0,hpj,_⟩:=nB.1 hx
    have:=hst j hj
    unfold fG at this
    rw [if_neg (by omega)] at this
    simp only [Bool.and_eq_true] at this
    rw [hpj,Int.toNat_natCast] at this
    exact this.2
  ·by_cases hi0:i=0
   ·exact .inl hi0
   ·refine .inr ?_
    have hs:=hst i hi
    unfold fG at hs
    rw [if_neg hi0] at hs
    simp only [Bool.and_eq_true,decide_eq_true_eq] at hs
    have hw:=(h4 i hi).2
    rw [nz hst hi,List.length_cons] at hw
    exact ⟨⟨hs.1.1,hs.1.2⟩,by omega⟩
theorem tN {k:Nat}(hk:21≤k)(t:List bc):aj.f aF k t=some (jd t):=by rw [AB hk,D6]
theorem ly (R:Type)(x:Option R):aF R x=x:=by cases x<;>rfl
theorem fo {t:List bc}(h:jd t=true):1≤t.length∧t.length≤8:=((iG t).1 h).1
theorem B9 {α:Type}{b:Bool}(h:b=true)(x y:α):(bif b then x else y)=x:=by subst h;rfl
def cw (t:List bc)(a:Int):Bool:=jd t&&(decide (0≤a)&&decide (a<(t.length:Int)))
theorem iC {k:Nat}(hk:30≤k)(t:List bc)(a:Int):fx.f aF k t a=some (cw t a):=by
 obtain ⟨k,rfl⟩:∃m,k=m+1:=⟨k - 1,by omega⟩
 rw [fx.f_eq,xr (by omega)]
 unfold cw
 cases hm:jd t with
 |false=>simp
 |true=>
  by_cases h0:0≤a
  ·have h0':a≥0:=h0
   simp [h0]
  ·have h0':¬a≥0:=h0
   simp [h0]
theorem b7 {k:Nat}(hk:30≤k)(t:List bc)(a:Int):b6.f aF k t a=some (cw t a):=by
 obtain ⟨k,rfl⟩:∃m,k=m+1:=⟨k - 1,by omega⟩
 rw [b6.f_eq,tN (by omega)]
 unfold cw
 cases hm:jd t with
 |false=>simp
 |true=>
  by_cases h0:0≤a
  ·have h0':a≥0:=h0
   simp [h0]
  ·have h0':¬a≥0:=h0
   simp [h0]
theorem c6 {t:List bc}{a:Int}(h:cw t a=true):jd t=true∧∃i:Nat,i<t.length∧a=(i:Int):=by
 unfold cw at h
 simp only [Bool.and_eq_true,decide_eq_true_eq] at h
 exact ⟨h.1,a.toNat,by omega,by omega⟩
theorem F4 {t:List bc}(h:jd t=true){i:Nat}(hi:i<t.length):cw t (i:Int)=true:=by
 unfold cw
 simp [h,hi]
def mi (t:List bc)(a:Int):List Int×Int:=if cw t a then (bH t a,0) else ([],500)
theorem vK {k:Nat}(hk:40≤k)(t:List bc)(a:Int):jm.f aF k t a=some (mi t a):=by
 obtain ⟨k,rfl⟩:∃m,k=m+1:=⟨k - 1,by omega⟩
 rw [jm.f_eq,iC (by omega)]
 unfold mi
 cases hn:cw t a with
 |false=>simp
 |true=>
  have hl:=fo (c6 hn).1
  simp [ot t a (show t.length≤17592186044415 by omega) (show t.length+2≤k by omega)]
theorem gq {k:Nat}(hk:40≤k)(t:List bc)(a:Int):dU.f aF k t a=some (mi t a):=by
 obtain ⟨k,rfl⟩:∃m,k=m+1:=⟨k - 1,by omega⟩
 rw [dU.f_eq,b7 (by omega)]
 unfold mi
 cases hn:cw t a with
 |false=>simp
 |true=>
  have hl:=fo (c6 hn).1
  simp [rW t a (show t.length≤17592186044415 by omega) (show t.length+2≤k by omega)]
def b1 (b:Bool):Int:=if b then 1 else 0
theorem jo (b:Bool):0≤b1 b∧b1 b≤1:=by cases b<;>decide
def mO (t:List bc):List Int→Int
 |[]=>0
 |a :: ws=>mO t ws+b1 (dy t a.toNat==3)
def mE (t:List bc):List Int→Int
 |[]=>0
 |a :: ws=>mE t ws+b1 (dy t a.toNat==3)+b1 (zK t a.toNat)
theorem ta (t:List bc):∀ws,0≤mO t ws∧mO t ws≤(ws.length:Int)
 |[]=>by simp [mO]
 |a :: ws=>by
  have:=ta t ws
  have:=jo (dy t a.toNat==3)
  simp only [mO,List.length_cons];omega
theorem uB (t:List bc):∀ws,0≤mE t ws∧mE t ws≤2*(ws.length:Int)
 |[]=>by simp [mE]
 |a :: ws=>by
  have:=uB t ws
  have:=jo (dy t a.toNat==3)
  have:=jo (zK t a.toNat)
  simp only [mE,List.length_cons];omega
def bP (t:List bc)(a:Int):Int×Int×Int:=if cw t a then (mO t (dx t a),mE t (dx t a),0) else (0,0,500)
theorem Ez {t:List bc}(h:ix t):∀i:Nat,i<t.length→∀x∈dx t (i:Int),∃j:Nat,j<t.length∧x=(j:Int):=by
 intro i
 induction i using Nat.strongRecOn with
 |_ i ih=>
  intro hi x hx
  rw [nz h hi] at hx
  rcases List.mem_cons.1 hx with rfl|hx
  ·exact ⟨i,hi,rfl⟩
  ·have hup:=h.up hi
   by_cases hp:dC t i<0
   ·rw [kG hp] at hx;exact absurd hx (by simp)
   ·have e:dC t i=(((dC t i).toNat:Nat):Int):=by omega
    rw [e] at hx
    exact ih (dC t i).toNat (by omega) (by omega) x hx
theorem lR (t:List bc)(k:Nat):∀(q p:List Int),(p++q).length≤1000→(∀x∈q,∃j:Nat,j<t.length∧x=(j:Int))→∀(r d:Int),0≤r→0≤d→r+q.length≤10000→d+2*q.length≤10000→∀n,q.length+1≤n→
  bF.l0 aF k n r d ((p++q).length:Int) (p.length:Int) t (p++q)=some (r+mO t q,d+mE t q,0)
 |[],p,hl,hq,r,d,hr,hd,hr2,hd2,n,hn=>by
  obtain ⟨n,rfl⟩:∃m,n=m+1:=⟨n - 1,by omega⟩
  rw [bF.l0_eq]
  have h1:¬((p.length:Int)<((p++([]:List Int)).length:Int)):=by simp
  simp only [h1,decide_false,cond,mO,mE,Int.add_zero]
 |a :: q,p,hl,hq,r,d,hr,hd,hr2,hd2,n,hn=>by
  obtain ⟨n,rfl⟩:∃m,n=m+1:=⟨n - 1,by omega⟩
  rw [bF.l0_eq]
  obtain ⟨j,hj,rfl⟩:=hq a List.mem_cons_self
  have hlen:(p++(j:Int) :: q).length=p.length+(q.length+1):=by simp
  rw [List.length_cons] at hr2 hd2
  have h1:((p.length:Int)<((p++(j:Int) :: q).length:Int)):=by rw [hlen];omega
  have h0:(0:Int)≤(p.length:Int):=by omega
  have hg:(p++(j:Int) :: q)[((p.length:Nat):Int).toNat]?=some (j:Int):=by simp
  have hstep:∀r' d':Int,r'=r+b1 (dy t j==3)→d'=d+b1 (dy t j==3)+b1 (zK t j)→
    bF.l0 aF k n r' d' ((p++(j:Int) :: q).length:Int) ((p.length+1:Nat):Int) t (p++(j:Int) :: q)=some (r+mO t ((j:Int) :: q),d+mE t ((j:Int) :: q),0):=by
   intro r' d' h5 h6
   have hb1:=jo (dy t j==3)
   have hb2:=jo (zK t j)
   have ih:=lR t k q (p++[(j:Int)]) (by simpa using hl) (fun x hx=>hq x (List.mem_cons_of_mem _ hx)) r' d' (by omega) (by omega) (by omega) (by omega) n (by simpa using hn)
   have e1:p++[(j:Int)]++q=p++(j:Int) :: q:=by simp
   have e2:((p++[(j:Int)]).length:Int)=((p.length+1:Nat):Int):=by simp
   rw [e1,e2] at ih
   rw [ih]
   simp only [mO,mE,Int.toNat_natCast,h5,h6]
   congr 1
   refine Prod.ext ?_ (Prod.ext ?_ rfl)
   ·simp only;omega
   ·simp only;omega
  simp only [h1,h0,decide_true,Bool.and_self,cond,hg,Option.bind_some,aP hj,d5 hj,jf hj,bu (show (p.length:Int)≤_ by omega),aK (r+1) (by omega),aK (d+1) (by omega),aK (d+1+1) (by omega)]
  have hs:=hstep
  cases h3:(dy t j==3)<;>cases h4:zK t j<;>rw [h3,h4] at hs<;>exact hs _ _ (by simp [b1]) (by simp [b1])
theorem fY {k:Nat}(hk:50≤k)(t:List bc)(a:Int):bF.f aF k t a=some (bP t a):=by
 obtain ⟨k,rfl⟩:∃m,k=m+1:=⟨k - 1,by omega⟩
 rw [bF.f_eq,iC (by omega)]
 unfold bP
 cases hn:cw t a with
 |false=>simp
 |true=>
  obtain ⟨hm,i,hi,rfl⟩:=c6 hn
  have hl:=fo hm
  have hst:=iP hm
  have hw:=rH hst i hi
  have h:=lR t k (dx t (i:Int)) [] (by simp;omega) (Ez hst i hi) 0 0 (by omega) (by omega) (by omega) (by omega) k (by omega)
  simp only [Option.bind_some,Bool.not_true,cond,if_true,pF hst (show t.length≤1000 by omega) i hi (show t.length+3≤k by omega)]
  simpa using h
theorem om {t:List bc}(hst:ix t)(k:Nat):∀(f:Nat) (a:Int),a<(t.length:Int)→a<(f:Int)→-1≤a→∀(r d:Int),0≤r→0≤d→r+f≤10000→d+2*f≤10000→∀n,f+1≤n→
  aE.l0 aF k n a r d t=some (r+mO t (dx t a),d+mE t (dx t a),0)
 |0,a,hl,hf,h0,r,d,hr,hd,hr2,hd2,n,hn=>by
  obtain ⟨n,rfl⟩:∃m,n=m+1:=⟨n - 1,by omega⟩
  rw [aE.l0_eq]
  have h1:¬a≥0:=by omega
  simp only [h1,decide_false,cond,kG (show a<0 by omega),mO,mE,Int.add_zero]
 |f+1,a,hl,hf,h0,r,d,hr,hd,hr2,hd2,n,hn=>by
  obtain ⟨n,rfl⟩:∃m,n=m+1:=⟨n - 1,by omega⟩
  rw [aE.l0_eq]
  by_cases h1:a≥0
  ·obtain ⟨i,rfl⟩:∃i:Nat,a=(i:Int):=⟨a.toNat,by omega⟩
   have hi:i<t.length:=by omega
   have hup:=hst.up hi
   have hstep:∀r' d':Int,r'=r+b1 (dy t i==3)→d'=d+b1 (dy t i==3)+b1 (zK t i)→
     aE.l0 aF k n (dC t i) r' d' t=some (r+mO t (dx t (i:Int)),d+mE t (dx t (i:Int)),0):=by
    intro r' d' h5 h6
    have hb1:=jo (dy t i==3)
    have hb2:=jo (zK t i)
    rw [om hst k f (dC t i) (by omega) (by omega) (by omega) r' d' (by omega) (by omega) (by omega) (by omega) n (by omega),nz hst hi]
    simp only [mO,mE,Int.toNat_natCast,h5,h6]
    congr 1
    refine Prod.ext ?_ (Prod.ext ?_ rfl)
    ·simp only;omega
    ·simp only;omega
   have hj:∀r' d':Int,0≤d'→d'≤10000→r'=r+b1 (dy t i==3)→d'=d+b1 (dy t i==3)→aE.j8 aF k n (i:Int) r' d' t=some (r+mO t (dx t (i:Int)),d+mE t (dx t (i:Int)),0):=by
    intro r' d' h7 h8 h5 h6
    rw [aE.j8_eq]
    simp only [aP hi,Option.bind_some,jf hi,k4 hi,aK (d'+1) (by omega)]
    have hs:=hstep
    cases h4:zK t i<;>rw [h4] at hs<;>exact hs _ _ (by simp [b1,h5]) (by simp [b1,h6])
   simp only [h1,decide_true,cond,aP hi,Option.bind_some,d5 hi,ly,aK (r+1) (by omega),aK (d+1) (by omega)]
   have hs:=hj
   cases h3:(dy t i==3)<;>rw [h3] at hs<;>exact hs _ _ (by omega) (by omega) (by simp [b1]) (by simp [b1])
  ·simp only [h1,decide_false,cond,kG (show a<0 by omega),mO,mE,Int.add_zero]
theorem iz {k:Nat}(hk:50≤k)(t:List bc)(a:Int):aE.f aF k t a=some (bP t a):=by
 obtain ⟨k,rfl⟩:∃m,k=m+1:=⟨k - 1,by omega⟩
 rw [aE.f_eq,b7 (by omega)]
 unfold bP
 cases hn:cw t a with
 |false=>simp
 |true=>
  obtain ⟨hm,i,hi,rfl⟩:=c6 hn
  have hl:=fo hm
  have hst:=iP hm
  have h:=om hst k 8 (i:Int) (by omega) (by omega) (by omega) 0 0 (by omega) (by omega) (by omega) (by omega) k (by omega)
  simp only [Option.bind_some,Bool.not_true,cond,if_true]
  simpa using h
theorem pp (k:Nat):∀(j i:Nat) (a:List Int),i+j=a.length→a.length≤17592186044415→∀n,j+1≤n→aS.l0 aF k n (i:Int) a=some ()
 |0,i,a,hij,ha,n,hn=>by
  obtain ⟨n,rfl⟩:∃m,n=m+1:=⟨n - 1,by omega⟩
  rw [aS.l0_eq]
  have h1:¬((i:Int)<(a.length:Int)):=by omega
  simp only [h1,decide_false,cond]
 |j+1,i,a,hij,ha,n,hn=>by
  obtain ⟨n,rfl⟩:∃m,n=m+1:=⟨n - 1,by omega⟩
  rw [aS.l0_eq]
  have hlt:i<a.length:=by omega
  have h1:((i:Int)<(a.length:Int)):=by omega
  have h0:(0:Int)≤(i:Int):=by omega
  have hg:a[((i:Int)).toNat]?=some a[i]:=by rw [Int.toNat_natCast];exact List.getElem?_eq_getElem hlt
  simp only [h1,h0,decide_true,Bool.and_self,cond,hg,Option.bind_some,bu (show (i:Int)≤_ by omega)]
  exact pp k j (i+1) _ (by simp;omega) (by simp;omega) n (by omega)
theorem pu {k:Nat}(a:List Int)(ha:a.length≤17592186044415)(hk:a.length+3≤k):aS.f aF k a=some ():=by
 obtain ⟨k,rfl⟩:∃m,k=m+1:=⟨k - 1,by omega⟩
 rw [aS.f_eq]
 exact pp k a.length 0 a (by omega) (by omega) k (by omega)
theorem cT {α:Type}(x y:α):(bif true then x else y)=x:=B9 rfl x y
theorem O1 {α:Type}{b:Bool}(h:b=false)(x y:α):(bif b then x else y)=y:=by subst h;rfl
theorem cF {α:Type}(x y:α):(bif false then x else y)=y:=O1 rfl x y
theorem OZ {α β:Type}{o:Option α}{a:α}(h:o=some a)(f:α→Option β):o.bind f=f a:=by subst h;rfl
theorem bS {α β:Type}(a:α)(f:α→Option β):(some a).bind f=f a:=OZ rfl f
theorem IY {t:List bc}{a:Int}(h:cw t a=false):bP t a=(0,0,500):=by unfold bP;rw [h];rfl
theorem H9 {t:List bc}(h:jd t=true){i:Nat}(hi:i<t.length):bP t (i:Int)=(mO t (dx t (i:Int)),mE t (dx t (i:Int)),0):=by unfold bP;rw [F4 h hi];rfl
end Go.Proofs.YtjkokaockhecnaaGreatDoorP
