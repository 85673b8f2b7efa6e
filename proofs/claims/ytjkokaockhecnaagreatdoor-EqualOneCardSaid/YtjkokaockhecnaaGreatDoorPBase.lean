/- What the functions below the laws answer, in plain lists and numbers; no condition but the sizes that a machine has. -/
import Derived.Test.YtjkokaockhecnaaGreatDoorEqs0
import Derived.Test.YtjkokaockhecnaaGreatDoorEqs1
import Derived.Laws.BitsLemmas
import Derived.KernelRfl
namespace Go.Proofs.YtjkokaockhecnaaGreatDoorP
open Go Go.Proofs.YtjkokaockhecnaaGreatDoorA
theorem bR (n:Int)(h:-9223372036854775808≤n∧n≤9223372036854775807):IntKind.i64.wrap n=n:=by rw [IntKind.wrap_i64];omega
theorem uw (n:Int)(h:0≤n∧n≤18446744073709551615):IntKind.u64.wrap n=n:=by
 simp [IntKind.wrap,IntKind.bits,IntKind.signed];omega
theorem D2 (n:Int):IntKind.u8.wrap n=n % 256:=IntKind.wrap_u8 n
theorem vD (x y:Nat)(m:Nat)(h:x<2 ^ m):x ||| (y*2 ^ m)=x+y*2 ^ m:=by
 have:=Nat.two_pow_add_eq_or_of_lt (i:=m) (b:=x) h y
 rw [Nat.mul_comm y,Nat.or_comm,←this,Nat.add_comm]
theorem toNat_ofInt (n:Nat)(x:Int):(BitVec.ofInt n x).toNat=(x % (2 ^ n:Int)).toNat:=by
 rw [BitVec.toNat_ofInt];simp
theorem qA (k:IntKind)(x y:Int):cM .and k x y=k.wrap ((((x % (2 ^ k.bits:Int)).toNat &&& (y % (2 ^ k.bits:Int)).toNat:Nat)):Int):=by
 unfold cM
 simp only [BitVec.toNat_and,toNat_ofInt]
theorem sY (k:IntKind)(x y:Int):cM .or k x y=k.wrap ((((x % (2 ^ k.bits:Int)).toNat ||| (y % (2 ^ k.bits:Int)).toNat:Nat)):Int):=by
 unfold cM
 simp only [BitVec.toNat_or,toNat_ofInt]
theorem vC (x:Int)(m:Nat)(hm:m≤62):cM .and .i64 x (2 ^ m - 1)=x % 2 ^ m:=by
 rw [qA]
 have hp:(0:Int)<2 ^ m:=Int.pow_pos (by omega)
 have hle:(2 ^ m:Int)≤2 ^ 62:=by exact_mod_cast (Nat.pow_le_pow_right (n:=2) (by omega) hm)
 have e1:((2 ^ m - 1:Int) % (2 ^ IntKind.i64.bits:Int))=((2 ^ m - 1:Nat):Int):=by
  have:((2 ^ m - 1:Nat):Int)=2 ^ m - 1:=by
   have h1:1≤2 ^ m:=Nat.one_le_two_pow
   push_cast [h1];simp
  rw [this,Int.emod_eq_of_lt (by omega)]
  show (2 ^ m - 1:Int)<2 ^ 64
  have:(2 ^ 62:Int)<2 ^ 64:=by decide
  omega
 rw [e1,Int.toNat_natCast,Nat.and_two_pow_sub_one_eq_mod]
 have hx0:0≤x % (2 ^ IntKind.i64.bits:Int):=Int.emod_nonneg _ (by decide)
 have e2:(((x % (2 ^ IntKind.i64.bits:Int)).toNat % 2 ^ m:Nat):Int)=x % 2 ^ m:=by
  rw [Int.natCast_emod,Int.toNat_of_nonneg hx0]
  push_cast
  have hd:(2 ^ m:Int) ∣ (2 ^ IntKind.i64.bits:Int):=by
   refine ⟨2 ^ (64 - m),?_⟩
   rw [←Int.pow_add]
   show (2:Int) ^ 64=_
   congr 1;omega
  rw [Int.emod_emod_of_dvd _ hd]
 rw [e2]
 have h1:0≤x % 2 ^ m:=Int.emod_nonneg _ (by omega)
 have h2:x % 2 ^ m<2 ^ m:=Int.emod_lt_of_pos _ hp
 have h3:(2 ^ 62:Int)≤9223372036854775807:=by decide
 exact bR _ ⟨by omega,by omega⟩
theorem Ai (x y:Int)(m:Nat)(hx:0≤x)(hxm:x<2 ^ m)(hy:0≤y)(ht:x+y*2 ^ m≤18446744073709551615):cM .or .u64 x (y*2 ^ m)=x+y*2 ^ m:=by
 rw [sY]
 have hp:(0:Int)<2 ^ m:=Int.pow_pos (by omega)
 have hym:0≤y*2 ^ m:=Int.mul_nonneg hy (by omega)
 have e1:x % (2 ^ IntKind.u64.bits:Int)=x:=Int.emod_eq_of_lt hx (Int.lt_of_le_of_lt (b:=18446744073709551615) (by omega) (by decide))
 have e2:(y*2 ^ m) % (2 ^ IntKind.u64.bits:Int)=y*2 ^ m:=Int.emod_eq_of_lt hym (Int.lt_of_le_of_lt (b:=18446744073709551615) (by omega) (by decide))
 rw [e1,e2]
 have e3:(y*2 ^ m).toNat=y.toNat*2 ^ m:=by
  rw [Int.toNat_mul hy (by omega)]
  congr 1
 have hxn:x.toNat<2 ^ m:=by
  have:((x.toNat:Nat):Int)<((2 ^ m:Nat):Int):=by rw [Int.toNat_of_nonneg hx];push_cast;exact hxm
  exact Int.ofNat_lt.1 this
 rw [e3,vD _ _ _ hxn]
 have:((x.toNat+y.toNat*2 ^ m:Nat):Int)=x+y*2 ^ m:=by
  push_cast
  rw [Int.toNat_of_nonneg hx,Int.toNat_of_nonneg hy]
 rw [this]
 exact uw _ ⟨by omega,ht⟩
def may (x:Int):Bool:=decide (0≤x)&&decide (x≤2147483647)
theorem xG {k:Nat}(hk:1≤k)(x:Int):j3.f aV k x=some (may x):=by
 obtain ⟨k,rfl⟩:∃m,k=m+1:=⟨k - 1,by omega⟩
 rw [j3.f_eq]
 unfold may
 by_cases h:0≤x
 ·have:x≥0:=h
  simp [h]
 ·have:¬x≥0:=h
  simp [h]
def w4 (x:Int):List UInt8:=aD [IntKind.u8.wrap (Int.fdiv x 1),IntKind.u8.wrap (Int.fdiv x (2 ^ 8)),IntKind.u8.wrap (Int.fdiv x (2 ^ 16)),IntKind.u8.wrap (Int.fdiv x (2 ^ 24))]
def w8 (x:Int):List UInt8:=aD [IntKind.u8.wrap (Int.fdiv x 1),IntKind.u8.wrap (Int.fdiv x (2 ^ 8)),IntKind.u8.wrap (Int.fdiv x (2 ^ 16)),IntKind.u8.wrap (Int.fdiv x (2 ^ 24)),
 IntKind.u8.wrap (Int.fdiv x (2 ^ 32)),IntKind.u8.wrap (Int.fdiv x (2 ^ 40)),IntKind.u8.wrap (Int.fdiv x (2 ^ 48)),IntKind.u8.wrap (Int.fdiv x (2 ^ 56))]
theorem HS (m:Nat)(x:Int):bJ.f aV (m+12) x 4=some (w4 x):=by kernel_rfl
theorem Hw (m:Nat)(x:Int):bJ.f aV (m+12) x 8=some (w8 x):=by kernel_rfl
def put (x w:Int):List UInt8×Int:=if w=8 then (w8 x,0) else if w=4∧may x=true then (w4 x,0) else ([],300)
def val:List UInt8→Nat
 |[]=>0
 |b :: l=>b.toNat+256*val l
theorem Bv:∀l:List UInt8,val l<2 ^ (8*l.length)
 |[]=>by simp [val]
 |b :: l=>by
  have:=Bv l
  have hb:b.toNat<256:=b.toNat_lt
  simp only [val,List.length_cons]
  rw [show 8*(l.length+1)=8+8*l.length by omega,Nat.pow_add]
  have:256*(val l+1)≤256*2 ^ (8*l.length):=Nat.mul_le_mul_left _ this
  omega
theorem qB:∀l m:List UInt8,val (l++m)=val l+2 ^ (8*l.length)*val m
 |[],m=>by simp [val]
 |b :: l,m=>by
  simp only [List.cons_append,val,qB l m,List.length_cons]
  rw [show 8*(l.length+1)=8+8*l.length by omega,Nat.pow_add,Nat.mul_add,←Nat.mul_assoc,Nat.add_assoc]
def fp (s:List UInt8):Int:=IntKind.i64.wrap (val s)
theorem aE {α:Type}{l:List α}{i:Nat}(h:i<l.length):rd l (i:Int)=some l[i]:=by
 unfold rd
 have:decide ((0:Int)≤(i:Int))=true:=by simp
 rw [this]
 simp only [cond,Int.toNat_natCast]
 exact List.getElem?_eq_getElem h
theorem tz (s:List UInt8)(hs:s.length≤8):∀(j i:Nat),i+j=s.length→∀k n,j+1≤n→eF.l0 aV k n s (val (s.take i):Int) (s.length:Int) (i:Int)=some (fp s)
 |0,i,hij,k,n,hn=>by
  obtain ⟨n,rfl⟩:∃m,n=m+1:=⟨n - 1,by omega⟩
  rw [eF.l0_eq]
  have:¬((i:Int)<(s.length:Int)):=by omega
  simp only [this,decide_false,cond,fp]
  rw [List.take_of_length_le (by omega)]
 |j+1,i,hij,k,n,hn=>by
  obtain ⟨n,rfl⟩:∃m,n=m+1:=⟨n - 1,by omega⟩
  rw [eF.l0_eq]
  have hlt:i<s.length:=by omega
  have h1:((i:Int)<(s.length:Int)):=by omega
  have e8:IntKind.i64.wrap (8*(i:Int))=8*(i:Int):=bR _ (by omega)
  have e9:IntKind.i64.wrap ((i:Int)+1)=((i+1:Nat):Int):=by rw [bR _ (by omega)];rfl
  have h2:¬(8*(i:Int)<0):=by omega
  have hb:(s[i].toNat:Int)≤255:=by have:s[i].toNat<256:=s[i].toNat_lt;omega
  have hv:=Bv (s.take i)
  rw [List.length_take,Nat.min_eq_left (by omega)] at hv
  have hpow:(2:Nat) ^ (8*i)≤2 ^ 56:=Nat.pow_le_pow_right (by omega) (by omega)
  have hbp:s[i].toNat*2 ^ (8*i)≤255*2 ^ (8*i):=Nat.mul_le_mul_right _ (by omega)
  have e10:(8*(i:Int)).toNat=8*i:=by omega
  have e11:min (8*i) IntKind.u64.bits=8*i:=Nat.min_eq_left (by show 8*i≤64;omega)
  have e12:IntKind.u64.wrap (s[i].toNat:Int)=(s[i].toNat:Int):=uw _ (by omega)
  have c1:((2:Int) ^ (8*i))=((2 ^ (8*i):Nat):Int):=by push_cast;rfl
  have hmulI:(s[i].toNat:Int)*2 ^ (8*i)=((s[i].toNat*2 ^ (8*i):Nat):Int):=by rw [c1];push_cast;rfl
  have p56:(2:Nat) ^ 56=72057594037927936:=by decide
  have e13:IntKind.u64.wrap ((s[i].toNat:Int)*2 ^ (8*i))=(s[i].toNat:Int)*2 ^ (8*i):=by
   rw [hmulI];exact uw _ (by omega)
  simp only [h1,decide_true,cond,aE hlt,Option.bind_some,e8,h2,decide_false,e9,e10,e11,e12,e13]
  rw [Ai _ _ _ (by omega) (by rw [c1];exact Int.ofNat_lt.2 hv) (by omega) (by rw [hmulI];omega)]
  have e14:(val (s.take i):Int)+(s[i].toNat:Int)*2 ^ (8*i)=(val (s.take (i+1)):Int):=by
   rw [List.take_succ_eq_append_getElem hlt,qB,List.length_take,Nat.min_eq_left (by omega),hmulI]
   simp only [val]
   rw [Nat.mul_zero,Nat.add_zero,Nat.mul_comm]
   push_cast;rfl
  rw [e14]
  exact tz s hs j (i+1) (by omega) k n (by omega)
theorem sV {k:Nat}(hk:11≤k)(s:List UInt8)(hs:s.length≤8):eF.f aV k s=some (fp s):=by
 obtain ⟨k,rfl⟩:∃m,k=m+1:=⟨k - 1,by omega⟩
 rw [eF.f_eq]
 have:=tz s hs s.length 0 (by omega) k k (by omega)
 simpa [val] using this
def get (s:List UInt8)(at_ w:Int):Int×Int:=
 if (w=4∨w=8)∧0≤at_∧at_+w≤(s.length:Int) then
  if w=4∧may (fp ((s.take (at_+w).toNat).drop at_.toNat))=false then (0,300) else (fp ((s.take (at_+w).toNat).drop at_.toNat),0)
 else (0,300)
theorem un (s:List UInt8)(a w:Int)(h0:0≤a)(hw:0≤w)(hl:a+w≤(s.length:Int)):((s.take (a+w).toNat).drop a.toNat).length=w.toNat:=by
 simp only [List.length_drop,List.length_take];omega
theorem wn {k:Nat}(hk:13≤k)(s:List UInt8)(hs:(s.length:Int)≤9223372036854775000)(a w:Int)(ha:-9223372036854775808≤a∧a≤9223372036854775807):ny.f aV k s a w=some (get s a w):=by
 obtain ⟨k,rfl⟩:∃m,k=m+1:=⟨k - 1,by omega⟩
 rw [ny.f_eq]
 have body:∀v:Int,v=4∨v=8→
   (bif (!(decide (a<0))) then
    bif (!(decide (a>(s.length:Int)))) then
     bif decide ((IntKind.i64.wrap ((s.length:Int) - a))<v) then
     some ((0:Int),(300:Int))
     else
     bif decide (0≤IntKind.i64.wrap (a+v))&&decide (IntKind.i64.wrap (a+v)≤((s.length:Nat):Int)) then
      bif decide (0≤a)&&decide (a≤(((IntKind.i64.wrap (a+v)).toNat:Nat):Int)) then
      (eF.f aV k (List.drop (a.toNat) (List.take ((IntKind.i64.wrap (a+v)).toNat) s))).bind fun r_1=>
      bif (v==4) then
       (j3.f aV k r_1).bind fun r_2=>
       bif (!r_2) then
       some (0,300)
       else
       some (r_1,0)
      else
       some (r_1,0)
      else
      none
     else
      none
    else
     some (0,300)
    else
    some (0,300))=some (get s a v):=by
  intro v hv
  unfold get
  by_cases h0:a<0
  ·have:¬((v=4∨v=8)∧0≤a∧a+v≤(s.length:Int)):=by omega
   simp [h0,this]
  ·by_cases h1:a>(s.length:Int)
   ·have:¬((v=4∨v=8)∧0≤a∧a+v≤(s.length:Int)):=by omega
    simp [h0,h1,this]
   ·rw [bR ((s.length:Int) - a) (by omega)]
    by_cases h2:(s.length:Int) - a<v
    ·have:¬((v=4∨v=8)∧0≤a∧a+v≤(s.length:Int)):=by omega
     simp [h0,h1,h2,this]
    ·have h3:(v=4∨v=8)∧0≤a∧a+v≤(s.length:Int):=by omega
     have h3':=h3.2
     have hv8:v≤8:=by omega
     rw [bR (a+v) (by omega)]
     have h4:0≤a+v:=by omega
     have h5:a≤(((a+v).toNat:Nat):Int):=by omega
     rw [sV (by omega) _ (by rw [un s a v (by omega) (by omega) (by omega)];omega),if_pos h3]
     simp only [h0,h1,h2,h3'.1,h3'.2,h4,h5,decide_true,decide_false,Bool.not_false,Bool.and_self,cond,Option.bind_some,xG (k:=k) (by omega)]
     by_cases h6:v=4
     ·subst h6
      cases hm:may (fp ((s.take (a+4).toNat).drop a.toNat))<;>simp [hm]
     ·have:(v==4)=false:=by simpa using h6
      simp [h6,this]
 by_cases h4:w=4
 ·subst h4
  simpa using body 4 (.inl rfl)
 ·by_cases h8:w=8
  ·subst h8
   simpa using body 8 (.inr rfl)
  ·have b8:(w != 8)=true:=by simpa using h8
   have b4:(w != 4)=true:=by simpa using h4
   simp [b4,b8,get,h4,h8]
theorem t7 {x:Int}:may x=true↔0≤x∧x≤2147483647:=by simp [may]
theorem vc {n:Nat}(h:n<256):(UInt8.ofNat n).toNat=n:=by simp [UInt8.toNat_ofNat];omega
theorem vj (x:Int):((UInt8.ofNat (IntKind.u8.wrap x).toNat).toNat:Int)=x % 256:=by
 rw [D2,vc (by omega)];omega
theorem d5 (x y:Int)(h:0≤y):Int.fdiv x y=x / y:=Int.fdiv_eq_ediv_of_nonneg _ h
theorem gR (x:Int):(w4 x).length=4:=rfl
theorem lP (x:Int):(w8 x).length=8:=rfl
theorem EF (x:Int)(h:0≤x∧x<4294967296):(val (w4 x):Int)=x:=by
 have e:(val (w4 x):Int)=((UInt8.ofNat (IntKind.u8.wrap (Int.fdiv x 1)).toNat).toNat:Int)+256*(((UInt8.ofNat (IntKind.u8.wrap (Int.fdiv x (2 ^ 8))).toNat).toNat:Int)+256*(((UInt8.ofNat (IntKind.u8.wrap (Int.fdiv x (2 ^ 16))).toNat).toNat:Int)+
   256*(((UInt8.ofNat (IntKind.u8.wrap (Int.fdiv x (2 ^ 24))).toNat).toNat:Int)+256*0))):=by
  simp only [w4,aD,List.map_cons,List.map_nil,val,Int.natCast_add,Int.natCast_mul];rfl
 rw [e]
 simp only [vj,d5 _ _ (show (0:Int)≤1 by decide),d5 _ _ (show (0:Int)≤2 ^ 8 by decide),d5 _ _ (show (0:Int)≤2 ^ 16 by decide),d5 _ _ (show (0:Int)≤2 ^ 24 by decide)]
 have p8:(2:Int) ^ 8=256:=by decide
 have p16:(2:Int) ^ 16=65536:=by decide
 have p24:(2:Int) ^ 24=16777216:=by decide
 rw [p8,p16,p24]
 omega
theorem Fg (x:Int):(val (w8 x):Int)=x % 18446744073709551616:=by
 have e:(val (w8 x):Int)=((UInt8.ofNat (IntKind.u8.wrap (Int.fdiv x 1)).toNat).toNat:Int)+256*(((UInt8.ofNat (IntKind.u8.wrap (Int.fdiv x (2 ^ 8))).toNat).toNat:Int)+256*(((UInt8.ofNat (IntKind.u8.wrap (Int.fdiv x (2 ^ 16))).toNat).toNat:Int)+
   256*(((UInt8.ofNat (IntKind.u8.wrap (Int.fdiv x (2 ^ 24))).toNat).toNat:Int)+256*(((UInt8.ofNat (IntKind.u8.wrap (Int.fdiv x (2 ^ 32))).toNat).toNat:Int)+256*(((UInt8.ofNat (IntKind.u8.wrap (Int.fdiv x (2 ^ 40))).toNat).toNat:Int)+
   256*(((UInt8.ofNat (IntKind.u8.wrap (Int.fdiv x (2 ^ 48))).toNat).toNat:Int)+256*(((UInt8.ofNat (IntKind.u8.wrap (Int.fdiv x (2 ^ 56))).toNat).toNat:Int)+256*0))))))):=by
  simp only [w8,aD,List.map_cons,List.map_nil,val,Int.natCast_add,Int.natCast_mul];rfl
 rw [e]
 simp only [vj,d5 _ _ (show (0:Int)≤1 by decide),d5 _ _ (show (0:Int)≤2 ^ 8 by decide),d5 _ _ (show (0:Int)≤2 ^ 16 by decide),d5 _ _ (show (0:Int)≤2 ^ 24 by decide),
  d5 _ _ (show (0:Int)≤2 ^ 32 by decide),d5 _ _ (show (0:Int)≤2 ^ 40 by decide),d5 _ _ (show (0:Int)≤2 ^ 48 by decide),d5 _ _ (show (0:Int)≤2 ^ 56 by decide)]
 have p8:(2:Int) ^ 8=256:=by decide
 have p16:(2:Int) ^ 16=65536:=by decide
 have p24:(2:Int) ^ 24=16777216:=by decide
 have p32:(2:Int) ^ 32=4294967296:=by decide
 have p40:(2:Int) ^ 40=1099511627776:=by decide
 have p48:(2:Int) ^ 48=281474976710656:=by decide
 have p56:(2:Int) ^ 56=72057594037927936:=by decide
 rw [p8,p16,p24,p32,p40,p48,p56]
 omega
theorem BA (x:Int)(h:may x=true):fp (w4 x)=x:=by
 obtain ⟨h1,h2⟩:=t7.1 h
 unfold fp
 rw [EF x ⟨h1,by omega⟩,bR _ (by omega)]
theorem Bf (x:Int)(h:-9223372036854775808≤x∧x≤9223372036854775807):fp (w8 x)=x:=by
 unfold fp
 rw [Fg,IntKind.wrap_i64];omega
theorem yE (a b c:List UInt8)(n:Nat)(hn:n=b.length):((a++b++c).take (a.length+n)).drop a.length=b:=by
 subst hn
 rw [List.append_assoc,List.take_length_add_append,List.drop_left,List.take_left]
theorem EY (a c:List UInt8)(x:Int)(h:may x=true):get (a++w4 x++c) (a.length:Int) 4=(x,0):=by
 unfold get
 have e:(((a++w4 x++c).take ((a.length:Int)+4).toNat).drop (a.length:Int).toNat)=w4 x:=by
  have e1:((a.length:Int)+4).toNat=a.length+4:=by omega
  have e2:(a.length:Int).toNat=a.length:=by omega
  rw [e1,e2];exact yE a (w4 x) c 4 rfl
 rw [if_pos ⟨.inl rfl,by omega,by simp [gR];omega⟩,e,BA x h,h]
 simp
theorem iW (l m:List Int):aD (l++m)=aD l++aD m:=by simp [aD]
theorem nK (l:List Int):(aD l).length=l.length:=by simp [aD]
theorem pick {α:Type}{l:List α}{Q:α→Prop}(hl:∀e∈l,Q e){i:Int}(h0:0≤i)(h1:i<(l.length:Int)):∃e,l[i.toNat]?=some e∧Q e:=by
 have:i.toNat<l.length:=by omega
 exact ⟨_,List.getElem?_eq_getElem this,hl _ (List.getElem_mem this)⟩
def cH (t:List aI)(i:Nat):Int:=match t[i]? with|some n=>n.parent|none=>-1
def bK (t:List aI)(i:Nat):Int:=match t[i]? with|some n=>n.kind|none=>0
def yj (t:List aI)(i:Nat):Bool:=match t[i]? with|some n=>n.null|none=>false
theorem lR {t:List aI}{i:Nat}(h:i<t.length):t[i].parent=cH t i:=by simp [cH,h]
theorem bY {t:List aI}{i:Nat}(h:i<t.length):t[i].kind=bK t i:=by simp [bK,h]
theorem kt {t:List aI}{i:Nat}(h:i<t.length):t[i].null=yj t i:=by simp [yj,h]
def cS (k:Int):Bool:=k==3||k==4
def gu (t:List aI)(a:Int)(i:Nat):List Int:=((List.range i).filter fun j=>decide (0<j)&&cH t j==a).map fun j=>((j:Nat):Int)
def ag (t:List aI)(a:Int):List Int:=gu t a t.length
theorem hH (t:List aI)(a:Int)(i:Nat):gu t a (i+1)=if 0<i∧cH t i=a then gu t a i++[(i:Int)] else gu t a i:=by
 unfold gu
 rw [List.range_succ,List.filter_append,List.map_append]
 by_cases h:0<i∧cH t i=a
 ·simp [h]
 ·rw [if_neg h]
  have:(decide (0<i)&&cH t i==a)=false:=by
   simp only [Bool.and_eq_false_iff,decide_eq_false_iff_not,beq_eq_false_iff_ne]
   by_cases h0:0<i
   ·exact .inr fun e=>h ⟨h0,e⟩
   ·exact .inl h0
  simp [this]
theorem cu (t:List aI)(a:Int):∀i,(gu t a i).length≤i
 |0=>by simp [gu]
 |i+1=>by
  have:=cu t a i
  rw [hH]
  split<;>simp<;>omega
theorem jA {t:List aI}{a:Int}{x:Int}:x∈ag t a↔∃j:Nat,j<t.length∧0<j∧cH t j=a∧x=(j:Int):=by
 unfold ag gu
 simp only [List.mem_map,List.mem_filter,List.mem_range,Bool.and_eq_true,decide_eq_true_eq,beq_iff_eq]
 constructor
 ·rintro ⟨j,⟨h1,h2,h3⟩,rfl⟩;exact ⟨j,h1,h2,h3,rfl⟩
 ·rintro ⟨j,h1,h2,h3,rfl⟩;exact ⟨j,⟨h1,h2,h3⟩,rfl⟩
theorem bM {i:Nat}(h:(i:Int)≤4611686018427387904):IntKind.i64.wrap ((i:Int)+1)=((i+1:Nat):Int):=by rw [bR _ (by omega)];push_cast;rfl
theorem lZ (t:List aI)(a:Int)(ht:t.length≤17592186044415)(k:Nat):∀(j i:Nat),i+j=t.length→∀n,j+1≤n→bE.l0 aV k n a t (t.length:Int) (i:Int) (gu t a i)=some (ag t a)
 |0,i,hij,n,hn=>by
  obtain ⟨n,rfl⟩:∃m,n=m+1:=⟨n - 1,by omega⟩
  rw [bE.l0_eq]
  have h1:¬((i:Int)<(t.length:Int)):=by omega
  simp only [h1,decide_false,cond,ag]
  rw [show i=t.length by omega]
 |j+1,i,hij,n,hn=>by
  obtain ⟨n,rfl⟩:∃m,n=m+1:=⟨n - 1,by omega⟩
  rw [bE.l0_eq]
  have hlt:i<t.length:=by omega
  have h1:((i:Int)<(t.length:Int)):=by omega
  have ih:=lZ t a ht k j (i+1) (by omega) n (by omega)
  rw [hH] at ih
  have hl:=cu t a i
  have h2:((gu t a i).length+[(i:Int)].length)*8≤140737488355328:=by simp;omega
  simp only [h1,decide_true,cond,aE hlt,Option.bind_some,bM (show (i:Int)≤_ by omega),lR hlt]
  by_cases h3:(i:Int)>0
  ·have h3':0<i:=by omega
   by_cases h4:cH t i=a
   ·rw [if_pos ⟨h3',h4⟩] at ih
    have hb:(cH t i==a)=true:=by simpa using h4
    simp only [h3,decide_true,hb,h2]
    exact ih
   ·rw [if_neg (fun h=>h4 h.2)] at ih
    have hb:(cH t i==a)=false:=by simpa using h4
    simp only [h3,decide_true,hb]
    exact ih
  ·rw [if_neg (fun h=>h3 (by omega))] at ih
   simp only [h3,decide_false]
   exact ih
theorem mh {k:Nat}(t:List aI)(a:Int)(ht:t.length≤17592186044415)(hk:t.length+2≤k):bE.f aV k t a=some (ag t a):=by
 obtain ⟨k,rfl⟩:∃m,k=m+1:=⟨k - 1,by omega⟩
 rw [bE.f_eq]
 have:=lZ t a ht k t.length 0 (by omega) k (by omega)
 simpa [gu] using this
theorem pQ (t:List aI)(a:Int)(ht:t.length≤17592186044415)(k:Nat):∀(j i:Nat),0<i→t.length≤i+j→∀n,j+1≤n→(i≤t.length∨gu t a i=ag t a)→aR.l0 aV k n a (i:Int) t (gu t a i)=some (ag t a)
 |0,i,hi,hij,n,hn,hc=>by
  obtain ⟨n,rfl⟩:∃m,n=m+1:=⟨n - 1,by omega⟩
  rw [aR.l0_eq]
  have h1:¬((i:Int)<(t.length:Int)):=by omega
  simp only [h1,decide_false,cond]
  rcases hc with hc|hc
  ·rw [show i=t.length by omega];rfl
  ·rw [hc]
 |j+1,i,hi,hij,n,hn,hc=>by
  obtain ⟨n,rfl⟩:∃m,n=m+1:=⟨n - 1,by omega⟩
  rw [aR.l0_eq]
  by_cases hlt:i<t.length
  ·have h1:((i:Int)<(t.length:Int)):=by omega
   have ih:=pQ t a ht k j (i+1) (by omega) (by omega) n (by omega) (.inl hlt)
   rw [hH] at ih
   have hl:=cu t a i
   have h2:((gu t a i).length+[(i:Int)].length)*8≤140737488355328:=by simp;omega
   simp only [h1,decide_true,cond,aE hlt,Option.bind_some,bM (show (i:Int)≤_ by omega),lR hlt]
   by_cases h4:cH t i=a
   ·rw [if_pos ⟨hi,h4⟩] at ih
    have hb:(cH t i==a)=true:=by simpa using h4
    simp only [hb,h2,decide_true]
    exact ih
   ·rw [if_neg (fun h=>h4 h.2)] at ih
    have hb:(cH t i==a)=false:=by simpa using h4
    simp only [hb]
    exact ih
  ·have h1:¬((i:Int)<(t.length:Int)):=by omega
   simp only [h1,decide_false,cond]
   rcases hc with hc|hc
   ·rw [show i=t.length by omega];rfl
   ·rw [hc]
theorem pK {k:Nat}(t:List aI)(a:Int)(ht:t.length≤17592186044415)(hk:t.length+2≤k):aR.f aV k t a=some (ag t a):=by
 obtain ⟨k,rfl⟩:∃m,k=m+1:=⟨k - 1,by omega⟩
 rw [aR.f_eq]
 have:=pQ t a ht k t.length 1 (by omega) (by omega) k (by omega) (by
  by_cases h:1≤t.length
  ·exact .inl h
  ·refine .inr ?_
   have:t=[]:=List.eq_nil_of_length_eq_zero (by omega)
   subst this
   rfl)
 have e:gu t a 1=[]:=by rw [hH,if_neg (by omega)];rfl
 rw [e] at this
 exact this
def eh (t:List aI)(i:Nat):Bool:=
 if i=0 then cH t 0==-1 else decide (0≤cH t i)&&decide (cH t i<(i:Int))&&cS (bK t (cH t i).toNat)
theorem ly {k:Nat}(hk:1≤k)(x:Int):fh.f aV k x=some (cS x):=by
 obtain ⟨k,rfl⟩:∃m,k=m+1:=⟨k - 1,by omega⟩
 rw [fh.f_eq]
 unfold cS
 cases h:(x==3)<;>simp
theorem gk {k:Nat}(hk:1≤k)(x:Int):cE.f aV k x=some (!cS x):=by
 obtain ⟨k,rfl⟩:∃m,k=m+1:=⟨k - 1,by omega⟩
 rw [cE.f_eq]
 unfold cS
 simp only [bne]
 cases h:(x==3)<;>simp
theorem qb {k:Nat}(hk:2≤k)(t:List aI)(i:Nat)(hi:i<t.length):fK.f aV k t (i:Int)=some (eh t i):=by
 obtain ⟨k,rfl⟩:∃m,k=m+1:=⟨k - 1,by omega⟩
 rw [fK.f_eq]
 unfold eh
 simp only [aE hi,Option.bind_some,lR hi,ly (show 1≤k by omega)]
 by_cases h0:i=0
 ·subst h0;simp
 ·have hb:((i:Int)==0)=false:=by simp;omega
  rw [if_neg h0]
  simp only [hb,cond]
  by_cases h1:0≤cH t i
  ·have h1':cH t i≥0:=h1
   by_cases h2:cH t i<(i:Int)
   ·have h3:(cH t i).toNat<t.length:=by omega
    have e:cH t i=(((cH t i).toNat:Nat):Int):=by omega
    have hr:rd t (cH t i)=some t[(cH t i).toNat]:=by
     have:=aE h3
     rw [←e] at this
     exact this
    simp only [h1',h1,h2,decide_true,hr,Option.bind_some,bY h3,Bool.true_and]
   ·simp [h1,h2]
  ·have h1':¬cH t i≥0:=h1
   simp [h1]
def jU (t:List aI):Nat→Int→List Int
 |0,_=>[]
 |f+1,a=>if 0≤a then a :: jU t f (cH t a.toNat) else []
def eg (t:List aI)(a:Int):List Int:=jU t (a+1).toNat a
def hJ (t:List aI):Prop:=∀i,i<t.length→eh t i=true
theorem hJ.up {t:List aI}(h:hJ t){i:Nat}(hi:i<t.length):cH t i<(i:Int)∧-1≤cH t i:=by
 have:=h i hi
 unfold eh at this
 split at this
 ·rename_i h0
  subst h0
  have:cH t 0=-1:=by simpa using this
  omega
 ·simp only [Bool.and_eq_true,decide_eq_true_eq] at this
  omega
theorem tj {t:List aI}(h:hJ t):∀(f g:Nat) (a:Int),a<(t.length:Int)→a<(f:Int)→a<(g:Int)→jU t f a=jU t g a
 |0,0,_,_,_,_=>rfl
 |0,g+1,a,_,h1,_=>by
  have:¬0≤a:=by omega
  simp [jU,this]
 |f+1,0,a,_,_,h1=>by
  have:¬0≤a:=by omega
  simp [jU,this]
 |f+1,g+1,a,hl,h1,h2=>by
  simp only [jU]
  split
  ·rename_i h0
   have hup:=h.up (i:=a.toNat) (by omega)
   rw [tj h f g _ (by omega) (by omega) (by omega)]
  ·rfl
theorem rO {t:List aI}{a:Int}(h:a<0):eg t a=[]:=by
 unfold eg
 rw [show (a+1).toNat=0 by omega];rfl
theorem qq {t:List aI}(h:hJ t){i:Nat}(hi:i<t.length):eg t (i:Int)=(i:Int) :: eg t (cH t i):=by
 have hup:=h.up hi
 unfold eg
 rw [show ((i:Int)+1).toNat=i+1 by omega]
 simp only [jU]
 rw [if_pos (by omega),Int.toNat_natCast,tj h i ((cH t i+1).toNat) (cH t i) (by omega) (by omega) (by omega)]
theorem vA {t:List aI}(h:hJ t):∀i:Nat,i<t.length→1≤(eg t (i:Int)).length∧(eg t (i:Int)).length≤i+1:=by
 intro i
 induction i using Nat.strongRecOn with
 |_ i ih=>
  intro hi
  rw [qq h hi]
  have hup:=h.up hi
  by_cases hp:cH t i<0
  ·rw [rO hp];simp
  ·have e:cH t i=(((cH t i).toNat:Nat):Int):=by omega
   rw [e]
   have:=ih (cH t i).toNat (by omega) (by omega)
   simp only [List.length_cons];omega
theorem nT {t:List aI}(h:hJ t)(ht:t.length≤1000)(k:Nat):∀(f:Nat) (a:Int) (out:List Int) (n:Nat),a<(t.length:Int)→a<(f:Int)→f+1≤n→out.length+f≤10000→cf.l0 aV k n t a out=some (out++jU t f a)
 |0,a,out,n,hl,hf,hn,ho=>by
  obtain ⟨n,rfl⟩:∃m,n=m+1:=⟨n - 1,by omega⟩
  rw [cf.l0_eq]
  have h1:¬a≥0:=by omega
  simp [h1,jU]
 |f+1,a,out,n,hl,hf,hn,ho=>by
  obtain ⟨n,rfl⟩:∃m,n=m+1:=⟨n - 1,by omega⟩
  rw [cf.l0_eq]
  by_cases h0:0≤a
  ·have h1:a≥0:=h0
   have hlt:a.toNat<t.length:=by omega
   have e:a=((a.toNat:Nat):Int):=by omega
   have hr:rd t a=some t[a.toNat]:=by
    have:=aE hlt
    rw [←e] at this
    exact this
   have h2:(out.length+[a].length)*8≤140737488355328:=by simp;omega
   have hup:=h.up hlt
   simp only [h1,h2,decide_true,cond,hr,Option.bind_some,lR hlt]
   rw [nT h ht k f _ _ n (by omega) (by omega) (by omega) (by simp;omega)]
   simp [jU,h0]
  ·have h1:¬a≥0:=h0
   simp [h1,jU,h0]
theorem uc {t:List aI}(h:hJ t)(ht:t.length≤1000){k:Nat}(i:Nat)(hi:i<t.length)(hk:t.length+3≤k):cf.f aV k t (i:Int)=some (eg t (i:Int)):=by
 obtain ⟨k,rfl⟩:∃m,k=m+1:=⟨k - 1,by omega⟩
 rw [cf.f_eq,nT h ht k (i+1) _ [] k (by omega) (by omega) (by omega) (by simp;omega)]
 unfold eg
 rw [show ((i:Int)+1).toNat=i+1 by omega]
 rfl
theorem xJ (n m:Nat):((n:Int)==(m:Int))=(n==m):=by
 by_cases h:n=m
 ·simp [h]
 ·have:¬((n:Int)=(m:Int)):=by omega
  exact (beq_eq_false_iff_ne.2 this).trans (beq_eq_false_iff_ne.2 h).symm
def gI (t:List aI)(i:Nat):Bool:=decide (0≤bK t i)&&decide (bK t i≤4)
def iQ (t:List aI)(i:Nat):Bool:=(!(bK t i==3)||(ag t (i:Int)).length==1)&&(!(bK t i==4)||!((ag t (i:Int)).length==0))
def gQ (t:List aI):Bool:=
 decide (1≤t.length)&&decide (t.length≤8)&&(List.range t.length).all (fun i=>gI t i&&eh t i)&&(List.range t.length).all (fun i=>iQ t i&&decide ((eg t (i:Int)).length≤5))
theorem rV (p:Nat→Bool)(N i:Nat)(hi:i<N):((List.range' i (N - i)).all p)=(p i&&(List.range' (i+1) (N - (i+1))).all p):=by
 rw [show N - i=(N - (i+1))+1 by omega,List.range'_succ,List.all_cons]
theorem nS (t:List aI)(h:hJ t)(ht:t.length≤8)(k:Nat)(hk:20≤k):∀(j i:Nat),i+j=t.length→∀n,j+1≤n→
  a7.l2 aV k n t (t.length:Int) (i:Int)=some ((List.range' i (t.length - i)).all fun i=>iQ t i&&decide ((eg t (i:Int)).length≤5))
 |0,i,hij,n,hn=>by
  obtain ⟨n,rfl⟩:∃m,n=m+1:=⟨n - 1,by omega⟩
  rw [a7.l2_eq]
  have h1:¬((i:Int)<(t.length:Int)):=by omega
  simp only [h1,decide_false,cond]
  rw [show t.length - i=0 by omega];rfl
 |j+1,i,hij,n,hn=>by
  obtain ⟨n,rfl⟩:∃m,n=m+1:=⟨n - 1,by omega⟩
  rw [a7.l2_eq]
  have hlt:i<t.length:=by omega
  have h1:((i:Int)<(t.length:Int)):=by omega
  have ih:=nS t h ht k hk j (i+1) (by omega) n (by omega)
  rw [rV _ _ _ hlt]
  simp only [h1,decide_true,cond,aE hlt,Option.bind_some,bY hlt,mh t _ (show t.length≤17592186044415 by omega) (show t.length+2≤k by omega),uc h (show t.length≤1000 by omega) i hlt (show t.length+3≤k by omega),bM (show (i:Int)≤_ by omega),ih]
  unfold iQ
  have e1:(((ag t (i:Int)).length:Int) != 1)=!((ag t (i:Int)).length==1):=by
   simp only [bne]
   congr 1
   exact xJ _ 1
  have e2:(((ag t (i:Int)).length:Int)==0)=((ag t (i:Int)).length==0):=xJ _ 0
  have e3:decide (((eg t (i:Int)).length:Int)>5)=!decide ((eg t (i:Int)).length≤5):=by
   by_cases hh:(eg t (i:Int)).length≤5
   ·have:¬(((eg t (i:Int)).length:Int)>5):=by omega
    simp [hh,this]
   ·have:(((eg t (i:Int)).length:Int)>5):=by omega
    simp [hh,this]
  simp only [e1,e2,e3]
  cases (bK t i==3)<;>cases (bK t i==4)<;>cases ((ag t (i:Int)).length==1)<;>cases ((ag t (i:Int)).length==0)<;>cases (decide ((eg t (i:Int)).length≤5))<;>simp
theorem nB (t:List aI)(ht:t.length≤8)(k:Nat)(hk:20≤k):∀(j i:Nat),i+j=t.length→(∀q,q<i→eh t q=true)→∀n,j+1≤n→
  a7.l0 aV k n t (t.length:Int) (i:Int)=some ((List.range' i (t.length - i)).all (fun i=>gI t i&&eh t i)&&(List.range t.length).all (fun i=>iQ t i&&decide ((eg t (i:Int)).length≤5)))
 |0,i,hij,hst,n,hn=>by
  obtain ⟨n,rfl⟩:∃m,n=m+1:=⟨n - 1,by omega⟩
  rw [a7.l0_eq]
  have h1:¬((i:Int)<(t.length:Int)):=by omega
  have:=nS t (fun q hq=>hst q (by omega)) ht k hk t.length 0 (by omega) k (by omega)
  simp only [h1,decide_false,cond]
  rw [show t.length - i=0 by omega]
  rw [Nat.sub_zero] at this
  rw [List.range_eq_range']
  simpa using this
 |j+1,i,hij,hst,n,hn=>by
  obtain ⟨n,rfl⟩:∃m,n=m+1:=⟨n - 1,by omega⟩
  rw [a7.l0_eq]
  have hlt:i<t.length:=by omega
  have h1:((i:Int)<(t.length:Int)):=by omega
  rw [rV _ _ _ hlt]
  simp only [h1,decide_true,cond,aE hlt,Option.bind_some,bY hlt,qb (show 2≤k by omega) t i hlt,bM (show (i:Int)≤_ by omega)]
  unfold gI
  by_cases h2:0≤bK t i
  ·have h2':¬(bK t i<0):=by omega
   by_cases h3:bK t i≤4
   ·have h3':¬(bK t i>4):=by omega
    cases hs:eh t i with
    |false=>simp [h2,h2',h3,h3']
    |true=>
     have ih:=nB t ht k hk j (i+1) (by omega) (fun q hq=>by
      by_cases e:q=i
      ·subst e;exact hs
      ·exact hst q (by omega)) n (by omega)
     unfold gI at ih
     simp only [h2,h2',h3,h3',decide_true,decide_false,Bool.not_false,Bool.not_true,Bool.true_and,ih]
   ·have h3':(bK t i>4):=by omega
    simp [h2,h2',h3,h3']
  ·have h2':(bK t i<0):=by omega
   simp [h2,h2']
theorem tJ {k:Nat}(hk:21≤k)(t:List aI):a7.f aV k t=some (gQ t):=by
 obtain ⟨k,rfl⟩:∃m,k=m+1:=⟨k - 1,by omega⟩
 rw [a7.f_eq]
 unfold gQ
 by_cases h0:t.length=0
 ·simp [h0]
 ·have b0:((t.length:Int)==0)=false:=beq_eq_false_iff_ne.2 (by omega)
  by_cases h8:t.length≤8
  ·have b8:¬((t.length:Int)>8):=by omega
   have h1:1≤t.length:=by omega
   have:=nB t h8 k (by omega) t.length 0 (by omega) (fun q hq=>absurd hq (Nat.not_lt_zero q)) k (by omega)
   rw [Nat.sub_zero,←List.range_eq_range'] at this
   simp only [b0,Bool.not_false,cond,b8,decide_false,h1,h8,decide_true,Bool.true_and]
   exact this
  ·have b8:((t.length:Int)>8):=by omega
   simp [b0,b8,h8]
def GG (t:List aI)(m:Nat):Prop:=∀q,q<m→cH t q<(q:Int)
theorem vZ {t:List aI}{m:Nat}(h:GG t m):∀(f g:Nat) (a:Int),a<(m:Int)→a<(f:Int)→a<(g:Int)→jU t f a=jU t g a
 |0,0,_,_,_,_=>rfl
 |0,g+1,a,_,h1,_=>by
  have:¬0≤a:=by omega
  simp [jU,this]
 |f+1,0,a,_,_,h1=>by
  have:¬0≤a:=by omega
  simp [jU,this]
 |f+1,g+1,a,hl,h1,h2=>by
  simp only [jU]
  split
  ·rename_i h0
   have hup:=h a.toNat (by omega)
   rw [vZ h f g _ (by omega) (by omega) (by omega)]
  ·rfl
theorem vr {t:List aI}{m:Nat}(h:GG t m){i:Nat}(hi:i<m):eg t (i:Int)=(i:Int) :: eg t (cH t i):=by
 have hup:=h i hi
 unfold eg
 rw [show ((i:Int)+1).toNat=i+1 by omega]
 simp only [jU]
 rw [if_pos (by omega),Int.toNat_natCast]
 by_cases hp:0≤cH t i
 ·rw [vZ h i ((cH t i+1).toNat) (cH t i) (by omega) (by omega) (by omega)]
 ·rw [show (cH t i+1).toNat=0 by omega]
  congr 1
  cases i with
  |zero=>rfl
  |succ i=>simp [jU,hp]
def nX (t:List aI)(i:Nat):Bool:=
 gI t i&&(cS (bK t i)||(ag t (i:Int)).length==0)&&iQ t i&&(i==0||(decide (0≤cH t i)&&decide (cH t i<(i:Int))&&decide ((eg t (cH t i)).length≤4)))
theorem uU {k:Nat}(hk:1≤k)(x a b:Int):aZ.f aV k x a b=some (decide (a≤x)&&decide (x≤b)):=by
 obtain ⟨k,rfl⟩:∃m,k=m+1:=⟨k - 1,by omega⟩
 rw [aZ.f_eq]
 by_cases h:a≤x
 ·have:x≥a:=h
  simp [h]
 ·have:¬x≥a:=h
  simp [h]
set_option maxHeartbeats 2000000 in
theorem mX (t:List aI)(ht:t.length≤8)(k:Nat)(hk:20≤k)(h0:cH t 0=-1):∀(j i:Nat),i+j=t.length→GG t i→∀deep:List Int,deep.length=t.length→(i=0→deep[0]?=some 0)→
  (∀q,q<i→deep[q]?=some (((eg t (q:Int)).length:Int) - 1))→∀n,j+1≤n→ai.l0 aV k n (i:Int) t deep=some ((List.range' i (t.length - i)).all (nX t))
 |0,i,hij,hu,deep,hdl,hd0,hd,n,hn=>by
  obtain ⟨n,rfl⟩:∃m,n=m+1:=⟨n - 1,by omega⟩
  rw [ai.l0_eq]
  have h1:¬((i:Int)<(t.length:Int)):=by omega
  simp only [h1,decide_false,cond]
  rw [show t.length - i=0 by omega];rfl
 |j+1,i,hij,hu,deep,hdl,hd0,hd,n,hn=>by
  obtain ⟨n,rfl⟩:∃m,n=m+1:=⟨n - 1,by omega⟩
  have hlt:i<t.length:=by omega
  have h1:((i:Int)<(t.length:Int)):=by omega
  rw [ai.l0_eq,rV _ _ _ hlt]
  simp only [h1,decide_true,cond,aE hlt,Option.bind_some,bY hlt,lR hlt,uU (show 1≤k by omega),pK t _ (show t.length≤17592186044415 by omega) (show t.length+2≤k by omega),gk (show 1≤k by omega),
   bM (show (i:Int)≤_ by omega),bR ((i:Int) - 1) (by omega)]
  -- what comes behind the looks at the kind and the kids
  have rest:∀g:Bool,nX t i=(g&&(i==0||(decide (0≤cH t i)&&decide (cH t i<(i:Int))&&decide ((eg t (cH t i)).length≤4))))→g=true→
    (bif ((i:Int)==0) then ai.l0 aV k n ((i+1:Nat):Int) t deep
     else bif (!(!(decide (0≤cH t i)&&decide (cH t i≤(i:Int) - 1)))) then
     bif decide (0≤cH t i)&&decide (cH t i<(deep.length:Int)) then
      (deep[(cH t i).toNat]?).bind fun e_6=>
      bif decide (e_6≥4) then some false
      else
      bif decide (0≤cH t i)&&decide (cH t i<(deep.length:Int)) then
       (deep[(cH t i).toNat]?).bind fun e_7=>
       bif decide (0≤(i:Int))&&decide ((i:Int)<(deep.length:Int)) then
       (deep[((i:Int)).toNat]?).bind fun e_8=>
       ai.l0 aV k n ((i+1:Nat):Int) t (deep.set ((i:Int)).toNat (IntKind.i64.wrap (e_7+1)))
       else none
      else none
     else none
     else some false)=some (nX t i&&(List.range' (i+1) (t.length - (i+1))).all (nX t)):=by
   intro g hg hgt
   subst hgt
   rw [Bool.true_and] at hg
   by_cases hi0:i=0
   ·subst hi0
    have hr:nX t 0=true:=by rw [hg];rfl
    have hu1:GG t 1:=fun q hq=>by
     have:q=0:=by omega
     subst this;rw [h0];decide
    have hw:(eg t ((0:Nat):Int)).length=1:=by
     rw [vr hu1 (by omega),h0,rO (by decide)];rfl
    have ih:=mX t ht k hk h0 j 1 (by omega) hu1 deep hdl (fun h=>by omega) (fun q hq=>by
     have:q=0:=by omega
     subst this
     rw [hd0 rfl,hw];rfl) n (by omega)
    have b0:(((0:Nat):Int)==0)=true:=rfl
    simp only [b0,cond,hr,Bool.true_and]
    exact ih
   ·have b0:((i:Int)==0)=false:=beq_eq_false_iff_ne.2 (by omega)
    have bn:(i==0)=false:=beq_eq_false_iff_ne.2 hi0
    rw [bn,Bool.false_or] at hg
    simp only [b0,cond]
    by_cases hp:0≤cH t i∧cH t i<(i:Int)
    ·obtain ⟨hp1,hp2⟩:=hp
     have hp3:cH t i≤(i:Int) - 1:=by omega
     have hp4:cH t i<(deep.length:Int):=by omega
     have hq:(cH t i).toNat<i:=by omega
     have e:(((cH t i).toNat:Nat):Int)=cH t i:=by omega
     have hv:=hd _ hq
     rw [e] at hv
     have hi1:(0:Int)≤(i:Int):=by omega
     have hi2:(i:Int)<(deep.length:Int):=by omega
     have hget : deep[((i : Int)).toNat]? = some (deep[i]'(by omega)) := by rw [Int.toNat_natCast]; exact List.getElem?_eq_getElem (by omega)
     simp only [hp1,hp2,hp3,hp4,decide_true,Bool.and_self,Bool.not_true,Bool.not_false,hv,Option.bind_some,hi1,hi2,hget]
     simp only [hp1,hp2,decide_true,Bool.true_and] at hg
     by_cases hw:(eg t (cH t i)).length≤4
     ·have hw':¬(((eg t (cH t i)).length:Int) - 1≥4):=by omega
      have hr:nX t i=true:=by rw [hg];simpa using hw
      have hu1:GG t (i+1):=fun q hq=>by
       by_cases e:q=i
       ·subst e;exact hp2
       ·exact hu q (by omega)
      have hwl:eg t (i:Int)=(i:Int) :: eg t (cH t i):=vr hu1 (by omega)
      have hs:IntKind.i64.wrap (((eg t (cH t i)).length:Int) - 1+1)=((eg t (i:Int)).length:Int) - 1:=by
       rw [bR _ (by omega),hwl,List.length_cons];omega
      have ih:=mX t ht k hk h0 j (i+1) (by omega) hu1 (deep.set i (((eg t (i:Int)).length:Int) - 1)) (by simpa using hdl) (fun h=>by omega) (fun q hq=>by
       by_cases e:q=i
       ·subst e
        rw [List.getElem?_set_self (by omega)]
       ·rw [List.getElem?_set_ne (fun h=>e h.symm)]
        exact hd q (by omega)) n (by omega)
      simp only [hw',decide_false,hr,Bool.true_and,hs,Int.toNat_natCast]
      exact ih
     ·have hw':(((eg t (cH t i)).length:Int) - 1≥4):=by omega
      have hr:nX t i=false:=by rw [hg];simpa using hw
      simp only [hw',decide_true,hr,Bool.false_and]
    ·have hr:nX t i=false:=by
      rw [hg]
      by_cases hp1:0≤cH t i
      ·have hp2:¬cH t i<(i:Int):=fun h=>hp ⟨hp1,h⟩
       simp [hp2]
      ·simp [hp1]
     have hb:(decide (0≤cH t i)&&decide (cH t i≤(i:Int) - 1))=false:=by
      by_cases hp1:0≤cH t i
      ·have hp2:¬cH t i≤(i:Int) - 1:=fun h=>hp ⟨hp1,by omega⟩
       simp [hp2]
      ·simp [hp1]
     simp only [hb,Bool.not_false,Bool.not_true,hr,Bool.false_and]
  have e1:(((ag t (i:Int)).length:Int) != 1)=!((ag t (i:Int)).length==1):=by
   simp only [bne]
   congr 1
   exact xJ _ 1
  have e2:decide (((ag t (i:Int)).length:Int)<1)=((ag t (i:Int)).length==0):=by
   by_cases hh:(ag t (i:Int)).length=0
   ·simp [hh]
   ·have h3:¬(((ag t (i:Int)).length:Int)<1):=by omega
    rw [beq_eq_false_iff_ne.2 hh,decide_eq_false h3]
  have e3:decide (((ag t (i:Int)).length:Int)>0)=!((ag t (i:Int)).length==0):=by
   by_cases hh:(ag t (i:Int)).length=0
   ·simp [hh]
   ·have h3:(((ag t (i:Int)).length:Int)>0):=by omega
    rw [beq_eq_false_iff_ne.2 hh,decide_eq_true h3]
    rfl
  simp only [e1,e2,e3]
  have hrefl:nX t i=(gI t i&&(cS (bK t i)||(ag t (i:Int)).length==0)&&iQ t i&&(i==0||(decide (0≤cH t i)&&decide (cH t i<(i:Int))&&decide ((eg t (cH t i)).length≤4)))):=rfl
  have hkb:(decide (0≤bK t i)&&decide (bK t i≤4))=gI t i:=rfl
  rw [hkb]
  have rest':=rest _ hrefl
  unfold iQ cS at rest' hrefl
  unfold cS
  generalize gI t i=bk at rest' hrefl ⊢
  generalize (bK t i==3)=b3 at rest' hrefl ⊢
  generalize (bK t i==4)=b4 at rest' hrefl ⊢
  generalize ((ag t (i:Int)).length==0)=z at rest' hrefl ⊢
  generalize ((ag t (i:Int)).length==1)=o at rest' hrefl ⊢
  generalize nX t i=rb at rest' hrefl ⊢
  cases bk with
  |false=>simp only [Bool.false_and] at hrefl;subst hrefl;simp only [Bool.not_false,Bool.false_and]
  |true=>
   cases b3<;>cases b4<;>cases z<;>cases o<;>simp only [Bool.not_true,Bool.not_false,Bool.true_and,Bool.false_and,Bool.and_true,Bool.and_false,Bool.or_true,Bool.true_or,Bool.or_false,Bool.false_or,Bool.and_self,Bool.or_self] at rest' hrefl ⊢<;>
    first|(exact rest' trivial)|(exact rest' rfl)|(subst hrefl;simp only [Bool.false_and];done)|(subst hrefl;rfl)
theorem xK {k:Nat}(hk:21≤k)(t:List aI):ai.f aV k t=some (decide (1≤t.length)&&decide (t.length≤8)&&(cH t 0==-1)&&(List.range t.length).all (nX t)):=by
 obtain ⟨k,rfl⟩:∃m,k=m+1:=⟨k - 1,by omega⟩
 rw [ai.f_eq]
 by_cases h1:1≤t.length
 ·have h1':¬((t.length:Int)<1):=by omega
  by_cases h8:t.length≤8
  ·have h8':¬((t.length:Int)>8):=by omega
   have hr:rd t 0=some t[0]:=aE (i:=0) h1
   have hb:(((t.length:Int)==(t.length:Int))&&(decide (0≤(t.length:Int))&&decide ((t.length:Int)*8≤140737488355328)))=true:=by simp;omega
   simp only [h1,h1',h8,h8',decide_true,decide_false,Bool.not_false,cond,hr,Option.bind_some,lR h1,hb,Bool.true_and]
   by_cases hp:cH t 0=-1
   ·have b1:(cH t 0 != -1)=false:=by simp [hp]
    have b2:(cH t 0==-1)=true:=by simp [hp]
    have:=mX t h8 k (by omega) hp t.length 0 (by omega) (fun q hq=>absurd hq (Nat.not_lt_zero q)) (List.replicate ((t.length:Int)).toNat 0) (by simp) (fun _=>by
     rw [List.getElem?_replicate,if_pos (by omega)]) (fun q hq=>absurd hq (Nat.not_lt_zero q)) k (by omega)
    rw [Nat.sub_zero,←List.range_eq_range'] at this
    simp only [b1,b2,Bool.true_and]
    exact this
   ·have b1:(cH t 0 != -1)=true:=by simpa using hp
    have b2:(cH t 0==-1)=false:=by simpa using hp
    simp only [b1,b2,Bool.false_and]
  ·have h8':((t.length:Int)>8):=by omega
   simp only [h1',h8,h8',decide_true,decide_false,Bool.not_false,Bool.not_true,cond,Bool.false_and,Bool.and_false]
 ·have h1':((t.length:Int)<1):=by omega
  simp only [h1,h1',decide_true,decide_false,Bool.not_true,cond,Bool.false_and]
theorem cZ (t:List aI):gQ t=true↔(1≤t.length∧t.length≤8)∧(∀i,i<t.length→gI t i=true∧eh t i=true)∧∀i,i<t.length→iQ t i=true∧(eg t (i:Int)).length≤5:=by
 unfold gQ
 simp only [Bool.and_eq_true,decide_eq_true_eq,List.all_eq_true,List.mem_range]
 constructor
 ·rintro ⟨⟨⟨h1,h2⟩,h3⟩,h4⟩;exact ⟨⟨h1,h2⟩,h3,h4⟩
 ·rintro ⟨⟨h1,h2⟩,h3,h4⟩;exact ⟨⟨⟨h1,h2⟩,h3⟩,h4⟩
theorem fm {t:List aI}(h:gQ t=true):hJ t:=fun i hi=>(((cZ t).1 h).2.1 i hi).2
theorem zv (t:List aI):(decide (1≤t.length)&&decide (t.length≤8)&&(cH t 0==-1)&&(List.range t.length).all (nX t))=gQ t:=by
 apply Bool.eq_iff_iff.2
 rw [cZ]
 simp only [Bool.and_eq_true,decide_eq_true_eq,List.all_eq_true,List.mem_range,beq_iff_eq]
 constructor
 ·rintro ⟨⟨⟨h1,h2⟩,h0⟩,hall⟩
  have href:∀i,i<t.length→gI t i=true∧(cS (bK t i)=true∨(ag t (i:Int)).length=0)∧iQ t i=true∧(i=0∨(0≤cH t i∧cH t i<(i:Int)∧(eg t (cH t i)).length≤4)):=by
   intro i hi
   have:=hall i hi
   simp only [nX,Bool.and_eq_true,Bool.or_eq_true,beq_iff_eq,decide_eq_true_eq] at this
   obtain ⟨⟨⟨q1,q2⟩,q3⟩,q4⟩:=this
   refine ⟨q1,q2,q3,?_⟩
   rcases q4 with q4|⟨⟨q5,q6⟩,q7⟩
   ·exact .inl q4
   ·exact .inr ⟨q5,q6,q7⟩
  have hst:hJ t:=by
   intro i hi
   unfold eh
   split
   ·simpa using h0
   ·rename_i hi0
    obtain ⟨_,_,_,q4⟩:=href i hi
    rcases q4 with q4|⟨q5,q6,q7⟩
    ·exact absurd q4 hi0
    ·have hp:(cH t i).toNat<t.length:=by omega
     have hm:(i:Int)∈ag t (((cH t i).toNat:Nat):Int):=jA.2 ⟨i,hi,by omega,by omega,rfl⟩
     obtain ⟨_,q2,_,_⟩:=href _ hp
     have hin:cS (bK t (cH t i).toNat)=true:=by
      rcases q2 with q2|q2
      ·exact q2
      ·rw [List.eq_nil_of_length_eq_zero q2] at hm;simp at hm
     simp [q5,q6,hin]
  refine ⟨⟨h1,h2⟩,fun i hi=>⟨(href i hi).1,hst i hi⟩,fun i hi=>⟨(href i hi).2.2.1,?_⟩⟩
  rw [qq hst hi,List.length_cons]
  rcases (href i hi).2.2.2 with q4|⟨_,_,q7⟩
  ·subst q4
   rw [h0,rO (by decide)];simp
  ·omega
 ·rintro ⟨⟨h1,h2⟩,h3,h4⟩
  have hst:hJ t:=fun i hi=>(h3 i hi).2
  have h0:cH t 0=-1:=by
   have:=hst 0 (by omega)
   simpa [eh] using this
  refine ⟨⟨⟨h1,h2⟩,h0⟩,fun i hi=>?_⟩
  simp only [nX,Bool.and_eq_true,Bool.or_eq_true,beq_iff_eq,decide_eq_true_eq]
  refine ⟨⟨⟨(h3 i hi).1,?_⟩,(h4 i hi).1⟩,?_⟩
  ·by_cases hk:(ag t (i:Int)).length=0
   ·exact .inr hk
   ·refine .inl ?_
    obtain ⟨x,hx⟩:=List.exists_mem_of_length_pos (Nat.pos_of_ne_zero hk)
    obtain ⟨j,hj,hj0,hpj,_⟩:=jA.1 hx
    have:=hst j hj
    unfold eh at this
    rw [if_neg (by omega)] at this
    simp only [Bool.and_eq_true] at this
    rw [hpj,Int.toNat_natCast] at this
    exact this.2
  ·by_cases hi0:i=0
   ·exact .inl hi0
   ·refine .inr ?_
    have hs:=hst i hi
    unfold eh at hs
    rw [if_neg hi0] at hs
    simp only [Bool.and_eq_true,decide_eq_true_eq] at hs
    have hw:=(h4 i hi).2
    rw [qq hst hi,List.length_cons] at hw
    exact ⟨⟨hs.1.1,hs.1.2⟩,by omega⟩
theorem rf {k:Nat}(hk:21≤k)(t:List aI):ai.f aV k t=some (gQ t):=by rw [xK hk,zv]
theorem cw {t:List aI}(h:gQ t=true):1≤t.length∧t.length≤8:=((cZ t).1 h).1
theorem yZ {α:Type}{b:Bool}(h:b=true)(x y:α):(bif b then x else y)=x:=by subst h;rfl
def b9 (t:List aI)(a:Int):Bool:=gQ t&&(decide (0≤a)&&decide (a<(t.length:Int)))
theorem jl {k:Nat}(hk:30≤k)(t:List aI)(a:Int):f6.f aV k t a=some (b9 t a):=by
 obtain ⟨k,rfl⟩:∃m,k=m+1:=⟨k - 1,by omega⟩
 rw [f6.f_eq,tJ (by omega)]
 unfold b9
 cases hm:gQ t with
 |false=>simp
 |true=>
  by_cases h0:0≤a
  ·have h0':a≥0:=h0
   simp [h0]
  ·have h0':¬a≥0:=h0
   simp [h0]
theorem c6 {k:Nat}(hk:30≤k)(t:List aI)(a:Int):bP.f aV k t a=some (b9 t a):=by
 obtain ⟨k,rfl⟩:∃m,k=m+1:=⟨k - 1,by omega⟩
 rw [bP.f_eq,rf (by omega)]
 unfold b9
 cases hm:gQ t with
 |false=>simp
 |true=>
  by_cases h0:0≤a
  ·have h0':a≥0:=h0
   simp [h0]
  ·have h0':¬a≥0:=h0
   simp [h0]
theorem bC {t:List aI}{a:Int}(h:b9 t a=true):gQ t=true∧∃i:Nat,i<t.length∧a=(i:Int):=by
 unfold b9 at h
 simp only [Bool.and_eq_true,decide_eq_true_eq] at h
 exact ⟨h.1,a.toNat,by omega,by omega⟩
theorem eR {t:List aI}(h:gQ t=true){i:Nat}(hi:i<t.length):b9 t (i:Int)=true:=by
 unfold b9
 simp [h,hi]
def kA (t:List aI)(a:Int):List Int×Int:=if b9 t a then (ag t a,0) else ([],500)
theorem mq {k:Nat}(hk:40≤k)(t:List aI)(a:Int):gb.f aV k t a=some (kA t a):=by
 obtain ⟨k,rfl⟩:∃m,k=m+1:=⟨k - 1,by omega⟩
 rw [gb.f_eq,jl (by omega)]
 unfold kA
 cases hn:b9 t a with
 |false=>simp
 |true=>
  have hl:=cw (bC hn).1
  simp [mh t a (show t.length≤17592186044415 by omega) (show t.length+2≤k by omega)]
theorem fg {k:Nat}(hk:40≤k)(t:List aI)(a:Int):cI.f aV k t a=some (kA t a):=by
 obtain ⟨k,rfl⟩:∃m,k=m+1:=⟨k - 1,by omega⟩
 rw [cI.f_eq,c6 (by omega)]
 unfold kA
 cases hn:b9 t a with
 |false=>simp
 |true=>
  have hl:=cw (bC hn).1
  simp [pK t a (show t.length≤17592186044415 by omega) (show t.length+2≤k by omega)]
def b1 (b:Bool):Int:=if b then 1 else 0
theorem cT {α:Type}(x y:α):(bif true then x else y)=x:=yZ rfl x y
theorem H6 {α:Type}{b:Bool}(h:b=false)(x y:α):(bif b then x else y)=y:=by subst h;rfl
theorem cF {α:Type}(x y:α):(bif false then x else y)=y:=H6 rfl x y
theorem H7 {α β:Type}{o:Option α}{a:α}(h:o=some a)(f:α→Option β):o.bind f=f a:=by subst h;rfl
theorem bS {α β:Type}(a:α)(f:α→Option β):(some a).bind f=f a:=H7 rfl f
end Go.Proofs.YtjkokaockhecnaaGreatDoorP
