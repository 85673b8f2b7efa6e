/- What the functions below the laws answer, in plain lists and numbers; no condition but the sizes that a machine has. -/
import Derived.Test.YtjkokaockhecnaaGreatDoorEqs0
import Derived.Test.YtjkokaockhecnaaGreatDoorEqs1
import Derived.Laws.BitsLemmas
import Derived.KernelRfl
namespace Go.Proofs.YtjkokaockhecnaaGreatDoorP
open Go Go.Proofs.YtjkokaockhecnaaGreatDoorA
theorem bH (n:Int)(h:-9223372036854775808≤n∧n≤9223372036854775807):IntKind.i64.wrap n=n:=by rw [IntKind.wrap_i64];omega
theorem uP (n:Int)(h:0≤n∧n≤18446744073709551615):IntKind.u64.wrap n=n:=by
 simp [IntKind.wrap,IntKind.bits,IntKind.signed];omega
theorem AW (n:Int):IntKind.u8.wrap n=n % 256:=IntKind.wrap_u8 n
theorem qE (x y:Nat)(m:Nat)(h:x<2 ^ m):x ||| (y*2 ^ m)=x+y*2 ^ m:=by
 have:=Nat.two_pow_add_eq_or_of_lt (i:=m) (b:=x) h y
 rw [Nat.mul_comm y,Nat.or_comm,←this,Nat.add_comm]
theorem toNat_ofInt (n:Nat)(x:Int):(BitVec.ofInt n x).toNat=(x % (2 ^ n:Int)).toNat:=by
 rw [BitVec.toNat_ofInt];simp
theorem lI (k:IntKind)(x y:Int):ax .and k x y=k.wrap ((((x % (2 ^ k.bits:Int)).toNat &&& (y % (2 ^ k.bits:Int)).toNat:Nat)):Int):=by
 unfold ax
 simp only [BitVec.toNat_and,toNat_ofInt]
theorem kx (k:IntKind)(x y:Int):ax .or k x y=k.wrap ((((x % (2 ^ k.bits:Int)).toNat ||| (y % (2 ^ k.bits:Int)).toNat:Nat)):Int):=by
 unfold ax
 simp only [BitVec.toNat_or,toNat_ofInt]
theorem AS (x:Int)(m:Nat)(hm:m≤62):ax .and .i64 x (2 ^ m - 1)=x % 2 ^ m:=by
 rw [lI]
 have hp:(0:Int)<2 ^ m:=Int.pow_pos (by omega)
 have hle:(2 ^ m:Int)≤2 ^ 62:=by exact_mod_cast (Nat.pow_le_pow_right (n:=2) (by omega) hm)
 have e1:((2 ^ m - 1:Int) % (2 ^ IntKind.i64.bits:Int))=((2 ^ m - 1:Nat):Int):=by
  have:((2 ^ m - 1:Nat):Int)=2 ^ m - 1:=by
   have h1:1≤2 ^ m:=Nat.one_le_two_pow
   push_cast [h1];simp
  rw [this,Int.emod_eq_of_lt (by omega)]
  show (2 ^ m - 1:Int)<2 ^ 64
  have:(2 ^ 62:Int)<2 ^ 64:=by decide
  omega
 rw [e1,Int.toNat_natCast,Nat.and_two_pow_sub_one_eq_mod]
 have hx0:0≤x % (2 ^ IntKind.i64.bits:Int):=Int.emod_nonneg _ (by decide)
 have e2:(((x % (2 ^ IntKind.i64.bits:Int)).toNat % 2 ^ m:Nat):Int)=x % 2 ^ m:=by
  rw [Int.natCast_emod,Int.toNat_of_nonneg hx0]
  push_cast
  have hd:(2 ^ m:Int) ∣ (2 ^ IntKind.i64.bits:Int):=by
   refine ⟨2 ^ (64 - m),?_⟩
   rw [←Int.pow_add]
   show (2:Int) ^ 64=_
   congr 1;omega
  rw [Int.emod_emod_of_dvd _ hd]
 rw [e2]
 have h1:0≤x % 2 ^ m:=Int.emod_nonneg _ (by omega)
 have h2:x % 2 ^ m<2 ^ m:=Int.emod_lt_of_pos _ hp
 have h3:(2 ^ 62:Int)≤9223372036854775807:=by decide
 exact bH _ ⟨by omega,by omega⟩
theorem rM (x y:Int)(m:Nat)(hx:0≤x)(hxm:x<2 ^ m)(hy:0≤y)(ht:x+y*2 ^ m≤9223372036854775807):ax .or .i64 x (y*2 ^ m)=x+y*2 ^ m:=by
 rw [kx]
 have hp:(0:Int)<2 ^ m:=Int.pow_pos (by omega)
 have hym:0≤y*2 ^ m:=Int.mul_nonneg hy (by omega)
 have e1:x % (2 ^ IntKind.i64.bits:Int)=x:=Int.emod_eq_of_lt hx (Int.lt_of_le_of_lt (b:=9223372036854775807) (by omega) (by decide))
 have e2:(y*2 ^ m) % (2 ^ IntKind.i64.bits:Int)=y*2 ^ m:=Int.emod_eq_of_lt hym (Int.lt_of_le_of_lt (b:=9223372036854775807) (by omega) (by decide))
 rw [e1,e2]
 have e3:(y*2 ^ m).toNat=y.toNat*2 ^ m:=by
  rw [Int.toNat_mul hy (by omega)]
  congr 1
 have hxn:x.toNat<2 ^ m:=by
  have:((x.toNat:Nat):Int)<((2 ^ m:Nat):Int):=by rw [Int.toNat_of_nonneg hx];push_cast;exact hxm
  exact Int.ofNat_lt.1 this
 rw [e3,qE _ _ _ hxn]
 have:((x.toNat+y.toNat*2 ^ m:Nat):Int)=x+y*2 ^ m:=by
  push_cast
  rw [Int.toNat_of_nonneg hx,Int.toNat_of_nonneg hy]
 rw [this]
 exact bH _ ⟨by omega,ht⟩
theorem yB (x y:Int)(m:Nat)(hx:0≤x)(hxm:x<2 ^ m)(hy:0≤y)(ht:x+y*2 ^ m≤18446744073709551615):ax .or .u64 x (y*2 ^ m)=x+y*2 ^ m:=by
 rw [kx]
 have hp:(0:Int)<2 ^ m:=Int.pow_pos (by omega)
 have hym:0≤y*2 ^ m:=Int.mul_nonneg hy (by omega)
 have e1:x % (2 ^ IntKind.u64.bits:Int)=x:=Int.emod_eq_of_lt hx (Int.lt_of_le_of_lt (b:=18446744073709551615) (by omega) (by decide))
 have e2:(y*2 ^ m) % (2 ^ IntKind.u64.bits:Int)=y*2 ^ m:=Int.emod_eq_of_lt hym (Int.lt_of_le_of_lt (b:=18446744073709551615) (by omega) (by decide))
 rw [e1,e2]
 have e3:(y*2 ^ m).toNat=y.toNat*2 ^ m:=by
  rw [Int.toNat_mul hy (by omega)]
  congr 1
 have hxn:x.toNat<2 ^ m:=by
  have:((x.toNat:Nat):Int)<((2 ^ m:Nat):Int):=by rw [Int.toNat_of_nonneg hx];push_cast;exact hxm
  exact Int.ofNat_lt.1 this
 rw [e3,qE _ _ _ hxn]
 have:((x.toNat+y.toNat*2 ^ m:Nat):Int)=x+y*2 ^ m:=by
  push_cast
  rw [Int.toNat_of_nonneg hx,Int.toNat_of_nonneg hy]
 rw [this]
 exact uP _ ⟨by omega,ht⟩
def oI (x:Int):Bool:=decide (0≤x)&&decide (x≤2147483647)
theorem qh {k:Nat}(hk:1≤k)(x:Int):gJ.f aT k x=some (oI x):=by
 obtain ⟨k,rfl⟩:∃m,k=m+1:=⟨k - 1,by omega⟩
 rw [gJ.f_eq]
 unfold oI
 by_cases h:0≤x
 ·have:x≥0:=h
  simp [h]
 ·have:¬x≥0:=h
  simp [h]
def w4 (x:Int):List UInt8:=ab [IntKind.u8.wrap (Int.fdiv x 1),IntKind.u8.wrap (Int.fdiv x (2 ^ 8)),IntKind.u8.wrap (Int.fdiv x (2 ^ 16)),IntKind.u8.wrap (Int.fdiv x (2 ^ 24))]
def w8 (x:Int):List UInt8:=ab [IntKind.u8.wrap (Int.fdiv x 1),IntKind.u8.wrap (Int.fdiv x (2 ^ 8)),IntKind.u8.wrap (Int.fdiv x (2 ^ 16)),IntKind.u8.wrap (Int.fdiv x (2 ^ 24)),
 IntKind.u8.wrap (Int.fdiv x (2 ^ 32)),IntKind.u8.wrap (Int.fdiv x (2 ^ 40)),IntKind.u8.wrap (Int.fdiv x (2 ^ 48)),IntKind.u8.wrap (Int.fdiv x (2 ^ 56))]
theorem EU (m:Nat)(x:Int):cq.f aT (m+12) x 4=some (w4 x):=by kernel_rfl
theorem Fq (m:Nat)(x:Int):cq.f aT (m+12) x 8=some (w8 x):=by kernel_rfl
def put (x w:Int):List UInt8×Int:=if w=8 then (w8 x,0) else if w=4∧oI x=true then (w4 x,0) else ([],300)
def val:List UInt8→Nat
 |[]=>0
 |b :: l=>b.toNat+256*val l
theorem zB:∀l:List UInt8,val l<2 ^ (8*l.length)
 |[]=>by simp [val]
 |b :: l=>by
  have:=zB l
  have hb:b.toNat<256:=b.toNat_lt
  simp only [val,List.length_cons]
  rw [show 8*(l.length+1)=8+8*l.length by omega,Nat.pow_add]
  have:256*(val l+1)≤256*2 ^ (8*l.length):=Nat.mul_le_mul_left _ this
  omega
theorem qJ:∀l m:List UInt8,val (l++m)=val l+2 ^ (8*l.length)*val m
 |[],m=>by simp [val]
 |b :: l,m=>by
  simp only [List.cons_append,val,qJ l m,List.length_cons]
  rw [show 8*(l.length+1)=8+8*l.length by omega,Nat.pow_add,Nat.mul_add,←Nat.mul_assoc,Nat.add_assoc]
def fw (s:List UInt8):Int:=IntKind.i64.wrap (val s)
theorem bT {α:Type}{l:List α}{i:Nat}(h:i<l.length):rd l (i:Int)=some l[i]:=by
 unfold rd
 have:decide ((0:Int)≤(i:Int))=true:=by simp
 rw [this]
 simp only [cond,Int.toNat_natCast]
 exact List.getElem?_eq_getElem h
theorem q9 (s:List UInt8)(hs:s.length≤8):∀(j i:Nat),i+j=s.length→∀k n,j+1≤n→dj.l0 aT k n s (val (s.take i):Int) (s.length:Int) (i:Int)=some (fw s)
 |0,i,hij,k,n,hn=>by
  obtain ⟨n,rfl⟩:∃m,n=m+1:=⟨n - 1,by omega⟩
  rw [dj.l0_eq]
  have:¬((i:Int)<(s.length:Int)):=by omega
  simp only [this,decide_false,cond,fw]
  rw [List.take_of_length_le (by omega)]
 |j+1,i,hij,k,n,hn=>by
  obtain ⟨n,rfl⟩:∃m,n=m+1:=⟨n - 1,by omega⟩
  rw [dj.l0_eq]
  have hlt:i<s.length:=by omega
  have h1:((i:Int)<(s.length:Int)):=by omega
  have e8:IntKind.i64.wrap (8*(i:Int))=8*(i:Int):=bH _ (by omega)
  have e9:IntKind.i64.wrap ((i:Int)+1)=((i+1:Nat):Int):=by rw [bH _ (by omega)];rfl
  have h2:¬(8*(i:Int)<0):=by omega
  have hb:(s[i].toNat:Int)≤255:=by have:s[i].toNat<256:=s[i].toNat_lt;omega
  have hv:=zB (s.take i)
  rw [List.length_take,Nat.min_eq_left (by omega)] at hv
  have hpow:(2:Nat) ^ (8*i)≤2 ^ 56:=Nat.pow_le_pow_right (by omega) (by omega)
  have hbp:s[i].toNat*2 ^ (8*i)≤255*2 ^ (8*i):=Nat.mul_le_mul_right _ (by omega)
  have e10:(8*(i:Int)).toNat=8*i:=by omega
  have e11:min (8*i) IntKind.u64.bits=8*i:=Nat.min_eq_left (by show 8*i≤64;omega)
  have e12:IntKind.u64.wrap (s[i].toNat:Int)=(s[i].toNat:Int):=uP _ (by omega)
  have c1:((2:Int) ^ (8*i))=((2 ^ (8*i):Nat):Int):=by push_cast;rfl
  have hmulI:(s[i].toNat:Int)*2 ^ (8*i)=((s[i].toNat*2 ^ (8*i):Nat):Int):=by rw [c1];push_cast;rfl
  have p56:(2:Nat) ^ 56=72057594037927936:=by decide
  have e13:IntKind.u64.wrap ((s[i].toNat:Int)*2 ^ (8*i))=(s[i].toNat:Int)*2 ^ (8*i):=by
   rw [hmulI];exact uP _ (by omega)
  simp only [h1,decide_true,cond,bT hlt,Option.bind_some,e8,h2,decide_false,e9,e10,e11,e12,e13]
  rw [yB _ _ _ (by omega) (by rw [c1];exact Int.ofNat_lt.2 hv) (by omega) (by rw [hmulI];omega)]
  have e14:(val (s.take i):Int)+(s[i].toNat:Int)*2 ^ (8*i)=(val (s.take (i+1)):Int):=by
   rw [List.take_succ_eq_append_getElem hlt,qJ,List.length_take,Nat.min_eq_left (by omega),hmulI]
   simp only [val]
   rw [Nat.mul_zero,Nat.add_zero,Nat.mul_comm]
   push_cast;rfl
  rw [e14]
  exact q9 s hs j (i+1) (by omega) k n (by omega)
theorem eh {k:Nat}(hk:11≤k)(s:List UInt8)(hs:s.length≤8):dj.f aT k s=some (fw s):=by
 obtain ⟨k,rfl⟩:∃m,k=m+1:=⟨k - 1,by omega⟩
 rw [dj.f_eq]
 have:=q9 s hs s.length 0 (by omega) k k (by omega)
 simpa [val] using this
def wY (s:List UInt8)(at_ w:Int):Int×Int:=
 if (w=4∨w=8)∧0≤at_∧at_+w≤(s.length:Int) then
  if w=4∧oI (fw ((s.take (at_+w).toNat).drop at_.toNat))=false then (0,300) else (fw ((s.take (at_+w).toNat).drop at_.toNat),0)
 else (0,300)
theorem rY (s:List UInt8)(a w:Int)(h0:0≤a)(hw:0≤w)(hl:a+w≤(s.length:Int)):((s.take (a+w).toNat).drop a.toNat).length=w.toNat:=by
 simp only [List.length_drop,List.length_take];omega
theorem vL {k:Nat}(hk:13≤k)(s:List UInt8)(hs:(s.length:Int)≤9223372036854775000)(a w:Int)(ha:-9223372036854775808≤a∧a≤9223372036854775807):mi.f aT k s a w=some (wY s a w):=by
 obtain ⟨k,rfl⟩:∃m,k=m+1:=⟨k - 1,by omega⟩
 rw [mi.f_eq]
 have body:∀v:Int,v=4∨v=8→
   (bif (!(decide (a<0))) then
    bif (!(decide (a>(s.length:Int)))) then
     bif decide ((IntKind.i64.wrap ((s.length:Int) - a))<v) then
     some ((0:Int),(300:Int))
     else
     bif decide (0≤IntKind.i64.wrap (a+v))&&decide (IntKind.i64.wrap (a+v)≤((s.length:Nat):Int)) then
      bif decide (0≤a)&&decide (a≤(((IntKind.i64.wrap (a+v)).toNat:Nat):Int)) then
      (dj.f aT k (List.drop (a.toNat) (List.take ((IntKind.i64.wrap (a+v)).toNat) s))).bind fun r_1=>
      bif (v==4) then
       (gJ.f aT k r_1).bind fun r_2=>
       bif (!r_2) then
       some (0,300)
       else
       some (r_1,0)
      else
       some (r_1,0)
      else
      none
     else
      none
    else
     some (0,300)
    else
    some (0,300))=some (wY s a v):=by
  intro v hv
  unfold wY
  by_cases h0:a<0
  ·have:¬((v=4∨v=8)∧0≤a∧a+v≤(s.length:Int)):=by omega
   simp [h0,this]
  ·by_cases h1:a>(s.length:Int)
   ·have:¬((v=4∨v=8)∧0≤a∧a+v≤(s.length:Int)):=by omega
    simp [h0,h1,this]
   ·rw [bH ((s.length:Int) - a) (by omega)]
    by_cases h2:(s.length:Int) - a<v
    ·have:¬((v=4∨v=8)∧0≤a∧a+v≤(s.length:Int)):=by omega
     simp [h0,h1,h2,this]
    ·have h3:(v=4∨v=8)∧0≤a∧a+v≤(s.length:Int):=by omega
     have h3':=h3.2
     have hv8:v≤8:=by omega
     rw [bH (a+v) (by omega)]
     have h4:0≤a+v:=by omega
     have h5:a≤(((a+v).toNat:Nat):Int):=by omega
     rw [eh (by omega) _ (by rw [rY s a v (by omega) (by omega) (by omega)];omega),if_pos h3]
     simp only [h0,h1,h2,h3'.1,h3'.2,h4,h5,decide_true,decide_false,Bool.not_false,Bool.and_self,cond,Option.bind_some,qh (k:=k) (by omega)]
     by_cases h6:v=4
     ·subst h6
      cases hm:oI (fw ((s.take (a+4).toNat).drop a.toNat))<;>simp [hm]
     ·have:(v==4)=false:=by simpa using h6
      simp [h6,this]
 by_cases h4:w=4
 ·subst h4
  simpa using body 4 (.inl rfl)
 ·by_cases h8:w=8
  ·subst h8
   simpa using body 8 (.inr rfl)
  ·have b8:(w != 8)=true:=by simpa using h8
   have b4:(w != 4)=true:=by simpa using h4
   simp [b4,b8,wY,h4,h8]
def kH:Nat→Int→List Int
 |0,x=>[x]
 |f+1,x=>if 128≤x then (x % 128+128) :: kH f (x / 128) else [x]
def qH (x:Int):List UInt8×Int:=if oI x=true then (ab (kH 4 x),0) else ([],300)
theorem F9:∀n:Nat,n<256→n ||| 128=n % 128+128:=by decide+kernel
theorem FX (x:Int)(hx:0≤x):ax .or .u8 (IntKind.u8.wrap x) 128=x % 128+128:=by
 rw [kx,AW x]
 have e1:(x % 256) % (2 ^ IntKind.u8.bits:Int)=x % 256:=Int.emod_emod_of_dvd _ ⟨1,rfl⟩
 have e2:((128:Int) % (2 ^ IntKind.u8.bits:Int)).toNat=128:=rfl
 rw [e1,e2,F9 _ (by omega),AW]
 omega
theorem Bh (x:Int):Int.fdiv x (2 ^ (min 7 IntKind.i64.bits))=x / 128:=by
 show Int.fdiv x (2 ^ 7)=x / 128
 rw [Int.fdiv_eq_ediv_of_nonneg _ (by decide)]
 rfl
theorem qK:∀(f:Nat) (x:Int),1≤(kH f x).length∧(kH f x).length≤f+1
 |0,x=>by simp [kH]
 |f+1,x=>by
  unfold kH
  split
  ·have:=qK f (x / 128);simp;omega
  ·simp
theorem lb:∀(f:Nat) (x:Int) (out:List Int) (k n:Nat),0≤x→x<128 ^ (f+1)→f+1≤n→out.length+f+1≤140737488355328→bA.l0 aT k n x out=some (ab (out++kH f x),0)
 |0,x,out,k,n,hx,hx2,hn,hl=>by
  obtain ⟨n,rfl⟩:∃m,n=m+1:=⟨n - 1,by omega⟩
  rw [bA.l0_eq]
  have h1:¬(x≥128):=by simp at hx2;omega
  have h2:∀y:Int,decide ((out.length+[y].length)*1≤140737488355328)=true:=fun y=>by simp;omega
  have h3:IntKind.u8.wrap x=x:=by rw [AW];omega
  simp only [h1,h2,h3,decide_true,decide_false,cond,kH]
 |f+1,x,out,k,n,hx,hx2,hn,hl=>by
  obtain ⟨n,rfl⟩:∃m,n=m+1:=⟨n - 1,by omega⟩
  rw [bA.l0_eq]
  by_cases h1:128≤x
  ·have h1':x≥128:=h1
   have h2:∀y:Int,decide ((out.length+[y].length)*1≤140737488355328)=true:=fun y=>by simp;omega
   simp only [h1',h2,decide_true,cond,Bh,FX x hx]
   rw [lb f (x / 128) _ k n (by omega) (by rw [Int.pow_succ] at hx2;exact Int.ediv_lt_of_lt_mul (by omega) hx2) (by omega) (by simp;omega)]
   simp [kH,h1]
  ·have h1':¬(x≥128):=h1
   have h2:∀y:Int,decide ((out.length+[y].length)*1≤140737488355328)=true:=fun y=>by simp;omega
   have h3:IntKind.u8.wrap x=x:=by rw [AW];omega
   simp only [h1',h2,h3,decide_true,decide_false,cond,kH,h1,if_false]
theorem fm {x:Int}:oI x=true↔0≤x∧x≤2147483647:=by simp [oI]
theorem ii {k:Nat}(hk:7≤k)(x:Int):bA.f aT k x=some (qH x):=by
 obtain ⟨k,rfl⟩:∃m,k=m+1:=⟨k - 1,by omega⟩
 rw [bA.f_eq,qh (by omega)]
 unfold qH
 cases hm:oI x with
 |false=>simp
 |true=>
  obtain ⟨h1,h2⟩:=fm.1 hm
  have:=lb 4 x [] k k h1 (by have:(128:Int) ^ (4+1)=34359738368:=(by decide);omega) (by omega) (by simp)
  simp only [Option.bind_some,Bool.not_true,cond,this,List.nil_append,if_true]
def yr (s:List UInt8)(a:Nat):Nat→Int→Nat→Int×Int×Int
 |0,_,_=>(0,0,300)
 |f+1,x,i=>
  match s[a+i]? with
  |none=>(0,0,300)
  |some b=>
   if 128≤b.toNat then yr s a f (x+((b.toNat:Int) % 128)*2 ^ (7*i)) (i+1)
   else if oI (x+((b.toNat:Int) % 128)*2 ^ (7*i))=true∧ab (kH 4 (x+((b.toNat:Int) % 128)*2 ^ (7*i)))=(s.take (a+i+1)).drop a then
    (x+((b.toNat:Int) % 128)*2 ^ (7*i),((a+i+1:Nat):Int),0)
   else (0,0,300)
def ij (s:List UInt8)(a:Int):Int×Int×Int:=if 0≤a∧a≤(s.length:Int) then yr s a.toNat 5 0 0 else (0,0,300)
theorem Bd {α:Type}{l:List α}{i:Nat}(h:l.length≤i):l[i]?=none:=List.getElem?_eq_none h
theorem zQ (x:Int)(b:UInt8)(i:Nat)(hi:i≤4)(hx:0≤x)(hx2:x<2 ^ (7*i)):
  ax .or .i64 x (IntKind.i64.wrap ((IntKind.i64.wrap (Int.tmod (b.toNat:Int) 128))*2 ^ (min (IntKind.i64.wrap (7*(i:Int))).toNat IntKind.i64.bits)))=x+((b.toNat:Int) % 128)*2 ^ (7*i)∧
  0≤x+((b.toNat:Int) % 128)*2 ^ (7*i)∧x+((b.toNat:Int) % 128)*2 ^ (7*i)<2 ^ (7*(i+1)):=by
 have hb:b.toNat<256:=b.toNat_lt
 have e1:Int.tmod (b.toNat:Int) 128=(b.toNat:Int) % 128:=Int.tmod_eq_emod_of_nonneg (by omega)
 have e2:IntKind.i64.wrap ((b.toNat:Int) % 128)=(b.toNat:Int) % 128:=bH _ (by omega)
 have e3:(IntKind.i64.wrap (7*(i:Int))).toNat=7*i:=by rw [bH _ (by omega)];omega
 have e4:min (7*i) IntKind.i64.bits=7*i:=Nat.min_eq_left (by show 7*i≤64;omega)
 rw [e1,e2,e3,e4]
 have hp:(2:Int) ^ (7*i)≤268435456:=by
  have h28:(2:Nat) ^ 28=268435456:=by decide
  have:(2:Nat) ^ (7*i)≤2 ^ 28:=Nat.pow_le_pow_right (by omega) (by omega)
  rw [h28] at this
  have c:((2 ^ (7*i):Nat):Int)=2 ^ (7*i):=Int.natCast_pow 2 (7*i)
  omega
 have hp0:(0:Int)<2 ^ (7*i):=Int.pow_pos (by omega)
 have hm0:0≤(b.toNat:Int) % 128:=by omega
 have hm1:(b.toNat:Int) % 128≤127:=by omega
 have hmul0:0≤((b.toNat:Int) % 128)*2 ^ (7*i):=Int.mul_nonneg hm0 (by omega)
 have hmul1:((b.toNat:Int) % 128)*2 ^ (7*i)≤127*2 ^ (7*i):=Int.mul_le_mul_of_nonneg_right hm1 (by omega)
 have e5:IntKind.i64.wrap (((b.toNat:Int) % 128)*2 ^ (7*i))=((b.toNat:Int) % 128)*2 ^ (7*i):=bH _ (by omega)
 rw [e5,rM x _ _ hx hx2 hm0 (by omega)]
 refine ⟨rfl,by omega,?_⟩
 have:(2:Int) ^ (7*(i+1))=128*2 ^ (7*i):=by rw [show 7*(i+1)=7+7*i by omega,Int.pow_add];rfl
 omega
theorem kK (s:List UInt8)(hs:(s.length:Int)≤9223372036854775000)(a:Nat)(ha:a≤s.length):∀(f i:Nat) (x:Int) (k n:Nat),i+f=5→0≤x→x<2 ^ (7*i)→f+1≤n→7≤k→
  bX.l0 aT k n s (a:Int) x (i:Int)=some (yr s a f x i)
 |0,i,x,k,n,hi,hx,hx2,hn,hk=>by
  obtain ⟨n,rfl⟩:∃m,n=m+1:=⟨n - 1,by omega⟩
  rw [bX.l0_eq]
  have h1:¬((i:Int)<5):=by omega
  simp only [h1,decide_false,cond,yr]
 |f+1,i,x,k,n,hi,hx,hx2,hn,hk=>by
  obtain ⟨n,rfl⟩:∃m,n=m+1:=⟨n - 1,by omega⟩
  rw [bX.l0_eq]
  have h1:((i:Int)<5):=by omega
  have e1:IntKind.i64.wrap ((a:Int)+(i:Int))=((a+i:Nat):Int):=by rw [bH _ (by omega)];push_cast;rfl
  simp only [h1,decide_true,cond,e1,yr]
  by_cases hlt:a+i<s.length
  ·have h2:(((a+i:Nat):Int)<(s.length:Int)):=by omega
   have h3:¬(IntKind.i64.wrap (7*(i:Int))<0):=by rw [bH _ (by omega)];omega
   obtain ⟨v1,v2,v3⟩:=zQ x s[a+i] i (by omega) hx hx2
   have e2:IntKind.i64.wrap ((i:Int)+1)=((i+1:Nat):Int):=by rw [bH _ (by omega)];push_cast;rfl
   have e3:IntKind.i64.wrap (((a+i:Nat):Int)+1)=((a+i+1:Nat):Int):=by rw [bH _ (by omega)];push_cast;rfl
   simp only [h2,h3,decide_true,decide_false,bT hlt,Option.bind_some,v1,e2,e3,ii hk,List.getElem?_eq_getElem hlt]
   by_cases hb:128≤s[a+i].toNat
   ·have hb':((s[a+i].toNat:Int)≥128):=by omega
    simp only [hb',decide_true,hb,if_true]
    exact kK s hs a ha f (i+1) _ k n (by omega) v2 v3 (by omega) hk
   ·have hb':¬((s[a+i].toNat:Int)≥128):=by omega
    simp only [hb',decide_false,hb,if_false]
    unfold qH
    cases hm:oI (x+((s[a+i].toNat:Int) % 128)*2 ^ (7*i)) with
    |false=>simp
    |true=>
     have h4:(0:Int)≤((a+i+1:Nat):Int):=by omega
     have h5:(((a+i+1:Nat):Int)≤((s.length:Nat):Int)):=by omega
     have h6:(0:Int)≤(a:Int):=by omega
     have h7:(a:Int)≤((a+i+1:Nat):Int):=by omega
     simp only [if_true,h4,h5,h6,h7,decide_true,Bool.and_self,Int.toNat_natCast,true_and]
     by_cases he:ab (kH 4 (x+((s[a+i].toNat:Int) % 128)*2 ^ (7*i)))=(s.take (a+i+1)).drop a
     ·simp [he]
     ·have he':(ab (kH 4 (x+((s[a+i].toNat:Int) % 128)*2 ^ (7*i))) != (s.take (a+i+1)).drop a)=true:=by simpa using he
      simp [he,he']
  ·have h2:¬(((a+i:Nat):Int)<(s.length:Int)):=by omega
   simp only [h2,decide_false,Bd (l:=s) (i:=a+i) (by omega)]
theorem qM {k:Nat}(hk:8≤k)(s:List UInt8)(hs:(s.length:Int)≤9223372036854775000)(a:Int):bX.f aT k s a=some (ij s a):=by
 obtain ⟨k,rfl⟩:∃m,k=m+1:=⟨k - 1,by omega⟩
 rw [bX.f_eq]
 unfold ij
 by_cases h0:a<0
 ·have:¬(0≤a∧a≤(s.length:Int)):=by omega
  simp [h0,this]
 ·by_cases h1:a>(s.length:Int)
  ·have:¬(0≤a∧a≤(s.length:Int)):=by omega
   simp [h0,h1,this]
  ·have h2:0≤a∧a≤(s.length:Int):=by omega
   have:=kK s hs a.toNat (by omega) 5 0 0 k k (by omega) (by omega) (by decide) (by omega) (by omega)
   have ea:((a.toNat:Nat):Int)=a:=by omega
   rw [ea] at this
   simp only [h0,h1,decide_false,Bool.not_false,cond,if_pos h2]
   exact this
theorem ofNat_toNat {n:Nat}(h:n<256):(UInt8.ofNat n).toNat=n:=by simp [UInt8.toNat_ofNat];omega
theorem ml (x:Int):((UInt8.ofNat (IntKind.u8.wrap x).toNat).toNat:Int)=x % 256:=by
 rw [AW,ofNat_toNat (by omega)];omega
theorem cg (x y:Int)(h:0≤y):Int.fdiv x y=x / y:=Int.fdiv_eq_ediv_of_nonneg _ h
theorem bR (x:Int):(w4 x).length=4:=rfl
theorem yn (x:Int):(w8 x).length=8:=rfl
theorem zH (x:Int)(h:0≤x∧x<4294967296):(val (w4 x):Int)=x:=by
 have e:(val (w4 x):Int)=((UInt8.ofNat (IntKind.u8.wrap (Int.fdiv x 1)).toNat).toNat:Int)+256*(((UInt8.ofNat (IntKind.u8.wrap (Int.fdiv x (2 ^ 8))).toNat).toNat:Int)+256*(((UInt8.ofNat (IntKind.u8.wrap (Int.fdiv x (2 ^ 16))).toNat).toNat:Int)+
   256*(((UInt8.ofNat (IntKind.u8.wrap (Int.fdiv x (2 ^ 24))).toNat).toNat:Int)+256*0))):=by
  simp only [w4,ab,List.map_cons,List.map_nil,val,Int.natCast_add,Int.natCast_mul];rfl
 rw [e]
 simp only [ml,cg _ _ (show (0:Int)≤1 by decide),cg _ _ (show (0:Int)≤2 ^ 8 by decide),cg _ _ (show (0:Int)≤2 ^ 16 by decide),cg _ _ (show (0:Int)≤2 ^ 24 by decide)]
 have p8:(2:Int) ^ 8=256:=by decide
 have p16:(2:Int) ^ 16=65536:=by decide
 have p24:(2:Int) ^ 24=16777216:=by decide
 rw [p8,p16,p24]
 omega
theorem D4 (x:Int):(val (w8 x):Int)=x % 18446744073709551616:=by
 have e:(val (w8 x):Int)=((UInt8.ofNat (IntKind.u8.wrap (Int.fdiv x 1)).toNat).toNat:Int)+256*(((UInt8.ofNat (IntKind.u8.wrap (Int.fdiv x (2 ^ 8))).toNat).toNat:Int)+256*(((UInt8.ofNat (IntKind.u8.wrap (Int.fdiv x (2 ^ 16))).toNat).toNat:Int)+
   256*(((UInt8.ofNat (IntKind.u8.wrap (Int.fdiv x (2 ^ 24))).toNat).toNat:Int)+256*(((UInt8.ofNat (IntKind.u8.wrap (Int.fdiv x (2 ^ 32))).toNat).toNat:Int)+256*(((UInt8.ofNat (IntKind.u8.wrap (Int.fdiv x (2 ^ 40))).toNat).toNat:Int)+
   256*(((UInt8.ofNat (IntKind.u8.wrap (Int.fdiv x (2 ^ 48))).toNat).toNat:Int)+256*(((UInt8.ofNat (IntKind.u8.wrap (Int.fdiv x (2 ^ 56))).toNat).toNat:Int)+256*0))))))):=by
  simp only [w8,ab,List.map_cons,List.map_nil,val,Int.natCast_add,Int.natCast_mul];rfl
 rw [e]
 simp only [ml,cg _ _ (show (0:Int)≤1 by decide),cg _ _ (show (0:Int)≤2 ^ 8 by decide),cg _ _ (show (0:Int)≤2 ^ 16 by decide),cg _ _ (show (0:Int)≤2 ^ 24 by decide),
  cg _ _ (show (0:Int)≤2 ^ 32 by decide),cg _ _ (show (0:Int)≤2 ^ 40 by decide),cg _ _ (show (0:Int)≤2 ^ 48 by decide),cg _ _ (show (0:Int)≤2 ^ 56 by decide)]
 have p8:(2:Int) ^ 8=256:=by decide
 have p16:(2:Int) ^ 16=65536:=by decide
 have p24:(2:Int) ^ 24=16777216:=by decide
 have p32:(2:Int) ^ 32=4294967296:=by decide
 have p40:(2:Int) ^ 40=1099511627776:=by decide
 have p48:(2:Int) ^ 48=281474976710656:=by decide
 have p56:(2:Int) ^ 56=72057594037927936:=by decide
 rw [p8,p16,p24,p32,p40,p48,p56]
 omega
theorem Am (x:Int)(h:oI x=true):fw (w4 x)=x:=by
 obtain ⟨h1,h2⟩:=fm.1 h
 unfold fw
 rw [zH x ⟨h1,by omega⟩,bH _ (by omega)]
theorem zE (x:Int)(h:-9223372036854775808≤x∧x≤9223372036854775807):fw (w8 x)=x:=by
 unfold fw
 rw [D4,IntKind.wrap_i64];omega
theorem na (a b c:List UInt8)(n:Nat)(hn:n=b.length):((a++b++c).take (a.length+n)).drop a.length=b:=by
 subst hn
 rw [List.append_assoc,List.take_length_add_append,List.drop_left,List.take_left]
theorem Aa (a c:List UInt8)(x:Int)(h:oI x=true):wY (a++w4 x++c) (a.length:Int) 4=(x,0):=by
 unfold wY
 have e:(((a++w4 x++c).take ((a.length:Int)+4).toNat).drop (a.length:Int).toNat)=w4 x:=by
  have e1:((a.length:Int)+4).toNat=a.length+4:=by omega
  have e2:(a.length:Int).toNat=a.length:=by omega
  rw [e1,e2];exact na a (w4 x) c 4 rfl
 rw [if_pos ⟨.inl rfl,by omega,by simp [bR];omega⟩,e,Am x h,h]
 simp
theorem cA (l m:List Int):ab (l++m)=ab l++ab m:=by simp [ab]
theorem eQ (l:List Int):(ab l).length=l.length:=by simp [ab]
theorem rV {n:Int}(h0:0≤n)(h1:n<256):((UInt8.ofNat n.toNat).toNat:Int)=n:=by rw [ofNat_toNat (by omega)];omega
theorem BC (a c d:List UInt8)(x:Int)(hx:oI x=true):∀(f i:Nat) (acc y:Int),f+i=4→0≤y→y<128 ^ (f+1)→x=acc+y*2 ^ (7*i)→ab (kH 4 x)=c++ab (kH f y)→c.length=i→
  yr (a++ab (kH 4 x)++d) a.length (f+1) acc i=(x,((a.length+(ab (kH 4 x)).length:Nat):Int),0):=by
 intro f
 induction f generalizing c with
 |zero=>
  intro i acc y hfi hy hy2 hxe hc hcl
  have hy3:y<128:=by simpa using hy2
  have hby:(a++ab (kH 4 x)++d)[a.length+i]?=some (UInt8.ofNat y.toNat):=by
   rw [List.append_assoc,List.getElem?_append_right (by omega),hc]
   simp only [kH,ab,List.map_cons,List.map_nil]
   rw [show a.length+i - a.length=c.length by omega,List.append_assoc,List.getElem?_append_right (by omega)]
   simp
  have hbv:=rV hy (by omega:y<256)
  have hlen:(ab (kH 4 x)).length=i+1:=by rw [hc];simp [kH,ab,hcl]
  rw [yr,hby]
  have h1:¬(128≤(UInt8.ofNat y.toNat).toNat):=by omega
  have h2:((UInt8.ofNat y.toNat).toNat:Int) % 128=y:=by omega
  simp only [h1,if_false,h2,←hxe,hx,true_and]
  have h3:ab (kH 4 x)=((a++ab (kH 4 x)++d).take (a.length+i+1)).drop a.length:=by
   rw [Nat.add_assoc];exact (na a _ d (i+1) hlen.symm).symm
  rw [if_pos h3,hlen,Nat.add_assoc]
 |succ f ih=>
  intro i acc y hfi hy hy2 hxe hc hcl
  by_cases hb:128≤y
  ·have hby:(a++ab (kH 4 x)++d)[a.length+i]?=some (UInt8.ofNat (y % 128+128).toNat):=by
    rw [List.append_assoc,List.getElem?_append_right (by omega),hc]
    simp only [kH,hb,if_true,ab,List.map_cons]
    rw [show a.length+i - a.length=c.length by omega,List.append_assoc,List.getElem?_append_right (by omega)]
    simp
   have hbv:=rV (n:=y % 128+128) (by omega) (by omega)
   rw [yr,hby]
   have h1:128≤(UInt8.ofNat (y % 128+128).toNat).toNat:=by omega
   have h2:((UInt8.ofNat (y % 128+128).toNat).toNat:Int) % 128=y % 128:=by omega
   simp only [h1,if_true,h2]
   refine ih (c++[UInt8.ofNat (y % 128+128).toNat]) (i+1) _ (y / 128) (by omega) (by omega) (by rw [Int.pow_succ] at hy2;exact Int.ediv_lt_of_lt_mul (by omega) hy2) ?_ ?_ (by simp [hcl])
   ·rw [hxe]
    have e:(2:Int) ^ (7*(i+1))=128*2 ^ (7*i):=by rw [show 7*(i+1)=7+7*i by omega,Int.pow_add];rfl
    rw [e,←Int.mul_assoc,Int.add_assoc,←Int.add_mul]
    congr 2
    omega
   ·rw [hc]
    simp [kH,hb,ab]
  ·have hby:(a++ab (kH 4 x)++d)[a.length+i]?=some (UInt8.ofNat y.toNat):=by
    rw [List.append_assoc,List.getElem?_append_right (by omega),hc]
    simp only [kH,hb,if_false,ab,List.map_cons,List.map_nil]
    rw [show a.length+i - a.length=c.length by omega,List.append_assoc,List.getElem?_append_right (by omega)]
    simp
   have hbv:=rV hy (by omega:y<256)
   have hlen:(ab (kH 4 x)).length=i+1:=by rw [hc];simp [kH,hb,ab,hcl]
   rw [yr,hby]
   have h1:¬(128≤(UInt8.ofNat y.toNat).toNat):=by omega
   have h2:((UInt8.ofNat y.toNat).toNat:Int) % 128=y:=by omega
   simp only [h1,if_false,h2,←hxe,hx,true_and]
   have h3:ab (kH 4 x)=((a++ab (kH 4 x)++d).take (a.length+i+1)).drop a.length:=by
    rw [Nat.add_assoc];exact (na a _ d (i+1) hlen.symm).symm
   rw [if_pos h3,hlen,Nat.add_assoc]
def pv (x:Int):List UInt8:=ab (kH 4 x)
theorem qI {x:Int}(h:oI x=true):qH x=(pv x,0):=by simp [qH,h,pv]
theorem kD (x:Int):1≤(pv x).length∧(pv x).length≤5:=by unfold pv;rw [eQ];exact qK 4 x
theorem vY (a d:List UInt8)(x:Int)(h:oI x=true):ij (a++pv x++d) (a.length:Int)=(x,(a.length:Int)+((pv x).length:Int),0):=by
 obtain ⟨h1,h2⟩:=fm.1 h
 unfold ij
 rw [if_pos ⟨by omega,by simp;omega⟩]
 have:=BC a [] d x h 4 0 0 x (by omega) h1 (by have:(128:Int) ^ (4+1)=34359738368:=(by decide);omega) (by simp) (by simp) rfl
 have e:(a.length:Int).toNat=a.length:=by omega
 rw [e]
 unfold pv at*
 rw [this]
 simp
theorem pick {α:Type}{l:List α}{Q:α→Prop}(hl:∀e∈l,Q e){i:Int}(h0:0≤i)(h1:i<(l.length:Int)):∃e,l[i.toNat]?=some e∧Q e:=by
 have:i.toNat<l.length:=by omega
 exact ⟨_,List.getElem?_eq_getElem this,hl _ (List.getElem_mem this)⟩
def GU (x:Int):Int:=ax .and .i64 x 2147483647
def enc (l:List Int):List UInt8:=l.flatMap fun x=>pv (GU x)
def jF (t:List bu)(i:Nat):Int:=match t[i]? with|some n=>n.parent|none=>-1
def f8 (t:List bu)(i:Nat):Int:=match t[i]? with|some n=>n.kind|none=>0
def zT (t:List bu)(i:Nat):Bool:=match t[i]? with|some n=>n.null|none=>false
theorem rU {t:List bu}{i:Nat}(h:i<t.length):t[i].parent=jF t i:=by simp [jF,h]
theorem js {t:List bu}{i:Nat}(h:i<t.length):t[i].kind=f8 t i:=by simp [f8,h]
theorem wV {t:List bu}{i:Nat}(h:i<t.length):t[i].null=zT t i:=by simp [zT,h]
def iJ (k:Int):Bool:=k==3||k==4
def kR (t:List bu)(a:Int)(i:Nat):List Int:=((List.range i).filter fun j=>decide (0<j)&&jF t j==a).map fun j=>((j:Nat):Int)
def jv (t:List bu)(a:Int):List Int:=kR t a t.length
theorem pq (t:List bu)(a:Int)(i:Nat):kR t a (i+1)=if 0<i∧jF t i=a then kR t a i++[(i:Int)] else kR t a i:=by
 unfold kR
 rw [List.range_succ,List.filter_append,List.map_append]
 by_cases h:0<i∧jF t i=a
 ·simp [h]
 ·rw [if_neg h]
  have:(decide (0<i)&&jF t i==a)=false:=by
   simp only [Bool.and_eq_false_iff,decide_eq_false_iff_not,beq_eq_false_iff_ne]
   by_cases h0:0<i
   ·exact .inr fun e=>h ⟨h0,e⟩
   ·exact .inl h0
  simp [this]
theorem mF (t:List bu)(a:Int):∀i,(kR t a i).length≤i
 |0=>by simp [kR]
 |i+1=>by
  have:=mF t a i
  rw [pq]
  split<;>simp<;>omega
theorem dB {i:Nat}(h:(i:Int)≤4611686018427387904):IntKind.i64.wrap ((i:Int)+1)=((i+1:Nat):Int):=by rw [bH _ (by omega)];push_cast;rfl
theorem kS (t:List bu)(a:Int)(ht:t.length≤17592186044415)(k:Nat):∀(j i:Nat),i+j=t.length→∀n,j+1≤n→bj.l0 aT k n a t (t.length:Int) (i:Int) (kR t a i)=some (jv t a)
 |0,i,hij,n,hn=>by
  obtain ⟨n,rfl⟩:∃m,n=m+1:=⟨n - 1,by omega⟩
  rw [bj.l0_eq]
  have h1:¬((i:Int)<(t.length:Int)):=by omega
  simp only [h1,decide_false,cond,jv]
  rw [show i=t.length by omega]
 |j+1,i,hij,n,hn=>by
  obtain ⟨n,rfl⟩:∃m,n=m+1:=⟨n - 1,by omega⟩
  rw [bj.l0_eq]
  have hlt:i<t.length:=by omega
  have h1:((i:Int)<(t.length:Int)):=by omega
  have ih:=kS t a ht k j (i+1) (by omega) n (by omega)
  rw [pq] at ih
  have hl:=mF t a i
  have h2:((kR t a i).length+[(i:Int)].length)*8≤140737488355328:=by simp;omega
  simp only [h1,decide_true,cond,bT hlt,Option.bind_some,dB (show (i:Int)≤_ by omega),rU hlt]
  by_cases h3:(i:Int)>0
  ·have h3':0<i:=by omega
   by_cases h4:jF t i=a
   ·rw [if_pos ⟨h3',h4⟩] at ih
    have hb:(jF t i==a)=true:=by simpa using h4
    simp only [h3,decide_true,hb,h2]
    exact ih
   ·rw [if_neg (fun h=>h4 h.2)] at ih
    have hb:(jF t i==a)=false:=by simpa using h4
    simp only [h3,decide_true,hb]
    exact ih
  ·rw [if_neg (fun h=>h3 (by omega))] at ih
   simp only [h3,decide_false]
   exact ih
theorem kY {k:Nat}(t:List bu)(a:Int)(ht:t.length≤17592186044415)(hk:t.length+2≤k):bj.f aT k t a=some (jv t a):=by
 obtain ⟨k,rfl⟩:∃m,k=m+1:=⟨k - 1,by omega⟩
 rw [bj.f_eq]
 have:=kS t a ht k t.length 0 (by omega) k (by omega)
 simpa [kR] using this
def fZ (t:List bu)(i:Nat):Bool:=
 if i=0 then jF t 0==-1 else decide (0≤jF t i)&&decide (jF t i<(i:Int))&&iJ (f8 t (jF t i).toNat)
theorem j2 {k:Nat}(hk:1≤k)(x:Int):ey.f aT k x=some (iJ x):=by
 obtain ⟨k,rfl⟩:∃m,k=m+1:=⟨k - 1,by omega⟩
 rw [ey.f_eq]
 unfold iJ
 cases h:(x==3)<;>simp
theorem oq {k:Nat}(hk:2≤k)(t:List bu)(i:Nat)(hi:i<t.length):eG.f aT k t (i:Int)=some (fZ t i):=by
 obtain ⟨k,rfl⟩:∃m,k=m+1:=⟨k - 1,by omega⟩
 rw [eG.f_eq]
 unfold fZ
 simp only [bT hi,Option.bind_some,rU hi,j2 (show 1≤k by omega)]
 by_cases h0:i=0
 ·subst h0;simp
 ·have hb:((i:Int)==0)=false:=by simp;omega
  rw [if_neg h0]
  simp only [hb,cond]
  by_cases h1:0≤jF t i
  ·have h1':jF t i≥0:=h1
   by_cases h2:jF t i<(i:Int)
   ·have h3:(jF t i).toNat<t.length:=by omega
    have e:jF t i=(((jF t i).toNat:Nat):Int):=by omega
    have hr:rd t (jF t i)=some t[(jF t i).toNat]:=by
     have:=bT h3
     rw [←e] at this
     exact this
    simp only [h1',h1,h2,decide_true,hr,Option.bind_some,js h3,Bool.true_and]
   ·simp [h1,h2]
  ·have h1':¬jF t i≥0:=h1
   simp [h1]
def ow (t:List bu):Nat→Int→List Int
 |0,_=>[]
 |f+1,a=>if 0≤a then a :: ow t f (jF t a.toNat) else []
def fa (t:List bu)(a:Int):List Int:=ow t (a+1).toNat a
def iq (t:List bu):Prop:=∀i,i<t.length→fZ t i=true
theorem iq.up {t:List bu}(h:iq t){i:Nat}(hi:i<t.length):jF t i<(i:Int)∧-1≤jF t i:=by
 have:=h i hi
 unfold fZ at this
 split at this
 ·rename_i h0
  subst h0
  have:jF t 0=-1:=by simpa using this
  omega
 ·simp only [Bool.and_eq_true,decide_eq_true_eq] at this
  omega
theorem rI {t:List bu}(h:iq t):∀(f g:Nat) (a:Int),a<(t.length:Int)→a<(f:Int)→a<(g:Int)→ow t f a=ow t g a
 |0,0,_,_,_,_=>rfl
 |0,g+1,a,_,h1,_=>by
  have:¬0≤a:=by omega
  simp [ow,this]
 |f+1,0,a,_,_,h1=>by
  have:¬0≤a:=by omega
  simp [ow,this]
 |f+1,g+1,a,hl,h1,h2=>by
  simp only [ow]
  split
  ·rename_i h0
   have hup:=h.up (i:=a.toNat) (by omega)
   rw [rI h f g _ (by omega) (by omega) (by omega)]
  ·rfl
theorem ub {t:List bu}{a:Int}(h:a<0):fa t a=[]:=by
 unfold fa
 rw [show (a+1).toNat=0 by omega];rfl
theorem wh {t:List bu}(h:iq t){i:Nat}(hi:i<t.length):fa t (i:Int)=(i:Int) :: fa t (jF t i):=by
 have hup:=h.up hi
 unfold fa
 rw [show ((i:Int)+1).toNat=i+1 by omega]
 simp only [ow]
 rw [if_pos (by omega),Int.toNat_natCast,rI h i ((jF t i+1).toNat) (jF t i) (by omega) (by omega) (by omega)]
theorem tD {t:List bu}(h:iq t):∀i:Nat,i<t.length→1≤(fa t (i:Int)).length∧(fa t (i:Int)).length≤i+1:=by
 intro i
 induction i using Nat.strongRecOn with
 |_ i ih=>
  intro hi
  rw [wh h hi]
  have hup:=h.up hi
  by_cases hp:jF t i<0
  ·rw [ub hp];simp
  ·have e:jF t i=(((jF t i).toNat:Nat):Int):=by omega
   rw [e]
   have:=ih (jF t i).toNat (by omega) (by omega)
   simp only [List.length_cons];omega
theorem md {t:List bu}(h:iq t)(ht:t.length≤1000)(k:Nat):∀(f:Nat) (a:Int) (out:List Int) (n:Nat),a<(t.length:Int)→a<(f:Int)→f+1≤n→out.length+f≤10000→bC.l0 aT k n t a out=some (out++ow t f a)
 |0,a,out,n,hl,hf,hn,ho=>by
  obtain ⟨n,rfl⟩:∃m,n=m+1:=⟨n - 1,by omega⟩
  rw [bC.l0_eq]
  have h1:¬a≥0:=by omega
  simp [h1,ow]
 |f+1,a,out,n,hl,hf,hn,ho=>by
  obtain ⟨n,rfl⟩:∃m,n=m+1:=⟨n - 1,by omega⟩
  rw [bC.l0_eq]
  by_cases h0:0≤a
  ·have h1:a≥0:=h0
   have hlt:a.toNat<t.length:=by omega
   have e:a=((a.toNat:Nat):Int):=by omega
   have hr:rd t a=some t[a.toNat]:=by
    have:=bT hlt
    rw [←e] at this
    exact this
   have h2:(out.length+[a].length)*8≤140737488355328:=by simp;omega
   have hup:=h.up hlt
   simp only [h1,h2,decide_true,cond,hr,Option.bind_some,rU hlt]
   rw [md h ht k f _ _ n (by omega) (by omega) (by omega) (by simp;omega)]
   simp [ow,h0]
  ·have h1:¬a≥0:=h0
   simp [h1,ow,h0]
theorem l7 {t:List bu}(h:iq t)(ht:t.length≤1000){k:Nat}(i:Nat)(hi:i<t.length)(hk:t.length+3≤k):bC.f aT k t (i:Int)=some (fa t (i:Int)):=by
 obtain ⟨k,rfl⟩:∃m,k=m+1:=⟨k - 1,by omega⟩
 rw [bC.f_eq,md h ht k (i+1) _ [] k (by omega) (by omega) (by omega) (by simp;omega)]
 unfold fa
 rw [show ((i:Int)+1).toNat=i+1 by omega]
 rfl
theorem Aw (n m:Nat):((n:Int)==(m:Int))=(n==m):=by
 by_cases h:n=m
 ·simp [h]
 ·have:¬((n:Int)=(m:Int)):=by omega
  exact (beq_eq_false_iff_ne.2 this).trans (beq_eq_false_iff_ne.2 h).symm
def rJ (t:List bu)(i:Nat):Bool:=decide (0≤f8 t i)&&decide (f8 t i≤4)
def tO (t:List bu)(i:Nat):Bool:=(!(f8 t i==3)||(jv t (i:Int)).length==1)&&(!(f8 t i==4)||!((jv t (i:Int)).length==0))
def mn (t:List bu):Bool:=
 decide (1≤t.length)&&decide (t.length≤8)&&(List.range t.length).all (fun i=>rJ t i&&fZ t i)&&(List.range t.length).all (fun i=>tO t i&&decide ((fa t (i:Int)).length≤5))
theorem ut (p:Nat→Bool)(N i:Nat)(hi:i<N):((List.range' i (N - i)).all p)=(p i&&(List.range' (i+1) (N - (i+1))).all p):=by
 rw [show N - i=(N - (i+1))+1 by omega,List.range'_succ,List.all_cons]
theorem mz (t:List bu)(h:iq t)(ht:t.length≤8)(k:Nat)(hk:20≤k):∀(j i:Nat),i+j=t.length→∀n,j+1≤n→
  aQ.l2 aT k n t (t.length:Int) (i:Int)=some ((List.range' i (t.length - i)).all fun i=>tO t i&&decide ((fa t (i:Int)).length≤5))
 |0,i,hij,n,hn=>by
  obtain ⟨n,rfl⟩:∃m,n=m+1:=⟨n - 1,by omega⟩
  rw [aQ.l2_eq]
  have h1:¬((i:Int)<(t.length:Int)):=by omega
  simp only [h1,decide_false,cond]
  rw [show t.length - i=0 by omega];rfl
 |j+1,i,hij,n,hn=>by
  obtain ⟨n,rfl⟩:∃m,n=m+1:=⟨n - 1,by omega⟩
  rw [aQ.l2_eq]
  have hlt:i<t.length:=by omega
  have h1:((i:Int)<(t.length:Int)):=by omega
  have ih:=mz t h ht k hk j (i+1) (by omega) n (by omega)
  rw [ut _ _ _ hlt]
  simp only [h1,decide_true,cond,bT hlt,Option.bind_some,js hlt,kY t _ (show t.length≤17592186044415 by omega) (show t.length+2≤k by omega),l7 h (show t.length≤1000 by omega) i hlt (show t.length+3≤k by omega),dB (show (i:Int)≤_ by omega),ih]
  unfold tO
  have e1:(((jv t (i:Int)).length:Int) != 1)=!((jv t (i:Int)).length==1):=by
   simp only [bne]
   congr 1
   exact Aw _ 1
  have e2:(((jv t (i:Int)).length:Int)==0)=((jv t (i:Int)).length==0):=Aw _ 0
  have e3:decide (((fa t (i:Int)).length:Int)>5)=!decide ((fa t (i:Int)).length≤5):=by
   by_cases hh:(fa t (i:Int)).length≤5
   ·have:¬(((fa t (i:Int)).length:Int)>5):=by omega
    simp [hh,this]
   ·have:(((fa t (i:Int)).length:Int)>5):=by omega
    simp [hh,this]
  simp only [e1,e2,e3]
  cases (f8 t i==3)<;>cases (f8 t i==4)<;>cases ((jv t (i:Int)).length==1)<;>cases ((jv t (i:Int)).length==0)<;>cases (decide ((fa t (i:Int)).length≤5))<;>simp
theorem mg (t:List bu)(ht:t.length≤8)(k:Nat)(hk:20≤k):∀(j i:Nat),i+j=t.length→(∀q,q<i→fZ t q=true)→∀n,j+1≤n→
  aQ.l0 aT k n t (t.length:Int) (i:Int)=some ((List.range' i (t.length - i)).all (fun i=>rJ t i&&fZ t i)&&(List.range t.length).all (fun i=>tO t i&&decide ((fa t (i:Int)).length≤5)))
 |0,i,hij,hst,n,hn=>by
  obtain ⟨n,rfl⟩:∃m,n=m+1:=⟨n - 1,by omega⟩
  rw [aQ.l0_eq]
  have h1:¬((i:Int)<(t.length:Int)):=by omega
  have:=mz t (fun q hq=>hst q (by omega)) ht k hk t.length 0 (by omega) k (by omega)
  simp only [h1,decide_false,cond]
  rw [show t.length - i=0 by omega]
  rw [Nat.sub_zero] at this
  rw [List.range_eq_range']
  simpa using this
 |j+1,i,hij,hst,n,hn=>by
  obtain ⟨n,rfl⟩:∃m,n=m+1:=⟨n - 1,by omega⟩
  rw [aQ.l0_eq]
  have hlt:i<t.length:=by omega
  have h1:((i:Int)<(t.length:Int)):=by omega
  rw [ut _ _ _ hlt]
  simp only [h1,decide_true,cond,bT hlt,Option.bind_some,js hlt,oq (show 2≤k by omega) t i hlt,dB (show (i:Int)≤_ by omega)]
  unfold rJ
  by_cases h2:0≤f8 t i
  ·have h2':¬(f8 t i<0):=by omega
   by_cases h3:f8 t i≤4
   ·have h3':¬(f8 t i>4):=by omega
    cases hs:fZ t i with
    |false=>simp [h2,h2',h3,h3']
    |true=>
     have ih:=mg t ht k hk j (i+1) (by omega) (fun q hq=>by
      by_cases e:q=i
      ·subst e;exact hs
      ·exact hst q (by omega)) n (by omega)
     unfold rJ at ih
     simp only [h2,h2',h3,h3',decide_true,decide_false,Bool.not_false,Bool.not_true,Bool.true_and,ih]
   ·have h3':(f8 t i>4):=by omega
    simp [h2,h2',h3,h3']
  ·have h2':(f8 t i<0):=by omega
   simp [h2,h2']
theorem rZ {k:Nat}(hk:21≤k)(t:List bu):aQ.f aT k t=some (mn t):=by
 obtain ⟨k,rfl⟩:∃m,k=m+1:=⟨k - 1,by omega⟩
 rw [aQ.f_eq]
 unfold mn
 by_cases h0:t.length=0
 ·simp [h0]
 ·have b0:((t.length:Int)==0)=false:=beq_eq_false_iff_ne.2 (by omega)
  by_cases h8:t.length≤8
  ·have b8:¬((t.length:Int)>8):=by omega
   have h1:1≤t.length:=by omega
   have:=mg t h8 k (by omega) t.length 0 (by omega) (fun q hq=>absurd hq (Nat.not_lt_zero q)) k (by omega)
   rw [Nat.sub_zero,←List.range_eq_range'] at this
   simp only [b0,Bool.not_false,cond,b8,decide_false,h1,h8,decide_true,Bool.true_and]
   exact this
  ·have b8:((t.length:Int)>8):=by omega
   simp [b0,b8,h8]
theorem ma (t:List bu):mn t=true↔(1≤t.length∧t.length≤8)∧(∀i,i<t.length→rJ t i=true∧fZ t i=true)∧∀i,i<t.length→tO t i=true∧(fa t (i:Int)).length≤5:=by
 unfold mn
 simp only [Bool.and_eq_true,decide_eq_true_eq,List.all_eq_true,List.mem_range]
 constructor
 ·rintro ⟨⟨⟨h1,h2⟩,h3⟩,h4⟩;exact ⟨⟨h1,h2⟩,h3,h4⟩
 ·rintro ⟨⟨h1,h2⟩,h3,h4⟩;exact ⟨⟨⟨h1,h2⟩,h3⟩,h4⟩
theorem ue {t:List bu}(h:mn t=true):iq t:=fun i hi=>(((ma t).1 h).2.1 i hi).2
theorem sy (R:Type)(x:Option R):aT R x=x:=by cases x<;>rfl
theorem nT {t:List bu}(h:mn t=true):1≤t.length∧t.length≤8:=((ma t).1 h).1
theorem w9 {α:Type}{b:Bool}(h:b=true)(x y:α):(bif b then x else y)=x:=by subst h;rfl
def er (t:List bu)(a:Int):Bool:=mn t&&(decide (0≤a)&&decide (a<(t.length:Int)))
theorem fl {k:Nat}(hk:30≤k)(t:List bu)(a:Int):dz.f aT k t a=some (er t a):=by
 obtain ⟨k,rfl⟩:∃m,k=m+1:=⟨k - 1,by omega⟩
 rw [dz.f_eq,rZ (by omega)]
 unfold er
 cases hm:mn t with
 |false=>simp
 |true=>
  by_cases h0:0≤a
  ·have h0':a≥0:=h0
   simp [h0]
  ·have h0':¬a≥0:=h0
   simp [h0]
theorem f6 {t:List bu}{a:Int}(h:er t a=true):mn t=true∧∃i:Nat,i<t.length∧a=(i:Int):=by
 unfold er at h
 simp only [Bool.and_eq_true,decide_eq_true_eq] at h
 exact ⟨h.1,a.toNat,by omega,by omega⟩
theorem y8 {t:List bu}(h:mn t=true){i:Nat}(hi:i<t.length):er t (i:Int)=true:=by
 unfold er
 simp [h,hi]
def AO (t:List bu)(a:Int):List Int×Int:=if er t a then (jv t a,0) else ([],500)
theorem qY {k:Nat}(hk:40≤k)(t:List bu)(a:Int):gg.f aT k t a=some (AO t a):=by
 obtain ⟨k,rfl⟩:∃m,k=m+1:=⟨k - 1,by omega⟩
 rw [gg.f_eq,fl (by omega)]
 unfold AO
 cases hn:er t a with
 |false=>simp
 |true=>
  have hl:=nT (f6 hn).1
  simp [kY t a (show t.length≤17592186044415 by omega) (show t.length+2≤k by omega)]
def b1 (b:Bool):Int:=if b then 1 else 0
theorem j9 (b:Bool):0≤b1 b∧b1 b≤1:=by cases b<;>decide
def pp (t:List bu):List Int→Int
 |[]=>0
 |a :: ws=>pp t ws+b1 (f8 t a.toNat==3)
def pN (t:List bu):List Int→Int
 |[]=>0
 |a :: ws=>pN t ws+b1 (f8 t a.toNat==3)+b1 (zT t a.toNat)
theorem o7 (t:List bu):∀ws,0≤pp t ws∧pp t ws≤(ws.length:Int)
 |[]=>by simp [pp]
 |a :: ws=>by
  have:=o7 t ws
  have:=j9 (f8 t a.toNat==3)
  simp only [pp,List.length_cons];omega
theorem o6 (t:List bu):∀ws,0≤pN t ws∧pN t ws≤2*(ws.length:Int)
 |[]=>by simp [pN]
 |a :: ws=>by
  have:=o6 t ws
  have:=j9 (f8 t a.toNat==3)
  have:=j9 (zT t a.toNat)
  simp only [pN,List.length_cons];omega
def d6 (t:List bu)(a:Int):Int×Int×Int:=if er t a then (pp t (fa t a),pN t (fa t a),0) else (0,0,500)
theorem Ax {t:List bu}(h:iq t):∀i:Nat,i<t.length→∀x∈fa t (i:Int),∃j:Nat,j<t.length∧x=(j:Int):=by
 intro i
 induction i using Nat.strongRecOn with
 |_ i ih=>
  intro hi x hx
  rw [wh h hi] at hx
  rcases List.mem_cons.1 hx with rfl|hx
  ·exact ⟨i,hi,rfl⟩
  ·have hup:=h.up hi
   by_cases hp:jF t i<0
   ·rw [ub hp] at hx;exact absurd hx (by simp)
   ·have e:jF t i=(((jF t i).toNat:Nat):Int):=by omega
    rw [e] at hx
    exact ih (jF t i).toNat (by omega) (by omega) x hx
theorem jy (t:List bu)(k:Nat):∀(q p:List Int),(p++q).length≤1000→(∀x∈q,∃j:Nat,j<t.length∧x=(j:Int))→∀(r d:Int),0≤r→0≤d→r+q.length≤10000→d+2*q.length≤10000→∀n,q.length+1≤n→
  aH.l0 aT k n r d ((p++q).length:Int) (p.length:Int) t (p++q)=some (r+pp t q,d+pN t q,0)
 |[],p,hl,hq,r,d,hr,hd,hr2,hd2,n,hn=>by
  obtain ⟨n,rfl⟩:∃m,n=m+1:=⟨n - 1,by omega⟩
  rw [aH.l0_eq]
  have h1:¬((p.length:Int)<((p++([]:List Int)).length:Int)):=by simp
  simp only [h1,decide_false,cond,pp,pN,Int.add_zero]
 |a :: q,p,hl,hq,r,d,hr,hd,hr2,hd2,n,hn=>by
  obtain ⟨n,rfl⟩:∃m,n=m+1:=⟨n - 1,by omega⟩
  rw [aH.l0_eq]
  obtain ⟨j,hj,rfl⟩:=hq a List.mem_cons_self
  have hlen:(p++(j:Int) :: q).length=p.length+(q.length+1):=by simp
  rw [List.length_cons] at hr2 hd2
  have h1:((p.length:Int)<((p++(j:Int) :: q).length:Int)):=by rw [hlen];omega
  have h0:(0:Int)≤(p.length:Int):=by omega
  have hg:(p++(j:Int) :: q)[((p.length:Nat):Int).toNat]?=some (j:Int):=by simp
  have hstep:∀r' d':Int,r'=r+b1 (f8 t j==3)→d'=d+b1 (f8 t j==3)+b1 (zT t j)→
    aH.l0 aT k n r' d' ((p++(j:Int) :: q).length:Int) ((p.length+1:Nat):Int) t (p++(j:Int) :: q)=some (r+pp t ((j:Int) :: q),d+pN t ((j:Int) :: q),0):=by
   intro r' d' h5 h6
   have hb1:=j9 (f8 t j==3)
   have hb2:=j9 (zT t j)
   have ih:=jy t k q (p++[(j:Int)]) (by simpa using hl) (fun x hx=>hq x (List.mem_cons_of_mem _ hx)) r' d' (by omega) (by omega) (by omega) (by omega) n (by simpa using hn)
   have e1:p++[(j:Int)]++q=p++(j:Int) :: q:=by simp
   have e2:((p++[(j:Int)]).length:Int)=((p.length+1:Nat):Int):=by simp
   rw [e1,e2] at ih
   rw [ih]
   simp only [pp,pN,Int.toNat_natCast,h5,h6]
   congr 1
   refine Prod.ext ?_ (Prod.ext ?_ rfl)
   ·simp only;omega
   ·simp only;omega
  simp only [h1,h0,decide_true,Bool.and_self,cond,hg,Option.bind_some,bT hj,js hj,wV hj,dB (show (p.length:Int)≤_ by omega),bH (r+1) (by omega),bH (d+1) (by omega),bH (d+1+1) (by omega)]
  have hs:=hstep
  cases h3:(f8 t j==3)<;>cases h4:zT t j<;>rw [h3,h4] at hs<;>exact hs _ _ (by simp [b1]) (by simp [b1])
theorem fN {k:Nat}(hk:50≤k)(t:List bu)(a:Int):aH.f aT k t a=some (d6 t a):=by
 obtain ⟨k,rfl⟩:∃m,k=m+1:=⟨k - 1,by omega⟩
 rw [aH.f_eq,fl (by omega)]
 unfold d6
 cases hn:er t a with
 |false=>simp
 |true=>
  obtain ⟨hm,i,hi,rfl⟩:=f6 hn
  have hl:=nT hm
  have hst:=ue hm
  have hw:=tD hst i hi
  have h:=jy t k (fa t (i:Int)) [] (by simp;omega) (Ax hst i hi) 0 0 (by omega) (by omega) (by omega) (by omega) k (by omega)
  simp only [Option.bind_some,Bool.not_true,cond,if_true,l7 hst (show t.length≤1000 by omega) i hi (show t.length+3≤k by omega)]
  simpa using h
theorem cT {α:Type}(x y:α):(bif true then x else y)=x:=w9 rfl x y
theorem GR {α:Type}{b:Bool}(h:b=false)(x y:α):(bif b then x else y)=y:=by subst h;rfl
theorem cF {α:Type}(x y:α):(bif false then x else y)=y:=GR rfl x y
theorem GT {α β:Type}{o:Option α}{a:α}(h:o=some a)(f:α→Option β):o.bind f=f a:=by subst h;rfl
theorem bS {α β:Type}(a:α)(f:α→Option β):(some a).bind f=f a:=GT rfl f
theorem BU {t:List bu}{a:Int}(h:er t a=false):d6 t a=(0,0,500):=by unfold d6;rw [h];rfl
theorem BG {t:List bu}(h:mn t=true){i:Nat}(hi:i<t.length):d6 t (i:Int)=(pp t (fa t (i:Int)),pN t (fa t (i:Int)),0):=by unfold d6;rw [y8 h hi];rfl
end Go.Proofs.YtjkokaockhecnaaGreatDoorP
