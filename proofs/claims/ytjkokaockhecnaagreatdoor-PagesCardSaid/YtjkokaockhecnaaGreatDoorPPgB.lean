/- What the program gets out of a page: its answer in plain lists; no condition but the sizes that a machine has. Getting a page: what is got was put, and what was put is got; the law PageAgain; no condition but the sizes that a machine has. Getting a page: what is refused at once; small numbers; the document's sum; no condition but the sizes that a machine has. What is put is got: a page's column; no condition but the sizes that a machine has. -/
import Derived.Test.YtjkokaockhecnaaGreatDoorPPg6
namespace Go.Proofs.YtjkokaockhecnaaGreatDoorP
open Go Go.Proofs.YtjkokaockhecnaaGreatDoorA
theorem q9 (n:Int):0≤IntKind.u32.wrap n∧IntKind.u32.wrap n≤4294967295:=by
 simp [IntKind.wrap,IntKind.bits,IntKind.signed];omega
theorem o8 (s:List UInt8):0≤fm s∧fm s≤4294967295:=by
 unfold fm
 have h:∀x y,0≤aB .xor .u32 x y∧aB .xor .u32 x y≤4294967295:=fun x y=>by unfold aB;exact q9 _
 have:=h (s.foldl Dx 4294967295) 4294967295
 rw [aK _ (by omega)];exact this
theorem wO {x:Int}(h:0≤x∧x≤4294967295):dG (w4 x)=x:=by
 unfold dG
 rw [Ar x ⟨h.1,by omega⟩,aK _ (by omega)]
theorem fF {k:Nat}(hk:1≤k)(r:List UInt8)(bad:Bool)(n:Int):bp.f aF k r bad n=
  some (if bad=false∧0≤n∧n≤(r.length:Int) then (r.take n.toNat,(r.drop n.toNat,false)) else ([],(r,true))):=by
 obtain ⟨k,rfl⟩:∃q,k=q+1:=⟨k - 1,by omega⟩
 rw [bp.f_eq]
 cases bad with
 |true=>simp
 |false=>
  rw [Bool.not_false,cT]
  by_cases h0:n<0
  ·rw [dT h0,Bool.not_true,cF,if_neg (by omega)]
  ·rw [dF h0,Bool.not_false,cT]
   by_cases h1:n>(r.length:Int)
   ·rw [dT h1,cT,if_neg (by omega)]
   ·rw [dF h1,cF,dT (show (0:Int)≤n by omega),dT (show n≤(r.length:Int) by omega),Bool.and_self,cT,cT,if_pos ⟨rfl,by omega,by omega⟩,List.drop_zero,List.take_length]
theorem Jf {r:List UInt8}(h:(get r 0 4).2=0):4≤r.length:=by
 unfold get at h
 split at h
 ·rename_i hc;omega
 ·cases h
theorem kT {k:Nat}(hk:20≤k){r:List UInt8}(hr:r.length≤200000000000000)(bad:Bool):bW.f aF k r bad=
  some ((get r 0 4).1,if bad=false∧(get r 0 4).2=0 then (r.drop 4,false) else (r,true)):=by
 obtain ⟨k,rfl⟩:∃q,k=q+1:=⟨k - 1,by omega⟩
 rw [bW.f_eq,Ba (by omega) r (by omega) 0 4 (by omega),bS]
 cases bad with
 |true=>rw [Bool.not_true,cF,fF (by omega),bS,if_neg (by simp),if_neg (by simp)]
 |false=>
  rw [Bool.not_false,cT,fF (by omega),bS]
  by_cases h:(get r 0 4).2=0
  ·have hl:=Jf h
   rw [h,if_pos ⟨rfl,by omega,by omega⟩,if_pos ⟨rfl,rfl⟩]
   rfl
  ·rw [show ((get r 0 4).2 != 0)=true by rw [bne_iff_ne];exact h,if_neg (by simp),if_neg (by simp [h])]
theorem BD {k:Nat}(hk:2≤k){x:Int}(h:fe x):kD.f aF k x=some (gd x):=by
 obtain ⟨k,rfl⟩:∃q,k=q+1:=⟨k - 1,by omega⟩
 have hl:=lX x
 rw [kD.f_eq,pS (by omega) h,bS,dT (by simp only [List.length_cons,List.length_nil];omega),cT,dT (by simp only [List.length_append,List.length_cons,List.length_nil];omega),cT]
 rfl
theorem yr {k:Nat}(hk:1≤k)(b:Bool):jq.f aF k b=some (jz b):=by
 obtain ⟨k,rfl⟩:∃q,k=q+1:=⟨k - 1,by omega⟩
 rw [jq.f_eq];cases b<;>rfl
theorem qB {k:Nat}(hk:2≤k){l:List UInt8}(h:l.length≤200000000000000):gi.f aF k l=some (ct l):=by
 obtain ⟨k,rfl⟩:∃q,k=q+1:=⟨k - 1,by omega⟩
 have hl:=qc l.length
 rw [gi.f_eq,pS (by omega) (by unfold fe;omega),bS,kB,dT (by simp only [List.length_cons,List.length_nil];omega),cT,dT (by simp only [List.length_append,List.length_cons,List.length_nil];omega),cT,dT (by simp only [List.length_append,List.length_cons,List.length_nil];omega),cT]
 rfl
theorem Am {k:Nat}(hk:40≤k){r:List UInt8}(hr:r.length≤200000000000000)(bad:Bool){kd:Int}:∃v r' b',dj.f aF k r bad kd=some (v,(r',b'))∧r'.length≤r.length:=by
 obtain ⟨k,rfl⟩:∃q,k=q+1:=⟨k - 1,by omega⟩
 rw [dj.f_eq]
 have hB:∀n:Int,∃u r' b',bp.f aF k r bad n=some (u,(r',b'))∧r'.length≤r.length∧u.length≤r.length∧((u.length:Int)≤n∨u=[]):=by
  intro n
  rw [fF (by omega)]
  split
  ·exact ⟨_,_,_,rfl,by simp,by simp;omega,.inl (by rw [List.length_take];omega)⟩
  ·exact ⟨_,_,_,rfl,Nat.le_refl _,by simp,.inr rfl⟩
 cases h0:(kd==0) with
 |true=>
  rw [cT]
  obtain ⟨u,r',b',h1,h2,_,h3⟩:=hB 8
  rw [h1,bS,eE (by omega) u (by rcases h3 with h|rfl;omega;simp),bS,BD (by omega) (show fe (dG u) from fe.wrap _),bS]
  exact ⟨_,_,_,rfl,h2⟩
 |false=>
  rw [cF]
  cases h1:(kd==1) with
  |true=>
   rw [cT]
   obtain ⟨u,r',b',h1,h2,_,h3⟩:=hB 1
   rw [h1,bS,eE (by omega) u (by rcases h3 with h|rfl;omega;simp),bS,yr (by omega),bS]
   exact ⟨_,_,_,rfl,h2⟩
  |false=>
   rw [cF]
   obtain ⟨k,rfl⟩:∃q,k=q+1:=⟨k - 1,by omega⟩
   rw [eY.f_eq,kT (by omega) hr,bS]
   have key:∀(r1:List UInt8) (b1:Bool) (n:Int),r1.length≤r.length→∃v r' b',((bp.f aF k r1 b1 n).bind fun r_2=>some (r_2.1,(r_2.2.1,r_2.2.2))).bind (fun r_7=>(gi.f aF (k+1) r_7.1).bind fun r_8=>some (r_8,(r_7.2.1,r_7.2.2)))=some (v,(r',b'))∧r'.length≤r.length:=by
    intro r1 b1 n h1
    rw [fF (by omega),bS,bS]
    split
    ·rw [qB (by omega) (by simp;omega),bS]
     exact ⟨_,_,_,rfl,by simp;omega⟩
    ·rw [qB (by omega) (by simp),bS]
     exact ⟨_,_,_,rfl,h1⟩
   split
   ·exact key _ _ _ (by simp)
   ·exact key _ _ _ (Nat.le_refl _)
theorem DW {k:Nat}(hk:40≤k){t:List bc}{i:Nat}{v rest:List UInt8}(h:wm t (i:Int) v=true)(hl:rest.length≤100000000000000):dj.f aF k (jI v++rest) false (dy t i)=some (v,(rest,false)):=by
 obtain ⟨k,rfl⟩:∃q,k=q+1:=⟨k - 1,by omega⟩
 rw [dj.f_eq]
 rcases PB.kind h with ⟨e,x,hx,rfl,ev⟩|⟨e,b,rfl,ev⟩|⟨e,l,h16,rfl,ev⟩
 ·rw [e,ev]
  simp only [show ((0:Int)==0)=true from rfl,cT]
  have e8:=kM x
  rw [fF (by omega),bS,if_pos ⟨rfl,by omega,by rw [List.length_append,e8];omega⟩]
  simp only
  rw [show (8:Int).toNat=(w8 x).length from e8.symm,List.take_left',List.drop_left',eE (by omega) _ (by rw [e8];omega),bS,yi x hx,BD (by omega) hx,bS]
  ·rfl
  ·rfl
 ·rw [e,ev]
  simp only [show ((1:Int)==0)=false from rfl,show ((1:Int)==1)=true from rfl,cT,cF]
  rw [fF (by omega),bS,if_pos ⟨rfl,by omega,by rw [List.length_append];show (1:Int)≤((1+rest.length:Nat):Int);omega⟩]
  simp only
  rw [show (1:Int).toNat=(Gx (if b then 1 else 0)).length from rfl,List.take_left',List.drop_left',eE (by omega) _ (by show 1≤8;omega),bS,yr (by omega),bS]
  ·cases b<;>rfl
  ·rfl
  ·rfl
 ·rw [e,ev]
  simp only [show ((2:Int)==0)=false from rfl,show ((2:Int)==1)=false from rfl,cF]
  obtain ⟨k,rfl⟩:∃q,k=q+1:=⟨k - 1,by omega⟩
  have hg:=Az [] (l++rest) (l.length:Int) (dO.2 ⟨by omega,by omega⟩)
  simp only [List.nil_append,List.length_nil] at hg
  rw [show ((0:Nat):Int)=0 from rfl] at hg
  rw [List.append_assoc,eY.f_eq,kT (by omega) (by simp only [List.length_append,bm];omega),bS,hg]
  simp only
  rw [if_pos ⟨trivial,trivial⟩]
  simp only
  rw [show (4:Nat)=(w4 (l.length:Int)).length from rfl,List.drop_left',fF (by omega),bS,if_pos ⟨rfl,by omega,by rw [List.length_append];omega⟩,bS]
  ·simp only
   rw [Int.toNat_natCast,List.take_left',List.drop_left',qB (by omega) (by omega),bS]
   ·rfl
   ·rfl
  ·rfl
end Go.Proofs.YtjkokaockhecnaaGreatDoorP

namespace Go.Proofs.YtjkokaockhecnaaGreatDoorP
open Go Go.Proofs.YtjkokaockhecnaaGreatDoorA
def um:List Int×List Int×List (List UInt8):=([],[],[])
def mN (c:Col):List Int×List Int×List (List UInt8):=(c.reps,c.defs,c.values)
def OQ (t:List bc)(a:Int)(s:List UInt8)(res:(List Int×List Int×List (List UInt8))×Int):Prop:=
 res=(um,2200)∨(res=(um,2201)∧(cw t a&&!c8 (dy t a.toNat))=true∧4≤s.length∧dG (s.take 4)≠fm (s.drop 4))∨∃c,res=(mN c,0)∧eo t a c=(s,0)
theorem sX {t:List bc}{a:Int}{c:Col}{s:List UInt8}(h:eo t a c=(s,0)):fL t a c=true:=by
 cases hm:fL t a c with
 |true=>rfl
 |false=>rw [HC hm] at h;cases h
theorem Bq {k n:Nat}{t:List bc}{a:Int}{s:List UInt8}{e f:Int}{m:Nat}{c:Col}{r:List UInt8}{bad:Bool}(hk:1200100+c.values.length≤k)(hl:c.values.length≤20000000000000)(hd:c.reps.length≤20000000000000∧c.defs.length≤20000000000000):
  bX.l0 aF k (n+1) a s e f (m:Int) (m:Int) t c.reps c.defs c.values r bad=some (if bad=false∧e=0∧f=0∧eo t a c=(s,0) then (mN c,0) else (um,2200)):=by
 rw [bX.l0_eq,dF (by omega),cF]
 have hc:(Col.mk c.reps c.defs c.values)=c:=by cases c;rfl
 rw [hc,sx hk hl hd,bS]
 cases bad with
 |true=>rw [Bool.not_true,cF,if_neg (by simp)];rfl
 |false=>
  rw [Bool.not_false,cT]
  by_cases h1:e=0
  ·rw [h1,show ((0:Int) != 0)=false from rfl,Bool.not_false,cT]
   by_cases h2:f=0
   ·rw [h2,show ((0:Int) != 0)=false from rfl,Bool.not_false,cT]
    by_cases h3:(eo t a c).2=0
    ·rw [h3,show ((0:Int) != 0)=false from rfl,Bool.not_false,cT]
     by_cases h4:(eo t a c).1=s
     ·rw [show ((eo t a c).1 != s)=false by rw [h4];simp,cF,if_pos ⟨rfl,rfl,rfl,Prod.ext h4 h3⟩];rfl
     ·rw [show ((eo t a c).1 != s)=true by rw [bne_iff_ne];exact h4,cT,if_neg (by rintro ⟨_,_,_,h⟩;exact h4 (by rw [h]))];rfl
    ·rw [show ((eo t a c).2 != 0)=true by rw [bne_iff_ne];exact h3,Bool.not_true,cF,if_neg (by rintro ⟨_,_,_,h⟩;exact h3 (by rw [h]))];rfl
   ·rw [show (f != 0)=true by rw [bne_iff_ne];exact h2,Bool.not_true,cF,if_neg (by rintro ⟨_,_,h,_⟩;exact h2 h)];rfl
  ·rw [show (e != 0)=true by rw [bne_iff_ne];exact h1,Bool.not_true,cF,if_neg (by rintro ⟨_,h,_⟩;exact h1 h)];rfl
theorem A9 {k:Nat}{t:List bc}{i:Nat}(hi:i<t.length){s:List UInt8}{e f:Int}{m:Nat}(hm:m≤5000){R D:List Int}(hR:R.length≤5000∧D.length≤5000)(hk:1300000≤k):
  ∀(d j n:Nat) (vs:List (List UInt8)) (r:List UInt8) (bad:Bool),j+d=m→d+1≤n→vs.length≤j→r.length≤200000000000000→
   ∃res,bX.l0 aF k n (i:Int) s e f (m:Int) (j:Int) t R D vs r bad=some res∧(res=(um,2200)∨∃c,res=(mN c,0)∧eo t (i:Int) c=(s,0))
 |0,j,n,vs,r,bad,hj,hn,hv,hr=>by
  obtain ⟨n,rfl⟩:∃q,n=q+1:=⟨n - 1,by omega⟩
  have hjm:j=m:=by omega
  subst hjm
  have:=Bq (k:=k) (n:=n) (t:=t) (a:=(i:Int)) (s:=s) (e:=e) (f:=f) (m:=j) (c:=⟨R,D,vs⟩) (r:=r) (bad:=bad) (by simp only;omega) (by simp only;omega) (by simp only;omega)
  rw [this]
  refine ⟨_,rfl,?_⟩
  split
  ·rename_i h;exact .inr ⟨_,rfl,h.2.2.2⟩
  ·exact .inl rfl
 |d+1,j,n,vs,r,bad,hj,hn,hv,hr=>by
  obtain ⟨n,rfl⟩:∃q,n=q+1:=⟨n - 1,by omega⟩
  rw [bX.l0_eq,dT (by omega),cT]
  cases bad with
  |true=>
   rw [Bool.not_true,cF,bu (by omega)]
   exact A9 hi hm hR hk d (j+1) n vs r true (by omega) (by omega) (by omega) hr
  |false=>
   obtain ⟨v,r',b',h1,h2⟩:=Am (k:=k) (by omega) hr false (kd:=dy t i)
   rw [Bool.not_false,cT,aP hi,bS,d5 hi,h1,bS,dT (by simp only [List.length_cons,List.length_nil];omega),cT,bu (by omega)]
   exact A9 hi hm hR hk d (j+1) n (vs++[v]) r' b' (by omega) (by omega) (by simp only [List.length_append,List.length_cons,List.length_nil];omega) (by omega)
theorem u6 {w:Int}{s:List UInt8}{count:Int}{res:List Int×Int}(h:sy w s count res):res.1.length≤4096:=by
 rcases h with rfl|⟨xs,rfl,h,_⟩
 ·simp
 ·have:=(wN h).2.2.1
  simp only;omega
theorem Ic {k:Nat}{t:List bc}{a:Int}{s:List UInt8}(hk:1400000+s.length≤k)(hs:s.length≤140737488351232):∃res,bX.f aF k t a s=some res∧OQ t a s res:=by
 obtain ⟨k,rfl⟩:∃q,k=q+1:=⟨k - 1,by omega⟩
 rw [bX.f_eq,nr (by omega),bS]
 cases hn:cw t a&&!c8 (dy t a.toNat) with
 |false=>exact ⟨_,rfl,.inl rfl⟩
 |true=>
  rw [Bool.not_true,Bool.not_false,cT]
  by_cases h4:s.length<4
  ·rw [dT (by omega),cT];exact ⟨_,rfl,.inl rfl⟩
  ·rw [dF (by omega),cF,dT (by omega),dT (by omega),Bool.and_self,cT,List.drop_zero,eE (by omega) _ (by rw [List.length_take];omega),bS,cT,List.take_length,xH (by rw [List.length_drop];omega) (by rw [List.length_drop];omega),bS]
   by_cases hc:dG (s.take 4)=fm (s.drop 4)
   ·rw [show (dG (s.take 4) != fm (s.drop 4))=false by rw [hc];simp,cF,fY (by omega),bS,cT]
    rw [Bool.and_eq_true] at hn
    obtain ⟨hmt,i,hi,rfl⟩:=c6 hn.1
    obtain ⟨r0,r1,d0,d1⟩:=il (t:=t) (a:=(i:Int))
    have hd:(s.drop 4).length≤140737488351232:=by rw [List.length_drop];omega
    have hN:∀(r:List UInt8) (bad:Bool),r.length≤140737488351232→∃x r' b',bW.f aF k r bad=some (x,(r',b'))∧r'.length≤140737488351232:=by
     intro r bad hr
     rw [kT (by omega) (by omega)]
     split
     ·exact ⟨_,_,_,rfl,by rw [List.length_drop];omega⟩
     ·exact ⟨_,_,_,rfl,hr⟩
    have hB:∀(r:List UInt8) (bad:Bool) (n:Int),r.length≤140737488351232→∃u r' b',bp.f aF k r bad n=some (u,(r',b'))∧r'.length≤140737488351232∧u.length≤140737488351232:=by
     intro r bad n hr
     rw [fF (by omega)]
     split
     ·exact ⟨_,_,_,rfl,by rw [List.length_drop];omega,by rw [List.length_take];omega⟩
     ·exact ⟨_,_,_,rfl,hr,by simp⟩
    obtain ⟨x1,q1,b1,e1,l1⟩:=hN (s.drop 4) false hd
    rw [e1,bS]
    obtain ⟨x2,q2,b2,e2,l2⟩:=hN q1 b1 l1
    simp only [e2,bS]
    obtain ⟨x3,q3,b3,e3,l3⟩:=hN q2 b2 l2
    simp only [e3,bS]
    obtain ⟨u4,q4,b4,e4,l4,m4⟩:=hB q3 b3 x2 l3
    simp only [e4,bS]
    rw [vf (by omega) r0 r1,bS]
    obtain ⟨g1,f1,p1⟩:=qZ (k:=k) (by omega) u4 (by omega) (bw (bP t (i:Int)).1) x1
    rw [f1,bS]
    obtain ⟨u5,q5,b5,e5,l5,m5⟩:=hB q4 b4 x3 l4
    simp only [e5,bS]
    rw [vf (by omega) d0 d1,bS]
    obtain ⟨g2,f2,p2⟩:=qZ (k:=k) (by omega) u5 (by omega) (bw (bP t (i:Int)).2.1) x1
    have hg1:=u6 p1
    have hg2:=u6 p2
    have hcnt:=ra (bP t (i:Int)).2.1 g2.1
    rw [f2,bS,kL (by omega) (by omega),bS]
    have:=A9 (k:=k) (t:=t) hi (s:=s) (e:=g1.2) (f:=g2.2) (m:=vC (bP t (i:Int)).2.1 g2.1) (by omega) (R:=g1.1) (D:=g2.1) (by omega) (by omega) (vC (bP t (i:Int)).2.1 g2.1) 0 k [] q5 b5 (by omega) (by omega) (by simp) (by omega)
    obtain ⟨res,h1,h2⟩:=this
    rw [show ((0:Nat):Int)=0 from rfl] at h1
    refine ⟨res,h1,?_⟩
    rcases h2 with h|h
    ·exact .inl h
    ·exact .inr (.inr h)
   ·rw [show (dG (s.take 4) != fm (s.drop 4))=true by rw [bne_iff_ne];exact hc,cT]
    exact ⟨_,rfl,.inr (.inl ⟨rfl,hn,by omega,hc⟩)⟩
end Go.Proofs.YtjkokaockhecnaaGreatDoorP

namespace Go.Proofs.YtjkokaockhecnaaGreatDoorP
open Go Go.Proofs.YtjkokaockhecnaaGreatDoorA
theorem FY {k:Nat}(hk:40≤k){t:List bc}{a:Int}{s:List UInt8}(hn:(cw t a&&!c8 (dy t a.toNat))=false):bX.f aF k t a s=some (um,2200):=by
 obtain ⟨k,rfl⟩:∃q,k=q+1:=⟨k - 1,by omega⟩
 rw [bX.f_eq,nr (by omega),bS,hn];rfl
theorem ET {k:Nat}(hk:40≤k){t:List bc}{a:Int}{s:List UInt8}(h4:s.length<4):bX.f aF k t a s=some (um,2200):=by
 obtain ⟨k,rfl⟩:∃q,k=q+1:=⟨k - 1,by omega⟩
 rw [bX.f_eq,nr (by omega),bS]
 cases hn:cw t a&&!c8 (dy t a.toNat) with
 |false=>rfl
 |true=>rw [Bool.not_true,Bool.not_false,cT,dT (by omega),cT];rfl
theorem G8 {k:Nat}{t:List bc}{a:Int}{s:List UInt8}(hk:s.length+40≤k)(hs:s.length≤140737488351232)(h4:4≤s.length)(hn:(cw t a&&!c8 (dy t a.toNat))=true)(hc:dG (s.take 4)≠fm (s.drop 4)):bX.f aF k t a s=some (um,2201):=by
 obtain ⟨k,rfl⟩:∃q,k=q+1:=⟨k - 1,by omega⟩
 rw [bX.f_eq,nr (by omega),bS,hn,Bool.not_true,Bool.not_false,cT,dF (by omega),cF,dT (by omega),dT (by omega),Bool.and_self,cT,List.drop_zero,eE (by omega) _ (by rw [List.length_take];omega),bS,cT,List.take_length,xH (by rw [List.length_drop];omega) (by rw [List.length_drop];omega),bS,
  show (dG (s.take 4) != fm (s.drop 4))=true by rw [bne_iff_ne];exact hc,cT]
 rfl
theorem o9 (k:IntKind)(x y:Int):aB .xor k x y=k.wrap ((((x % (2 ^ k.bits:Int)).toNat ^^^ (y % (2 ^ k.bits:Int)).toNat:Nat)):Int):=by
 unfold aB
 simp only [BitVec.toNat_xor,toNat_ofInt]
theorem qe (n:Int):IntKind.u32.wrap n=n % 4294967296:=by simp [IntKind.wrap,IntKind.bits,IntKind.signed]
theorem HU (x:Int)(h:0≤x∧x≤4294967295):I2 x=bif (aB .and .u32 x 1)==1 then aB .xor .u32 (Int.fdiv x (2 ^ (min 1 IntKind.u32.bits))) 3988292384 else Int.fdiv x (2 ^ (min 1 IntKind.u32.bits)):=by
 unfold I2
 have e32:(2 ^ IntKind.u32.bits:Int)=4294967296:=by decide
 obtain ⟨n,rfl⟩:∃n:Nat,x=(n:Int):=⟨x.toNat,by omega⟩
 have ha:aB .and .u32 (n:Int) 1=((n % 2:Nat):Int):=by
  rw [jy,e32,show ((n:Int) % 4294967296).toNat=n by omega,show ((1:Int) % 4294967296).toNat=1 by omega,Nat.and_one_is_mod,qe];omega
 rw [ha]
 rcases Nat.mod_two_eq_zero_or_one n with h2|h2
 ·rw [h2]
  rw [show (((0:Nat):Int)==1)=false from rfl,cF,show IntKind.u32.wrap (3988292384*((0:Nat):Int))=0 by rw [qe];rfl,o9,e32]
  have hf:Int.fdiv (n:Int) (2 ^ (min 1 IntKind.u32.bits))=((n / 2:Nat):Int):=by
   rw [show ((2:Int) ^ (min 1 IntKind.u32.bits))=2 from rfl,Int.fdiv_eq_ediv_of_nonneg _ (by omega)];omega
  rw [hf,show (((n / 2:Nat):Int) % 4294967296).toNat=n / 2 by omega,show ((0:Int) % 4294967296).toNat=0 by omega,Nat.xor_zero,qe];omega
 ·rw [h2]
  rw [show (((1:Nat):Int)==1)=true from rfl,cT,show IntKind.u32.wrap (3988292384*((1:Nat):Int))=3988292384 by rw [qe];rfl]
theorem DJ (x:Int):0≤I2 x∧I2 x≤4294967295:=by unfold I2 aB;exact q9 _
theorem ve {k m1:Nat}{s:List UInt8}{i:Int}:∀(d j n:Nat) (x:Int),0≤x∧x≤4294967295→j+d=8→d+1≤n→aJ.l2 aF k m1 n s x i (j:Int)=aJ.l0 aF k m1 s (CE d x) (IntKind.i64.wrap (i+1))
 |0,j,n,x,_,h,hn=>by
  obtain ⟨n,rfl⟩:∃q,n=q+1:=⟨n - 1,by omega⟩
  rw [aJ.l2_eq,dF (by omega),cF];rfl
 |d+1,j,n,x,hx,h,hn=>by
  obtain ⟨n,rfl⟩:∃q,n=q+1:=⟨n - 1,by omega⟩
  have ih:=ve (k:=k) (m1:=m1) (s:=s) (i:=i) d (j+1) n (I2 x) (DJ x) (by omega) (by omega)
  rw [aJ.l2_eq,dT (by omega),cT,bu (by omega)]
  rw [show CE (d+1) x=CE d (I2 x) from rfl,←ih,HU x hx]
  cases ((aB .and .u32 x 1)==1)<;>rfl
theorem ng {k:Nat}{s:List UInt8}(hk:s.length+12≤k)(hl:s.length≤1000000000000000):aJ.f aF k s=some (fm s):=by
 obtain ⟨k,rfl⟩:∃q,k=q+1:=⟨k - 1,by omega⟩
 rw [aJ.f_eq]
 have:=cN (F:=fun n i=>aJ.l0 aF k n s ((s.take i).foldl Dx 4294967295) (i:Int)) (N:=s.length) (r:=some (fm s)) ?_ ?_ k 0 (by omega) (by omega)
 ·simpa using this
 ·intro n i hi
  have hx:∀x y,0≤aB .xor .u32 x y∧aB .xor .u32 x y≤4294967295:=fun x y=>by unfold aB;exact q9 _
  rw [aJ.l0_eq,dT (by omega),cT,aP hi,bS]
  have:=ve (k:=k) (m1:=n) (s:=s) (i:=(i:Int)) 8 0 k (aB .xor .u32 ((s.take i).foldl Dx 4294967295) (IntKind.u32.wrap (s[i].toNat:Int))) (hx _ _) (by omega) (by omega)
  rw [show ((0:Nat):Int)=0 from rfl] at this
  rw [this,bu (by omega),List.take_succ_eq_append_getElem hi,List.foldl_append]
  rfl
 ·intro n
  rw [aJ.l0_eq,dF (by omega),cF,List.take_length]
  unfold fm
  rw [show IntKind.u32.max=4294967295 from by decide,o9,o9,Nat.xor_comm]
end Go.Proofs.YtjkokaockhecnaaGreatDoorP

namespace Go.Proofs.YtjkokaockhecnaaGreatDoorP
open Go Go.Proofs.YtjkokaockhecnaaGreatDoorA
theorem oD {k:Nat}(hk:20≤k){n:Nat}(hn:n≤1000000000){r:List UInt8}(hr:r.length≤100000000000000):bW.f aF k (w4 (n:Int)++r) false=some ((n:Int),(r,false)):=by
 have hg:=Az [] r (n:Int) (dO.2 ⟨by omega,by omega⟩)
 simp only [List.nil_append,List.length_nil] at hg
 rw [show ((0:Nat):Int)=0 from rfl] at hg
 rw [kT hk (by simp only [List.length_append,bm];omega),hg]
 simp only
 rw [if_pos ⟨trivial,trivial⟩,show (4:Nat)=(w4 (n:Int)).length from rfl,List.drop_left']
 rfl
theorem td {k:Nat}(hk:1≤k)(x r:List UInt8):bp.f aF k (x++r) false (x.length:Int)=some (x,(r,false)):=by
 rw [fF hk,if_pos ⟨rfl,by omega,by rw [List.length_append];omega⟩,Int.toNat_natCast,List.take_left',List.drop_left']<;>rfl
theorem s8 {k:Nat}{t:List bc}{i:Nat}(hi:i<t.length){s:List UInt8}{R D:List Int}{vs:List (List UInt8)}(hv:∀v∈vs,wm t (i:Int) v=true)(hm:vs.length≤4096)(hR:R.length≤5000∧D.length≤5000)(hk:1300000≤k)
  (hput:eo t (i:Int) ⟨R,D,vs⟩=(s,0)):∀(d j n:Nat),j+d=vs.length→d+1≤n→
   bX.l0 aF k n (i:Int) s 0 0 (vs.length:Int) (j:Int) t R D (vs.take j) (((vs.drop j).map jI).flatten) false=some ((R,D,vs),0)
 |0,j,n,hj,hn=>by
  obtain ⟨n,rfl⟩:∃q,n=q+1:=⟨n - 1,by omega⟩
  have hjm:j=vs.length:=by omega
  subst hjm
  rw [List.take_length]
  have:=Bq (k:=k) (n:=n) (t:=t) (a:=(i:Int)) (s:=s) (e:=0) (f:=0) (m:=vs.length) (c:=⟨R,D,vs⟩) (r:=((vs.drop vs.length).map jI).flatten) (bad:=false) (by simp only;omega) (by simp only;omega) (by simp only;omega)
  rw [if_pos ⟨rfl,rfl,rfl,hput⟩] at this
  exact this
 |d+1,j,n,hj,hn=>by
  obtain ⟨n,rfl⟩:∃q,n=q+1:=⟨n - 1,by omega⟩
  have hjv:j<vs.length:=by omega
  have hfl:=f7 (vs:=vs.drop (j+1)) fun v h=>qE (hv v (List.mem_of_mem_drop h))
  rw [List.length_drop] at hfl
  rw [bX.l0_eq,dT (by omega),cT,Bool.not_false,cT,aP hi,bS,d5 hi,List.drop_eq_getElem_cons hjv,List.map_cons,List.flatten_cons,DW (by omega) (hv _ (List.getElem_mem hjv)) (by omega),bS,
   dT (by simp only [List.length_take,List.length_cons,List.length_nil];omega),cT,bu (by omega)]
  have e:vs.take j++[vs[j]]=vs.take (j+1):=(List.take_succ_eq_append_getElem hjv).symm
  rw [e]
  exact s8 hi hv hm hR hk hput d (j+1) n (by omega) (by omega)
theorem E1 {k:Nat}{t:List bc}{a:Int}{c:Col}(hk:1600000≤k)(hm:fL t a c=true):bX.f aF k t a (eo t a c).1=some (mN c,0):=by
 obtain ⟨k,rfl⟩:∃q,k=q+1:=⟨k - 1,by omega⟩
 obtain ⟨i,rfl,hi,hmt,hn,hin,h1,h2,h3,h4,h5,h6⟩:=eU hm
 have hvl:=iK hm
 obtain ⟨r0,r1,d0,d1⟩:=il (t:=t) (a:=(i:Int))
 obtain ⟨pr,_,hr⟩:=iE r1 h3 h2
 obtain ⟨pd,_,hdl⟩:=iE d1 h4 (by omega)
 have hfl:=f7 fun v h=>qE (h5 v h)
 have hs:(eo t (i:Int) c).1=w4 (fm (eO t (i:Int) c))++eO t (i:Int) c:=by unfold eo;rw [if_pos hm]
 have hput:eo t (i:Int) ⟨c.reps,c.defs,c.values⟩=((eo t (i:Int) c).1,0):=Prod.ext rfl (HG hm)
 have hbody:eO t (i:Int) c=w4 ((c.reps.length:Nat):Int)++(w4 (((lO (bP t (i:Int)).1 c.reps).length:Nat):Int)++(w4 (((lO (bP t (i:Int)).2.1 c.defs).length:Nat):Int)++(lO (bP t (i:Int)).1 c.reps++(lO (bP t (i:Int)).2.1 c.defs++(c.values.map jI).flatten)))):=by
  unfold eO mL
  simp only [List.append_assoc]
 have hbl:(eO t (i:Int) c).length≤400000:=by rw [hbody];simp only [List.length_append,bm];omega
 generalize hS:(eo t (i:Int) c).1=s at hs hput
 generalize eO t (i:Int) c=B at hs hbl hbody
 have h4':List.take 4 s=w4 (fm B):=by rw [hs,show (4:Nat)=(w4 (fm B)).length from rfl,List.take_left'];rfl
 have h4d:List.drop 4 s=B:=by rw [hs,show (4:Nat)=(w4 (fm B)).length from rfl,List.drop_left'];rfl
 have hsl:s.length=4+B.length:=by rw [hs,List.length_append,bm]
 rw [bX.f_eq,nr (by omega),bS,Int.toNat_natCast,hn,hin,Bool.not_false,Bool.and_self,Bool.not_true,Bool.not_false,cT,dF (by omega),cF,dT (by omega),dT (by omega),Bool.and_self,cT,List.drop_zero,eE (by omega) _ (by rw [List.length_take];omega),bS,cT,List.take_length,xH (by rw [List.length_drop];omega) (by rw [List.length_drop];omega),bS]
 rw [h4',h4d,wO (o8 B),show (fm B != fm B)=false by simp,cF,fY (by omega),bS,cT,hbody]
 rw [oD (by omega) (by omega) (by simp only [List.length_append,bm];omega),bS]
 simp only
 rw [oD (by omega) (by omega) (by simp only [List.length_append,bm];omega),bS]
 simp only
 rw [oD (by omega) (by omega) (by simp only [List.length_append];omega),bS]
 simp only
 rw [td (by omega),bS]
 simp only
 rw [vf (by omega) r0 r1,bS,xg (by omega) pr (by omega),bS]
 simp only
 rw [td (by omega),bS]
 simp only
 rw [vf (by omega) d0 d1,bS,h1,xg (by omega) pd (by omega),bS]
 simp only
 rw [kL (by omega) (by omega),bS,←h6]
 exact s8 hi h5 (by omega) (by omega) (by omega) hput c.values.length 0 k (by omega) (by omega)
theorem wS {k:Nat}{c:Col}(hk:c.reps.length+c.defs.length+c.values.length+5≤k)(hl:c.reps.length≤20000000000000∧c.defs.length≤20000000000000∧c.values.length≤20000000000000):cd.f aF k c c=some true:=by
 rw [Fp hk hl];simp
end Go.Proofs.YtjkokaockhecnaaGreatDoorP
