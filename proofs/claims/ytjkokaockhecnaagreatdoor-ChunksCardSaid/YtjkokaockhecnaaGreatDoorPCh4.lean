/- The law Chunks; no condition but the sizes that a machine has. -/
import Derived.Test.YtjkokaockhecnaaGreatDoorPCh2
import Derived.Test.YtjkokaockhecnaaGreatDoorPCh3
namespace Go.Proofs.YtjkokaockhecnaaGreatDoorP
open Go Go.Proofs.YtjkokaockhecnaaGreatDoorA
theorem yJ {k:Nat}(hk:1≤k){a:List (List UInt8)}(ha:a.length≤8796093022000):dJ.f aG k a=some a:=by
 obtain ⟨k,rfl⟩:∃q,k=q+1:=⟨k - 1,by omega⟩
 rw [dJ.f_eq,dT (by simp only [List.length_nil];omega),cT];rfl
def NS:List (List UInt8):=[[126,114,111,111,109],[126,98,101,104,105,110,100]]
theorem yF {k:Nat}(hk:2≤k){a:List (List UInt8)}(ha:a.length≤8796093022000):dI.f aG k a=some (a,NS):=by
 obtain ⟨k,rfl⟩:∃q,k=q+1:=⟨k - 1,by omega⟩
 rw [dI.f_eq,yJ (by omega) (by omega),bS,dT (by simp only [List.length_cons,List.length_nil];omega),cT,dT (by omega),dT (by rw [List.length_append];omega)]
 simp only [Bool.and_self,cT,Int.toNat_natCast,List.take_left,List.drop_left]
 rfl
theorem yx {k:Nat}{a:List (List UInt8)}(hk:a.length+10≤k)(ha:a.length≤8796093022000):dH.f aG k (a,NS) a=some true:=by
 obtain ⟨k,rfl⟩:∃q,k=q+1:=⟨k - 1,by omega⟩
 have hl:(a++NS).length=a.length+2:=by rw [List.length_append];rfl
 have h2:IntKind.i64.wrap ((a.length:Int)+2)=((a.length+2:Nat):Int):=by rw [aP _ (by omega)];push_cast;rfl
 have ht:List.drop 0 (List.take (a.length+2) (a++NS))=a++NS:=by rw [List.drop_zero,List.take_of_length_le (by omega)]
 rw [dH.f_eq]
 dsimp only
 rw [h2,hl,dT (by omega),dT (by omega)]
 simp only [Bool.and_self,cT,Int.toNat_natCast]
 rw [mO a (by omega) (by omega),bS,cT,ht,eQ (i:=a.length) (x:=[126,114,111,111,109]) (by rw [List.getElem?_append_right (by omega),Nat.sub_self];rfl),bS]
 have e1:(([126,114,111,111,109]:List UInt8)==[126,114,111,111,109])=true:=rfl
 rw [e1,cT,bb (by omega),eQ (i:=a.length+1) (x:=[126,98,101,104,105,110,100]) (by rw [List.getElem?_append_right (by omega),Nat.add_sub_cancel_left];rfl),bS]
 rfl
def B0 (y:Col):Prop:=y.reps.length≤4096∧y.defs.length≤4096∧y.values.length≤4096∧∀v∈y.values,v.length≤1000000
theorem mL:B0 lx:=⟨by decide,by decide,by decide,fun v hv=>by simp [lx] at hv⟩
theorem xX {k:Nat}{t:List aT}{a:Int}{ss:List (List UInt8)}(hss:ss.length≤8796093022000)(hs:∀s∈ss,s.length≤140737488351232∧1800000+s.length≤k):∀(d i n n':Nat) (R D:List Int) (V:List (List UInt8)),i+d=ss.length→d+1≤n→d+1≤n'→
  R.length≤4096→D.length=R.length→V.length≤R.length→(∀v∈V,v.length≤1000000)→
  ∃y h,bm.l0 aG k n a true ss (ss.length:Int) (i:Int) t R D V=some (iE y,h)∧bO.l0 aG k n' a ss (i:Int) t R D V=some (y,h)∧B0 y:=by
 intro d
 induction d with
 |zero=>
  intro i n n' R D V hi hn hn' r1 r2 r3 r4
  obtain ⟨n,rfl⟩:∃q,n=q+1:=⟨n - 1,by omega⟩
  obtain ⟨n',rfl⟩:∃q,n'=q+1:=⟨n' - 1,by omega⟩
  refine ⟨⟨R,D,V⟩,0,?_,?_,r1,by simp only;omega,by simp only;omega,r4⟩
  ·rw [bm.l0_eq,dF (by omega),cF];rfl
  ·rw [bO.l0_eq,dF (by omega),cF]
 |succ d ih=>
  intro i n n' R D V hi hn hn' r1 r2 r3 r4
  obtain ⟨n,rfl⟩:∃q,n=q+1:=⟨n - 1,by omega⟩
  obtain ⟨n',rfl⟩:∃q,n'=q+1:=⟨n' - 1,by omega⟩
  have hir:i<ss.length:=by omega
  obtain ⟨s1,s2⟩:=hs _ (List.getElem_mem hir)
  obtain ⟨c,e,g1,g2,g3⟩:=EY (k:=k) (t:=t) (a:=a) (s:=ss[i]) s2 s1
  rw [bm.l0_eq,dT (show (i:Int)<((ss.length:Nat):Int) by omega),cT,aL hir,bS,g1,bS,bO.l0_eq,dT (show (i:Int)<((ss.length:Nat):Int) by omega),cT,aL hir,bS,g2,bS]
  by_cases he:e=0
  ·subst he
   simp only [show ((0:Int) != 0)=false from rfl,Bool.not_false,cT]
   have hcol:iE c=(c.reps,c.defs,c.values):=rfl
   rw [hcol]
   dsimp only
   cases hR:c.reps with
   |nil=>
    refine ⟨lx,2300,?_,?_,mL⟩
    ·rw [show ((([]:List Int).length:Int)==0)=true from rfl,Bool.not_true,cF];rfl
    ·rw [show ((([]:List Int).length:Int)==0)=true from rfl,Bool.not_true,cF];rfl
   |cons x xs=>
    have hp:dy t a c=(ss[i],0):=by
     rcases g3 with rfl|⟨_,h⟩
     ·simp [lx] at hR
     ·exact h
    have hm:=uE hp
    obtain ⟨q,rfl,_,_,_,_,h1,h2,_,_,h5,h6⟩:=bR hm
    have hcl:=jW (bg t (q:Int)).2.1 c.defs
    have hl:(x :: xs).length=c.reps.length:=by rw [hR]
    have hpos:0<(x :: xs).length:=by simp
    rw [show (((x :: xs).length:Int)==0)=false by rw [beq_eq_false_iff_ne];omega,Bool.not_false,cT,cT,show (decide (0≤0)&&decide (0<(((x :: xs).length:Nat):Int)))=true by simp,cT,show (x :: xs)[0]?=some x from rfl,bS,show rd (x :: xs) 0=some x from rfl,bS]
    by_cases hx:x=0
    ·subst hx
     simp only [show ((0:Int) != 0)=false from rfl,Bool.not_false,cT]
     rw [aP _ (by omega)]
     by_cases hg:(R.length:Int)+(((0:Int) :: xs).length:Int)>4096
     ·rw [dT hg]
      exact ⟨lx,2300,rfl,rfl,mL⟩
     ·rw [dF hg,cF,cF,dT (by omega),cT,cT,dT (by omega),cT,cT,dT (by omega),cT,cT,bb (by omega)]
      refine ih (i+1) n n' _ _ _ (by omega) (by omega) (by omega) (by rw [List.length_append];omega) (by rw [List.length_append,List.length_append];omega) (by rw [List.length_append,List.length_append];omega) fun v hv=>?_
      rcases List.mem_append.1 hv with hv|hv
      ·exact r4 v hv
      ·have:=(po (h5 v hv)).short;omega
    ·simp only [show (x != 0)=true by rw [bne_iff_ne];exact hx,Bool.not_true,cF]
     exact ⟨lx,2300,rfl,rfl,mL⟩
  ·simp only [show (e != 0)=true by rw [bne_iff_ne];exact he,Bool.not_true,cF]
   exact ⟨lx,2300,rfl,rfl,mL⟩
theorem Bg {k:Nat}{t:List aT}{a:Int}{ss:List (List UInt8)}(hk:1900000+ss.length≤k)(hss:ss.length≤8796093022000)(hs:∀s∈ss,s.length≤140737488351232∧1900000+s.length≤k):
  ∃y h,bm.f aG k t a ss=some (iE y,h)∧bO.f aG k t a ss=some (y,h)∧B0 y:=by
 obtain ⟨k,rfl⟩:∃q,k=q+1:=⟨k - 1,by omega⟩
 rw [bm.f_eq,jB (by omega),bS,bO.f_eq,gC (by omega),bS]
 cases hlf:cB t a&&!dj (dP t a.toNat) with
 |true=>
  rw [Bool.not_true,cF]
  exact xX (k:=k) hss (fun s h=>by have:=hs s h;omega) ss.length 0 k k [] [] [] (by omega) (by omega) (by omega) (by simp) rfl (by simp) (fun v hv=>by simp at hv)
 |false=>
  rw [Bool.not_false,cT]
  refine ⟨lx,2300,?_,rfl,mL⟩
  obtain ⟨q,rfl⟩:∃q,k=q+1:=⟨k - 1,by omega⟩
  cases ss with
  |nil=>rw [bm.l0_eq,dF (by simp),cF];rfl
  |cons s ss=>
   rw [bm.l0_eq,dT (by simp),cT,show rd (s :: ss) 0=some s from rfl,bS,zh (by omega) hlf,bS]
   rfl
theorem wy {k:Nat}(hk:101000≤k){xs:List (List UInt8)}(h:xs.length≤100000)(hs:∀v∈xs,v.length≤1000000):aM.f aG k xs=some ():=by
 obtain ⟨k,rfl⟩:∃q,k=q+1:=⟨k - 1,by omega⟩
 have:=o6 (k:=k) xs.length 0 k xs (by omega) (by omega) (by omega) (fun j h _=>hs _ (List.getElem_mem h))
 rw [aM.f_eq]
 exact this
theorem Fj {t:List aT}{a:Int}{c:Col}(hm:cj t a c=true):(dy t a c).1.length≤1000000:=by
 obtain ⟨i,rfl,hi,hmt,hn,hin,h1,h2,h3,h4,h5,h6⟩:=bR hm
 have hvl:=fg hm
 obtain ⟨r0,r1,d0,d1⟩:=hO (t:=t) (a:=(i:Int))
 obtain ⟨pr,_,hr⟩:=gy r1 h3 h2
 obtain ⟨pd,_,hdl⟩:=gy d1 h4 (by omega)
 have hfl:=fY fun v h=>po (h5 v h)
 unfold dy
 rw [if_pos hm]
 unfold eT lK
 simp only [List.length_append,bp]
 omega
theorem BA {t:List aT}{a:Int}{K:Nat}{c:Col}{cs:List Col}(hK:1≤K)(hm:cj t a c=true)(hp:rT t a K c cs):cs.length≤4096:=by
 obtain ⟨_,_,_,_,_,_,h1,h2,_⟩:=bR hm
 have hcl:=jW 0 c.reps
 rw [hp.num]
 have:(fw 0 c.reps+K - 1) / K<fw 0 c.reps+1:=by
  rw [Nat.div_lt_iff_lt_mul (by omega),Nat.add_mul,Nat.one_mul]
  have:=Nat.le_mul_of_pos_right (fw 0 c.reps) (show 0<K by omega)
  omega
 omega
theorem pure_Chunks (t:List aT)(a:Int)(c:Col)(lim:Int)(ss:List (List UInt8))(hc:RoomyC c)(hlim:lim≤9223372036854775807)(hl:(ss.length:Int)*16≤140737488351232)(hs:∀s∈ss,s.length≤140737488351232):∃k,fl.f aG k t a c lim ss=some true:=by
 obtain ⟨hc1,hc2,hc3⟩:=hc.short
 refine ⟨140737488351232+3000000+ss.length+c.reps.length+c.defs.length+c.values.length+1,?_⟩
 generalize hk:140737488351232+3000000+ss.length+c.reps.length+c.defs.length+c.values.length=k
 obtain ⟨y,h,j1,j2,y1,y2,y3,y4⟩:=Bg (k:=k) (t:=t) (a:=a) (ss:=ss) (by omega) (by omega) (fun s h=>by have:=hs s h;omega)
 have sp:∃ps e,bC.f aG k t a c lim=some (ps,e)∧aB.f aG k t a c lim=some (ps,e)∧ps.length≤4096∧∀p∈ps,p.length≤1000000:=by
  by_cases hlt:lim<1
  ·exact ⟨[],2300,va (by omega) (by omega) (by omega) hlt,oy (by omega) (by omega) (.inl hlt),by simp,fun p hp=>by simp at hp⟩
  ·obtain ⟨K,rfl⟩:∃K:Nat,lim=(K:Int):=⟨lim.toNat,by omega⟩
   rcases AD (k:=k) (t:=t) (a:=a) (c:=c) (K:=K) (by omega) (by omega) (by omega) (by omega) with ⟨h1,h2⟩|⟨hm,h0,cs,rfl,hp,h1⟩
   ·exact ⟨[],2300,h1,oy (by omega) (by omega) (.inr h2),by simp,fun p hp=>by simp at hp⟩
   ·refine ⟨_,_,h1,Ab (by omega) (by omega) (by omega) hm h0,by rw [List.length_map];exact BA (by omega) hm hp,fun p hpm=>?_⟩
    obtain ⟨d,hd,rfl⟩:=List.mem_map.1 hpm
    exact Fj (hp.may d hd)
 obtain ⟨ps,e,s1,s2,s3,s4⟩:=sp
 have hy:Col.mk (iE y,h).1.1 (iE y,h).1.2.1 (iE y,h).1.2.2=y:=by cases y;rfl
 have hsp:cw.f aG k (iE y).1 (iE y).2.1 (iE y).2.2=some ():=vL (by omega) (by omega) (by omega) (by omega) y4
 rw [fl.f_eq,wz (by omega) hc,bS,yF (a:=ss) (by omega) (by omega),bS,s1,bS,s2,bS,j1,bS,j2,bS,mO ps (by omega) (by omega),bS,Bool.not_true,Bool.not_false,cT,BS (by omega),bS,
  show (e != e)=false by simp,Bool.not_false,cT,hy,oh (c:=y) (by omega) (by omega),bS,Bool.not_true,Bool.not_false,cT,BS (by omega),bS]
 simp only [show (h != h)=false by simp,cF]
 rw [wy (by omega) (by omega) s4,bS,hsp,bS,oh (c:=c) (by omega) (by omega),bS,cT,yx (a:=ss) (by omega) (by omega),bS,cT,Is (by omega),bS]
end Go.Proofs.YtjkokaockhecnaaGreatDoorP
