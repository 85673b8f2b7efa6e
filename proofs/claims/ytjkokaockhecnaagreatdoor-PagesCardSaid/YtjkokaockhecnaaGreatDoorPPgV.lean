/- The law Pages; no condition but the sizes that a machine has. -/
import Derived.Test.YtjkokaockhecnaaGreatDoorPPgS
namespace Go.Proofs.YtjkokaockhecnaaGreatDoorP
open Go Go.Proofs.YtjkokaockhecnaaGreatDoorA
theorem Bh:∀{l m:List UInt8},l.length=m.length→val l=val m→l=m
 |[],[],_,_=>rfl
 |[],_ :: _,h,_=>by simp at h
 |_ :: _,[],h,_=>by simp at h
 |a :: l,b :: m,h,e=>by
  simp only [val] at e
  have ha:=a.toNat_lt
  have hb:=b.toNat_lt
  have h1:a.toNat=b.toNat:=by omega
  have h2:val l=val m:=by omega
  rw [UInt8.toNat_inj.1 h1,Bh (by simpa using h) h2]
theorem K4 {u:List UInt8}(h:u.length=4):dG u=(val u:Int):=by
 have:=xn u
 rw [h] at this
 unfold dG
 exact aK _ (by omega)
theorem FD {u:List UInt8}(h:u.length=4){x:Int}(hx:0≤x∧x≤4294967295):dG u=x↔w4 x=u:=by
 constructor
 ·intro e
  rw [K4 h] at e
  refine Bh (by rw [bm,h]) ?_
  have:=Ar x ⟨hx.1,by omega⟩
  omega
 ·rintro rfl
  exact wO hx
theorem wR {k:Nat}{a:Int}{s B:List UInt8}{r d one:Int}{t:List bc}{R D:List Int}(hl:D.length≤5000):∀(q i n:Nat),i+q=D.length→q+1≤n→∃n',
  aA.l0 aF k n a s B r d one ((vC one (D.take i):Nat):Int) (i:Int) t R D=aA.l0 aF k (n'+1) a s B r d one ((vC one D:Nat):Int) (D.length:Int) t R D:=by
 intro q
 induction q with
 |zero=>
  intro i n hi hn
  obtain ⟨n,rfl⟩:∃q,n=q+1:=⟨n - 1,by omega⟩
  refine ⟨n,?_⟩
  have:i=D.length:=by omega
  rw [List.take_of_length_le (by omega),this]
 |succ q ih=>
  intro i n hi hn
  obtain ⟨n,rfl⟩:∃q,n=q+1:=⟨n - 1,by omega⟩
  have hiD:i<D.length:=by omega
  have hc:=ra one (D.take i)
  rw [List.length_take] at hc
  obtain ⟨n',e⟩:=ih (i+1) n (by omega) (by omega)
  refine ⟨n',?_⟩
  rw [←e,aA.l0_eq,dT (show (i:Int)<((D.length:Nat):Int) by omega),cT,dT (show (0:Int)≤(i:Int) by omega),Bool.and_self,cT,Int.toNat_natCast,List.getElem?_eq_getElem hiD,bS,tC one hiD,bu (i:=i) (by omega)]
  cases (D[i]==one) with
  |true=>rw [cT,bu (by omega)];rfl
  |false=>rw [cF];rfl
def pJ:Col:=⟨[],[],[]⟩
theorem uO {k n:Nat}{i:Nat}{s B:List UInt8}{r d:Nat}{one:Int}{t:List bc}{R D:List Int}(hi:i<t.length)(hk:1500000≤k)(hB:B.length≤140737488351232)(hrd:12+r+d≤B.length)(hD:D.length≤5000){vs:List (List UInt8)}{ok:Bool}
  (hv:ac.f aF k (dy t i) (B.drop (12+r+d)) ((vC one D:Nat):Int)=some (vs,ok)) (hvl:vs.length≤5000):
  aA.l0 aF k (n+1) (i:Int) s B (r:Int) (d:Int) one ((vC one D:Nat):Int) (D.length:Int) t R D=some (if ok=true∧eo t (i:Int) ⟨R,D,vs⟩=(s,0) then (⟨R,D,vs⟩,0) else (pJ,2200)):=by
 rw [aA.l0_eq,dF (by omega),cF,aP hi,bS,d5 hi,aK (12+(r:Int)) (by omega),aK (12+(r:Int)+(d:Int)) (by omega),dT (show (0:Int)≤12+(r:Int)+(d:Int) by omega),dT (show 12+(r:Int)+(d:Int)≤((B.length:Nat):Int) by omega),Bool.and_self,cT,List.take_length,show (12+(r:Int)+(d:Int)).toNat=12+r+d by omega,hv,bS,nX (by simp only;omega) (by simp only;omega),bS]
 cases ok with
 |false=>rw [Bool.not_false,Bool.not_true,cF,if_neg (by simp)];rfl
 |true=>
  rw [Bool.not_true,Bool.not_false,cT]
  by_cases h3:(eo t (i:Int) ⟨R,D,vs⟩).2=0
  ·rw [h3,show ((0:Int) != 0)=false from rfl,Bool.not_false,cT]
   by_cases h4:(eo t (i:Int) ⟨R,D,vs⟩).1=s
   ·rw [show ((eo t (i:Int) ⟨R,D,vs⟩).1 != s)=false by rw [h4];simp,cF,if_pos ⟨rfl,Prod.ext h4 h3⟩]
   ·rw [show ((eo t (i:Int) ⟨R,D,vs⟩).1 != s)=true by rw [bne_iff_ne];exact h4,cT,if_neg (by rintro ⟨_,h⟩;exact h4 (by rw [h]))];rfl
  ·rw [show ((eo t (i:Int) ⟨R,D,vs⟩).2 != 0)=true by rw [bne_iff_ne];exact h3,Bool.not_true,cF,if_neg (by rintro ⟨_,h⟩;exact h3 (by rw [h]))];rfl
theorem Lm {k:Nat}{kd:Int}{s:List UInt8}(hk:6000≤k)(hs:s.length≤140737488351232){m:Nat}(hm:m≤5000):∃vs ok,ac.f aF k kd s (m:Int)=some (vs,ok)∧vs.length≤5000:=by
 obtain ⟨k,rfl⟩:∃q,k=q+1:=⟨k - 1,by omega⟩
 rw [ac.f_eq]
 exact Lc (by omega) hs hm m 0 k 0 [] (by omega) (by omega) (by omega) (by simp)
theorem Kx {k:Nat}{t:List bc}{q:Nat}{vs:List (List UInt8)}(hk:6000≤k)(hv:∀v∈vs,wm t (q:Int) v=true)(hm:vs.length≤4096):ac.f aF k (dy t q) ((vs.map jI).flatten) (vs.length:Int)=some (vs,true):=by
 obtain ⟨k,rfl⟩:∃q,k=q+1:=⟨k - 1,by omega⟩
 rw [ac.f_eq]
 exact Iq (k:=k) (by omega) hv hm vs.length 0 k (by omega) (by omega)
theorem Ag {k:Nat}{t:List bc}{i:Nat}{s B:List UInt8}{n r d:Nat}(hi:i<t.length)(hk:1600000+B.length≤k)(hB:B.length≤140737488351232)(hrd:12+r+d≤B.length)(hn:n≤2147483647):
  ∃res,((aa.f aF k ((B.take (12+r)).drop 12) (bw (bP t (i:Int)).1) (n:Int)).bind fun r_9=>
   (aa.f aF k ((B.take (12+r+d)).drop (12+r)) (bw (bP t (i:Int)).2.1) (n:Int)).bind fun r_11=>
   bif (!(r_9.2 != 0)) then
    bif (r_11.2 != 0) then some (pJ,2200)
    else aA.l0 aF k k (i:Int) s B (r:Int) (d:Int) (bP t (i:Int)).2.1 0 0 t r_9.1 r_11.1
   else some (pJ,2200))=some res∧(res=(pJ,2200)∨∃c,res=(c,0)∧eo t (i:Int) c=(s,0)):=by
 have hl1:((B.take (12+r)).drop 12).length≤B.length:=by simp only [List.length_drop,List.length_take];omega
 have hl2:((B.take (12+r+d)).drop (12+r)).length≤B.length:=by simp only [List.length_drop,List.length_take];omega
 obtain ⟨g1,_,f1,p1⟩:=zB (k:=k) ((B.take (12+r)).drop 12) (by omega) (by omega) (bw (bP t (i:Int)).1) (n:Int)
 obtain ⟨g2,_,f2,p2⟩:=zB (k:=k) ((B.take (12+r+d)).drop (12+r)) (by omega) (by omega) (bw (bP t (i:Int)).2.1) (n:Int)
 rw [f1,bS,f2,bS]
 cases h1:(g1.2 != 0) with
 |true=>rw [Bool.not_true,cF];exact ⟨_,rfl,.inl rfl⟩
 |false=>
  rw [Bool.not_false,cT]
  cases h2:(g2.2 != 0) with
  |true=>rw [cT];exact ⟨_,rfl,.inl rfl⟩
  |false=>
   rw [cF]
   have hg2:=u6 p2
   have hcl:=ra (bP t (i:Int)).2.1 g2.1
   obtain ⟨n',e⟩:=wR (k:=k) (a:=(i:Int)) (s:=s) (B:=B) (r:=(r:Int)) (d:=(d:Int)) (one:=(bP t (i:Int)).2.1) (t:=t) (R:=g1.1) (D:=g2.1) (by omega) g2.1.length 0 k (by omega) (by omega)
   obtain ⟨vs,ok,hv,hvl⟩:=Lm (k:=k) (kd:=dy t i) (s:=B.drop (12+r+d)) (by omega) (by rw [List.length_drop];omega) (m:=vC (bP t (i:Int)).2.1 g2.1) (by omega)
   have:=uO (n:=n') (s:=s) (R:=g1.1) hi (by omega) hB hrd (by omega) hv hvl
   refine ⟨_,e.trans this,?_⟩
   split
   ·rename_i h;exact .inr ⟨_,rfl,h.2⟩
   ·exact .inl rfl
theorem zy {k:Nat}{t:List bc}{i:Nat}{s B:List UInt8}{c:Col}(hi:i<t.length)(hk:1600000+B.length≤k)(hB:B.length≤140737488351232)(hm:fL t (i:Int) c=true)(hput:eo t (i:Int) c=(s,0))(hb:B=eO t (i:Int) c):
  ((aa.f aF k ((B.take (12+(lO (bP t (i:Int)).1 c.reps).length)).drop 12) (bw (bP t (i:Int)).1) (c.reps.length:Int)).bind fun r_9=>
   (aa.f aF k ((B.take (12+(lO (bP t (i:Int)).1 c.reps).length+(lO (bP t (i:Int)).2.1 c.defs).length)).drop (12+(lO (bP t (i:Int)).1 c.reps).length)) (bw (bP t (i:Int)).2.1) (c.reps.length:Int)).bind fun r_11=>
   bif (!(r_9.2 != 0)) then
    bif (r_11.2 != 0) then some (pJ,2200)
    else aA.l0 aF k k (i:Int) s B ((lO (bP t (i:Int)).1 c.reps).length:Int) ((lO (bP t (i:Int)).2.1 c.defs).length:Int) (bP t (i:Int)).2.1 0 0 t r_9.1 r_11.1
   else some (pJ,2200))=some (c,0):=by
 obtain ⟨i',e,_,_,_,_,h1,h2,h3,h4,h5,h6⟩:=eU hm
 have hvl:=iK hm
 obtain ⟨r0,r1,d0,d1⟩:=il (t:=t) (a:=(i:Int))
 obtain ⟨pr,_,hr⟩:=iE r1 h3 h2
 obtain ⟨pd,_,hdl⟩:=iE d1 h4 (by omega)
 have hbody:B=mL c.reps.length (lO (bP t (i:Int)).1 c.reps).length (lO (bP t (i:Int)).2.1 c.defs).length++(lO (bP t (i:Int)).1 c.reps++(lO (bP t (i:Int)).2.1 c.defs++(c.values.map jI).flatten)):=by
  rw [hb];unfold eO;simp only [List.append_assoc]
 generalize lO (bP t (i:Int)).1 c.reps=lr at*
 generalize lO (bP t (i:Int)).2.1 c.defs=ld at*
 have hat:At B 12 (lr++(ld++(c.values.map jI).flatten)):=⟨mL c.reps.length lr.length ld.length,[],by rw [hbody,List.append_nil],by simp [mL,bm]⟩
 have hle:=hat.le
 simp only [List.length_append] at hle
 have s1:=hat.left.slice
 have s2:=hat.right.left.slice
 have h3':=hat.right.right
 have s3:B.drop (12+lr.length+ld.length)=(c.values.map jI).flatten:=by
  have:=h3'.slice
  rw [List.take_of_length_le (by
   have hbl:=congrArg List.length hbody
   simp only [List.length_append,mL,bm] at hbl
   omega)] at this
  exact this
 rw [s1,s2,oR (by omega) pr (by omega),bS]
 have:=oR (k:=k) (by omega) pd (by omega)
 rw [←h1] at this
 rw [this,bS]
 simp only [show ((0:Int) != 0)=false from rfl,Bool.not_false,cT,cF]
 obtain ⟨n',e⟩:=wR (k:=k) (a:=(i:Int)) (s:=s) (B:=B) (r:=(lr.length:Int)) (d:=(ld.length:Int)) (one:=(bP t (i:Int)).2.1) (t:=t) (R:=c.reps) (D:=c.defs) (by omega) c.defs.length 0 k (by omega) (by omega)
 have hv:=Kx (k:=k) (t:=t) (q:=i) (vs:=c.values) (by omega) h5 hvl
 rw [←s3,h6] at hv
 have hend:=uO (n:=n') (s:=s) (R:=c.reps) (D:=c.defs) hi (by omega) hB (by omega) (by omega) hv (by omega)
 have hc:(⟨c.reps,c.defs,c.values⟩:Col)=c:=by cases c;rfl
 rw [hc,if_pos ⟨rfl,hput⟩] at hend
 exact e.trans hend
theorem vE {k:Nat}{t:List bc}{i:Nat}{s:List UInt8}(hi:i<t.length)(hlf:(cw t (i:Int)&&!c8 (dy t (i:Int).toNat))=true)(hk:1700000+s.length≤k)(hs:s.length≤140737488351232)(h4:4≤s.length)(hc:w4 (fm (s.drop 4))=s.take 4):
  ∃res,aA.f aF k t (i:Int) s=some res∧(res=(pJ,2200)∨∃c,res=(c,0)∧eo t (i:Int) c=(s,0)):=by
 obtain ⟨k,rfl⟩:∃q,k=q+1:=⟨k - 1,by omega⟩
 have hBl:(s.drop 4).length=s.length - 4:=by rw [List.length_drop]
 rw [aA.f_eq,hY (by omega),bS,hlf,Bool.not_true,Bool.not_false,cT,dF (show¬((s.length:Int)<4) by omega),cF,dT (show 4≤((s.length:Nat):Int) by omega),show decide (0≤4)=true from rfl,Bool.and_self,cT,List.take_length,ng (by omega) (by omega),bS,rj (by omega),bS,cT,List.drop_zero,show (w4 (fm (s.drop 4)) != s.take 4)=false by rw [hc];simp,cF]
 generalize hB:s.drop 4=B at*
 rw [fy (by omega) B (by omega) 0 4 (by omega),bS,fy (by omega) B (by omega) 4 4 (by omega),bS,fy (by omega) B (by omega) 8 4 (by omega),bS]
 have bad:(300:Int) != 0:=by decide
 have good:((0:Int) != 0)=false:=rfl
 rcases kO B 0 with e1|⟨n,e1,_,hn⟩
 ·rw [show ((0:Nat):Int)=0 from rfl] at e1
  rw [e1]
  simp only [bad,Bool.not_true,cF]
  exact ⟨_,rfl,.inl rfl⟩
 rw [show ((0:Nat):Int)=0 from rfl] at e1
 rcases kO B 4 with e2|⟨r,e2,_,hr⟩
 ·rw [show ((4:Nat):Int)=4 from rfl] at e2
  rw [e1,e2]
  simp only [bad,good,Bool.not_true,Bool.not_false,cT,cF]
  exact ⟨_,rfl,.inl rfl⟩
 rw [show ((4:Nat):Int)=4 from rfl] at e2
 rcases kO B 8 with e3|⟨d,e3,h12,hd⟩
 ·rw [show ((8:Nat):Int)=8 from rfl] at e3
  rw [e1,e2,e3]
  simp only [bad,good,Bool.not_true,Bool.not_false,cT,cF]
  exact ⟨_,rfl,.inl rfl⟩
 rw [show ((8:Nat):Int)=8 from rfl] at e3
 rw [e1,e2,e3]
 have w1:=aK ((B.length:Int) - 12) (by omega)
 have w2:=aK ((B.length:Int) - 12 - (r:Int)) (by omega)
 have w3:=aK (12+(r:Int)) (by omega)
 have w4':=aK (12+(r:Int)+(d:Int)) (by omega)
 simp only [good,Bool.not_false,cT,w1,w2,w3,w4']
 by_cases q1:(r:Int)>(B.length:Int) - 12
 ·rw [dT q1,Bool.not_true,cF];exact ⟨_,rfl,.inl rfl⟩
 ·rw [dF q1,Bool.not_false,cT]
  by_cases q2:(d:Int)>(B.length:Int) - 12 - (r:Int)
  ·rw [dT q2,cT];exact ⟨_,rfl,.inl rfl⟩
  ·obtain ⟨r0,r1,d0,d1⟩:=il (t:=t) (a:=(i:Int))
   rw [dF q2,cF,iz (by omega),bS]
   simp only [dT (show (0:Int)≤12+(r:Int) by omega),dT (show 12+(r:Int)≤((B.length:Nat):Int) by omega),show decide (0≤12)=true from rfl,dT (show 12≤(((12+r:Nat)):Int) by omega),dT (show (0:Int)≤12+(r:Int)+(d:Int) by omega),dT (show 12+(r:Int)+(d:Int)≤((B.length:Nat):Int) by omega),dT (show 12+(r:Int)≤(((12+r+d:Nat)):Int) by omega),Bool.and_self,cT,kC (show 8≤k by omega) r0 r1,kC (show 8≤k by omega) d0 d1,bS,show (12+(r:Int)).toNat=12+r by omega,show (12+(r:Int)+(d:Int)).toNat=12+r+d by omega]
   exact Ag (k:=k) (s:=s) (B:=B) (n:=n) (r:=r) (d:=d) hi (by omega) (by omega) (by omega) hn
theorem yF {k:Nat}{t:List bc}{i:Nat}{s:List UInt8}{c:Col}(hi:i<t.length)(hk:1700000+s.length≤k)(hs:s.length≤140737488351232)(hp:eo t (i:Int) c=(s,0)):aA.f aF k t (i:Int) s=some (c,0):=by
 have hm:=sX hp
 obtain ⟨i',e,_,_,hn',hin,h1,h2,h3,h4',h5,h6⟩:=eU hm
 have hii:i'=i:=by omega
 subst hii
 obtain ⟨r0,r1,d0,d1⟩:=il (t:=t) (a:=(i':Int))
 obtain ⟨_,_,hr⟩:=iE r1 h3 h2
 obtain ⟨_,_,hdl⟩:=iE d1 h4' (by omega)
 have hlf:(cw t (i':Int)&&!c8 (dy t (i':Int).toNat))=true:=by rw [Int.toNat_natCast,hn',hin];rfl
 have hsv:s=w4 (fm (eO t (i':Int) c))++eO t (i':Int) c:=by
  unfold eo at hp
  rw [if_pos hm] at hp
  exact (congrArg Prod.fst hp).symm
 have hd4:s.drop 4=eO t (i':Int) c:=by rw [hsv,show (4:Nat)=(w4 (fm (eO t (i':Int) c))).length from rfl,List.drop_left'];rfl
 have ht4:s.take 4=w4 (fm (eO t (i':Int) c)):=by rw [hsv,show (4:Nat)=(w4 (fm (eO t (i':Int) c))).length from rfl,List.take_left'];rfl
 have h4:4≤s.length:=by rw [hsv,List.length_append,bm];omega
 have hc:w4 (fm (s.drop 4))=s.take 4:=by rw [hd4,ht4]
 have hbody:eO t (i':Int) c=w4 ((c.reps.length:Nat):Int)++(w4 (((lO (bP t (i':Int)).1 c.reps).length:Nat):Int)++(w4 (((lO (bP t (i':Int)).2.1 c.defs).length:Nat):Int)++(lO (bP t (i':Int)).1 c.reps++(lO (bP t (i':Int)).2.1 c.defs++(c.values.map jI).flatten)))):=by
  unfold eO mL
  simp only [List.append_assoc]
 have hgoes:=fun (k:Nat) (hk:1600000+(s.drop 4).length≤k)=>zy (k:=k) (s:=s) (B:=s.drop 4) hi hk (by rw [List.length_drop];omega) hm hp hd4
 obtain ⟨k,rfl⟩:∃q,k=q+1:=⟨k - 1,by omega⟩
 have hBl:(s.drop 4).length=s.length - 4:=by rw [List.length_drop]
 rw [aA.f_eq,hY (by omega),bS,hlf,Bool.not_true,Bool.not_false,cT,dF (show¬((s.length:Int)<4) by omega),cF,dT (show 4≤((s.length:Nat):Int) by omega),show decide (0≤4)=true from rfl,Bool.and_self,cT,List.take_length,ng (by omega) (by omega),bS,rj (by omega),bS,cT,List.drop_zero,show (w4 (fm (s.drop 4)) != s.take 4)=false by rw [hc];simp,cF]
 generalize hB:s.drop 4=B at*
 rw [fy (by omega) B (by omega) 0 4 (by omega),bS,fy (by omega) B (by omega) 4 4 (by omega),bS,fy (by omega) B (by omega) 8 4 (by omega),bS]
 have good:((0:Int) != 0)=false:=rfl
 rw [←hd4] at hbody
 have hat:At B 0 (w4 ((c.reps.length:Nat):Int)++(w4 (((lO (bP t (i':Int)).1 c.reps).length:Nat):Int)++(w4 (((lO (bP t (i':Int)).2.1 c.defs).length:Nat):Int)++(lO (bP t (i':Int)).1 c.reps++(lO (bP t (i':Int)).2.1 c.defs++(c.values.map jI).flatten))))):=⟨[],[],by rw [hbody];simp,rfl⟩
 have hle:=hat.le
 simp only [List.length_append,bm] at hle
 have e1:=sU hat.left (by omega)
 have e2:=sU hat.right.left (by omega)
 have e3:=sU hat.right.right.left (by omega)
 simp only [bm,Nat.zero_add,Nat.reduceAdd] at e1 e2 e3
 rw [show ((0:Nat):Int)=0 from rfl] at e1
 rw [show ((4:Nat):Int)=4 from rfl] at e2
 rw [show ((8:Nat):Int)=8 from rfl] at e3
 rw [e1,e2,e3]
 have hg:=hgoes k (by omega)
 generalize hr':(lO (bP t (i':Int)).1 c.reps).length=r at*
 generalize hd':(lO (bP t (i':Int)).2.1 c.defs).length=d at*
 have w1:=aK ((B.length:Int) - 12) (by omega)
 have w2:=aK ((B.length:Int) - 12 - (r:Int)) (by omega)
 have w3:=aK (12+(r:Int)) (by omega)
 have w4':=aK (12+(r:Int)+(d:Int)) (by omega)
 simp only [good,Bool.not_false,cT,w1,w2,w3,w4']
 rw [dF (show¬(r:Int)>(B.length:Int) - 12 by omega),Bool.not_false,cT,dF (show¬(d:Int)>(B.length:Int) - 12 - (r:Int) by omega),cF,iz (by omega),bS]
 simp only [dT (show (0:Int)≤12+(r:Int) by omega),dT (show 12+(r:Int)≤((B.length:Nat):Int) by omega),show decide (0≤12)=true from rfl,dT (show 12≤(((12+r:Nat)):Int) by omega),dT (show (0:Int)≤12+(r:Int)+(d:Int) by omega),dT (show 12+(r:Int)+(d:Int)≤((B.length:Nat):Int) by omega),dT (show 12+(r:Int)≤(((12+r+d:Nat)):Int) by omega),Bool.and_self,cT,kC (show 8≤k by omega) r0 r1,kC (show 8≤k by omega) d0 d1,bS,show (12+(r:Int)).toNat=12+r by omega,show (12+(r:Int)+(d:Int)).toNat=12+r+d by omega]
 exact hg
theorem B5 {k:Nat}{t:List bc}{a:Int}{s:List UInt8}(hk:1800000+s.length≤k)(hs:s.length≤140737488351232):
  ∃c e,bX.f aF k t a s=some (mN c,e)∧aA.f aF k t a s=some (c,e)∧(c=pJ∨(e=0∧eo t a c=(s,0))):=by
 cases hlf:cw t a&&!c8 (dy t a.toNat) with
 |false=>
  refine ⟨pJ,2200,FY (by omega) hlf,?_,.inl rfl⟩
  obtain ⟨k,rfl⟩:∃q,k=q+1:=⟨k - 1,by omega⟩
  rw [aA.f_eq,hY (by omega),bS,hlf];rfl
 |true=>
  by_cases h4:s.length<4
  ·refine ⟨pJ,2200,ET (by omega) h4,?_,.inl rfl⟩
   obtain ⟨k,rfl⟩:∃q,k=q+1:=⟨k - 1,by omega⟩
   rw [aA.f_eq,hY (by omega),bS,hlf,Bool.not_true,Bool.not_false,cT,dT (by omega),cT];rfl
  ·have htl:(s.take 4).length=4:=by rw [List.length_take];omega
   by_cases hc:w4 (fm (s.drop 4))=s.take 4
   ·obtain ⟨_,i,hi,rfl⟩:=c6 (Bool.and_eq_true _ _ ▸ hlf).1
    by_cases hx:∃c,eo t (i:Int) c=(s,0)
    ·obtain ⟨c,hp⟩:=hx
     refine ⟨c,0,?_,yF hi (by omega) hs hp,.inr ⟨rfl,hp⟩⟩
     have:=E1 (k:=k) (t:=t) (a:=(i:Int)) (c:=c) (by omega) (sX hp)
     rw [hp] at this
     exact this
    ·refine ⟨pJ,2200,?_,?_,.inl rfl⟩
     ·obtain ⟨res,h1,h2⟩:=Ic (k:=k) (t:=t) (a:=(i:Int)) (s:=s) (by omega) hs
      rcases h2 with rfl|⟨rfl,_,_,hne⟩|⟨c,rfl,hp⟩
      ·exact h1
      ·exact absurd ((FD htl (o8 _)).2 hc) hne
      ·exact absurd ⟨c,hp⟩ hx
     ·obtain ⟨res,h1,h2⟩:=vE (k:=k) hi hlf (by omega) hs (by omega) hc
      rcases h2 with rfl|⟨c,rfl,hp⟩
      ·exact h1
      ·exact absurd ⟨c,hp⟩ hx
   ·refine ⟨pJ,2201,G8 (by omega) hs (by omega) hlf (fun e=>hc ((FD htl (o8 _)).1 e)),?_,.inl rfl⟩
    obtain ⟨k,rfl⟩:∃q,k=q+1:=⟨k - 1,by omega⟩
    rw [aA.f_eq,hY (by omega),bS,hlf,Bool.not_true,Bool.not_false,cT,dF (show¬((s.length:Int)<4) by omega),cF,dT (show 4≤((s.length:Nat):Int) by omega),show decide (0≤4)=true from rfl,Bool.and_self,cT,List.take_length,ng (by rw [List.length_drop];omega) (by rw [List.length_drop];omega),bS,rj (by omega),bS,cT,List.drop_zero,show (w4 (fm (s.drop 4)) != s.take 4)=true by rw [bne_iff_ne];exact hc,cT]
    rfl
theorem vQ {k:Nat}:∀(d i n:Nat) (xs:List (List UInt8)),i+d=xs.length→d+1≤n→xs.length≤100000→(∀j (h:j<xs.length),i≤j→xs[j].length≤1000000)→a6.l0 aF k n (i:Int) xs=some ():=by
 intro d
 induction d with
 |zero=>
  intro i n xs hi hn _ _
  obtain ⟨n,rfl⟩:∃q,n=q+1:=⟨n - 1,by omega⟩
  rw [a6.l0_eq,dF (by omega),cF]
 |succ d ih=>
  intro i n xs hi hn hl hs
  obtain ⟨n,rfl⟩:∃q,n=q+1:=⟨n - 1,by omega⟩
  have hix:i<xs.length:=by omega
  have h1:=hs i hix (Nat.le_refl _)
  rw [a6.l0_eq,dT (show (i:Int)<((xs.length:Nat):Int) by omega),cT,dT (show (0:Int)≤(i:Int) by omega),Bool.and_self,cT,Int.toNat_natCast,List.getElem?_eq_getElem hix,bS,dT (by simp only [List.length_cons,List.length_nil];omega),cT,cT,bS,bu (by omega)]
  refine ih (i+1) n _ (by rw [List.length_set];omega) (by omega) (by rw [List.length_set];omega) fun j hj hij=>?_
  rw [List.getElem_set_ne (by omega)]
  exact hs j (by rw [List.length_set] at hj;exact hj) (by omega)
theorem uM {k:Nat}(hk:101000≤k){c:Col}(h1:c.reps.length≤5000)(h2:c.defs.length≤5000)(h3:c.values.length≤5000)(hv:∀v∈c.values,v.length≤1000000):cn.f aF k c.reps c.defs c.values=some ():=by
 obtain ⟨k,rfl⟩:∃q,k=q+2:=⟨k - 2,by omega⟩
 have:=vQ (k:=k) c.values.length 0 k c.values (by omega) (by omega) (by omega) (fun j h _=>hv _ (List.getElem_mem h))
 rw [cn.f_eq,pu c.reps (by omega) (by omega),bS,pu c.defs (by omega) (by omega),bS,a6.f_eq]
 rw [show ((0:Nat):Int)=0 from rfl] at this
 rw [this,bS]
theorem vG {k:Nat}(hk:1≤k){c:Col}(h:RoomyC c):de.f aF k c=some c:=by
 obtain ⟨k,rfl⟩:∃q,k=q+1:=⟨k - 1,by omega⟩
 have h1:=h.reps.1;have h2:=h.defs.1;have h3:=h.values.1
 rw [de.f_eq,dT (by omega),cT,dT (by omega),cT,dT (by omega),cT]
theorem Du {t:List bc}{a:Int}{s:List UInt8}{c:Col}{e:Int}(h:c=pJ∨(e=0∧eo t a c=(s,0))):c.reps.length≤4096∧c.defs.length≤4096∧c.values.length≤4096∧∀v∈c.values,v.length≤1000000:=by
 rcases h with rfl|⟨_,hp⟩
 ·exact ⟨by decide,by decide,by decide,fun v hv=>by simp [pJ] at hv⟩
 ·have hm:=sX hp
  obtain ⟨i,rfl,_,_,_,_,h1,h2,_,_,h5,_⟩:=eU hm
  exact ⟨h2,by omega,iK hm,fun v hv=>by have:=(qE (h5 v hv)).short;omega⟩
theorem pure_Pages (t:List bc)(a:Int)(c:Col)(s:List UInt8)(hc:RoomyC c)(hs:(s.length:Int)≤140737488351232):∃k,ff.f aF k t a c s=some true:=by
 obtain ⟨hc1,hc2,hc3⟩:=hc.short
 refine ⟨2500000+s.length+c.reps.length+c.defs.length+c.values.length+1,?_⟩
 generalize hK:2500000+s.length+c.reps.length+c.defs.length+c.values.length=K
 obtain ⟨d,e,h1,h2,h3⟩:=B5 (k:=K) (t:=t) (a:=a) (s:=s) (by omega) (by omega)
 obtain ⟨s1,s2,s3,s4⟩:=Du h3
 have hd:Col.mk (mN d,e).1.1 (mN d,e).1.2.1 (mN d,e).1.2.2=d:=by cases d;rfl
 rw [ff.f_eq,vG (by omega) hc,bS,sx (by omega) (by omega) (by omega),bS,nX (by omega) (by omega),bS,h1,bS,h2,bS]
 rw [show ((eo t a c).1 != (eo t a c).1)=false by simp,Bool.not_false,cT,FA (by omega),bS,show ((eo t a c).2 != (eo t a c).2)=false by simp,Bool.not_false,cT,hd,wS (by omega) (by omega),bS,Bool.not_true,Bool.not_false,cT,FA (by omega),bS]
 simp only [show (e != e)=false by simp,cF]
 have hsp:cn.f aF K (mN d).1 (mN d).2.1 (mN d).2.2=some ():=uM (by omega) (by omega) (by omega) (by omega) s4
 rw [hsp,bS,wS (by omega) (by omega),bS,cT,ES (by omega),bS]
end Go.Proofs.YtjkokaockhecnaaGreatDoorP
