/- The program's reading of values' texts: what its taker does to any text; no condition but the sizes that a machine has. The program's parts of a text, and what fits a leaf: the program's answer and the document's are one; no condition but the sizes that a machine has. Which columns may be a leaf's; what a page's parts are, and what the program puts: no condition but the sizes that a machine has. The document's test of a column, sums, values' bytes, and what the program puts into a page; no condition but the sizes that a machine has. What the program puts into a page: its answer in plain lists; no condition but the sizes that a machine has. Unlike columns have unlike pages; columns that are the same; no condition but the sizes that a machine has. -/
import Derived.Test.YtjkokaockhecnaaGreatDoorPPh0
import Derived.Lib.AtoiAllCases
import Derived.Test.YtjkokaockhecnaaGreatDoorPPgA
namespace Go.Proofs.YtjkokaockhecnaaGreatDoorP
open Go Go.Proofs.YtjkokaockhecnaaGreatDoorA
theorem xE (c:UInt8):∀(p q:List UInt8),c ∉ p→Lib.index (p++c :: q) [c]=(p.length:Int)
 |[],q,_=>by simp [Lib.index,List.isPrefixOf]
 |b :: p,q,h=>by
  have hb:¬c=b:=fun e=>h (by rw [e];exact List.mem_cons_self)
  have ih:=xE c p q fun hm=>h (List.mem_cons_of_mem _ hm)
  rw [List.cons_append,Lib.index,ih]
  have e1:List.isPrefixOf [c] (b :: (p++c :: q))=false:=by simp [List.isPrefixOf,hb]
  rw [e1]
  have e2:(((p.length:Nat):Int)==-1)=false:=by rw [beq_eq_false_iff_ne];omega
  rw [e2]
  simp
theorem v8 (c:UInt8):∀(s:List UInt8),c ∉ s→Lib.index s [c]=-1
 |[],_=>by simp [Lib.index]
 |b :: s,h=>by
  have hb:¬c=b:=fun e=>h (by rw [e];exact List.mem_cons_self)
  have ih:=v8 c s fun hm=>h (List.mem_cons_of_mem _ hm)
  rw [Lib.index,ih]
  have e1:List.isPrefixOf [c] (b :: s)=false:=by simp [List.isPrefixOf,hb]
  rw [e1]
  simp
theorem Dc {c:UInt8}{p q:List UInt8}(h:c ∉ p):Lib.cut (p++c :: q) [c]=(p,q,true):=by
 unfold Lib.cut
 rw [xE c p q h,if_pos (by omega),Int.toNat_natCast]
 simp
theorem FK {c:UInt8}{s:List UInt8}(h:c ∉ s):Lib.cut s [c]=(s,[],false):=by
 unfold Lib.cut
 rw [v8 c s h,if_neg (by omega)]
theorem Df (c:UInt8):∀(s:List UInt8),(∃p q,s=p++c :: q∧c ∉ p)∨c ∉ s
 |[]=>.inr (by simp)
 |b :: s=>by
  by_cases hb:c=b
  ·subst hb;exact .inl ⟨[],s,rfl,by simp⟩
  ·rcases Df c s with ⟨p,q,rfl,h⟩|h
   ·exact .inl ⟨b :: p,q,rfl,by simp [hb,h]⟩
   ·exact .inr (by simp [hb,h])
theorem F7 {k:Nat}(hk:1≤k){s sep:List UInt8}(hs:s.length≤4000000000):strings_Cut.f aG k s sep=some (Lib.cut s sep):=by
 obtain ⟨k,rfl⟩:∃q,k=q+1:=⟨k - 1,by omega⟩
 rw [strings_Cut.f_eq]
 unfold uk
 rw [dT (by omega)];rfl
theorem qg {k:Nat}(hk:1≤k){x:Int}(h:fJ x):strconv_Itoa.f aG k x=some (cO x):=by
 obtain ⟨k,rfl⟩:∃q,k=q+1:=⟨k - 1,by omega⟩
 obtain ⟨h0,h1⟩:=h
 rw [strconv_Itoa.f_eq]
 unfold qT
 rw [dT h0,dT h1,IW h0 h1];rfl
theorem Cj (l:List UInt8):fJ (Lib.atoiSat l):=by unfold Lib.atoiSat fJ;split<;>omega
theorem Aq {k:Nat}(hk:1≤k){l:List UInt8}(hl:l.length≤4000000000):∃x b,eA.f aG k l=some (x,b)∧fJ x:=by
 obtain ⟨k,rfl⟩:∃q,k=q+1:=⟨k - 1,by omega⟩
 rw [eA.f_eq]
 unfold nZ
 rw [dT (by omega)]
 simp only [cond]
 split
 ·rename_i v hv;exact ⟨_,_,rfl,Lib.atoiAll_bounds hv⟩
 ·exact ⟨_,_,rfl,by unfold fJ;omega⟩
 ·exact ⟨_,_,rfl,Cj l⟩
theorem qE:∀(ds:List Nat) (acc:Nat),(∀d∈ds,d<10)→ds.foldl (fun a d=>10*a+d) acc<18446744073709551616→Lib.parseUint10 acc (de ds)=.ok (ds.foldl (fun a d=>10*a+d) acc)
 |[],acc,_,_=>rfl
 |d :: ds,acc,h,hv=>by
  have hd:=h d List.mem_cons_self
  have mono:∀(ds:List Nat) (a:Nat),a≤ds.foldl (fun a d=>10*a+d) a:=by
   intro ds
   induction ds with
   |nil=>intro a;exact Nat.le_refl _
   |cons d ds ih=>intro a;exact Nat.le_trans (by omega) (ih (10*a+d))
  have hm:=mono ds (10*acc+d)
  rw [List.foldl_cons] at hv ⊢
  have e:de (d :: ds)=UInt8.ofNat (48+d) :: de ds:=rfl
  have ec:(UInt8.ofNat (48+d)).toNat=48+d:=by rw [UInt8.toNat_ofNat'];omega
  rw [e,Lib.parseUint10,ec,if_pos (by omega),if_neg (by omega),if_neg (by omega),show acc*10+(48+d - 48)=10*acc+d by omega]
  exact qE ds _ (fun x hx=>h x (List.mem_cons_of_mem _ hx)) hv
theorem Fp {x:Int}(h:fJ x):Lib.atoiAll (cO x)=.ok x:=by
 obtain ⟨h0,h1⟩:=h
 have p19:(10:Nat) ^ 19=10000000000000000000:=by decide
 have key:∀n:Nat,n<10 ^ 19→Lib.parseMag (ox n)=.ok n∧∃b r,ox n=b :: r∧48≤b.toNat∧b.toNat≤57:=by
  intro n hn
  obtain ⟨v1,v2,v3⟩:=mN 19 n hn (by omega)
  rw [me hn]
  have hp:=qE (ou 19 n) 0 v2 (by unfold ee at v1;rw [v1];omega)
  unfold ee at v1
  rw [v1] at hp
  cases hq:ou 19 n with
  |nil=>exact absurd hq v3
  |cons d ds=>
   rw [hq] at hp v2
   have hd:=v2 d List.mem_cons_self
   have e:de (d :: ds)=UInt8.ofNat (48+d) :: de ds:=rfl
   have ec:(UInt8.ofNat (48+d)).toNat=48+d:=by rw [UInt8.toNat_ofNat'];omega
   refine ⟨?_,_,_,e,by omega,by omega⟩
   unfold Lib.parseMag
   rw [if_neg (by rw [e];simp)]
   exact hp
 unfold cO
 by_cases hx:x<0
 ·rw [if_pos hx]
  obtain ⟨k1,_⟩:=key x.natAbs (by omega)
  unfold Lib.atoiAll
  simp only [show (45:UInt8).toNat=45 from rfl,or_true,if_true,k1]
  rw [if_neg (by simp),if_neg (by simp;omega)]
  congr 1;omega
 ·rw [if_neg hx]
  obtain ⟨k1,b,r,e,c1,c2⟩:=key x.toNat (by omega)
  rw [e] at k1 ⊢
  unfold Lib.atoiAll
  simp only
  rw [if_neg (show¬(b.toNat=43∨b.toNat=45) by omega),k1]
  simp only
  rw [if_neg (by omega),if_neg (by omega),if_neg (by omega)]
  congr 1;omega
theorem Ak {k:Nat}(hk:1≤k){x:Int}(h:fJ x):eA.f aG k (cO x)=some (x,false):=by
 obtain ⟨k,rfl⟩:∃q,k=q+1:=⟨k - 1,by omega⟩
 have hl:=nT x
 rw [eA.f_eq]
 unfold nZ
 rw [dT (by omega),Fp h];rfl
theorem pw {k:Nat}(hk:2≤k){r:List UInt8}(hr:r.length≤4000000000)(bad:Bool)(c:UInt8):
  ∃x d r' b',bQ.f aG k r bad [c]=some ((x,d),(r',b'))∧r'.length≤r.length∧(b'=false→bad=false∧fJ x∧d=cO x∧r=cO x++c :: r'∧c ∉ cO x):=by
 obtain ⟨k,rfl⟩:∃q,k=q+1:=⟨k - 1,by omega⟩
 rw [bQ.f_eq,F7 (by omega) hr,bS]
 rcases Df c r with ⟨p,q,rfl,hc⟩|hc
 ·rw [Dc hc]
  have hl:p.length≤4000000000:=by rw [List.length_append] at hr;omega
  obtain ⟨x,b,ha,hx⟩:=Aq (k:=k) (by omega) hl
  have hq:q.length≤(p++c :: q).length:=by rw [List.length_append,List.length_cons];omega
  simp only [ha,bS,Bool.not_true,Bool.not_false,cT]
  cases b with
  |true=>simp only [Bool.not_true,cF];exact ⟨_,_,_,_,rfl,hq,(fun h=>by cases h)⟩
  |false=>
   simp only [Bool.not_false,cT,qg (show 1≤k by omega) hx,bS]
   cases he:(cO x != p) with
   |true=>simp only [cT];exact ⟨_,_,_,_,rfl,hq,(fun h=>by cases h)⟩
   |false=>
    simp only [cF]
    have e:cO x=p:=by simpa using he
    exact ⟨_,_,_,_,rfl,hq,fun h=>⟨h,hx,e.symm,by rw [e],by rw [e];exact hc⟩⟩
 ·rw [FK hc]
  obtain ⟨x,b,ha,hx⟩:=Aq (k:=k) (by omega) hr
  simp only [ha,bS,Bool.not_true,Bool.not_false,cT,cF]
  exact ⟨_,_,_,_,rfl,by simp,(fun h=>by cases h)⟩
theorem wo {k:Nat}(hk:2≤k){x:Int}(hx:fJ x){c:UInt8}(hc:c=58∨c=59){r:List UInt8}(hr:(cO x++c :: r).length≤4000000000):
  bQ.f aG k (cO x++c :: r) false [c]=some ((x,cO x),(r,false)):=by
 obtain ⟨k,rfl⟩:∃q,k=q+1:=⟨k - 1,by omega⟩
 have hn:c ∉ cO x:=by
  intro hm
  obtain ⟨_,h2⟩:=jS hx.1 hx.2
  have:=h2 c hm
  rcases hc with rfl|rfl
  ·exact this.1 rfl
  ·exact this.2 rfl
 rw [bQ.f_eq,F7 (by omega) hr,bS,Dc hn]
 simp only [Ak (show 1≤k by omega) hx,bS,Bool.not_true,Bool.not_false,cT,qg (show 1≤k by omega) hx,bne_self_eq_false,cF]
theorem rz {k:Nat}(hk:1≤k)(r:List UInt8)(bad:Bool)(n:Int):dm.f aG k r bad n=
  some (if bad=false∧0≤n∧n≤(r.length:Int) then (r.take n.toNat,(r.drop n.toNat,false)) else ([],(r,true))):=by
 obtain ⟨k,rfl⟩:∃q,k=q+1:=⟨k - 1,by omega⟩
 rw [dm.f_eq]
 cases bad with
 |true=>simp
 |false=>
  rw [Bool.not_false,cT]
  by_cases h0:n<0
  ·rw [dT h0,Bool.not_true,cF,if_neg (by omega)]
  ·rw [dF h0,Bool.not_false,cT]
   by_cases h1:n>(r.length:Int)
   ·rw [dT h1,cT,if_neg (by omega)]
   ·rw [dF h1,cF,dT (show (0:Int)≤n by omega),dT (show n≤(r.length:Int) by omega),Bool.and_self,cT,cT,if_pos ⟨rfl,by omega,by omega⟩,List.drop_zero,List.take_length]
theorem qH {k:Nat}(hk:1≤k)(r:List UInt8)(bad:Bool):cA.f aG k r bad=some (match r with|[]=>(0,([],true))|b :: l=>((b.toNat:Int),(l,bad))):=by
 obtain ⟨k,rfl⟩:∃q,k=q+1:=⟨k - 1,by omega⟩
 rw [cA.f_eq]
 cases r with
 |nil=>rfl
 |cons b l=>
  have e:((b :: l)==([]:List UInt8))=false:=rfl
  rw [e,cF,show rd (b :: l) 0=some b from rfl,bS,dT (by omega),dT (by simp only [List.length_cons];omega),Bool.and_self,cT,List.take_length]
  rfl
def uy (w:Int)(r:List UInt8)(bad:Bool)(res:(Int×List (List UInt8))×(List UInt8×Bool)):Prop:=
 res.2.1.length≤r.length∧(res.2.2=false→bad=false∧res.2.1.length<r.length)∧(bad=true→res.2.2=true)
theorem Nv {k:Nat}{w:Int}(hv:∀(r:List UInt8) (bad:Bool),r.length≤70000→∃res,bP.f aG k r bad w=some res∧uy w r bad res)(hk:1≤k)(c:Int):
  ∀(m:Nat) (r:List UInt8) (bad:Bool) (out:List (List UInt8)) (n:Nat),r.length≤m→m≤70000→out.length+r.length≤70000→m+2≤n→
   ∃res,aS.l0 aG k n c w r bad out=some res∧res.2.1.length≤r.length∧(res.2.2=false→bad=false∧res.2.1.length<r.length)∧(bad=true→res.2.2=true):=by
 have fin:∀(r:List UInt8) (bad:Bool) (out:List (List UInt8)),∃res:List (List UInt8)×(List UInt8×Bool),((cA.f aG k r bad).bind fun r_4=>some (out,(r_4.2.1,r_4.2.2)))=some res∧res.2.1.length≤r.length∧(res.2.2=false→bad=false∧res.2.1.length<r.length)∧(bad=true→res.2.2=true):=by
  intro r bad out
  rw [qH hk,bS]
  cases r with
  |nil=>exact ⟨_,rfl,Nat.le_refl _,(fun h=>by cases h),fun _=>rfl⟩
  |cons b l=>exact ⟨_,rfl,by simp,fun h=>⟨h,by simp⟩,fun h=>h⟩
 intro m
 induction m with
 |zero=>
  intro r bad out n h1 h2 h3 h4
  obtain ⟨n,rfl⟩:∃q,n=q+1:=⟨n - 1,by omega⟩
  rw [aS.l0_eq]
  have hr:r=[]:=List.length_eq_zero_iff.1 (by omega)
  subst hr
  cases bad with
  |true=>rw [Bool.not_true,cF];exact fin _ _ _
  |false=>rw [Bool.not_false,cT,show (([]:List UInt8) != [])=false from rfl,cF];exact fin _ _ _
 |succ m ih=>
  intro r bad out n h1 h2 h3 h4
  obtain ⟨n,rfl⟩:∃q,n=q+1:=⟨n - 1,by omega⟩
  rw [aS.l0_eq]
  cases bad with
  |true=>rw [Bool.not_true,cF];exact fin _ _ _
  |false=>
   rw [Bool.not_false,cT]
   cases r with
   |nil=>rw [show (([]:List UInt8) != [])=false from rfl,cF];exact fin _ _ _
   |cons b l=>
    rw [show ((b :: l) != ([]:List UInt8))=true from rfl,cT,show rd (b :: l) 0=some b from rfl,bS]
    cases hb:((b.toNat:Int) != c) with
    |false=>rw [cF];exact fin _ _ _
    |true=>
     rw [cT]
     obtain ⟨res,e,t1,t2,t3⟩:=hv (b :: l) false (by omega)
     rw [e,bS]
     have hl:((b :: l).length:Int) - (res.2.1.length:Int)=(((b :: l).length - res.2.1.length:Nat):Int):=by omega
     rw [hl,aP _ (by omega),dT (by omega),dT (by omega),Bool.and_self,cT,dT (by simp only [List.length_cons,List.length_nil];simp only [List.length_cons] at h3;omega),cT]
     cases hbad:res.2.2 with
     |true=>
      -- the next round ends it
      obtain ⟨n,rfl⟩:∃q,n=q+1:=⟨n - 1,by omega⟩
      rw [aS.l0_eq,Bool.not_true,cF]
      obtain ⟨res',e',q1,q2,q3⟩:=fin res.2.1 true (out++[List.drop 0 (List.take ((((b :: l).length - res.2.1.length:Nat):Int)).toNat (b :: l))])
      exact ⟨res',e',by omega,(fun h=>by rw [q3 rfl] at h;cases h),(fun h=>by cases h)⟩
     |false=>
      obtain ⟨_,t4⟩:=t2 hbad
      obtain ⟨res',e',q1,q2,q3⟩:=ih res.2.1 false (out++[List.drop 0 (List.take ((((b :: l).length - res.2.1.length:Nat):Int)).toNat (b :: l))]) n (by omega) (by omega) (by simp only [List.length_append,List.length_cons,List.length_nil] at h3 ⊢;simp only [List.length_cons] at t4;omega) (by omega)
      exact ⟨res',e',by omega,fun h=>⟨rfl,by have:=(q2 h).2;omega⟩,(fun h=>by cases h)⟩
theorem xg:∀(e:Nat) {k:Nat},e≤10→70100+3*e≤k→∀(w:Int),w+e=5→∀(r:List UInt8) (bad:Bool),r.length≤70000→∃res,bP.f aG k r bad w=some res∧uy w r bad res
 |0,k,_,hk,w,hw,r,bad,hr=>by
  obtain ⟨k,rfl⟩:∃q,k=q+2:=⟨k - 2,by omega⟩
  rw [bP.f_eq,dT (by omega),cT,b7.f_eq,bS]
  exact ⟨_,rfl,Nat.le_refl _,(fun h=>by cases h),fun _=>rfl⟩
 |e+1,k,he,hk,w,hw,r,bad,hr=>by
  obtain ⟨k,rfl⟩:∃q,k=q+1:=⟨k - 1,by omega⟩
  rw [bP.f_eq,dF (by omega),cF,qH (by omega),bS]
  cases r with
  |nil=>
   simp only [show ((0:Int)==110)=false from rfl,show ((0:Int)==105)=false from rfl,show ((0:Int)==116)=false from rfl,show ((0:Int)==102)=false from rfl,show ((0:Int)==115)=false from rfl,show ((0:Int)==91)=false from rfl,show ((0:Int)==123)=false from rfl,cF]
   obtain ⟨k,rfl⟩:∃q,k=q+1:=⟨k - 1,by omega⟩
   rw [b7.f_eq,bS]
   exact ⟨_,rfl,Nat.le_refl _,(fun h=>by cases h),fun _=>rfl⟩
  |cons b l=>
   simp only
   have hl:l.length+1≤70000:=by simpa using hr
   have ok:∀(res:(Int×List (List UInt8))×(List UInt8×Bool)),res.2.1.length≤l.length→(res.2.2=false→bad=false)→(bad=true→res.2.2=true)→uy w (b :: l) bad res:=by
    intro res h1 h2 h3
    exact ⟨by simp only [List.length_cons];omega,fun h=>⟨h2 h,by simp only [List.length_cons];omega⟩,h3⟩
   have hnum:∀(c:UInt8),∃x d r' b',bQ.f aG k l bad [c]=some ((x,d),(r',b'))∧r'.length≤l.length∧(b'=false→bad=false):=by
    intro c
    obtain ⟨x,d,r',b',h1,h2,h3⟩:=pw (k:=k) (by omega) (r:=l) (by omega) bad c
    exact ⟨x,d,r',b',h1,h2,fun h=>(h3 h).1⟩
   have hrow:∀(c:Int),∃res,aS.f aG k l bad c (IntKind.i64.wrap (w+1))=some res∧res.2.1.length≤l.length∧(res.2.2=false→bad=false)∧(bad=true→res.2.2=true):=by
    intro c
    obtain ⟨k,rfl⟩:∃q,k=q+1:=⟨k - 1,by omega⟩
    rw [aS.f_eq,aP _ (by omega)]
    obtain ⟨res,h1,h2,h3,h4⟩:=Nv (k:=k) (w:=w+1) (fun r bad hr=>xg e (by omega) (by omega) (w+1) (by omega) r bad hr) (by omega) c l.length l bad [] k (Nat.le_refl _) (by omega) (by simp;omega) (by omega)
    exact ⟨res,h1,h2,fun h=>(h3 h).1,h4⟩
   have hstr:∃res,((bQ.f aG k l bad [58]).bind fun r_4=>(dm.f aG k r_4.2.1 r_4.2.2 r_4.1.1).bind fun r_5=>some (((2:Int),([r_5.1]:List (List UInt8))),(r_5.2.1,r_5.2.2)))=some res∧uy w (b :: l) bad res:=by
    obtain ⟨x,d,r',b',h1,h2,h3⟩:=hnum 58
    rw [h1,bS,rz (by omega),bS]
    refine ⟨_,rfl,ok _ ?_ ?_ ?_⟩
    ·simp only
     split
     ·simp only [List.length_drop];omega
     ·exact h2
    ·simp only
     split
     ·rename_i hc;intro _;exact h3 hc.1
     ·intro h;cases h
    ·intro hb
     simp only
     split
     ·rename_i hc;rw [h3 hc.1] at hb;cases hb
     ·rfl
   have hrow':∀(c kd:Int),∃res,((aS.f aG k l bad c (IntKind.i64.wrap (w+1))).bind fun r_6=>some ((kd,r_6.1),(r_6.2.1,r_6.2.2)))=some res∧uy w (b :: l) bad res:=by
    intro c kd
    obtain ⟨res,h1,h2,h3,h4⟩:=hrow c
    rw [h1,bS]
    exact ⟨_,rfl,ok _ h2 h3 h4⟩
   have hfail:∃res,((b7.f aG k l bad).bind fun r_8=>some ((r_8.1.1,r_8.1.2),(r_8.2.1,r_8.2.2)))=some res∧uy w (b :: l) bad res:=by
    obtain ⟨k,rfl⟩:∃q,k=q+1:=⟨k - 1,by omega⟩
    rw [b7.f_eq,bS]
    exact ⟨_,rfl,ok _ (Nat.le_refl _) (fun h=>by cases h) (fun _=>rfl)⟩
   have one:∀(kd:Int) (ps:List (List UInt8)),∃res,some ((kd,ps),(l,bad))=some res∧uy w (b :: l) bad res:=fun kd ps=>⟨_,rfl,ok _ (Nat.le_refl _) (fun h=>h) (fun h=>h)⟩
   cases h1:((b.toNat:Int)==110) with
   |true=>rw [cT];exact one _ _
   |false=>
    rw [cF]
    cases h2:((b.toNat:Int)==105) with
    |true=>
     rw [cT]
     obtain ⟨x,d,r',b',q1,q2,q3⟩:=hnum 59
     rw [q1,bS]
     refine ⟨_,rfl,ok _ q2 q3 fun hb=>?_⟩
     cases b' with
     |true=>rfl
     |false=>rw [q3 rfl] at hb;cases hb
    |false=>
     rw [cF]
     cases h3:((b.toNat:Int)==116) with
     |true=>rw [cT];exact one _ _
     |false=>
      rw [cF]
      cases h4:((b.toNat:Int)==102) with
      |true=>rw [cT];exact one _ _
      |false=>
       rw [cF]
       cases h5:((b.toNat:Int)==115) with
       |true=>rw [cT];exact hstr
       |false=>
        rw [cF]
        cases h6:((b.toNat:Int)==91) with
        |true=>rw [cT];exact hrow' _ _
        |false=>
         rw [cF]
         cases h7:((b.toNat:Int)==123) with
         |true=>rw [cT];exact hrow' _ _
         |false=>rw [cF];exact hfail
end Go.Proofs.YtjkokaockhecnaaGreatDoorP

namespace Go.Proofs.YtjkokaockhecnaaGreatDoorP
open Go Go.Proofs.YtjkokaockhecnaaGreatDoorA
theorem A0 {k:Nat}(hk:70200≤k){v:List UInt8}(hv:v.length≤70000){kd:Int}{ps:List (List UInt8)}(h:bP.f aG k v false 0=some ((kd,ps),(([]:List UInt8),false))):
  kd=3∨kd=4∨ie v kd ps:=by
 obtain ⟨k,rfl⟩:∃q,k=q+1:=⟨k - 1,by omega⟩
 rw [bP.f_eq,dF (by omega),cF,qH (by omega),bS] at h
 cases v with
 |nil=>
  obtain ⟨k,rfl⟩:∃q,k=q+1:=⟨k - 1,by omega⟩
  simp only [show ((0:Int)==110)=false from rfl,show ((0:Int)==105)=false from rfl,show ((0:Int)==116)=false from rfl,show ((0:Int)==102)=false from rfl,show ((0:Int)==115)=false from rfl,show ((0:Int)==91)=false from rfl,show ((0:Int)==123)=false from rfl,cF,b7.f_eq,bS] at h
  simp at h
 |cons b l=>
  simp only at h
  have hb:∀{n:Nat},((b.toNat:Int)==(n:Int))=true→n<256→b=UInt8.ofNat n:=by
   intro n h hn
   have e:b.toNat=n:=by have:=(beq_iff_eq.1 h);omega
   rw [←e];simp
  have hl:l.length≤69999:=by simpa using hv
  cases h1:((b.toNat:Int)==110) with
  |true=>
   rw [h1,cT] at h
   have eb:=hb (n:=110) h1 (by omega)
   simp only [Option.some.injEq,Prod.mk.injEq] at h
   obtain ⟨⟨rfl,rfl⟩,rfl,_⟩:=h
   subst eb
   exact .inr (.inr .n)
  |false=>
   rw [h1,cF] at h
   cases h2:((b.toNat:Int)==105) with
   |true=>
    rw [h2,cT] at h
    have eb:=hb (n:=105) h2 (by omega)
    obtain ⟨x,d,r',b',q1,q2,q3⟩:=pw (k:=k) (by omega) (r:=l) (by omega) false 59
    rw [q1,bS] at h
    simp only [Option.some.injEq,Prod.mk.injEq] at h
    obtain ⟨⟨rfl,rfl⟩,rfl,rfl⟩:=h
    obtain ⟨_,hx,rfl,e,_⟩:=q3 rfl
    subst eb
    rw [e]
    exact .inr (.inr (.i x hx))
   |false=>
    rw [h2,cF] at h
    cases h3:((b.toNat:Int)==116) with
    |true=>
     rw [h3,cT,cT] at h
     have eb:=hb (n:=116) h3 (by omega)
     simp only [Option.some.injEq,Prod.mk.injEq] at h
     obtain ⟨⟨rfl,rfl⟩,rfl,_⟩:=h
     subst eb
     exact .inr (.inr (.b true))
    |false=>
     rw [h3,cF] at h
     cases h4:((b.toNat:Int)==102) with
     |true=>
      rw [h4,cT] at h
      have eb:=hb (n:=102) h4 (by omega)
      simp only [Option.some.injEq,Prod.mk.injEq] at h
      obtain ⟨⟨rfl,rfl⟩,rfl,_⟩:=h
      subst eb
      exact .inr (.inr (.b false))
     |false=>
      rw [h4,cF] at h
      cases h5:((b.toNat:Int)==115) with
      |true=>
       rw [h5,cT] at h
       have eb:=hb (n:=115) h5 (by omega)
       obtain ⟨x,d,r',b',q1,q2,q3⟩:=pw (k:=k) (by omega) (r:=l) (by omega) false 58
       rw [q1,bS,rz (by omega),bS] at h
       simp only at h
       split at h
       ·rename_i hc
        obtain ⟨hb',h0,hx1⟩:=hc
        obtain ⟨_,hx,rfl,e,_⟩:=q3 hb'
        simp only [Option.some.injEq,Prod.mk.injEq] at h
        obtain ⟨⟨rfl,rfl⟩,hd,_⟩:=h
        have hlen:r'.length≤x.toNat:=by have:=congrArg List.length hd;simp at this;omega
        have hxl:x=(r'.length:Int):=by omega
        subst hxl
        rw [Int.toNat_natCast,List.take_length]
        subst eb
        rw [e,li]
        have eb2:cH r'=UInt8.ofNat 115 :: (ox r'.length++58 :: r'):=by simp [cH]
        rw [←eb2]
        exact .inr (.inr (.s r'))
       ·simp at h
      |false=>
       rw [h5,cF] at h
       cases h6:((b.toNat:Int)==91) with
       |true=>
        rw [h6,cT] at h
        cases hr:aS.f aG k l false 93 (IntKind.i64.wrap (0+1)) with
        |none=>rw [hr] at h;cases h
        |some r=>
         rw [hr,bS] at h
         simp only [Option.some.injEq,Prod.mk.injEq] at h
         exact .inl h.1.1.symm
       |false=>
        rw [h6,cF] at h
        cases h7:((b.toNat:Int)==123) with
        |true=>
         rw [h7,cT] at h
         cases hr:aS.f aG k l false 125 (IntKind.i64.wrap (0+1)) with
         |none=>rw [hr] at h;cases h
         |some r=>
          rw [hr,bS] at h
          simp only [Option.some.injEq,Prod.mk.injEq] at h
          exact .inr (.inl h.1.1.symm)
        |false=>
         obtain ⟨k,rfl⟩:∃q,k=q+1:=⟨k - 1,by omega⟩
         rw [h7,cF,b7.f_eq,bS] at h
         simp at h
theorem Bo {k:Nat}(hk:70300≤k)(v:List UInt8):dV.f aG k v=some (0,[],700)∨∃kd ps,dV.f aG k v=some (kd,ps,0)∧v.length≤65536∧(kd=3∨kd=4∨ie v kd ps):=by
 obtain ⟨k,rfl⟩:∃q,k=q+1:=⟨k - 1,by omega⟩
 rw [dV.f_eq]
 by_cases hl:v.length≤65536
 ·rw [dF (by omega),cF]
  obtain ⟨res,h1,h2⟩:=xg 5 (k:=k) (by omega) (by omega) 0 (by omega) v false (by omega)
  rw [h1,bS]
  obtain ⟨⟨kd,ps⟩,r',b'⟩:=res
  cases b' with
  |true=>exact .inl rfl
  |false=>
   simp only [Bool.not_false,cT]
   cases r' with
   |cons b l=>exact .inl rfl
   |nil=>exact .inr ⟨kd,ps,rfl,hl,A0 (by omega) (by omega) h1⟩
 ·rw [dT (by omega),cT];exact .inl rfl
theorem kp {k:Nat}(hk:70300≤k){v:List UInt8}(hl:v.length≤65536){kd:Int}{ps:List (List UInt8)}(h:ie v kd ps)(h3:kd<3):dV.f aG k v=some (kd,ps,0):=by
 obtain ⟨k,rfl⟩:∃q,k=q+1:=⟨k - 1,by omega⟩
 have key:bP.f aG k v false 0=some ((kd,ps),(([]:List UInt8),false)):=by
  obtain ⟨k,rfl⟩:∃q,k=q+1:=⟨k - 1,by omega⟩
  rw [bP.f_eq,dF (by omega),cF,qH (by omega),bS]
  cases h with
  |n=>rfl
  |i x hx=>
   have e:gQ x=105 :: (cO x++59 :: []):=rfl
   have hlen:=nT x
   rw [e]
   simp only [show (((105:UInt8).toNat:Int)==110)=false from rfl,show (((105:UInt8).toNat:Int)==105)=true from rfl,cT,cF]
   rw [wo (by omega) hx (.inr rfl) (by rw [List.length_append];simp only [List.length_cons,List.length_nil];omega),bS]
  |b b=>cases b<;>rfl
  |s l=>
   have e:cH l=115 :: (cO ((l.length:Nat):Int)++58 :: l):=by rw [li];simp [cH]
   rw [e] at hl ⊢
   have hx:fJ ((l.length:Nat):Int):=by
    rw [List.length_cons,List.length_append,List.length_cons] at hl
    unfold fJ;omega
   simp only [show (((115:UInt8).toNat:Int)==110)=false from rfl,show (((115:UInt8).toNat:Int)==105)=false from rfl,show (((115:UInt8).toNat:Int)==116)=false from rfl,show (((115:UInt8).toNat:Int)==102)=false from rfl,show (((115:UInt8).toNat:Int)==115)=true from rfl,cT,cF]
   rw [wo (by omega) hx (.inl rfl) (by rw [List.length_cons] at hl;omega),bS,rz (by omega),bS]
   simp only
   rw [if_pos ⟨trivial,by omega,by omega⟩,Int.toNat_natCast,List.take_length,List.drop_length]
  |l vs h=>omega
  |r vs h=>omega
 rw [dV.f_eq,dF (by omega),cF,key,bS]
 rfl
def sb (t:List aT)(i:Nat)(v:List UInt8):Prop:=
 v.length≤65536∧((v=[110]∧AW t i=true)∨(dP t i=0∧∃x,fJ x∧v=gQ x)∨(dP t i=1∧∃b,v=kc b)∨(dP t i=2∧∃l:List UInt8,l.length≤16∧v=cH l))
open Classical in
noncomputable def tN (t:List aT)(i:Nat)(v:List UInt8):Bool:=decide (sb t i v)
theorem nv {t:List aT}{i:Nat}{v:List UInt8}:tN t i v=true↔sb t i v:=by unfold tN;simp
theorem qc {t:List aT}{i:Nat}{v:List UInt8}{b:Bool}(h:b=true↔sb t i v):tN t i v=b:=by
 cases hb:b with
 |true=>exact nv.2 (h.1 hb)
 |false=>
  cases hf:tN t i v with
  |false=>rfl
  |true=>rw [h.2 (nv.1 hf)] at hb;cases hb
theorem sb.shape {t:List aT}{i:Nat}{v:List UInt8}(h:sb t i v):∃kd ps,ie v kd ps∧kd<3∧((kd=-1∧AW t i=true)∨(kd=dP t i∧0≤kd∧∀l ps',kd=2→ps=l :: ps'→l.length≤16)):=by
 obtain ⟨_,⟨rfl,h⟩|⟨h,x,hx,rfl⟩|⟨h,b,rfl⟩|⟨h,l,hl,rfl⟩⟩:=h
 ·exact ⟨_,_,.n,by omega,.inl ⟨rfl,h⟩⟩
 ·exact ⟨_,_,.i x hx,by omega,.inr ⟨h.symm,by omega,fun _ _ h=>by omega⟩⟩
 ·exact ⟨_,_,.b b,by omega,.inr ⟨h.symm,by omega,fun _ _ h=>by omega⟩⟩
 ·refine ⟨_,_,.s l,by omega,.inr ⟨h.symm,by omega,fun l' ps' _ e=>?_⟩⟩
  simp only [List.cons.injEq] at e
  rw [←e.1];exact hl
theorem sb.of_shape {t:List aT}{i:Nat}{v:List UInt8}{kd:Int}{ps:List (List UInt8)}(hs:ie v kd ps)(hl:v.length≤65536)(h3:kd<3)(h:(kd=-1∧AW t i=true)∨(kd=dP t i∧0≤kd∧∀l ps',kd=2→ps=l :: ps'→l.length≤16)):sb t i v:=by
 refine ⟨hl,?_⟩
 cases hs with
 |n=>
     rcases h with ⟨_,h⟩|⟨_,h,_⟩
     ·exact .inl ⟨rfl,h⟩
     ·omega
 |i x hx=>
       rcases h with ⟨h,_⟩|⟨h,_⟩
       ·omega
       ·exact .inr (.inl ⟨h.symm,x,hx,rfl⟩)
 |b b=>
      rcases h with ⟨h,_⟩|⟨h,_⟩
      ·omega
      ·exact .inr (.inr (.inl ⟨h.symm,b,rfl⟩))
 |s l=>
      rcases h with ⟨h,_⟩|⟨h,_,h'⟩
      ·omega
      ·exact .inr (.inr (.inr ⟨h.symm,l,h' l [] rfl rfl,rfl⟩))
 |l vs _=>omega
 |r vs _=>omega
theorem GO {v:List UInt8}{kd:Int}{ps:List (List UInt8)}(hs:ie v kd ps):-1≤kd∧kd≤4∧(kd=2→∃l,ps=[l]):=by
 cases hs with
 |s l=>exact ⟨by omega,by omega,fun _=>⟨l,rfl⟩⟩
 |_=>exact ⟨by omega,by omega,fun h=>by omega⟩
theorem zu {t:List aT}{i:Nat}(hm:jy t=true)(hi:i<t.length)(hin:dj (dP t i)=false):dP t i=0∨dP t i=1∨dP t i=2:=by
 have:=(((je t).1 hm).2.1 i hi).1
 unfold nC at this
 simp only [Bool.and_eq_true,decide_eq_true_eq] at this
 unfold dj at hin
 simp only [Bool.or_eq_false_iff,beq_eq_false_iff_ne] at hin
 omega
theorem wu {k:Nat}{kd:Int}(hkd:kd≠3){ps:List (List UInt8)}{t:List aT}{ks:List Int}(hl:ps.length≤1000):∀(d i n:Nat),i+d=ps.length→d+1≤n→
  dl.l1 aG k n ps kd ((ps.length:Nat):Int) (i:Int) t ks=some (decide ((ps.length:Int)≤64))
 |0,i,n,h,hn=>by
  obtain ⟨n,rfl⟩:∃q,n=q+1:=⟨n - 1,by omega⟩
  rw [dl.l1_eq,dF (by omega),cF]
 |d+1,i,n,h,hn=>by
  obtain ⟨n,rfl⟩:∃q,n=q+1:=⟨n - 1,by omega⟩
  rw [dl.l1_eq,dT (by omega),cT,aL (by omega),bS,show (kd==3)=false by rw [beq_eq_false_iff_ne];exact hkd,cF,bb (by omega)]
  exact wu hkd hl d (i+1) n (by omega) (by omega)
theorem HD {k:Nat}(hk:70400≤k){t:List aT}{i:Nat}(hn:cB t (i:Int)=true)(hi:i<t.length)(hm:jy t=true)(hin:dj (dP t i)=false)(v:List UInt8):dl.f aG k t (i:Int) v=some (tN t i v):=by
 obtain ⟨k,rfl⟩:∃q,k=q+1:=⟨k - 1,by omega⟩
 have hkn:=zu hm hi hin
 rw [dl.f_eq,iW (by omega),bS,hn,Bool.not_true,cF]
 have uniq:∀{kd:Int}{ps:List (List UInt8)}{e:Int},dV.f aG k v=some (kd,ps,e)→sb t i v→e=0∧kd<3∧((kd=-1∧AW t i=true)∨(kd=dP t i∧0≤kd∧∀l ps',kd=2→ps=l :: ps'→l.length≤16)):=by
  intro kd ps e hp hf
  obtain ⟨kd',ps',h1,h2,h3⟩:=hf.shape
  rw [kp (by omega) hf.1 h1 h2] at hp
  simp only [Option.some.injEq,Prod.mk.injEq] at hp
  obtain ⟨rfl,rfl,rfl⟩:=hp
  exact ⟨rfl,h2,h3⟩
 rcases Bo (k:=k) (by omega) v with hp|⟨kd,ps,hp,hl,hs⟩
 ·rw [hp,bS,aL hi,bS]
  have:tN t i v=false:=qc ⟨(fun h=>by cases h),fun hf=>by have:=(uniq hp hf).1;omega⟩
  rw [this];rfl
 ·rw [hp,bS,aL hi,bS,jv hi,ez hi]
  simp only [show (!((0:Int) != 0))=true from rfl,show ((0:Int)==0)=true from rfl,cT]
  cases h1:(kd==-1) with
  |true=>
   have e:kd=-1:=by simpa using h1
   rw [cT]
   congr 1
   refine (qc ⟨fun hb=>?_,fun hf=>?_⟩).symm
   ·rcases hs with h|h|h
    ·omega
    ·omega
    ·exact sb.of_shape h hl (by omega) (.inl ⟨e,hb⟩)
   ·rcases (uniq hp hf).2.2 with ⟨_,h⟩|⟨_,h,_⟩
    ·exact h
    ·omega
  |false=>
   have hne:kd≠-1:=by simpa using h1
   rw [cF,wE (by omega),bS]
   cases h2:(kd != dP t i) with
   |true=>
    have hne2:kd≠dP t i:=by simpa using h2
    rw [cT]
    have:tN t i v=false:=qc ⟨(fun h=>by cases h),fun hf=>by
     rcases (uniq hp hf).2.2 with ⟨h,_⟩|⟨h,_⟩
     ·exact absurd h hne
     ·exact absurd h hne2⟩
    rw [this]
   |false=>
    have he2:kd=dP t i:=by simpa using h2
    rw [cF]
    have hsh:ie v kd ps:=by
     rcases hs with h|h|h
     ·omega
     ·omega
     ·exact h
    cases h3:(kd==2) with
    |true=>
     have e2:kd=2:=by simpa using h3
     obtain ⟨l,rfl⟩:=(GO hsh).2.2 e2
     rw [cT,dT (by omega),dT (by simp),Bool.and_self,cT,show ([l]:List (List UInt8))[0]?=some l from rfl,bS]
     congr 1
     refine (qc ⟨fun hb=>?_,fun hf=>?_⟩).symm
     ·refine sb.of_shape hsh hl (by omega) (.inr ⟨he2,by omega,fun l' ps' _ e=>?_⟩)
      simp only [List.cons.injEq] at e
      rw [←e.1]
      have:=of_decide_eq_true hb;omega
     ·rcases (uniq hp hf).2.2 with ⟨h,_⟩|⟨_,_,h⟩
      ·exact absurd h hne
      ·have:=h l [] e2 rfl
       exact decide_eq_true (by omega)
    |false=>
     have e2:kd≠2:=by simpa using h3
     rw [cF,show (kd==4)=false by rw [beq_eq_false_iff_ne];omega,cF]
     have hps:ps.length=1:=by
      cases hsh with
      |n=>omega
      |i x hx=>rfl
      |b b=>rfl
      |s l=>rfl
      |l vs _=>omega
      |r vs _=>omega
     have hL:=wu (k:=k) (kd:=kd) (by omega) (ps:=ps) (t:=t) (ks:=(nD t (i:Int)).1) (by omega) ps.length 0 k (by omega) (by omega)
     rw [show ((0:Nat):Int)=0 from rfl] at hL
     rw [hL]
     have:tN t i v=true:=nv.2 (sb.of_shape hsh hl (by omega) (.inr ⟨he2,by omega,fun _ _ h=>absurd h e2⟩))
     rw [this,dT (by omega)]
theorem BD {k:Nat}(hk:100500≤k){t:List aT}{i:Nat}(hn:cB t (i:Int)=true)(hi:i<t.length)(hm:jy t=true)(hin:dj (dP t i)=false)(v:List UInt8):af.f aG k t (i:Int) v=some (tN t i v):=by
 have hkn:=zu hm hi hin
 have hlen:=fQ hm
 have hti:((i:Int)).toNat=i:=Int.toNat_natCast i
 obtain ⟨b,h1,h2⟩:=vE (t.length - i+1) (t:=t) (a:=(i:Int)) v (by rw [hti];omega) k (by omega)
 rw [h1]
 congr 1
 refine (qc ⟨fun hb=>?_,fun hf=>?_⟩).symm
 ·obtain ⟨V,hV,rfl,hl⟩:=h2 hb
  refine ⟨hl,?_⟩
  obtain ⟨_,hV⟩:=hV
  rw [hti] at hV
  cases V with
  |n=>exact .inl ⟨by rw [Vl.txt],hV⟩
  |i x=>exact .inr (.inl ⟨hV.1,x,hV.2,by rw [Vl.txt]⟩)
  |b c=>exact .inr (.inr (.inl ⟨hV,c,by rw [Vl.txt]⟩))
  |s l=>exact .inr (.inr (.inr ⟨hV.1,l,hV.2,by rw [Vl.txt]⟩))
  |l vs=>have:=hV.1;omega
  |r vs=>have:=hV.1;omega
 ·obtain ⟨hl,hc⟩:=hf
  have key:∀V:Vl,v=V.txt→jt 1 t (i:Int) V→b=true:=by
   intro V e hT
   have:=rk 1 (t:=t) (a:=(i:Int)) (v:=V) hT (by rw [←e];exact hl) k (by omega)
   rw [←e,h1] at this
   simpa using this
  rcases hc with ⟨rfl,h⟩|⟨h,x,hx,rfl⟩|⟨h,c,rfl⟩|⟨h,l,h16,rfl⟩
  ·exact key .n (by rw [Vl.txt]) ⟨hn,by rw [hti];exact h⟩
  ·exact key (.i x) (by rw [Vl.txt]) ⟨hn,by rw [hti];exact ⟨h,hx⟩⟩
  ·exact key (.b c) (by rw [Vl.txt]) ⟨hn,by rw [hti];exact h⟩
  ·exact key (.s l) (by rw [Vl.txt]) ⟨hn,by rw [hti];exact ⟨h,h16⟩⟩
end Go.Proofs.YtjkokaockhecnaaGreatDoorP

namespace Go.Proofs.YtjkokaockhecnaaGreatDoorP
open Go Go.Proofs.YtjkokaockhecnaaGreatDoorA
def bw (n:Int):Int:=if n<1 then 0 else if n<2 then 1 else if n<4 then 2 else if n<8 then 3 else 4
theorem Gk (n:Int):0≤bw n∧bw n≤4:=by unfold bw;split<;>(try split)<;>(try split)<;>(try split)<;>omega
theorem Jk {n x:Int}(hn:n≤15)(h0:0≤x)(h1:x≤n):x<2 ^ (bw n).toNat:=by
 unfold bw
 split
 ·show x<1;omega
 ·split
  ·show x<2;omega
  ·split
   ·show x<4;omega
   ·split
    ·show x<8;omega
    ·show x<16;omega
theorem IK (k:Nat):(List.range 16).map (fun n=>gv.f aG (k+2) (IntKind.u64.wrap ((n:Nat):Int)))=(List.range 16).map (fun n=>some (bw ((n:Nat):Int))):=by kernel_rfl
theorem u6 {k:Nat}(hk:2≤k){n:Int}(h0:0≤n)(h1:n≤15):gv.f aG k (IntKind.u64.wrap n)=some (bw n):=by
 obtain ⟨k,rfl⟩:∃q,k=q+2:=⟨k - 2,by omega⟩
 obtain ⟨m,rfl⟩:∃m:Nat,n=(m:Int):=⟨n.toNat,by omega⟩
 exact List.map_inj_left.1 (IK k) m (List.mem_range.2 (by omega))
theorem hO {t:List aT}{a:Int}:0≤(bg t a).1∧(bg t a).1≤15∧0≤(bg t a).2.1∧(bg t a).2.1≤15:=by
 cases hn:cB t a with
 |false=>rw [Jp hn];decide
 |true=>
  obtain ⟨hm,i,hi,rfl⟩:=dq hn
  rw [Ko hm hi]
  have h1:=vF t (dN t (i:Int))
  have h2:=uQ t (dN t (i:Int))
  have h3:=(((je t).1 hm).2.2 i hi).2
  simp only
  omega
theorem vU {k:Nat}(hk:12≤k)(x:Int):dZ.f aG k x 4=some (w4 x):=by
 obtain ⟨k,rfl⟩:∃q,k=q+12:=⟨k - 12,by omega⟩
 exact NY k x
theorem MO {k:Nat}(hk:12≤k)(x:Int):dZ.f aG k x 8=some (w8 x):=by
 obtain ⟨k,rfl⟩:∃q,k=q+12:=⟨k - 12,by omega⟩
 exact NP k x
theorem F9 {k:Nat}(hk:12≤k)(x:Int):dZ.f aG k x 1=some (Gm x):=by
 obtain ⟨k,rfl⟩:∃q,k=q+12:=⟨k - 12,by omega⟩
 exact LE k x
def yV (most:Int)(xs:List Int):Bool:=xs.all fun x=>decide (0≤x)&&decide (x≤most)
theorem se {α:Type}(xs:List α)(p:α→Bool)(q:Nat→Bool)(h:∀i (hi:i<xs.length),q i=p xs[i]):(List.range xs.length).all q=xs.all p:=by
 rw [Bool.eq_iff_iff,List.all_eq_true,List.all_eq_true]
 constructor
 ·intro hq x hx
  obtain ⟨i,hi,rfl⟩:=List.mem_iff_getElem.1 hx
  rw [←h i hi];exact hq i (List.mem_range.2 hi)
 ·intro hp i hi
  have hi':=List.mem_range.1 hi
  rw [h i hi'];exact hp _ (List.getElem_mem hi')
theorem xG {k:Nat}{xs:List Int}(hk:xs.length+3≤k)(hl:xs.length≤20000000000000)(most:Int):cL.f aG k xs most=some (yV most xs):=by
 obtain ⟨k,rfl⟩:∃q,k=q+1:=⟨k - 1,by omega⟩
 rw [cL.f_eq]
 have:=jQ (F:=fun n i=>cL.l0 aG k n most xs (xs.length:Int) (i:Int)) (p:=fun i=>match xs[i]? with|some x=>decide (0≤x)&&decide (x≤most)|none=>false) (N:=xs.length) (E:=some true) (Z:=some false) ?_ ?_ k (by omega)
 ·refine this.trans ?_
  rw [se xs (fun x=>decide (0≤x)&&decide (x≤most)) _ fun i hi=>by simp only [List.getElem?_eq_getElem hi]]
  unfold yV
  cases xs.all _<;>rfl
 ·intro n i hi _
  rw [cL.l0_eq,dT (by omega),cT,aL hi,bS,List.getElem?_eq_getElem hi]
  simp only
  by_cases h0:xs[i]<0
  ·rw [dT h0,Bool.not_true,cF,dF (show¬(0:Int)≤xs[i] by omega),Bool.false_and,cF]
  ·rw [dF h0,Bool.not_false,cT,dT (show (0:Int)≤xs[i] by omega),Bool.true_and]
   by_cases h1:xs[i]>most
   ·rw [dT h1,cT,dF (show¬xs[i]≤most by omega),cF]
   ·rw [dF h1,cF,dT (show xs[i]≤most by omega),cT,bb (by omega)]
 ·intro _ n
  rw [cL.l0_eq,dF (by omega),cF]
def fw (one:Int)(xs:List Int):Nat:=xs.countP fun x=>x==one
theorem jW (one:Int)(xs:List Int):fw one xs≤xs.length:=List.countP_le_length
theorem nc (one:Int){xs:List Int}{i:Nat}(h:i<xs.length):fw one (xs.take (i+1))=fw one (xs.take i)+(if xs[i]==one then 1 else 0):=by
 unfold fw
 rw [List.take_succ_eq_append_getElem h,List.countP_append,List.countP_cons,List.countP_nil]
 omega
theorem lg {k:Nat}{xs:List Int}(hk:xs.length+3≤k)(hl:xs.length≤20000000000000)(one:Int):cD.f aG k xs one=some ((fw one xs:Nat):Int):=by
 obtain ⟨k,rfl⟩:∃q,k=q+1:=⟨k - 1,by omega⟩
 rw [cD.f_eq]
 have:=cV (F:=fun n i=>cD.l0 aG k n one ((fw one (xs.take i):Nat):Int) xs (xs.length:Int) (i:Int)) (N:=xs.length) (r:=some ((fw one xs:Nat):Int)) ?_ ?_ k 0 (by omega) (by omega)
 ·simpa [fw] using this
 ·intro n i hi
  have hc:=nc one hi
  have hle:fw one (xs.take i)≤i:=Nat.le_trans (jW one _) (by rw [List.length_take];omega)
  rw [cD.l0_eq,dT (by omega),cT,aL hi,bS,bb (i:=i) (by omega),hc]
  cases hx:(xs[i]==one) with
  |true=>rw [cT,aP _ (by omega)];rfl
  |false=>rw [cF];rfl
 ·intro n
  rw [cD.l0_eq,dF (by omega),cF,List.take_length]
noncomputable def xj (t:List aT)(a:Int)(v:List UInt8):Bool:=(v != [110])&&tN t a.toNat v
noncomputable def cj (t:List aT)(a:Int)(c:Col):Bool:=
 (cB t a&&!dj (dP t a.toNat))&&(decide (c.reps.length=c.defs.length)&&(decide (c.reps.length≤4096)&&(yV (bg t a).1 c.reps&&(yV (bg t a).2.1 c.defs&&(c.values.all (xj t a)&&decide (c.values.length=fw (bg t a).2.1 c.defs))))))
theorem jB {k:Nat}(hk:32≤k)(t:List aT)(a:Int):f7.f aG k t a=some (cB t a&&!dj (dP t a.toNat)):=by
 obtain ⟨k,rfl⟩:∃q,k=q+1:=⟨k - 1,by omega⟩
 rw [f7.f_eq,iW (by omega),bS]
 cases hn:cB t a with
 |false=>rfl
 |true=>
  obtain ⟨hm,i,hi,rfl⟩:=dq hn
  rw [cT,aL hi,bS,mW (by omega),bS,ez hi,Int.toNat_natCast,Bool.true_and]
theorem kw {k:Nat}{t:List aT}{a:Int}{c:Col}(hk:70500+c.values.length≤k)(hl:c.values.length≤20000000000000)(hd:c.reps.length≤20000000000000∧c.defs.length≤20000000000000):eg.f aG k t a c=some (cj t a c):=by
 obtain ⟨k,rfl⟩:∃q,k=q+1:=⟨k - 1,by omega⟩
 rw [eg.f_eq,fB (by omega),bS,jB (by omega),bS]
 unfold cj
 cases hn:cB t a&&!dj (dP t a.toNat) with
 |false=>rfl
 |true=>
  rw [Bool.not_true,Bool.not_false,cT,Bool.true_and]
  by_cases h1:c.reps.length=c.defs.length
  ·rw [show (((c.reps.length:Nat):Int) != ((c.defs.length:Nat):Int))=false by rw [h1];simp,Bool.not_false,cT,dT h1,Bool.true_and]
   by_cases h2:c.reps.length≤4096
   ·rw [dF (by omega),Bool.not_false,cT,dT h2,Bool.true_and,xG (by omega) (by omega),bS]
    cases h3:yV (bg t a).1 c.reps with
    |false=>rfl
    |true=>
     rw [Bool.not_true,Bool.not_false,cT,Bool.true_and,xG (by omega) (by omega),bS]
     cases h4:yV (bg t a).2.1 c.defs with
     |false=>rfl
     |true=>
      rw [Bool.not_true,cF,Bool.true_and]
      rw [Bool.and_eq_true] at hn
      obtain ⟨hm,i,hi,rfl⟩:=dq hn.1
      rw [Int.toNat_natCast] at hn
      have hin:dj (dP t i)=false:=by simpa using hn.2
      have:=jQ (F:=fun n j=>eg.l0 aG k n (i:Int) (bg t (i:Int)).2.1 c.values (c.values.length:Int) (j:Int) t c.reps c.defs) (p:=fun j=>match c.values[j]? with|some v=>xj t (i:Int) v|none=>false) (N:=c.values.length) (E:=some (decide (c.values.length=fw (bg t (i:Int)).2.1 c.defs))) (Z:=some false) ?_ ?_ k (by omega)
      ·refine this.trans ?_
       rw [se c.values (xj t (i:Int)) _ fun j hj=>by simp only [List.getElem?_eq_getElem hj]]
       cases c.values.all (xj t (i:Int))<;>rfl
      ·intro n j hj _
       obtain ⟨k,rfl⟩:∃q,k=q+1:=⟨k - 1,by omega⟩
       rw [eg.l0_eq,dT (by omega),cT,aL hj,bS,lJ.f_eq,bS,List.getElem?_eq_getElem hj]
       simp only [xj,Int.toNat_natCast]
       cases hx:(c.values[j]==[110]) with
       |true=>
        rw [Bool.not_true,cF,show (c.values[j] != [110])=false by simp [bne,hx],Bool.false_and,cF]
       |false=>
        rw [Bool.not_false,cT,show (c.values[j] != [110])=true by simp [bne,hx],Bool.true_and,HD (by omega) hn.1 hi hm hin,bS]
        cases tN t i c.values[j] with
        |false=>rfl
        |true=>rw [Bool.not_true,cF,bb (by omega),cT]
      ·intro _ n
       rw [eg.l0_eq,dF (by omega),cF,lg (by omega) (by omega),bS]
       congr 1
       rw [Bool.eq_iff_iff,beq_iff_eq,decide_eq_true_iff];omega
   ·rw [dT (by omega),Bool.not_true,cF,dF h2,Bool.false_and]
  ·rw [show (((c.reps.length:Nat):Int) != ((c.defs.length:Nat):Int))=true by rw [bne_iff_ne];omega,Bool.not_true,cF,dF h1,Bool.false_and]
theorem gC {k:Nat}(hk:32≤k)(t:List aT)(a:Int):cE.f aG k t a=some (cB t a&&!dj (dP t a.toNat)):=by
 obtain ⟨k,rfl⟩:∃q,k=q+1:=⟨k - 1,by omega⟩
 rw [cE.f_eq,cg (by omega),bS]
 cases hn:cB t a with
 |false=>rfl
 |true=>
  obtain ⟨hm,i,hi,rfl⟩:=dq hn
  rw [cT,aL hi,bS,eJ (by omega),bS,ez hi,Int.toNat_natCast,Bool.true_and]
end Go.Proofs.YtjkokaockhecnaaGreatDoorP

namespace Go.Proofs.YtjkokaockhecnaaGreatDoorP
open Go Go.Proofs.YtjkokaockhecnaaGreatDoorA
theorem ER {k:Nat}{t:List aT}{i:Nat}(hn:cB t (i:Int)=true)(hi:i<t.length)(hm:jy t=true)(hin:dj (dP t i)=false){c:Col}(hk:100600≤k)(hl:c.values.length≤20000000000000)(q:Nat){n:Nat}(hq:c.values.length<n):
  ax.l2 aG k n (i:Int) ((q:Nat):Int) 0 t c.reps c.defs c.values=some (c.values.all (xj t (i:Int))&&decide (c.values.length=q)):=by
 have:=jQ (F:=fun n j=>ax.l2 aG k n (i:Int) ((q:Nat):Int) (j:Int) t c.reps c.defs c.values) (p:=fun j=>match c.values[j]? with|some v=>xj t (i:Int) v|none=>false) (N:=c.values.length) (E:=some (decide (c.values.length=q))) (Z:=some false) ?_ ?_ n hq
 ·refine this.trans ?_
  rw [se c.values (xj t (i:Int)) _ fun j hj=>by simp only [List.getElem?_eq_getElem hj]]
  cases c.values.all (xj t (i:Int))<;>rfl
 ·intro n j hj _
  rw [ax.l2_eq,dT (by omega),cT,aL hj,bS,List.getElem?_eq_getElem hj]
  simp only [xj,Int.toNat_natCast]
  cases hx:(c.values[j]==[110]) with
  |true=>rw [Bool.not_true,cF,show (c.values[j] != [110])=false by simp [bne,hx],Bool.false_and,cF]
  |false=>
   rw [Bool.not_false,cT,bS,show (c.values[j] != [110])=true by simp [bne,hx],Bool.true_and,BD (by omega) hn hi hm hin,bS]
   cases tN t i c.values[j] with
   |false=>rfl
   |true=>rw [Bool.not_true,cF,bb (by omega),cT]
 ·intro _ n
  rw [ax.l2_eq,dF (by omega),cF]
  congr 1
  rw [Bool.eq_iff_iff,beq_iff_eq,decide_eq_true_iff];omega
theorem Et (xs ys:List Int)(h:xs.length=ys.length)(p q:Int→Bool):((List.range xs.length).all fun i=>match xs[i]?,ys[i]? with|some x,some y=>p x&&q y|_,_=>false)=(xs.all p&&ys.all q):=by
 rw [Bool.eq_iff_iff,Bool.and_eq_true,List.all_eq_true,List.all_eq_true,List.all_eq_true]
 constructor
 ·intro hq
  constructor
  ·intro x hx
   obtain ⟨i,hi,rfl⟩:=List.mem_iff_getElem.1 hx
   have:=hq i (List.mem_range.2 hi)
   rw [List.getElem?_eq_getElem hi,List.getElem?_eq_getElem (show i<ys.length by omega)] at this
   simp only [Bool.and_eq_true] at this
   exact this.1
  ·intro x hx
   obtain ⟨i,hi,rfl⟩:=List.mem_iff_getElem.1 hx
   have:=hq i (List.mem_range.2 (by omega))
   rw [List.getElem?_eq_getElem (show i<xs.length by omega),List.getElem?_eq_getElem hi] at this
   simp only [Bool.and_eq_true] at this
   exact this.2
 ·rintro ⟨h1,h2⟩ i hi
  have hi':=List.mem_range.1 hi
  rw [List.getElem?_eq_getElem hi',List.getElem?_eq_getElem (show i<ys.length by omega)]
  simp only [Bool.and_eq_true]
  exact ⟨h1 _ (List.getElem_mem _),h2 _ (List.getElem_mem _)⟩
theorem rN {k:Nat}{t:List aT}{a:Int}{c:Col}(hk:100700+c.values.length≤k)(hl:c.values.length≤20000000000000):ax.f aG k t a c=some (cj t a c):=by
 obtain ⟨k,rfl⟩:∃q,k=q+1:=⟨k - 1,by omega⟩
 rw [ax.f_eq,gC (by omega),bS]
 unfold cj
 cases hn:cB t a&&!dj (dP t a.toNat) with
 |false=>rfl
 |true=>
  rw [Bool.not_true,Bool.not_false,cT,Bool.true_and]
  by_cases h1:c.reps.length=c.defs.length
  ·rw [show (((c.reps.length:Nat):Int) != ((c.defs.length:Nat):Int))=false by rw [h1];simp,Bool.not_false,cT,dT h1,Bool.true_and]
   by_cases h2:c.reps.length≤4096
   ·rw [dF (by omega),cF,dT h2,Bool.true_and,fE (by omega),bS]
    rw [Bool.and_eq_true] at hn
    obtain ⟨hm,i,hi,rfl⟩:=dq hn.1
    rw [Int.toNat_natCast] at hn
    have hin:dj (dP t i)=false:=by simpa using hn.2
    have:=jQ (F:=fun n j=>ax.l0 aG k n (i:Int) (bg t (i:Int)).1 (bg t (i:Int)).2.1 ((fw (bg t (i:Int)).2.1 (c.defs.take j):Nat):Int) (j:Int) t c.reps c.defs c.values)
     (p:=fun j=>match c.reps[j]?,c.defs[j]? with|some x,some y=>(decide (0≤x)&&decide (x≤(bg t (i:Int)).1))&&(decide (0≤y)&&decide (y≤(bg t (i:Int)).2.1))|_,_=>false)
     (N:=c.reps.length) (E:=some (c.values.all (xj t (i:Int))&&decide (c.values.length=fw (bg t (i:Int)).2.1 c.defs))) (Z:=some false) ?_ ?_ k (by omega)
    ·refine this.trans ?_
     rw [Et c.reps c.defs h1 (fun x=>decide (0≤x)&&decide (x≤(bg t (i:Int)).1)) (fun y=>decide (0≤y)&&decide (y≤(bg t (i:Int)).2.1))]
     unfold yV
     cases c.reps.all _ with
     |false=>rfl
     |true=>
      cases c.defs.all _ with
      |false=>rfl
      |true=>rfl
    ·intro n j hj _
     have hj':j<c.defs.length:=by omega
     have hle:fw (bg t (i:Int)).2.1 (c.defs.take j)≤j:=Nat.le_trans (jW _ _) (by rw [List.length_take];omega)
     rw [ax.l0_eq,dT (by omega),cT,aL hj,aL hj',List.getElem?_eq_getElem hj,List.getElem?_eq_getElem hj']
     simp only [bS]
     by_cases q1:c.reps[j]<0
     ·rw [dT q1,Bool.not_true,cF,dF (show¬(0:Int)≤c.reps[j] by omega)];rfl
     ·rw [dF q1,Bool.not_false,cT,dT (show (0:Int)≤c.reps[j] by omega)]
      by_cases q2:c.reps[j]>(bg t (i:Int)).1
      ·rw [dT q2,Bool.not_true,cF,dF (show¬c.reps[j]≤(bg t (i:Int)).1 by omega)];rfl
      ·rw [dF q2,Bool.not_false,cT,dT (show c.reps[j]≤(bg t (i:Int)).1 by omega)]
       by_cases q3:c.defs[j]<0
       ·rw [dT q3,Bool.not_true,cF,dF (show¬(0:Int)≤c.defs[j] by omega)];rfl
       ·rw [dF q3,Bool.not_false,cT,dT (show (0:Int)≤c.defs[j] by omega)]
        by_cases q4:c.defs[j]>(bg t (i:Int)).2.1
        ·rw [dT q4,cT,dF (show¬c.defs[j]≤(bg t (i:Int)).2.1 by omega)];rfl
        ·rw [dF q4,cF,dT (show c.defs[j]≤(bg t (i:Int)).2.1 by omega),bb (i:=j) (by omega),nc _ hj']
         cases hx:(c.defs[j]==(bg t (i:Int)).2.1) with
         |true=>rw [cT,aP _ (by omega)];rfl
         |false=>rfl
    ·intro _ n
     rw [ax.l0_eq,dF (by omega),cF,h1,List.take_length]
     exact ER hn.1 hi hm hin (by omega) hl _ (by omega)
   ·rw [dT (by omega),cT,dF h2,Bool.false_and]
  ·rw [show (((c.reps.length:Nat):Int) != ((c.defs.length:Nat):Int))=true by rw [bne_iff_ne];omega,Bool.not_true,cF,dF h1,Bool.false_and]
def I2 (x:Int):Int:=aE .xor .u32 (Int.fdiv x (2 ^ (min 1 IntKind.u32.bits))) (IntKind.u32.wrap (3988292384*(aE .and .u32 x 1)))
def EH:Nat→Int→Int
 |0,x=>x
 |n+1,x=>EH n (I2 x)
def DY (x:Int)(b:UInt8):Int:=EH 8 (aE .xor .u32 x (IntKind.u32.wrap (b.toNat:Int)))
def fX (s:List UInt8):Int:=IntKind.i64.wrap (aE .xor .u32 (s.foldl DY 4294967295) 4294967295)
theorem GQ {k m1:Nat}{s:List UInt8}{len i:Int}:∀(d j n:Nat) (x:Int),j+d=8→d+1≤n→dk.l2 aG k m1 n s x len i (j:Int)=dk.l0 aG k m1 s (EH d x) len (IntKind.i64.wrap (i+1))
 |0,j,n,x,h,hn=>by
  obtain ⟨n,rfl⟩:∃q,n=q+1:=⟨n - 1,by omega⟩
  rw [dk.l2_eq,dF (by omega),cF];rfl
 |d+1,j,n,x,h,hn=>by
  obtain ⟨n,rfl⟩:∃q,n=q+1:=⟨n - 1,by omega⟩
  rw [dk.l2_eq,dT (by omega),cT,bb (by omega)]
  exact GQ d (j+1) n (I2 x) (by omega) (by omega)
theorem yG {k:Nat}{s:List UInt8}(hk:s.length+12≤k)(hl:s.length≤1000000000000000):dk.f aG k s=some (fX s):=by
 obtain ⟨k,rfl⟩:∃q,k=q+1:=⟨k - 1,by omega⟩
 rw [dk.f_eq]
 have:=cV (F:=fun n i=>dk.l0 aG k n s ((s.take i).foldl DY 4294967295) (s.length:Int) (i:Int)) (N:=s.length) (r:=some (fX s)) ?_ ?_ k 0 (by omega) (by omega)
 ·simpa using this
 ·intro n i hi
  rw [dk.l0_eq,dT (by omega),cT,aL hi,bS]
  have:=GQ (k:=k) (m1:=n) (s:=s) (len:=(s.length:Int)) (i:=(i:Int)) 8 0 k (aE .xor .u32 ((s.take i).foldl DY 4294967295) (IntKind.u32.wrap (s[i].toNat:Int))) (by omega) (by omega)
  rw [show ((0:Nat):Int)=0 from rfl] at this
  rw [this,bb (by omega),List.take_succ_eq_append_getElem hi,List.foldl_append]
  rfl
 ·intro n
  rw [dk.l0_eq,dF (by omega),cF,List.take_length]
  rfl
inductive PB:List UInt8→List UInt8→Prop
 |i (x:Int) (h:fJ x):PB (gQ x) (w8 x)
 |b (b:Bool):PB (kc b) (Gm (if b then 1 else 0))
 |s (l:List UInt8) (h:l.length≤16):PB (cH l) (w4 (l.length:Int)++l)
theorem PB.len {v b:List UInt8}(h:PB v b):b.length≤20:=by
 cases h with
 |i x h=>show 8≤20;omega
 |b b=>show 1≤20;omega
 |s l h=>rw [List.length_append,bp];omega
theorem sb.pb {t:List aT}{i:Nat}{v:List UInt8}(h:sb t i v)(hv:v≠[110]):∃b,PB v b:=by
 obtain ⟨_,⟨h,_⟩|⟨_,x,hx,rfl⟩|⟨_,b,rfl⟩|⟨_,l,hl,rfl⟩⟩:=h
 ·exact absurd h hv
 ·exact ⟨_,.i x hx⟩
 ·exact ⟨_,.b b⟩
 ·exact ⟨_,.s l hl⟩
theorem t8 {k:Nat}(hk:70500≤k){v b:List UInt8}(h:PB v b)(hl:v.length≤65536):iR.f aG k v=some b:=by
 obtain ⟨k,rfl⟩:∃q,k=q+1:=⟨k - 1,by omega⟩
 rw [iR.f_eq]
 cases h with
 |i x hx=>
  rw [kp (by omega) hl (.i x hx) (by omega),bS]
  simp only [show ((0:Int)==0)=true from rfl,cT]
  rw [dT (by omega),dT (by simp),Bool.and_self,cT,show ([cO x]:List (List UInt8))[0]?=some (cO x) from rfl,bS,Ak (by omega) hx,bS,MO (by omega),bS]
 |b b=>
  rw [kp (by omega) hl (.b b) (by omega),bS]
  simp only [show ((1:Int)==0)=false from rfl,show ((1:Int)==1)=true from rfl,cT,cF]
  rw [dT (by omega),dT (by simp),Bool.and_self,cT,show ([kc b]:List (List UInt8))[0]?=some (kc b) from rfl,bS]
  cases b with
  |true=>
   rw [show rd (kc true) 0=some 116 from rfl,bS,lg (by simp only [List.length_cons,List.length_nil];omega) (by simp),bS,F9 (by omega),bS]
   rfl
  |false=>
   rw [show rd (kc false) 0=some 102 from rfl,bS,lg (by simp only [List.length_cons,List.length_nil];omega) (by simp),bS,F9 (by omega),bS]
   rfl
 |s l h16=>
  rw [kp (by omega) hl (.s l) (by omega),bS]
  simp only [show ((2:Int)==0)=false from rfl,show ((2:Int)==1)=false from rfl,cF]
  rw [dT (by omega),dT (by simp),Bool.and_self,cT,show ([l]:List (List UInt8))[0]?=some l from rfl,bS,vU (by omega),bS,cT,bS,dT (by rw [bp];omega),cT]
end Go.Proofs.YtjkokaockhecnaaGreatDoorP

namespace Go.Proofs.YtjkokaockhecnaaGreatDoorP
open Go Go.Proofs.YtjkokaockhecnaaGreatDoorA
noncomputable def kf (v:List UInt8):List UInt8:=(iR.f aG 80000 v).getD []
theorem PB.short {v b:List UInt8}(h:PB v b):v.length≤100:=by
 cases h with
 |i x h=>have:=nT x;unfold gQ;simp only [List.length_append,List.length_cons,List.length_nil];omega
 |b b=>cases b<;>decide
 |s l h=>have:=qd l.length;unfold cH;simp only [List.length_append,List.length_cons,List.length_nil];omega
theorem PB.eq {v b:List UInt8}(h:PB v b):kf v=b:=by
 unfold kf
 rw [t8 (by omega) h (by have:=h.short;omega)];rfl
theorem po {t:List aT}{a:Int}{v:List UInt8}(h:xj t a v=true):PB v (kf v):=by
 unfold xj at h
 rw [Bool.and_eq_true,bne_iff_ne] at h
 obtain ⟨b,hb⟩:=(nv.1 h.2).pb h.1
 rw [hb.eq];exact hb
theorem bR {t:List aT}{a:Int}{c:Col}(h:cj t a c=true):∃i:Nat,a=(i:Int)∧i<t.length∧jy t=true∧cB t (i:Int)=true∧dj (dP t i)=false∧c.reps.length=c.defs.length∧c.reps.length≤4096∧
  yV (bg t a).1 c.reps=true∧yV (bg t a).2.1 c.defs=true∧(∀v∈c.values,xj t a v=true)∧c.values.length=fw (bg t a).2.1 c.defs:=by
 unfold cj at h
 simp only [Bool.and_eq_true,decide_eq_true_eq,List.all_eq_true,Bool.not_eq_true'] at h
 obtain ⟨⟨h0,h1⟩,h2,h3,h4,h5,h6,h7⟩:=h
 obtain ⟨hm,i,hi,rfl⟩:=dq h0
 rw [Int.toNat_natCast] at h1
 exact ⟨i,rfl,hi,hm,h0,h1,h2,h3,h4,h5,h6,h7⟩
theorem fg {t:List aT}{a:Int}{c:Col}(h:cj t a c=true):c.values.length≤4096:=by
 obtain ⟨i,_,_,_,_,_,h1,h2,_,_,_,h3⟩:=bR h
 have:=jW (bg t a).2.1 c.defs
 omega
theorem Nu {most:Int}(hm:most≤15){xs:List Int}(h:yV most xs=true):tZ (bw most).toNat xs=true:=by
 unfold yV at h
 unfold tZ
 rw [List.all_eq_true] at h ⊢
 intro x hx
 have:=h x hx
 simp only [Bool.and_eq_true,decide_eq_true_eq] at this
 unfold CV
 rw [dT this.1,dT (Jk hm this.1 this.2)];rfl
def mw (most:Int)(xs:List Int):List UInt8:=(jU (bw most) xs).1
theorem xK {k:Nat}(hk:1200020≤k){most:Int}(h0:0≤most)(h1:most≤15)(xs:List Int):gV.f aG k xs most=some (mw most xs):=by
 obtain ⟨k,rfl⟩:∃q,k=q+1:=⟨k - 1,by omega⟩
 rw [gV.f_eq,u6 (by omega) h0 h1,bS,II (by omega),bS];rfl
theorem gy {most:Int}(h1:most≤15){xs:List Int}(hx:yV most xs=true)(hl:xs.length≤4096):jU (bw most) xs=(mw most xs,0)∧mw most xs=gm (bw most).toNat xs∧(mw most xs).length≤102400:=by
 have hb:=Gk most
 have ho:=Nu h1 hx
 have:=JJ (w:=(bw most).toNat) (by omega) hl ho
 rw [Int.toNat_of_nonneg hb.1] at this
 have e:mw most xs=gm (bw most).toNat xs:=by unfold mw;rw [this]
 refine ⟨by rw [this,e],e,?_⟩
 have:=AB (w:=(bw most).toNat) (by omega) xs.length xs (Nat.le_refl _) hl
 rw [e];omega
def lK (n r d:Nat):List UInt8:=(w4 (n:Int)++w4 (r:Int))++w4 (d:Int)
noncomputable def eT (t:List aT)(a:Int)(c:Col):List UInt8:=
 (lK c.reps.length (mw (bg t a).1 c.reps).length (mw (bg t a).2.1 c.defs).length++(mw (bg t a).1 c.reps++mw (bg t a).2.1 c.defs))++(c.values.map kf).flatten
noncomputable def dy (t:List aT)(a:Int)(c:Col):List UInt8×Int:=if cj t a c=true then (w4 (fX (eT t a c))++eT t a c,0) else ([],2200)
theorem iw (x y:List UInt8):bK x++bK y=bK (x++y):=by unfold bK;rw [List.map_append]
theorem ku (x:List UInt8):(bK x).length=x.length:=by unfold bK;rw [List.length_map]
theorem fY {vs:List (List UInt8)}(h:∀v∈vs,PB v (kf v)):(vs.map kf).flatten.length≤20*vs.length:=by
 induction vs with
 |nil=>simp
 |cons v vs ih=>
  have h1:=(h v List.mem_cons_self).len
  have h2:=ih fun w hw=>h w (List.mem_cons_of_mem _ hw)
  simp only [List.map_cons,List.flatten_cons,List.length_append,List.length_cons]
  omega
theorem MF {k:Nat}{vs:List (List UInt8)}(hv:∀v∈vs,PB v (kf v))(hl:vs.length≤4096){H:List UInt8}(hH:H.length≤1000000)(hk:1200000≤k){n:Nat}(hn:vs.length<n):
  cb.l2 aG k n vs (vs.length:Int) 0 (bK H)=some (w4 (fX (H++(vs.map kf).flatten))++(H++(vs.map kf).flatten),0):=by
 have hfl:=fY hv
 have:=cV (F:=fun n i=>cb.l2 aG k n vs (vs.length:Int) (i:Int) (bK (H++((vs.take i).map kf).flatten))) (N:=vs.length) (r:=some (w4 (fX (H++(vs.map kf).flatten))++(H++(vs.map kf).flatten),0)) ?_ ?_ n 0 (by omega) (by omega)
 ·simpa using this
 ·intro n i hi
  have hb:=hv vs[i] (List.getElem_mem hi)
  have hft:=fY (vs:=vs.take i) fun v h=>hv v (List.mem_of_mem_take h)
  rw [List.length_take] at hft
  have hbl:=hb.len
  rw [cb.l2_eq,dT (by omega),cT,aL hi,bS,t8 (by omega) hb (by have:=hb.short;omega),bS,dT (by rw [ku,List.length_append];omega),cT,iw,bb (i:=i) (by omega)]
  congr 1
  rw [List.take_succ_eq_append_getElem hi,List.map_append,List.flatten_append,List.map_cons,List.map_nil,List.flatten_cons,List.flatten_nil,List.append_nil,List.append_assoc]
 ·intro n
  rw [cb.l2_eq,dF (by omega),cF,List.take_length,lL,yG (by rw [List.length_append];omega) (by rw [List.length_append];omega),bS,vU (by omega),bS,dT (by rw [List.length_append,bp];omega),cT]
theorem tg {k:Nat}{t:List aT}{a:Int}{c:Col}(hk:1200100+c.values.length≤k)(hl:c.values.length≤20000000000000)(hd:c.reps.length≤20000000000000∧c.defs.length≤20000000000000):cb.f aG k t a c=some (dy t a c):=by
 obtain ⟨k,rfl⟩:∃q,k=q+1:=⟨k - 1,by omega⟩
 rw [cb.f_eq,kw (by omega) hl hd,bS]
 unfold dy
 cases hm:cj t a c with
 |false=>rfl
 |true=>
  obtain ⟨i,rfl,hi,hmt,hn,hin,h1,h2,h3,h4,h5,h6⟩:=bR hm
  have hvl:=fg hm
  obtain ⟨r0,r1,d0,d1⟩:=hO (t:=t) (a:=(i:Int))
  obtain ⟨_,_,hr⟩:=gy r1 h3 h2
  obtain ⟨_,_,hdl⟩:=gy d1 h4 (by omega)
  rw [Bool.not_true,cF,if_pos rfl,fB (by omega),bS,xK (by omega) r0 r1,bS,xK (by omega) d0 d1,bS]
  obtain ⟨q,hq⟩:∃q,k=q+4:=⟨k - 4,by omega⟩
  have key:∀(A B C:Int) (r d:List UInt8),r.length≤102400→d.length≤102400→cb.l0 aG k (q+4) r d ((([A,B,C]:List Int).length:Nat):Int) 0 c.reps c.defs c.values ([]:List Int) [A,B,C]=
    cb.l2 aG k k c.values ((c.values.length:Nat):Int) 0 (bK (((w4 A++w4 B)++w4 C)++(r++d))):=by
   intro A B C r d hr hd
   rw [cb.l0_eq,dT (by simp),cT,dT (by omega),Bool.and_self,cT,show ([A,B,C]:List Int)[(0:Int).toNat]?=some A from rfl,bS,vU (by omega),bS,dT (by simp [bp]),cT,show IntKind.i64.wrap (0+1)=1 from rfl,List.nil_append]
   rw [cb.l0_eq,dT (by simp),cT,dT (by omega),Bool.and_self,cT,show ([A,B,C]:List Int)[(1:Int).toNat]?=some B from rfl,bS,vU (by omega),bS,dT (by rw [ku];simp [bp]),cT,show IntKind.i64.wrap (1+1)=2 from rfl,iw]
   rw [cb.l0_eq,dT (by simp),cT,dT (by omega),Bool.and_self,cT,show ([A,B,C]:List Int)[(2:Int).toNat]?=some C from rfl,bS,vU (by omega),bS,dT (by rw [ku];simp [bp]),cT,show IntKind.i64.wrap (2+1)=3 from rfl,iw]
   rw [cb.l0_eq,dF (by simp),cF,dT (by omega),cT,dT (by rw [ku];simp only [List.length_append,bp];omega),cT,iw]
  have key':=key ((c.reps.length:Nat):Int) (((mw (bg t (i:Int)).1 c.reps).length:Nat):Int) (((mw (bg t (i:Int)).2.1 c.defs).length:Nat):Int) _ _ hr hdl
  rw [←hq] at key'
  rw [key',MF (fun v hv=>po (h5 v hv)) hvl (by simp only [List.length_append,bp];omega) (by omega) (by omega)]
  rfl
end Go.Proofs.YtjkokaockhecnaaGreatDoorP

namespace Go.Proofs.YtjkokaockhecnaaGreatDoorP
open Go Go.Proofs.YtjkokaockhecnaaGreatDoorA
theorem wU {k:Nat}{a b:List Int}(hk:a.length+3≤k)(hl:a.length≤20000000000000):aZ.f aG k a b=some (decide (a=b)):=by
 obtain ⟨k,rfl⟩:∃q,k=q+1:=⟨k - 1,by omega⟩
 rw [aZ.f_eq]
 by_cases h:a.length=b.length
 ·rw [show (((a.length:Nat):Int) != ((b.length:Nat):Int))=false by rw [h];simp,cF]
  have:=jQ (F:=fun n i=>aZ.l0 aG k n a b (i:Int)) (p:=fun i=>decide (a[i]?=b[i]?)) (N:=a.length) (E:=some true) (Z:=some false) ?_ ?_ k (by omega)
  ·refine this.trans ?_
   have e:(List.range a.length).all (fun i=>decide (a[i]?=b[i]?))=decide (a=b):=by
    rw [Bool.eq_iff_iff,List.all_eq_true,decide_eq_true_iff]
    constructor
    ·intro hq
     refine List.ext_getElem? fun i=>?_
     rcases Nat.lt_or_ge i a.length with hi|hi
     ·simpa using hq i (List.mem_range.2 hi)
     ·rw [List.getElem?_eq_none hi,List.getElem?_eq_none (by omega)]
    ·rintro rfl i _;simp
   rw [e]
   cases decide (a=b)<;>rfl
  ·intro n i hi _
   rw [aZ.l0_eq,dT (by omega),cT,aL hi,bS,aL (show i<b.length by omega),bS,List.getElem?_eq_getElem hi,List.getElem?_eq_getElem (show i<b.length by omega)]
   by_cases hx:a[i]=b[i]
   ·rw [show (a[i] != b[i])=false by rw [hx];simp,cF,dT (by rw [hx]),cT,bb (by omega)]
   ·rw [show (a[i] != b[i])=true by rw [bne_iff_ne];exact hx,cT,dF (by simpa using hx),cF]
  ·intro _ n
   rw [aZ.l0_eq,dF (by omega),cF]
 ·rw [show (((a.length:Nat):Int) != ((b.length:Nat):Int))=true by rw [bne_iff_ne];omega,cT,dF (by rintro rfl;exact h rfl)]
theorem A1 {k:Nat}{a b:List (List UInt8)}(hk:a.length+3≤k)(hl:a.length≤20000000000000):aH.f aG k a b=some (decide (a=b)):=by
 obtain ⟨k,rfl⟩:∃q,k=q+1:=⟨k - 1,by omega⟩
 rw [aH.f_eq]
 by_cases h:a.length=b.length
 ·rw [show (((a.length:Nat):Int) != ((b.length:Nat):Int))=false by rw [h];simp,cF]
  have:=jQ (F:=fun n i=>aH.l0 aG k n a b (i:Int)) (p:=fun i=>decide (a[i]?=b[i]?)) (N:=a.length) (E:=some true) (Z:=some false) ?_ ?_ k (by omega)
  ·refine this.trans ?_
   have e:(List.range a.length).all (fun i=>decide (a[i]?=b[i]?))=decide (a=b):=by
    rw [Bool.eq_iff_iff,List.all_eq_true,decide_eq_true_iff]
    constructor
    ·intro hq
     refine List.ext_getElem? fun i=>?_
     rcases Nat.lt_or_ge i a.length with hi|hi
     ·simpa using hq i (List.mem_range.2 hi)
     ·rw [List.getElem?_eq_none hi,List.getElem?_eq_none (by omega)]
    ·rintro rfl i _;simp
   rw [e]
   cases decide (a=b)<;>rfl
  ·intro n i hi _
   rw [aH.l0_eq,dT (by omega),cT,aL hi,bS,aL (show i<b.length by omega),bS,List.getElem?_eq_getElem hi,List.getElem?_eq_getElem (show i<b.length by omega)]
   by_cases hx:a[i]=b[i]
   ·rw [show (a[i] != b[i])=false by rw [hx];simp,cF,dT (by rw [hx]),cT,bb (by omega)]
   ·rw [show (a[i] != b[i])=true by rw [bne_iff_ne];exact hx,cT,dF (by simpa using hx),cF]
  ·intro _ n
   rw [aH.l0_eq,dF (by omega),cF]
 ·rw [show (((a.length:Nat):Int) != ((b.length:Nat):Int))=true by rw [bne_iff_ne];omega,cT,dF (by rintro rfl;exact h rfl)]
theorem Col.eq_iff {c d:Col}:c=d↔c.reps=d.reps∧c.defs=d.defs∧c.values=d.values:=by
 cases c;cases d
 simp only [Col.mk.injEq]
open Classical in
theorem G1 {k:Nat}{c d:Col}(hk:c.reps.length+c.defs.length+c.values.length+5≤k)(hl:c.reps.length≤20000000000000∧c.defs.length≤20000000000000∧c.values.length≤20000000000000):
  bF.f aG k c d=some (decide (c=d)):=by
 obtain ⟨k,rfl⟩:∃q,k=q+1:=⟨k - 1,by omega⟩
 rw [bF.f_eq,wU (by omega) hl.1,bS]
 by_cases h1:c.reps=d.reps
 ·rw [dT h1,cT,wU (by omega) hl.2.1,bS]
  by_cases h2:c.defs=d.defs
  ·rw [dT h2,cT,A1 (by omega) hl.2.2,bS]
   by_cases h3:c.values=d.values
   ·rw [dT h3,dT (Col.eq_iff.2 ⟨h1,h2,h3⟩)]
   ·rw [dF h3,dF fun e=>h3 (Col.eq_iff.1 e).2.2]
  ·rw [dF h2,cF,dF fun e=>h2 (Col.eq_iff.1 e).2.1]
 ·rw [dF h1,cF,dF fun e=>h1 (Col.eq_iff.1 e).1]
theorem PB.kind {t:List aT}{i:Nat}{v:List UInt8}(h:xj t (i:Int) v=true):(dP t i=0∧∃x,fJ x∧v=gQ x∧kf v=w8 x)∨(dP t i=1∧∃b,v=kc b∧kf v=Gm (if b then 1 else 0))∨(dP t i=2∧∃l:List UInt8,l.length≤16∧v=cH l∧kf v=w4 (l.length:Int)++l):=by
 unfold xj at h
 rw [Bool.and_eq_true,bne_iff_ne,Int.toNat_natCast] at h
 obtain ⟨_,⟨e,_⟩|⟨e,x,hx,rfl⟩|⟨e,b,rfl⟩|⟨e,l,hl,rfl⟩⟩:=nv.1 h.2
 ·exact absurd e h.1
 ·exact .inl ⟨e,x,hx,rfl,(PB.i x hx).eq⟩
 ·exact .inr (.inl ⟨e,b,rfl,(PB.b b).eq⟩)
 ·exact .inr (.inr ⟨e,l,hl,rfl,(PB.s l hl).eq⟩)
theorem Iu {t:List aT}{a:Int}{c:Col}(h:cj t a c=false):dy t a c=([],2200):=by unfold dy;rw [if_neg (by rw [h];simp)]
theorem Ix {t:List aT}{a:Int}{c:Col}(h:cj t a c=true):(dy t a c).2=0:=by unfold dy;rw [if_pos h]
end Go.Proofs.YtjkokaockhecnaaGreatDoorP
