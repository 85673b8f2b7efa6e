/- The program's reading of values' texts: what its taker does to any text; no condition but the sizes that a machine has. The program's parts of a text, and what fits a leaf: the program's answer and the document's are one; no condition but the sizes that a machine has. Which columns may be a leaf's; what a page's parts are, and what the program puts: no condition but the sizes that a machine has. The document's test of a column, sums, values' bytes, and what the program puts into a page; no condition but the sizes that a machine has. What the program puts into a page: its answer in plain lists; no condition but the sizes that a machine has. Unlike columns have unlike pages; columns that are the same; no condition but the sizes that a machine has. -/
import Derived.Test.YtjkokaockhecnaaGreatDoorPPh0
import Derived.Lib.AtoiAllCases
import Derived.Test.YtjkokaockhecnaaGreatDoorPPgA
namespace Go.Proofs.YtjkokaockhecnaaGreatDoorP
open Go Go.Proofs.YtjkokaockhecnaaGreatDoorA
theorem wc (c:UInt8):∀(p q:List UInt8),c ∉ p→Lib.index (p++c :: q) [c]=(p.length:Int)
 |[],q,_=>by simp [Lib.index,List.isPrefixOf]
 |b :: p,q,h=>by
  have hb:¬c=b:=fun e=>h (by rw [e];exact List.mem_cons_self)
  have ih:=wc c p q fun hm=>h (List.mem_cons_of_mem _ hm)
  rw [List.cons_append,Lib.index,ih]
  have e1:List.isPrefixOf [c] (b :: (p++c :: q))=false:=by simp [List.isPrefixOf,hb]
  rw [e1]
  have e2:(((p.length:Nat):Int)==-1)=false:=by rw [beq_eq_false_iff_ne];omega
  rw [e2]
  simp
theorem tu (c:UInt8):∀(s:List UInt8),c ∉ s→Lib.index s [c]=-1
 |[],_=>by simp [Lib.index]
 |b :: s,h=>by
  have hb:¬c=b:=fun e=>h (by rw [e];exact List.mem_cons_self)
  have ih:=tu c s fun hm=>h (List.mem_cons_of_mem _ hm)
  rw [Lib.index,ih]
  have e1:List.isPrefixOf [c] (b :: s)=false:=by simp [List.isPrefixOf,hb]
  rw [e1]
  simp
theorem B1 {c:UInt8}{p q:List UInt8}(h:c ∉ p):Lib.cut (p++c :: q) [c]=(p,q,true):=by
 unfold Lib.cut
 rw [wc c p q h,if_pos (by omega),Int.toNat_natCast]
 simp
theorem Fj {c:UInt8}{s:List UInt8}(h:c ∉ s):Lib.cut s [c]=(s,[],false):=by
 unfold Lib.cut
 rw [tu c s h,if_neg (by omega)]
theorem BF (c:UInt8):∀(s:List UInt8),(∃p q,s=p++c :: q∧c ∉ p)∨c ∉ s
 |[]=>.inr (by simp)
 |b :: s=>by
  by_cases hb:c=b
  ·subst hb;exact .inl ⟨[],s,rfl,by simp⟩
  ·rcases BF c s with ⟨p,q,rfl,h⟩|h
   ·exact .inl ⟨b :: p,q,rfl,by simp [hb,h]⟩
   ·exact .inr (by simp [hb,h])
theorem EH {k:Nat}(hk:1≤k){s sep:List UInt8}(hs:s.length≤4000000000):strings_Cut.f aF k s sep=some (Lib.cut s sep):=by
 obtain ⟨k,rfl⟩:∃q,k=q+1:=⟨k - 1,by omega⟩
 rw [strings_Cut.f_eq]
 unfold tl
 rw [dT (by omega)];rfl
theorem pS {k:Nat}(hk:1≤k){x:Int}(h:fe x):strconv_Itoa.f aF k x=some (cB x):=by
 obtain ⟨k,rfl⟩:∃q,k=q+1:=⟨k - 1,by omega⟩
 obtain ⟨h0,h1⟩:=h
 rw [strconv_Itoa.f_eq]
 unfold pL
 rw [dT h0,dT h1,Jc h0 h1];rfl
theorem zM (l:List UInt8):fe (Lib.atoiSat l):=by unfold Lib.atoiSat fe;split<;>omega
theorem yZ {k:Nat}(hk:1≤k){l:List UInt8}(hl:l.length≤4000000000):∃x b,dZ.f aF k l=some (x,b)∧fe x:=by
 obtain ⟨k,rfl⟩:∃q,k=q+1:=⟨k - 1,by omega⟩
 rw [dZ.f_eq]
 unfold nv
 rw [dT (by omega)]
 simp only [cond]
 split
 ·rename_i v hv;exact ⟨_,_,rfl,Lib.atoiAll_bounds hv⟩
 ·exact ⟨_,_,rfl,by unfold fe;omega⟩
 ·exact ⟨_,_,rfl,zM l⟩
theorem pT:∀(ds:List Nat) (acc:Nat),(∀d∈ds,d<10)→ds.foldl (fun a d=>10*a+d) acc<18446744073709551616→Lib.parseUint10 acc (cS ds)=.ok (ds.foldl (fun a d=>10*a+d) acc)
 |[],acc,_,_=>rfl
 |d :: ds,acc,h,hv=>by
  have hd:=h d List.mem_cons_self
  have mono:∀(ds:List Nat) (a:Nat),a≤ds.foldl (fun a d=>10*a+d) a:=by
   intro ds
   induction ds with
   |nil=>intro a;exact Nat.le_refl _
   |cons d ds ih=>intro a;exact Nat.le_trans (by omega) (ih (10*a+d))
  have hm:=mono ds (10*acc+d)
  rw [List.foldl_cons] at hv ⊢
  have e:cS (d :: ds)=UInt8.ofNat (48+d) :: cS ds:=rfl
  have ec:(UInt8.ofNat (48+d)).toNat=48+d:=by rw [UInt8.toNat_ofNat'];omega
  rw [e,Lib.parseUint10,ec,if_pos (by omega),if_neg (by omega),if_neg (by omega),show acc*10+(48+d - 48)=10*acc+d by omega]
  exact pT ds _ (fun x hx=>h x (List.mem_cons_of_mem _ hx)) hv
theorem EL {x:Int}(h:fe x):Lib.atoiAll (cB x)=.ok x:=by
 obtain ⟨h0,h1⟩:=h
 have p19:(10:Nat) ^ 19=10000000000000000000:=by decide
 have key:∀n:Nat,n<10 ^ 19→Lib.parseMag (nG n)=.ok n∧∃b r,nG n=b :: r∧48≤b.toNat∧b.toNat≤57:=by
  intro n hn
  obtain ⟨v1,v2,v3⟩:=mz 19 n hn (by omega)
  rw [ll hn]
  have hp:=pT (nH 19 n) 0 v2 (by unfold dI at v1;rw [v1];omega)
  unfold dI at v1
  rw [v1] at hp
  cases hq:nH 19 n with
  |nil=>exact absurd hq v3
  |cons d ds=>
   rw [hq] at hp v2
   have hd:=v2 d List.mem_cons_self
   have e:cS (d :: ds)=UInt8.ofNat (48+d) :: cS ds:=rfl
   have ec:(UInt8.ofNat (48+d)).toNat=48+d:=by rw [UInt8.toNat_ofNat'];omega
   refine ⟨?_,_,_,e,by omega,by omega⟩
   unfold Lib.parseMag
   rw [if_neg (by rw [e];simp)]
   exact hp
 unfold cB
 by_cases hx:x<0
 ·rw [if_pos hx]
  obtain ⟨k1,_⟩:=key x.natAbs (by omega)
  unfold Lib.atoiAll
  simp only [show (45:UInt8).toNat=45 from rfl,or_true,if_true,k1]
  rw [if_neg (by simp),if_neg (by simp;omega)]
  congr 1;omega
 ·rw [if_neg hx]
  obtain ⟨k1,b,r,e,c1,c2⟩:=key x.toNat (by omega)
  rw [e] at k1 ⊢
  unfold Lib.atoiAll
  simp only
  rw [if_neg (show¬(b.toNat=43∨b.toNat=45) by omega),k1]
  simp only
  rw [if_neg (by omega),if_neg (by omega),if_neg (by omega)]
  congr 1;omega
theorem yS {k:Nat}(hk:1≤k){x:Int}(h:fe x):dZ.f aF k (cB x)=some (x,false):=by
 obtain ⟨k,rfl⟩:∃q,k=q+1:=⟨k - 1,by omega⟩
 have hl:=lX x
 rw [dZ.f_eq]
 unfold nv
 rw [dT (by omega),EL h];rfl
theorem ow {k:Nat}(hk:2≤k){r:List UInt8}(hr:r.length≤4000000000)(bad:Bool)(c:UInt8):
  ∃x d r' b',bK.f aF k r bad [c]=some ((x,d),(r',b'))∧r'.length≤r.length∧(b'=false→bad=false∧fe x∧d=cB x∧r=cB x++c :: r'∧c ∉ cB x):=by
 obtain ⟨k,rfl⟩:∃q,k=q+1:=⟨k - 1,by omega⟩
 rw [bK.f_eq,EH (by omega) hr,bS]
 rcases BF c r with ⟨p,q,rfl,hc⟩|hc
 ·rw [B1 hc]
  have hl:p.length≤4000000000:=by rw [List.length_append] at hr;omega
  obtain ⟨x,b,ha,hx⟩:=yZ (k:=k) (by omega) hl
  have hq:q.length≤(p++c :: q).length:=by rw [List.length_append,List.length_cons];omega
  simp only [ha,bS,Bool.not_true,Bool.not_false,cT]
  cases b with
  |true=>simp only [Bool.not_true,cF];exact ⟨_,_,_,_,rfl,hq,(fun h=>by cases h)⟩
  |false=>
   simp only [Bool.not_false,cT,pS (show 1≤k by omega) hx,bS]
   cases he:(cB x != p) with
   |true=>simp only [cT];exact ⟨_,_,_,_,rfl,hq,(fun h=>by cases h)⟩
   |false=>
    simp only [cF]
    have e:cB x=p:=by simpa using he
    exact ⟨_,_,_,_,rfl,hq,fun h=>⟨h,hx,e.symm,by rw [e],by rw [e];exact hc⟩⟩
 ·rw [Fj hc]
  obtain ⟨x,b,ha,hx⟩:=yZ (k:=k) (by omega) hr
  simp only [ha,bS,Bool.not_true,Bool.not_false,cT,cF]
  exact ⟨_,_,_,_,rfl,by simp,(fun h=>by cases h)⟩
theorem uV {k:Nat}(hk:2≤k){x:Int}(hx:fe x){c:UInt8}(hc:c=58∨c=59){r:List UInt8}(hr:(cB x++c :: r).length≤4000000000):
  bK.f aF k (cB x++c :: r) false [c]=some ((x,cB x),(r,false)):=by
 obtain ⟨k,rfl⟩:∃q,k=q+1:=⟨k - 1,by omega⟩
 have hn:c ∉ cB x:=by
  intro hm
  obtain ⟨_,h2⟩:=jv hx.1 hx.2
  have:=h2 c hm
  rcases hc with rfl|rfl
  ·exact this.1 rfl
  ·exact this.2 rfl
 rw [bK.f_eq,EH (by omega) hr,bS,B1 hn]
 simp only [yS (show 1≤k by omega) hx,bS,Bool.not_true,Bool.not_false,cT,pS (show 1≤k by omega) hx,bne_self_eq_false,cF]
theorem re {k:Nat}(hk:1≤k)(r:List UInt8)(bad:Bool)(n:Int):cV.f aF k r bad n=
  some (if bad=false∧0≤n∧n≤(r.length:Int) then (r.take n.toNat,(r.drop n.toNat,false)) else ([],(r,true))):=by
 obtain ⟨k,rfl⟩:∃q,k=q+1:=⟨k - 1,by omega⟩
 rw [cV.f_eq]
 cases bad with
 |true=>simp
 |false=>
  rw [Bool.not_false,cT]
  by_cases h0:n<0
  ·rw [dT h0,Bool.not_true,cF,if_neg (by omega)]
  ·rw [dF h0,Bool.not_false,cT]
   by_cases h1:n>(r.length:Int)
   ·rw [dT h1,cT,if_neg (by omega)]
   ·rw [dF h1,cF,dT (show (0:Int)≤n by omega),dT (show n≤(r.length:Int) by omega),Bool.and_self,cT,cT,if_pos ⟨rfl,by omega,by omega⟩,List.drop_zero,List.take_length]
theorem pH {k:Nat}(hk:1≤k)(r:List UInt8)(bad:Bool):cm.f aF k r bad=some (match r with|[]=>(0,([],true))|b :: l=>((b.toNat:Int),(l,bad))):=by
 obtain ⟨k,rfl⟩:∃q,k=q+1:=⟨k - 1,by omega⟩
 rw [cm.f_eq]
 cases r with
 |nil=>rfl
 |cons b l=>
  have e:((b :: l)==([]:List UInt8))=false:=rfl
  rw [e,cF,show rd (b :: l) 0=some b from rfl,bS,dT (by omega),dT (by simp only [List.length_cons];omega),Bool.and_self,cT,List.take_length]
  rfl
def tM (w:Int)(r:List UInt8)(bad:Bool)(res:(Int×List (List UInt8))×(List UInt8×Bool)):Prop:=
 res.2.1.length≤r.length∧(res.2.2=false→bad=false∧res.2.1.length<r.length)∧(bad=true→res.2.2=true)
theorem KW {k:Nat}{w:Int}(hv:∀(r:List UInt8) (bad:Bool),r.length≤70000→∃res,bJ.f aF k r bad w=some res∧tM w r bad res)(hk:1≤k)(c:Int):
  ∀(m:Nat) (r:List UInt8) (bad:Bool) (out:List (List UInt8)) (n:Nat),r.length≤m→m≤70000→out.length+r.length≤70000→m+2≤n→
   ∃res,aN.l0 aF k n c w r bad out=some res∧res.2.1.length≤r.length∧(res.2.2=false→bad=false∧res.2.1.length<r.length)∧(bad=true→res.2.2=true):=by
 have fin:∀(r:List UInt8) (bad:Bool) (out:List (List UInt8)),∃res:List (List UInt8)×(List UInt8×Bool),((cm.f aF k r bad).bind fun r_4=>some (out,(r_4.2.1,r_4.2.2)))=some res∧res.2.1.length≤r.length∧(res.2.2=false→bad=false∧res.2.1.length<r.length)∧(bad=true→res.2.2=true):=by
  intro r bad out
  rw [pH hk,bS]
  cases r with
  |nil=>exact ⟨_,rfl,Nat.le_refl _,(fun h=>by cases h),fun _=>rfl⟩
  |cons b l=>exact ⟨_,rfl,by simp,fun h=>⟨h,by simp⟩,fun h=>h⟩
 intro m
 induction m with
 |zero=>
  intro r bad out n h1 h2 h3 h4
  obtain ⟨n,rfl⟩:∃q,n=q+1:=⟨n - 1,by omega⟩
  rw [aN.l0_eq]
  have hr:r=[]:=List.length_eq_zero_iff.1 (by omega)
  subst hr
  cases bad with
  |true=>rw [Bool.not_true,cF];exact fin _ _ _
  |false=>rw [Bool.not_false,cT,show (([]:List UInt8) != [])=false from rfl,cF];exact fin _ _ _
 |succ m ih=>
  intro r bad out n h1 h2 h3 h4
  obtain ⟨n,rfl⟩:∃q,n=q+1:=⟨n - 1,by omega⟩
  rw [aN.l0_eq]
  cases bad with
  |true=>rw [Bool.not_true,cF];exact fin _ _ _
  |false=>
   rw [Bool.not_false,cT]
   cases r with
   |nil=>rw [show (([]:List UInt8) != [])=false from rfl,cF];exact fin _ _ _
   |cons b l=>
    rw [show ((b :: l) != ([]:List UInt8))=true from rfl,cT,show rd (b :: l) 0=some b from rfl,bS]
    cases hb:((b.toNat:Int) != c) with
    |false=>rw [cF];exact fin _ _ _
    |true=>
     rw [cT]
     obtain ⟨res,e,t1,t2,t3⟩:=hv (b :: l) false (by omega)
     rw [e,bS]
     have hl:((b :: l).length:Int) - (res.2.1.length:Int)=(((b :: l).length - res.2.1.length:Nat):Int):=by omega
     rw [hl,aK _ (by omega),dT (by omega),dT (by omega),Bool.and_self,cT,dT (by simp only [List.length_cons,List.length_nil];simp only [List.length_cons] at h3;omega),cT]
     cases hbad:res.2.2 with
     |true=>
      -- the next round ends it
      obtain ⟨n,rfl⟩:∃q,n=q+1:=⟨n - 1,by omega⟩
      rw [aN.l0_eq,Bool.not_true,cF]
      obtain ⟨res',e',q1,q2,q3⟩:=fin res.2.1 true (out++[List.drop 0 (List.take ((((b :: l).length - res.2.1.length:Nat):Int)).toNat (b :: l))])
      exact ⟨res',e',by omega,(fun h=>by rw [q3 rfl] at h;cases h),(fun h=>by cases h)⟩
     |false=>
      obtain ⟨_,t4⟩:=t2 hbad
      obtain ⟨res',e',q1,q2,q3⟩:=ih res.2.1 false (out++[List.drop 0 (List.take ((((b :: l).length - res.2.1.length:Nat):Int)).toNat (b :: l))]) n (by omega) (by omega) (by simp only [List.length_append,List.length_cons,List.length_nil] at h3 ⊢;simp only [List.length_cons] at t4;omega) (by omega)
      exact ⟨res',e',by omega,fun h=>⟨rfl,by have:=(q2 h).2;omega⟩,(fun h=>by cases h)⟩
theorem wK:∀(e:Nat) {k:Nat},e≤10→70100+3*e≤k→∀(w:Int),w+e=5→∀(r:List UInt8) (bad:Bool),r.length≤70000→∃res,bJ.f aF k r bad w=some res∧tM w r bad res
 |0,k,_,hk,w,hw,r,bad,hr=>by
  obtain ⟨k,rfl⟩:∃q,k=q+2:=⟨k - 2,by omega⟩
  rw [bJ.f_eq,dT (by omega),cT,bU.f_eq,bS]
  exact ⟨_,rfl,Nat.le_refl _,(fun h=>by cases h),fun _=>rfl⟩
 |e+1,k,he,hk,w,hw,r,bad,hr=>by
  obtain ⟨k,rfl⟩:∃q,k=q+1:=⟨k - 1,by omega⟩
  rw [bJ.f_eq,dF (by omega),cF,pH (by omega),bS]
  cases r with
  |nil=>
   simp only [show ((0:Int)==110)=false from rfl,show ((0:Int)==105)=false from rfl,show ((0:Int)==116)=false from rfl,show ((0:Int)==102)=false from rfl,show ((0:Int)==115)=false from rfl,show ((0:Int)==91)=false from rfl,show ((0:Int)==123)=false from rfl,cF]
   obtain ⟨k,rfl⟩:∃q,k=q+1:=⟨k - 1,by omega⟩
   rw [bU.f_eq,bS]
   exact ⟨_,rfl,Nat.le_refl _,(fun h=>by cases h),fun _=>rfl⟩
  |cons b l=>
   simp only
   have hl:l.length+1≤70000:=by simpa using hr
   have ok:∀(res:(Int×List (List UInt8))×(List UInt8×Bool)),res.2.1.length≤l.length→(res.2.2=false→bad=false)→(bad=true→res.2.2=true)→tM w (b :: l) bad res:=by
    intro res h1 h2 h3
    exact ⟨by simp only [List.length_cons];omega,fun h=>⟨h2 h,by simp only [List.length_cons];omega⟩,h3⟩
   have hnum:∀(c:UInt8),∃x d r' b',bK.f aF k l bad [c]=some ((x,d),(r',b'))∧r'.length≤l.length∧(b'=false→bad=false):=by
    intro c
    obtain ⟨x,d,r',b',h1,h2,h3⟩:=ow (k:=k) (by omega) (r:=l) (by omega) bad c
    exact ⟨x,d,r',b',h1,h2,fun h=>(h3 h).1⟩
   have hrow:∀(c:Int),∃res,aN.f aF k l bad c (IntKind.i64.wrap (w+1))=some res∧res.2.1.length≤l.length∧(res.2.2=false→bad=false)∧(bad=true→res.2.2=true):=by
    intro c
    obtain ⟨k,rfl⟩:∃q,k=q+1:=⟨k - 1,by omega⟩
    rw [aN.f_eq,aK _ (by omega)]
    obtain ⟨res,h1,h2,h3,h4⟩:=KW (k:=k) (w:=w+1) (fun r bad hr=>wK e (by omega) (by omega) (w+1) (by omega) r bad hr) (by omega) c l.length l bad [] k (Nat.le_refl _) (by omega) (by simp;omega) (by omega)
    exact ⟨res,h1,h2,fun h=>(h3 h).1,h4⟩
   have hstr:∃res,((bK.f aF k l bad [58]).bind fun r_4=>(cV.f aF k r_4.2.1 r_4.2.2 r_4.1.1).bind fun r_5=>some (((2:Int),([r_5.1]:List (List UInt8))),(r_5.2.1,r_5.2.2)))=some res∧tM w (b :: l) bad res:=by
    obtain ⟨x,d,r',b',h1,h2,h3⟩:=hnum 58
    rw [h1,bS,re (by omega),bS]
    refine ⟨_,rfl,ok _ ?_ ?_ ?_⟩
    ·simp only
     split
     ·simp only [List.length_drop];omega
     ·exact h2
    ·simp only
     split
     ·rename_i hc;intro _;exact h3 hc.1
     ·intro h;cases h
    ·intro hb
     simp only
     split
     ·rename_i hc;rw [h3 hc.1] at hb;cases hb
     ·rfl
   have hrow':∀(c kd:Int),∃res,((aN.f aF k l bad c (IntKind.i64.wrap (w+1))).bind fun r_6=>some ((kd,r_6.1),(r_6.2.1,r_6.2.2)))=some res∧tM w (b :: l) bad res:=by
    intro c kd
    obtain ⟨res,h1,h2,h3,h4⟩:=hrow c
    rw [h1,bS]
    exact ⟨_,rfl,ok _ h2 h3 h4⟩
   have hfail:∃res,((bU.f aF k l bad).bind fun r_8=>some ((r_8.1.1,r_8.1.2),(r_8.2.1,r_8.2.2)))=some res∧tM w (b :: l) bad res:=by
    obtain ⟨k,rfl⟩:∃q,k=q+1:=⟨k - 1,by omega⟩
    rw [bU.f_eq,bS]
    exact ⟨_,rfl,ok _ (Nat.le_refl _) (fun h=>by cases h) (fun _=>rfl)⟩
   have one:∀(kd:Int) (ps:List (List UInt8)),∃res,some ((kd,ps),(l,bad))=some res∧tM w (b :: l) bad res:=fun kd ps=>⟨_,rfl,ok _ (Nat.le_refl _) (fun h=>h) (fun h=>h)⟩
   cases h1:((b.toNat:Int)==110) with
   |true=>rw [cT];exact one _ _
   |false=>
    rw [cF]
    cases h2:((b.toNat:Int)==105) with
    |true=>
     rw [cT]
     obtain ⟨x,d,r',b',q1,q2,q3⟩:=hnum 59
     rw [q1,bS]
     refine ⟨_,rfl,ok _ q2 q3 fun hb=>?_⟩
     cases b' with
     |true=>rfl
     |false=>rw [q3 rfl] at hb;cases hb
    |false=>
     rw [cF]
     cases h3:((b.toNat:Int)==116) with
     |true=>rw [cT];exact one _ _
     |false=>
      rw [cF]
      cases h4:((b.toNat:Int)==102) with
      |true=>rw [cT];exact one _ _
      |false=>
       rw [cF]
       cases h5:((b.toNat:Int)==115) with
       |true=>rw [cT];exact hstr
       |false=>
        rw [cF]
        cases h6:((b.toNat:Int)==91) with
        |true=>rw [cT];exact hrow' _ _
        |false=>
         rw [cF]
         cases h7:((b.toNat:Int)==123) with
         |true=>rw [cT];exact hrow' _ _
         |false=>rw [cF];exact hfail
end Go.Proofs.YtjkokaockhecnaaGreatDoorP

namespace Go.Proofs.YtjkokaockhecnaaGreatDoorP
open Go Go.Proofs.YtjkokaockhecnaaGreatDoorA
theorem Aj {k:Nat}(hk:70200≤k){v:List UInt8}(hv:v.length≤70000){kd:Int}{ps:List (List UInt8)}(h:bJ.f aF k v false 0=some ((kd,ps),(([]:List UInt8),false))):
  kd=3∨kd=4∨g8 v kd ps:=by
 obtain ⟨k,rfl⟩:∃q,k=q+1:=⟨k - 1,by omega⟩
 rw [bJ.f_eq,dF (by omega),cF,pH (by omega),bS] at h
 cases v with
 |nil=>
  obtain ⟨k,rfl⟩:∃q,k=q+1:=⟨k - 1,by omega⟩
  simp only [show ((0:Int)==110)=false from rfl,show ((0:Int)==105)=false from rfl,show ((0:Int)==116)=false from rfl,show ((0:Int)==102)=false from rfl,show ((0:Int)==115)=false from rfl,show ((0:Int)==91)=false from rfl,show ((0:Int)==123)=false from rfl,cF,bU.f_eq,bS] at h
  simp at h
 |cons b l=>
  simp only at h
  have hb:∀{n:Nat},((b.toNat:Int)==(n:Int))=true→n<256→b=UInt8.ofNat n:=by
   intro n h hn
   have e:b.toNat=n:=by have:=(beq_iff_eq.1 h);omega
   rw [←e];simp
  have hl:l.length≤69999:=by simpa using hv
  cases h1:((b.toNat:Int)==110) with
  |true=>
   rw [h1,cT] at h
   have eb:=hb (n:=110) h1 (by omega)
   simp only [Option.some.injEq,Prod.mk.injEq] at h
   obtain ⟨⟨rfl,rfl⟩,rfl,_⟩:=h
   subst eb
   exact .inr (.inr .n)
  |false=>
   rw [h1,cF] at h
   cases h2:((b.toNat:Int)==105) with
   |true=>
    rw [h2,cT] at h
    have eb:=hb (n:=105) h2 (by omega)
    obtain ⟨x,d,r',b',q1,q2,q3⟩:=ow (k:=k) (by omega) (r:=l) (by omega) false 59
    rw [q1,bS] at h
    simp only [Option.some.injEq,Prod.mk.injEq] at h
    obtain ⟨⟨rfl,rfl⟩,rfl,rfl⟩:=h
    obtain ⟨_,hx,rfl,e,_⟩:=q3 rfl
    subst eb
    rw [e]
    exact .inr (.inr (.i x hx))
   |false=>
    rw [h2,cF] at h
    cases h3:((b.toNat:Int)==116) with
    |true=>
     rw [h3,cT,cT] at h
     have eb:=hb (n:=116) h3 (by omega)
     simp only [Option.some.injEq,Prod.mk.injEq] at h
     obtain ⟨⟨rfl,rfl⟩,rfl,_⟩:=h
     subst eb
     exact .inr (.inr (.b true))
    |false=>
     rw [h3,cF] at h
     cases h4:((b.toNat:Int)==102) with
     |true=>
      rw [h4,cT] at h
      have eb:=hb (n:=102) h4 (by omega)
      simp only [Option.some.injEq,Prod.mk.injEq] at h
      obtain ⟨⟨rfl,rfl⟩,rfl,_⟩:=h
      subst eb
      exact .inr (.inr (.b false))
     |false=>
      rw [h4,cF] at h
      cases h5:((b.toNat:Int)==115) with
      |true=>
       rw [h5,cT] at h
       have eb:=hb (n:=115) h5 (by omega)
       obtain ⟨x,d,r',b',q1,q2,q3⟩:=ow (k:=k) (by omega) (r:=l) (by omega) false 58
       rw [q1,bS,re (by omega),bS] at h
       simp only at h
       split at h
       ·rename_i hc
        obtain ⟨hb',h0,hx1⟩:=hc
        obtain ⟨_,hx,rfl,e,_⟩:=q3 hb'
        simp only [Option.some.injEq,Prod.mk.injEq] at h
        obtain ⟨⟨rfl,rfl⟩,hd,_⟩:=h
        have hlen:r'.length≤x.toNat:=by have:=congrArg List.length hd;simp at this;omega
        have hxl:x=(r'.length:Int):=by omega
        subst hxl
        rw [Int.toNat_natCast,List.take_length]
        subst eb
        rw [e,kB]
        have eb2:ct r'=UInt8.ofNat 115 :: (nG r'.length++58 :: r'):=by simp [ct]
        rw [←eb2]
        exact .inr (.inr (.s r'))
       ·simp at h
      |false=>
       rw [h5,cF] at h
       cases h6:((b.toNat:Int)==91) with
       |true=>
        rw [h6,cT] at h
        cases hr:aN.f aF k l false 93 (IntKind.i64.wrap (0+1)) with
        |none=>rw [hr] at h;cases h
        |some r=>
         rw [hr,bS] at h
         simp only [Option.some.injEq,Prod.mk.injEq] at h
         exact .inl h.1.1.symm
       |false=>
        rw [h6,cF] at h
        cases h7:((b.toNat:Int)==123) with
        |true=>
         rw [h7,cT] at h
         cases hr:aN.f aF k l false 125 (IntKind.i64.wrap (0+1)) with
         |none=>rw [hr] at h;cases h
         |some r=>
          rw [hr,bS] at h
          simp only [Option.some.injEq,Prod.mk.injEq] at h
          exact .inr (.inl h.1.1.symm)
        |false=>
         obtain ⟨k,rfl⟩:∃q,k=q+1:=⟨k - 1,by omega⟩
         rw [h7,cF,bU.f_eq,bS] at h
         simp at h
theorem Ai {k:Nat}(hk:70300≤k)(v:List UInt8):dD.f aF k v=some (0,[],700)∨∃kd ps,dD.f aF k v=some (kd,ps,0)∧v.length≤65536∧(kd=3∨kd=4∨g8 v kd ps):=by
 obtain ⟨k,rfl⟩:∃q,k=q+1:=⟨k - 1,by omega⟩
 rw [dD.f_eq]
 by_cases hl:v.length≤65536
 ·rw [dF (by omega),cF]
  obtain ⟨res,h1,h2⟩:=wK 5 (k:=k) (by omega) (by omega) 0 (by omega) v false (by omega)
  rw [h1,bS]
  obtain ⟨⟨kd,ps⟩,r',b'⟩:=res
  cases b' with
  |true=>exact .inl rfl
  |false=>
   simp only [Bool.not_false,cT]
   cases r' with
   |cons b l=>exact .inl rfl
   |nil=>exact .inr ⟨kd,ps,rfl,hl,Aj (by omega) (by omega) h1⟩
 ·rw [dT (by omega),cT];exact .inl rfl
theorem jT {k:Nat}(hk:70300≤k){v:List UInt8}(hl:v.length≤65536){kd:Int}{ps:List (List UInt8)}(h:g8 v kd ps)(h3:kd<3):dD.f aF k v=some (kd,ps,0):=by
 obtain ⟨k,rfl⟩:∃q,k=q+1:=⟨k - 1,by omega⟩
 have key:bJ.f aF k v false 0=some ((kd,ps),(([]:List UInt8),false)):=by
  obtain ⟨k,rfl⟩:∃q,k=q+1:=⟨k - 1,by omega⟩
  rw [bJ.f_eq,dF (by omega),cF,pH (by omega),bS]
  cases h with
  |n=>rfl
  |i x hx=>
   have e:gd x=105 :: (cB x++59 :: []):=rfl
   have hlen:=lX x
   rw [e]
   simp only [show (((105:UInt8).toNat:Int)==110)=false from rfl,show (((105:UInt8).toNat:Int)==105)=true from rfl,cT,cF]
   rw [uV (by omega) hx (.inr rfl) (by rw [List.length_append];simp only [List.length_cons,List.length_nil];omega),bS]
  |b b=>cases b<;>rfl
  |s l=>
   have e:ct l=115 :: (cB ((l.length:Nat):Int)++58 :: l):=by rw [kB];simp [ct]
   rw [e] at hl ⊢
   have hx:fe ((l.length:Nat):Int):=by
    rw [List.length_cons,List.length_append,List.length_cons] at hl
    unfold fe;omega
   simp only [show (((115:UInt8).toNat:Int)==110)=false from rfl,show (((115:UInt8).toNat:Int)==105)=false from rfl,show (((115:UInt8).toNat:Int)==116)=false from rfl,show (((115:UInt8).toNat:Int)==102)=false from rfl,show (((115:UInt8).toNat:Int)==115)=true from rfl,cT,cF]
   rw [uV (by omega) hx (.inl rfl) (by rw [List.length_cons] at hl;omega),bS,re (by omega),bS]
   simp only
   rw [if_pos ⟨trivial,by omega,by omega⟩,Int.toNat_natCast,List.take_length,List.drop_length]
  |l vs h=>omega
  |r vs h=>omega
 rw [dD.f_eq,dF (by omega),cF,key,bS]
 rfl
def qp (t:List bc)(i:Nat)(v:List UInt8):Prop:=
 v.length≤65536∧((v=[110]∧zK t i=true)∨(dy t i=0∧∃x,fe x∧v=gd x)∨(dy t i=1∧∃b,v=jz b)∨(dy t i=2∧∃l:List UInt8,l.length≤16∧v=ct l))
open Classical in
noncomputable def sN (t:List bc)(i:Nat)(v:List UInt8):Bool:=decide (qp t i v)
theorem mC {t:List bc}{i:Nat}{v:List UInt8}:sN t i v=true↔qp t i v:=by unfold sN;simp
theorem pY {t:List bc}{i:Nat}{v:List UInt8}{b:Bool}(h:b=true↔qp t i v):sN t i v=b:=by
 cases hb:b with
 |true=>exact mC.2 (h.1 hb)
 |false=>
  cases hf:sN t i v with
  |false=>rfl
  |true=>rw [h.2 (mC.1 hf)] at hb;cases hb
theorem qp.shape {t:List bc}{i:Nat}{v:List UInt8}(h:qp t i v):∃kd ps,g8 v kd ps∧kd<3∧((kd=-1∧zK t i=true)∨(kd=dy t i∧0≤kd∧∀l ps',kd=2→ps=l :: ps'→l.length≤16)):=by
 obtain ⟨_,⟨rfl,h⟩|⟨h,x,hx,rfl⟩|⟨h,b,rfl⟩|⟨h,l,hl,rfl⟩⟩:=h
 ·exact ⟨_,_,.n,by omega,.inl ⟨rfl,h⟩⟩
 ·exact ⟨_,_,.i x hx,by omega,.inr ⟨h.symm,by omega,fun _ _ h=>by omega⟩⟩
 ·exact ⟨_,_,.b b,by omega,.inr ⟨h.symm,by omega,fun _ _ h=>by omega⟩⟩
 ·refine ⟨_,_,.s l,by omega,.inr ⟨h.symm,by omega,fun l' ps' _ e=>?_⟩⟩
  simp only [List.cons.injEq] at e
  rw [←e.1];exact hl
theorem qp.of_shape {t:List bc}{i:Nat}{v:List UInt8}{kd:Int}{ps:List (List UInt8)}(hs:g8 v kd ps)(hl:v.length≤65536)(h3:kd<3)(h:(kd=-1∧zK t i=true)∨(kd=dy t i∧0≤kd∧∀l ps',kd=2→ps=l :: ps'→l.length≤16)):qp t i v:=by
 refine ⟨hl,?_⟩
 cases hs with
 |n=>
     rcases h with ⟨_,h⟩|⟨_,h,_⟩
     ·exact .inl ⟨rfl,h⟩
     ·omega
 |i x hx=>
       rcases h with ⟨h,_⟩|⟨h,_⟩
       ·omega
       ·exact .inr (.inl ⟨h.symm,x,hx,rfl⟩)
 |b b=>
      rcases h with ⟨h,_⟩|⟨h,_⟩
      ·omega
      ·exact .inr (.inr (.inl ⟨h.symm,b,rfl⟩))
 |s l=>
      rcases h with ⟨h,_⟩|⟨h,_,h'⟩
      ·omega
      ·exact .inr (.inr (.inr ⟨h.symm,l,h' l [] rfl rfl,rfl⟩))
 |l vs _=>omega
 |r vs _=>omega
theorem Gl {v:List UInt8}{kd:Int}{ps:List (List UInt8)}(hs:g8 v kd ps):-1≤kd∧kd≤4∧(kd=2→∃l,ps=[l]):=by
 cases hs with
 |s l=>exact ⟨by omega,by omega,fun _=>⟨l,rfl⟩⟩
 |_=>exact ⟨by omega,by omega,fun h=>by omega⟩
theorem zn {t:List bc}{i:Nat}(hm:jd t=true)(hi:i<t.length)(hin:c8 (dy t i)=false):dy t i=0∨dy t i=1∨dy t i=2:=by
 have:=(((iG t).1 hm).2.1 i hi).1
 unfold lZ at this
 simp only [Bool.and_eq_true,decide_eq_true_eq] at this
 unfold c8 at hin
 simp only [Bool.or_eq_false_iff,beq_eq_false_iff_ne] at hin
 omega
theorem tQ {k:Nat}{kd:Int}(hkd:kd≠3){ps:List (List UInt8)}{t:List bc}{ks:List Int}(hl:ps.length≤1000):∀(d i n:Nat),i+d=ps.length→d+1≤n→
  cY.l1 aF k n ps kd ((ps.length:Nat):Int) (i:Int) t ks=some (decide ((ps.length:Int)≤64))
 |0,i,n,h,hn=>by
  obtain ⟨n,rfl⟩:∃q,n=q+1:=⟨n - 1,by omega⟩
  rw [cY.l1_eq,dF (by omega),cF]
 |d+1,i,n,h,hn=>by
  obtain ⟨n,rfl⟩:∃q,n=q+1:=⟨n - 1,by omega⟩
  rw [cY.l1_eq,dT (by omega),cT,aP (by omega),bS,show (kd==3)=false by rw [beq_eq_false_iff_ne];exact hkd,cF,bu (by omega)]
  exact tQ hkd hl d (i+1) n (by omega) (by omega)
theorem FI {k:Nat}(hk:70400≤k){t:List bc}{i:Nat}(hn:cw t (i:Int)=true)(hi:i<t.length)(hm:jd t=true)(hin:c8 (dy t i)=false)(v:List UInt8):cY.f aF k t (i:Int) v=some (sN t i v):=by
 obtain ⟨k,rfl⟩:∃q,k=q+1:=⟨k - 1,by omega⟩
 have hkn:=zn hm hi hin
 rw [cY.f_eq,iC (by omega),bS,hn,Bool.not_true,cF]
 have uniq:∀{kd:Int}{ps:List (List UInt8)}{e:Int},dD.f aF k v=some (kd,ps,e)→qp t i v→e=0∧kd<3∧((kd=-1∧zK t i=true)∨(kd=dy t i∧0≤kd∧∀l ps',kd=2→ps=l :: ps'→l.length≤16)):=by
  intro kd ps e hp hf
  obtain ⟨kd',ps',h1,h2,h3⟩:=hf.shape
  rw [jT (by omega) hf.1 h1 h2] at hp
  simp only [Option.some.injEq,Prod.mk.injEq] at hp
  obtain ⟨rfl,rfl,rfl⟩:=hp
  exact ⟨rfl,h2,h3⟩
 rcases Ai (k:=k) (by omega) v with hp|⟨kd,ps,hp,hl,hs⟩
 ·rw [hp,bS,aP hi,bS]
  have:sN t i v=false:=pY ⟨(fun h=>by cases h),fun hf=>by have:=(uniq hp hf).1;omega⟩
  rw [this];rfl
 ·rw [hp,bS,aP hi,bS,jf hi,d5 hi]
  simp only [show (!((0:Int) != 0))=true from rfl,show ((0:Int)==0)=true from rfl,cT]
  cases h1:(kd==-1) with
  |true=>
   have e:kd=-1:=by simpa using h1
   rw [cT]
   congr 1
   refine (pY ⟨fun hb=>?_,fun hf=>?_⟩).symm
   ·rcases hs with h|h|h
    ·omega
    ·omega
    ·exact qp.of_shape h hl (by omega) (.inl ⟨e,hb⟩)
   ·rcases (uniq hp hf).2.2 with ⟨_,h⟩|⟨_,h,_⟩
    ·exact h
    ·omega
  |false=>
   have hne:kd≠-1:=by simpa using h1
   rw [cF,vK (by omega),bS]
   cases h2:(kd != dy t i) with
   |true=>
    have hne2:kd≠dy t i:=by simpa using h2
    rw [cT]
    have:sN t i v=false:=pY ⟨(fun h=>by cases h),fun hf=>by
     rcases (uniq hp hf).2.2 with ⟨h,_⟩|⟨h,_⟩
     ·exact absurd h hne
     ·exact absurd h hne2⟩
    rw [this]
   |false=>
    have he2:kd=dy t i:=by simpa using h2
    rw [cF]
    have hsh:g8 v kd ps:=by
     rcases hs with h|h|h
     ·omega
     ·omega
     ·exact h
    cases h3:(kd==2) with
    |true=>
     have e2:kd=2:=by simpa using h3
     obtain ⟨l,rfl⟩:=(Gl hsh).2.2 e2
     rw [cT,dT (by omega),dT (by simp),Bool.and_self,cT,show ([l]:List (List UInt8))[0]?=some l from rfl,bS]
     congr 1
     refine (pY ⟨fun hb=>?_,fun hf=>?_⟩).symm
     ·refine qp.of_shape hsh hl (by omega) (.inr ⟨he2,by omega,fun l' ps' _ e=>?_⟩)
      simp only [List.cons.injEq] at e
      rw [←e.1]
      have:=of_decide_eq_true hb;omega
     ·rcases (uniq hp hf).2.2 with ⟨h,_⟩|⟨_,_,h⟩
      ·exact absurd h hne
      ·have:=h l [] e2 rfl
       exact decide_eq_true (by omega)
    |false=>
     have e2:kd≠2:=by simpa using h3
     rw [cF,show (kd==4)=false by rw [beq_eq_false_iff_ne];omega,cF]
     have hps:ps.length=1:=by
      cases hsh with
      |n=>omega
      |i x hx=>rfl
      |b b=>rfl
      |s l=>rfl
      |l vs _=>omega
      |r vs _=>omega
     have hL:=tQ (k:=k) (kd:=kd) (by omega) (ps:=ps) (t:=t) (ks:=(mi t (i:Int)).1) (by omega) ps.length 0 k (by omega) (by omega)
     rw [show ((0:Nat):Int)=0 from rfl] at hL
     rw [hL]
     have:sN t i v=true:=mC.2 (qp.of_shape hsh hl (by omega) (.inr ⟨he2,by omega,fun _ _ h=>absurd h e2⟩))
     rw [this,dT (by omega)]
theorem AU {k:Nat}(hk:100500≤k){t:List bc}{i:Nat}(hn:cw t (i:Int)=true)(hi:i<t.length)(hm:jd t=true)(hin:c8 (dy t i)=false)(v:List UInt8):af.f aF k t (i:Int) v=some (sN t i v):=by
 have hkn:=zn hm hi hin
 have hlen:=fo hm
 have hti:((i:Int)).toNat=i:=Int.toNat_natCast i
 obtain ⟨b,h1,h2⟩:=uZ (t.length - i+1) (t:=t) (a:=(i:Int)) v (by rw [hti];omega) k (by omega)
 rw [h1]
 congr 1
 refine (pY ⟨fun hb=>?_,fun hf=>?_⟩).symm
 ·obtain ⟨V,hV,rfl,hl⟩:=h2 hb
  refine ⟨hl,?_⟩
  obtain ⟨_,hV⟩:=hV
  rw [hti] at hV
  cases V with
  |n=>exact .inl ⟨by rw [Vl.txt],hV⟩
  |i x=>exact .inr (.inl ⟨hV.1,x,hV.2,by rw [Vl.txt]⟩)
  |b c=>exact .inr (.inr (.inl ⟨hV,c,by rw [Vl.txt]⟩))
  |s l=>exact .inr (.inr (.inr ⟨hV.1,l,hV.2,by rw [Vl.txt]⟩))
  |l vs=>have:=hV.1;omega
  |r vs=>have:=hV.1;omega
 ·obtain ⟨hl,hc⟩:=hf
  have key:∀V:Vl,v=V.txt→ja 1 t (i:Int) V→b=true:=by
   intro V e hT
   have:=qG 1 (t:=t) (a:=(i:Int)) (v:=V) hT (by rw [←e];exact hl) k (by omega)
   rw [←e,h1] at this
   simpa using this
  rcases hc with ⟨rfl,h⟩|⟨h,x,hx,rfl⟩|⟨h,c,rfl⟩|⟨h,l,h16,rfl⟩
  ·exact key .n (by rw [Vl.txt]) ⟨hn,by rw [hti];exact h⟩
  ·exact key (.i x) (by rw [Vl.txt]) ⟨hn,by rw [hti];exact ⟨h,hx⟩⟩
  ·exact key (.b c) (by rw [Vl.txt]) ⟨hn,by rw [hti];exact h⟩
  ·exact key (.s l) (by rw [Vl.txt]) ⟨hn,by rw [hti];exact ⟨h,h16⟩⟩
end Go.Proofs.YtjkokaockhecnaaGreatDoorP

namespace Go.Proofs.YtjkokaockhecnaaGreatDoorP
open Go Go.Proofs.YtjkokaockhecnaaGreatDoorA
def bw (n:Int):Int:=if n<1 then 0 else if n<2 then 1 else if n<4 then 2 else if n<8 then 3 else 4
theorem Fh (n:Int):0≤bw n∧bw n≤4:=by unfold bw;split<;>(try split)<;>(try split)<;>(try split)<;>omega
theorem HS {n x:Int}(hn:n≤15)(h0:0≤x)(h1:x≤n):x<2 ^ (bw n).toNat:=by
 unfold bw
 split
 ·show x<1;omega
 ·split
  ·show x<2;omega
  ·split
   ·show x<4;omega
   ·split
    ·show x<8;omega
    ·show x<16;omega
theorem Ja (k:Nat):(List.range 16).map (fun n=>fN.f aF (k+2) (IntKind.u64.wrap ((n:Nat):Int)))=(List.range 16).map (fun n=>some (bw ((n:Nat):Int))):=by kernel_rfl
theorem vf {k:Nat}(hk:2≤k){n:Int}(h0:0≤n)(h1:n≤15):fN.f aF k (IntKind.u64.wrap n)=some (bw n):=by
 obtain ⟨k,rfl⟩:∃q,k=q+2:=⟨k - 2,by omega⟩
 obtain ⟨m,rfl⟩:∃m:Nat,n=(m:Int):=⟨n.toNat,by omega⟩
 exact List.map_inj_left.1 (Ja k) m (List.mem_range.2 (by omega))
theorem il {t:List bc}{a:Int}:0≤(bP t a).1∧(bP t a).1≤15∧0≤(bP t a).2.1∧(bP t a).2.1≤15:=by
 cases hn:cw t a with
 |false=>rw [IY hn];decide
 |true=>
  obtain ⟨hm,i,hi,rfl⟩:=c6 hn
  rw [H9 hm hi]
  have h1:=ta t (dx t (i:Int))
  have h2:=uB t (dx t (i:Int))
  have h3:=(((iG t).1 hm).2.2 i hi).2
  simp only
  omega
theorem s9 {k:Nat}(hk:12≤k)(x:Int):dM.f aF k x 4=some (w4 x):=by
 obtain ⟨k,rfl⟩:∃q,k=q+12:=⟨k - 12,by omega⟩
 exact M6 k x
theorem LG {k:Nat}(hk:12≤k)(x:Int):dM.f aF k x 8=some (w8 x):=by
 obtain ⟨k,rfl⟩:∃q,k=q+12:=⟨k - 12,by omega⟩
 exact M7 k x
theorem DZ {k:Nat}(hk:12≤k)(x:Int):dM.f aF k x 1=some (Gx x):=by
 obtain ⟨k,rfl⟩:∃q,k=q+12:=⟨k - 12,by omega⟩
 exact Ku k x
def DX (most:Int)(xs:List Int):Bool:=xs.all fun x=>decide (0≤x)&&decide (x≤most)
theorem qs {α:Type}(xs:List α)(p:α→Bool)(q:Nat→Bool)(h:∀i (hi:i<xs.length),q i=p xs[i]):(List.range xs.length).all q=xs.all p:=by
 rw [Bool.eq_iff_iff,List.all_eq_true,List.all_eq_true]
 constructor
 ·intro hq x hx
  obtain ⟨i,hi,rfl⟩:=List.mem_iff_getElem.1 hx
  rw [←h i hi];exact hq i (List.mem_range.2 hi)
 ·intro hp i hi
  have hi':=List.mem_range.1 hi
  rw [h i hi'];exact hp _ (List.getElem_mem hi')
theorem w9 {k:Nat}{xs:List Int}(hk:xs.length+3≤k)(hl:xs.length≤20000000000000)(most:Int):cv.f aF k xs most=some (DX most xs):=by
 obtain ⟨k,rfl⟩:∃q,k=q+1:=⟨k - 1,by omega⟩
 rw [cv.f_eq]
 have:=jF (F:=fun n i=>cv.l0 aF k n most xs (xs.length:Int) (i:Int)) (p:=fun i=>match xs[i]? with|some x=>decide (0≤x)&&decide (x≤most)|none=>false) (N:=xs.length) (E:=some true) (Z:=some false) ?_ ?_ k (by omega)
 ·refine this.trans ?_
  rw [qs xs (fun x=>decide (0≤x)&&decide (x≤most)) _ fun i hi=>by simp only [List.getElem?_eq_getElem hi]]
  unfold DX
  cases xs.all _<;>rfl
 ·intro n i hi _
  rw [cv.l0_eq,dT (by omega),cT,aP hi,bS,List.getElem?_eq_getElem hi]
  simp only
  by_cases h0:xs[i]<0
  ·rw [dT h0,Bool.not_true,cF,dF (show¬(0:Int)≤xs[i] by omega),Bool.false_and,cF]
  ·rw [dF h0,Bool.not_false,cT,dT (show (0:Int)≤xs[i] by omega),Bool.true_and]
   by_cases h1:xs[i]>most
   ·rw [dT h1,cT,dF (show¬xs[i]≤most by omega),cF]
   ·rw [dF h1,cF,dT (show xs[i]≤most by omega),cT,bu (by omega)]
 ·intro _ n
  rw [cv.l0_eq,dF (by omega),cF]
def vC (one:Int)(xs:List Int):Nat:=xs.countP fun x=>x==one
theorem ra (one:Int)(xs:List Int):vC one xs≤xs.length:=List.countP_le_length
theorem tC (one:Int){xs:List Int}{i:Nat}(h:i<xs.length):vC one (xs.take (i+1))=vC one (xs.take i)+(if xs[i]==one then 1 else 0):=by
 unfold vC
 rw [List.take_succ_eq_append_getElem h,List.countP_append,List.countP_cons,List.countP_nil]
 omega
theorem kL {k:Nat}{xs:List Int}(hk:xs.length+3≤k)(hl:xs.length≤20000000000000)(one:Int):cr.f aF k xs one=some ((vC one xs:Nat):Int):=by
 obtain ⟨k,rfl⟩:∃q,k=q+1:=⟨k - 1,by omega⟩
 rw [cr.f_eq]
 have:=cN (F:=fun n i=>cr.l0 aF k n one ((vC one (xs.take i):Nat):Int) xs (xs.length:Int) (i:Int)) (N:=xs.length) (r:=some ((vC one xs:Nat):Int)) ?_ ?_ k 0 (by omega) (by omega)
 ·simpa [vC] using this
 ·intro n i hi
  have hc:=tC one hi
  have hle:vC one (xs.take i)≤i:=Nat.le_trans (ra one _) (by rw [List.length_take];omega)
  rw [cr.l0_eq,dT (by omega),cT,aP hi,bS,bu (i:=i) (by omega),hc]
  cases hx:(xs[i]==one) with
  |true=>rw [cT,aK _ (by omega)];rfl
  |false=>rw [cF];rfl
 ·intro n
  rw [cr.l0_eq,dF (by omega),cF,List.take_length]
noncomputable def wm (t:List bc)(a:Int)(v:List UInt8):Bool:=(v != [110])&&sN t a.toNat v
noncomputable def fL (t:List bc)(a:Int)(c:Col):Bool:=
 (cw t a&&!c8 (dy t a.toNat))&&(decide (c.reps.length=c.defs.length)&&(decide (c.reps.length≤4096)&&(DX (bP t a).1 c.reps&&(DX (bP t a).2.1 c.defs&&(c.values.all (wm t a)&&decide (c.values.length=vC (bP t a).2.1 c.defs))))))
theorem nr {k:Nat}(hk:32≤k)(t:List bc)(a:Int):ik.f aF k t a=some (cw t a&&!c8 (dy t a.toNat)):=by
 obtain ⟨k,rfl⟩:∃q,k=q+1:=⟨k - 1,by omega⟩
 rw [ik.f_eq,iC (by omega),bS]
 cases hn:cw t a with
 |false=>rfl
 |true=>
  obtain ⟨hm,i,hi,rfl⟩:=c6 hn
  rw [cT,aP hi,bS,m9 (by omega),bS,d5 hi,Int.toNat_natCast,Bool.true_and]
theorem ze {k:Nat}{t:List bc}{a:Int}{c:Col}(hk:70500+c.values.length≤k)(hl:c.values.length≤20000000000000)(hd:c.reps.length≤20000000000000∧c.defs.length≤20000000000000):ey.f aF k t a c=some (fL t a c):=by
 obtain ⟨k,rfl⟩:∃q,k=q+1:=⟨k - 1,by omega⟩
 rw [ey.f_eq,fY (by omega),bS,nr (by omega),bS]
 unfold fL
 cases hn:cw t a&&!c8 (dy t a.toNat) with
 |false=>rfl
 |true=>
  rw [Bool.not_true,Bool.not_false,cT,Bool.true_and]
  by_cases h1:c.reps.length=c.defs.length
  ·rw [show (((c.reps.length:Nat):Int) != ((c.defs.length:Nat):Int))=false by rw [h1];simp,Bool.not_false,cT,dT h1,Bool.true_and]
   by_cases h2:c.reps.length≤4096
   ·rw [dF (by omega),Bool.not_false,cT,dT h2,Bool.true_and,w9 (by omega) (by omega),bS]
    cases h3:DX (bP t a).1 c.reps with
    |false=>rfl
    |true=>
     rw [Bool.not_true,Bool.not_false,cT,Bool.true_and,w9 (by omega) (by omega),bS]
     cases h4:DX (bP t a).2.1 c.defs with
     |false=>rfl
     |true=>
      rw [Bool.not_true,cF,Bool.true_and]
      rw [Bool.and_eq_true] at hn
      obtain ⟨hm,i,hi,rfl⟩:=c6 hn.1
      rw [Int.toNat_natCast] at hn
      have hin:c8 (dy t i)=false:=by simpa using hn.2
      have:=jF (F:=fun n j=>ey.l0 aF k n (i:Int) (bP t (i:Int)).2.1 c.values (c.values.length:Int) (j:Int) t c.reps c.defs) (p:=fun j=>match c.values[j]? with|some v=>wm t (i:Int) v|none=>false) (N:=c.values.length) (E:=some (decide (c.values.length=vC (bP t (i:Int)).2.1 c.defs))) (Z:=some false) ?_ ?_ k (by omega)
      ·refine this.trans ?_
       rw [qs c.values (wm t (i:Int)) _ fun j hj=>by simp only [List.getElem?_eq_getElem hj]]
       cases c.values.all (wm t (i:Int))<;>rfl
      ·intro n j hj _
       obtain ⟨k,rfl⟩:∃q,k=q+1:=⟨k - 1,by omega⟩
       rw [ey.l0_eq,dT (by omega),cT,aP hj,bS,kY.f_eq,bS,List.getElem?_eq_getElem hj]
       simp only [wm,Int.toNat_natCast]
       cases hx:(c.values[j]==[110]) with
       |true=>
        rw [Bool.not_true,cF,show (c.values[j] != [110])=false by simp [bne,hx],Bool.false_and,cF]
       |false=>
        rw [Bool.not_false,cT,show (c.values[j] != [110])=true by simp [bne,hx],Bool.true_and,FI (by omega) hn.1 hi hm hin,bS]
        cases sN t i c.values[j] with
        |false=>rfl
        |true=>rw [Bool.not_true,cF,bu (by omega),cT]
      ·intro _ n
       rw [ey.l0_eq,dF (by omega),cF,kL (by omega) (by omega),bS]
       congr 1
       rw [Bool.eq_iff_iff,beq_iff_eq,decide_eq_true_iff];omega
   ·rw [dT (by omega),Bool.not_true,cF,dF h2,Bool.false_and]
  ·rw [show (((c.reps.length:Nat):Int) != ((c.defs.length:Nat):Int))=true by rw [bne_iff_ne];omega,Bool.not_true,cF,dF h1,Bool.false_and]
theorem hY {k:Nat}(hk:32≤k)(t:List bc)(a:Int):c7.f aF k t a=some (cw t a&&!c8 (dy t a.toNat)):=by
 obtain ⟨k,rfl⟩:∃q,k=q+1:=⟨k - 1,by omega⟩
 rw [c7.f_eq,b7 (by omega),bS]
 cases hn:cw t a with
 |false=>rfl
 |true=>
  obtain ⟨hm,i,hi,rfl⟩:=c6 hn
  rw [cT,aP hi,bS,ej (by omega),bS,d5 hi,Int.toNat_natCast,Bool.true_and]
end Go.Proofs.YtjkokaockhecnaaGreatDoorP

namespace Go.Proofs.YtjkokaockhecnaaGreatDoorP
open Go Go.Proofs.YtjkokaockhecnaaGreatDoorA
theorem Dp {k:Nat}{t:List bc}{i:Nat}(hn:cw t (i:Int)=true)(hi:i<t.length)(hm:jd t=true)(hin:c8 (dy t i)=false){c:Col}(hk:100600≤k)(hl:c.values.length≤20000000000000)(q:Nat){n:Nat}(hq:c.values.length<n):
  ay.l2 aF k n (i:Int) ((q:Nat):Int) 0 t c.reps c.defs c.values=some (c.values.all (wm t (i:Int))&&decide (c.values.length=q)):=by
 have:=jF (F:=fun n j=>ay.l2 aF k n (i:Int) ((q:Nat):Int) (j:Int) t c.reps c.defs c.values) (p:=fun j=>match c.values[j]? with|some v=>wm t (i:Int) v|none=>false) (N:=c.values.length) (E:=some (decide (c.values.length=q))) (Z:=some false) ?_ ?_ n hq
 ·refine this.trans ?_
  rw [qs c.values (wm t (i:Int)) _ fun j hj=>by simp only [List.getElem?_eq_getElem hj]]
  cases c.values.all (wm t (i:Int))<;>rfl
 ·intro n j hj _
  rw [ay.l2_eq,dT (by omega),cT,aP hj,bS,List.getElem?_eq_getElem hj]
  simp only [wm,Int.toNat_natCast]
  cases hx:(c.values[j]==[110]) with
  |true=>rw [Bool.not_true,cF,show (c.values[j] != [110])=false by simp [bne,hx],Bool.false_and,cF]
  |false=>
   rw [Bool.not_false,cT,bS,show (c.values[j] != [110])=true by simp [bne,hx],Bool.true_and,AU (by omega) hn hi hm hin,bS]
   cases sN t i c.values[j] with
   |false=>rfl
   |true=>rw [Bool.not_true,cF,bu (by omega),cT]
 ·intro _ n
  rw [ay.l2_eq,dF (by omega),cF]
  congr 1
  rw [Bool.eq_iff_iff,beq_iff_eq,decide_eq_true_iff];omega
theorem Dh (xs ys:List Int)(h:xs.length=ys.length)(p q:Int→Bool):((List.range xs.length).all fun i=>match xs[i]?,ys[i]? with|some x,some y=>p x&&q y|_,_=>false)=(xs.all p&&ys.all q):=by
 rw [Bool.eq_iff_iff,Bool.and_eq_true,List.all_eq_true,List.all_eq_true,List.all_eq_true]
 constructor
 ·intro hq
  constructor
  ·intro x hx
   obtain ⟨i,hi,rfl⟩:=List.mem_iff_getElem.1 hx
   have:=hq i (List.mem_range.2 hi)
   rw [List.getElem?_eq_getElem hi,List.getElem?_eq_getElem (show i<ys.length by omega)] at this
   simp only [Bool.and_eq_true] at this
   exact this.1
  ·intro x hx
   obtain ⟨i,hi,rfl⟩:=List.mem_iff_getElem.1 hx
   have:=hq i (List.mem_range.2 (by omega))
   rw [List.getElem?_eq_getElem (show i<xs.length by omega),List.getElem?_eq_getElem hi] at this
   simp only [Bool.and_eq_true] at this
   exact this.2
 ·rintro ⟨h1,h2⟩ i hi
  have hi':=List.mem_range.1 hi
  rw [List.getElem?_eq_getElem hi',List.getElem?_eq_getElem (show i<ys.length by omega)]
  simp only [Bool.and_eq_true]
  exact ⟨h1 _ (List.getElem_mem _),h2 _ (List.getElem_mem _)⟩
theorem Dv {k:Nat}{t:List bc}{a:Int}{c:Col}(hk:100700+c.values.length≤k)(hl:c.values.length≤20000000000000):ay.f aF k t a c=some (fL t a c):=by
 obtain ⟨k,rfl⟩:∃q,k=q+1:=⟨k - 1,by omega⟩
 rw [ay.f_eq,hY (by omega),bS]
 unfold fL
 cases hn:cw t a&&!c8 (dy t a.toNat) with
 |false=>rfl
 |true=>
  rw [Bool.not_true,Bool.not_false,cT,Bool.true_and]
  by_cases h1:c.reps.length=c.defs.length
  ·rw [show (((c.reps.length:Nat):Int) != ((c.defs.length:Nat):Int))=false by rw [h1];simp,Bool.not_false,cT,dT h1,Bool.true_and]
   by_cases h2:c.reps.length≤4096
   ·rw [dF (by omega),cF,dT h2,Bool.true_and,iz (by omega),bS]
    rw [Bool.and_eq_true] at hn
    obtain ⟨hm,i,hi,rfl⟩:=c6 hn.1
    rw [Int.toNat_natCast] at hn
    have hin:c8 (dy t i)=false:=by simpa using hn.2
    have:=jF (F:=fun n j=>ay.l0 aF k n (i:Int) (bP t (i:Int)).1 (bP t (i:Int)).2.1 ((vC (bP t (i:Int)).2.1 (c.defs.take j):Nat):Int) (j:Int) t c.reps c.defs c.values)
     (p:=fun j=>match c.reps[j]?,c.defs[j]? with|some x,some y=>(decide (0≤x)&&decide (x≤(bP t (i:Int)).1))&&(decide (0≤y)&&decide (y≤(bP t (i:Int)).2.1))|_,_=>false)
     (N:=c.reps.length) (E:=some (c.values.all (wm t (i:Int))&&decide (c.values.length=vC (bP t (i:Int)).2.1 c.defs))) (Z:=some false) ?_ ?_ k (by omega)
    ·refine this.trans ?_
     rw [Dh c.reps c.defs h1 (fun x=>decide (0≤x)&&decide (x≤(bP t (i:Int)).1)) (fun y=>decide (0≤y)&&decide (y≤(bP t (i:Int)).2.1))]
     unfold DX
     cases c.reps.all _ with
     |false=>rfl
     |true=>
      cases c.defs.all _ with
      |false=>rfl
      |true=>rfl
    ·intro n j hj _
     have hj':j<c.defs.length:=by omega
     have hle:vC (bP t (i:Int)).2.1 (c.defs.take j)≤j:=Nat.le_trans (ra _ _) (by rw [List.length_take];omega)
     rw [ay.l0_eq,dT (by omega),cT,aP hj,aP hj',List.getElem?_eq_getElem hj,List.getElem?_eq_getElem hj']
     simp only [bS]
     by_cases q1:c.reps[j]<0
     ·rw [dT q1,Bool.not_true,cF,dF (show¬(0:Int)≤c.reps[j] by omega)];rfl
     ·rw [dF q1,Bool.not_false,cT,dT (show (0:Int)≤c.reps[j] by omega)]
      by_cases q2:c.reps[j]>(bP t (i:Int)).1
      ·rw [dT q2,Bool.not_true,cF,dF (show¬c.reps[j]≤(bP t (i:Int)).1 by omega)];rfl
      ·rw [dF q2,Bool.not_false,cT,dT (show c.reps[j]≤(bP t (i:Int)).1 by omega)]
       by_cases q3:c.defs[j]<0
       ·rw [dT q3,Bool.not_true,cF,dF (show¬(0:Int)≤c.defs[j] by omega)];rfl
       ·rw [dF q3,Bool.not_false,cT,dT (show (0:Int)≤c.defs[j] by omega)]
        by_cases q4:c.defs[j]>(bP t (i:Int)).2.1
        ·rw [dT q4,cT,dF (show¬c.defs[j]≤(bP t (i:Int)).2.1 by omega)];rfl
        ·rw [dF q4,cF,dT (show c.defs[j]≤(bP t (i:Int)).2.1 by omega),bu (i:=j) (by omega),tC _ hj']
         cases hx:(c.defs[j]==(bP t (i:Int)).2.1) with
         |true=>rw [cT,aK _ (by omega)];rfl
         |false=>rfl
    ·intro _ n
     rw [ay.l0_eq,dF (by omega),cF,h1,List.take_length]
     exact Dp hn.1 hi hm hin (by omega) hl _ (by omega)
   ·rw [dT (by omega),cT,dF h2,Bool.false_and]
  ·rw [show (((c.reps.length:Nat):Int) != ((c.defs.length:Nat):Int))=true by rw [bne_iff_ne];omega,Bool.not_true,cF,dF h1,Bool.false_and]
def I2 (x:Int):Int:=aB .xor .u32 (Int.fdiv x (2 ^ (min 1 IntKind.u32.bits))) (IntKind.u32.wrap (3988292384*(aB .and .u32 x 1)))
def CE:Nat→Int→Int
 |0,x=>x
 |n+1,x=>CE n (I2 x)
def Dx (x:Int)(b:UInt8):Int:=CE 8 (aB .xor .u32 x (IntKind.u32.wrap (b.toNat:Int)))
def fm (s:List UInt8):Int:=IntKind.i64.wrap (aB .xor .u32 (s.foldl Dx 4294967295) 4294967295)
theorem En {k m1:Nat}{s:List UInt8}{len i:Int}:∀(d j n:Nat) (x:Int),j+d=8→d+1≤n→cQ.l2 aF k m1 n s x len i (j:Int)=cQ.l0 aF k m1 s (CE d x) len (IntKind.i64.wrap (i+1))
 |0,j,n,x,h,hn=>by
  obtain ⟨n,rfl⟩:∃q,n=q+1:=⟨n - 1,by omega⟩
  rw [cQ.l2_eq,dF (by omega),cF];rfl
 |d+1,j,n,x,h,hn=>by
  obtain ⟨n,rfl⟩:∃q,n=q+1:=⟨n - 1,by omega⟩
  rw [cQ.l2_eq,dT (by omega),cT,bu (by omega)]
  exact En d (j+1) n (I2 x) (by omega) (by omega)
theorem xH {k:Nat}{s:List UInt8}(hk:s.length+12≤k)(hl:s.length≤1000000000000000):cQ.f aF k s=some (fm s):=by
 obtain ⟨k,rfl⟩:∃q,k=q+1:=⟨k - 1,by omega⟩
 rw [cQ.f_eq]
 have:=cN (F:=fun n i=>cQ.l0 aF k n s ((s.take i).foldl Dx 4294967295) (s.length:Int) (i:Int)) (N:=s.length) (r:=some (fm s)) ?_ ?_ k 0 (by omega) (by omega)
 ·simpa using this
 ·intro n i hi
  rw [cQ.l0_eq,dT (by omega),cT,aP hi,bS]
  have:=En (k:=k) (m1:=n) (s:=s) (len:=(s.length:Int)) (i:=(i:Int)) 8 0 k (aB .xor .u32 ((s.take i).foldl Dx 4294967295) (IntKind.u32.wrap (s[i].toNat:Int))) (by omega) (by omega)
  rw [show ((0:Nat):Int)=0 from rfl] at this
  rw [this,bu (by omega),List.take_succ_eq_append_getElem hi,List.foldl_append]
  rfl
 ·intro n
  rw [cQ.l0_eq,dF (by omega),cF,List.take_length]
  rfl
inductive PB:List UInt8→List UInt8→Prop
 |i (x:Int) (h:fe x):PB (gd x) (w8 x)
 |b (b:Bool):PB (jz b) (Gx (if b then 1 else 0))
 |s (l:List UInt8) (h:l.length≤16):PB (ct l) (w4 (l.length:Int)++l)
theorem PB.len {v b:List UInt8}(h:PB v b):b.length≤20:=by
 cases h with
 |i x h=>show 8≤20;omega
 |b b=>show 1≤20;omega
 |s l h=>rw [List.length_append,bm];omega
theorem qp.pb {t:List bc}{i:Nat}{v:List UInt8}(h:qp t i v)(hv:v≠[110]):∃b,PB v b:=by
 obtain ⟨_,⟨h,_⟩|⟨_,x,hx,rfl⟩|⟨_,b,rfl⟩|⟨_,l,hl,rfl⟩⟩:=h
 ·exact absurd h hv
 ·exact ⟨_,.i x hx⟩
 ·exact ⟨_,.b b⟩
 ·exact ⟨_,.s l hl⟩
theorem vr {k:Nat}(hk:70500≤k){v b:List UInt8}(h:PB v b)(hl:v.length≤65536):iq.f aF k v=some b:=by
 obtain ⟨k,rfl⟩:∃q,k=q+1:=⟨k - 1,by omega⟩
 rw [iq.f_eq]
 cases h with
 |i x hx=>
  rw [jT (by omega) hl (.i x hx) (by omega),bS]
  simp only [show ((0:Int)==0)=true from rfl,cT]
  rw [dT (by omega),dT (by simp),Bool.and_self,cT,show ([cB x]:List (List UInt8))[0]?=some (cB x) from rfl,bS,yS (by omega) hx,bS,LG (by omega),bS]
 |b b=>
  rw [jT (by omega) hl (.b b) (by omega),bS]
  simp only [show ((1:Int)==0)=false from rfl,show ((1:Int)==1)=true from rfl,cT,cF]
  rw [dT (by omega),dT (by simp),Bool.and_self,cT,show ([jz b]:List (List UInt8))[0]?=some (jz b) from rfl,bS]
  cases b with
  |true=>
   rw [show rd (jz true) 0=some 116 from rfl,bS,kL (by simp only [List.length_cons,List.length_nil];omega) (by simp),bS,DZ (by omega),bS]
   rfl
  |false=>
   rw [show rd (jz false) 0=some 102 from rfl,bS,kL (by simp only [List.length_cons,List.length_nil];omega) (by simp),bS,DZ (by omega),bS]
   rfl
 |s l h16=>
  rw [jT (by omega) hl (.s l) (by omega),bS]
  simp only [show ((2:Int)==0)=false from rfl,show ((2:Int)==1)=false from rfl,cF]
  rw [dT (by omega),dT (by simp),Bool.and_self,cT,show ([l]:List (List UInt8))[0]?=some l from rfl,bS,s9 (by omega),bS,cT,bS,dT (by rw [bm];omega),cT]
end Go.Proofs.YtjkokaockhecnaaGreatDoorP

namespace Go.Proofs.YtjkokaockhecnaaGreatDoorP
open Go Go.Proofs.YtjkokaockhecnaaGreatDoorA
noncomputable def jI (v:List UInt8):List UInt8:=(iq.f aF 80000 v).getD []
theorem PB.short {v b:List UInt8}(h:PB v b):v.length≤100:=by
 cases h with
 |i x h=>have:=lX x;unfold gd;simp only [List.length_append,List.length_cons,List.length_nil];omega
 |b b=>cases b<;>decide
 |s l h=>have:=qc l.length;unfold ct;simp only [List.length_append,List.length_cons,List.length_nil];omega
theorem PB.eq {v b:List UInt8}(h:PB v b):jI v=b:=by
 unfold jI
 rw [vr (by omega) h (by have:=h.short;omega)];rfl
theorem qE {t:List bc}{a:Int}{v:List UInt8}(h:wm t a v=true):PB v (jI v):=by
 unfold wm at h
 rw [Bool.and_eq_true,bne_iff_ne] at h
 obtain ⟨b,hb⟩:=(mC.1 h.2).pb h.1
 rw [hb.eq];exact hb
theorem eU {t:List bc}{a:Int}{c:Col}(h:fL t a c=true):∃i:Nat,a=(i:Int)∧i<t.length∧jd t=true∧cw t (i:Int)=true∧c8 (dy t i)=false∧c.reps.length=c.defs.length∧c.reps.length≤4096∧
  DX (bP t a).1 c.reps=true∧DX (bP t a).2.1 c.defs=true∧(∀v∈c.values,wm t a v=true)∧c.values.length=vC (bP t a).2.1 c.defs:=by
 unfold fL at h
 simp only [Bool.and_eq_true,decide_eq_true_eq,List.all_eq_true,Bool.not_eq_true'] at h
 obtain ⟨⟨h0,h1⟩,h2,h3,h4,h5,h6,h7⟩:=h
 obtain ⟨hm,i,hi,rfl⟩:=c6 h0
 rw [Int.toNat_natCast] at h1
 exact ⟨i,rfl,hi,hm,h0,h1,h2,h3,h4,h5,h6,h7⟩
theorem iK {t:List bc}{a:Int}{c:Col}(h:fL t a c=true):c.values.length≤4096:=by
 obtain ⟨i,_,_,_,_,_,h1,h2,_,_,_,h3⟩:=eU h
 have:=ra (bP t a).2.1 c.defs
 omega
theorem Kw {most:Int}(hm:most≤15){xs:List Int}(h:DX most xs=true):sO (bw most).toNat xs=true:=by
 unfold DX at h
 unfold sO
 rw [List.all_eq_true] at h ⊢
 intro x hx
 have:=h x hx
 simp only [Bool.and_eq_true,decide_eq_true_eq] at this
 unfold Bf
 rw [dT this.1,dT (HS hm this.1 this.2)];rfl
def lO (most:Int)(xs:List Int):List UInt8:=(jl (bw most) xs).1
theorem vY {k:Nat}(hk:1200020≤k){most:Int}(h0:0≤most)(h1:most≤15)(xs:List Int):gk.f aF k xs most=some (lO most xs):=by
 obtain ⟨k,rfl⟩:∃q,k=q+1:=⟨k - 1,by omega⟩
 rw [gk.f_eq,vf (by omega) h0 h1,bS,I4 (by omega),bS];rfl
theorem iE {most:Int}(h1:most≤15){xs:List Int}(hx:DX most xs=true)(hl:xs.length≤4096):jl (bw most) xs=(lO most xs,0)∧lO most xs=fM (bw most).toNat xs∧(lO most xs).length≤102400:=by
 have hb:=Fh most
 have ho:=Kw h1 hx
 have:=Ig (w:=(bw most).toNat) (by omega) hl ho
 rw [Int.toNat_of_nonneg hb.1] at this
 have e:lO most xs=fM (bw most).toNat xs:=by unfold lO;rw [this]
 refine ⟨by rw [this,e],e,?_⟩
 have:=zz (w:=(bw most).toNat) (by omega) xs.length xs (Nat.le_refl _) hl
 rw [e];omega
def mL (n r d:Nat):List UInt8:=(w4 (n:Int)++w4 (r:Int))++w4 (d:Int)
noncomputable def eO (t:List bc)(a:Int)(c:Col):List UInt8:=
 (mL c.reps.length (lO (bP t a).1 c.reps).length (lO (bP t a).2.1 c.defs).length++(lO (bP t a).1 c.reps++lO (bP t a).2.1 c.defs))++(c.values.map jI).flatten
noncomputable def eo (t:List bc)(a:Int)(c:Col):List UInt8×Int:=if fL t a c=true then (w4 (fm (eO t a c))++eO t a c,0) else ([],2200)
theorem gX (x y:List UInt8):bE x++bE y=bE (x++y):=by unfold bE;rw [List.map_append]
theorem jR (x:List UInt8):(bE x).length=x.length:=by unfold bE;rw [List.length_map]
theorem f7 {vs:List (List UInt8)}(h:∀v∈vs,PB v (jI v)):(vs.map jI).flatten.length≤20*vs.length:=by
 induction vs with
 |nil=>simp
 |cons v vs ih=>
  have h1:=(h v List.mem_cons_self).len
  have h2:=ih fun w hw=>h w (List.mem_cons_of_mem _ hw)
  simp only [List.map_cons,List.flatten_cons,List.length_append,List.length_cons]
  omega
theorem Ky {k:Nat}{vs:List (List UInt8)}(hv:∀v∈vs,PB v (jI v))(hl:vs.length≤4096){H:List UInt8}(hH:H.length≤1000000)(hk:1200000≤k){n:Nat}(hn:vs.length<n):
  bY.l2 aF k n vs (vs.length:Int) 0 (bE H)=some (w4 (fm (H++(vs.map jI).flatten))++(H++(vs.map jI).flatten),0):=by
 have hfl:=f7 hv
 have:=cN (F:=fun n i=>bY.l2 aF k n vs (vs.length:Int) (i:Int) (bE (H++((vs.take i).map jI).flatten))) (N:=vs.length) (r:=some (w4 (fm (H++(vs.map jI).flatten))++(H++(vs.map jI).flatten),0)) ?_ ?_ n 0 (by omega) (by omega)
 ·simpa using this
 ·intro n i hi
  have hb:=hv vs[i] (List.getElem_mem hi)
  have hft:=f7 (vs:=vs.take i) fun v h=>hv v (List.mem_of_mem_take h)
  rw [List.length_take] at hft
  have hbl:=hb.len
  rw [bY.l2_eq,dT (by omega),cT,aP hi,bS,vr (by omega) hb (by have:=hb.short;omega),bS,dT (by rw [jR,List.length_append];omega),cT,gX,bu (i:=i) (by omega)]
  congr 1
  rw [List.take_succ_eq_append_getElem hi,List.map_append,List.flatten_append,List.map_cons,List.map_nil,List.flatten_cons,List.flatten_nil,List.append_nil,List.append_assoc]
 ·intro n
  rw [bY.l2_eq,dF (by omega),cF,List.take_length,k5,xH (by rw [List.length_append];omega) (by rw [List.length_append];omega),bS,s9 (by omega),bS,dT (by rw [List.length_append,bm];omega),cT]
theorem sx {k:Nat}{t:List bc}{a:Int}{c:Col}(hk:1200100+c.values.length≤k)(hl:c.values.length≤20000000000000)(hd:c.reps.length≤20000000000000∧c.defs.length≤20000000000000):bY.f aF k t a c=some (eo t a c):=by
 obtain ⟨k,rfl⟩:∃q,k=q+1:=⟨k - 1,by omega⟩
 rw [bY.f_eq,ze (by omega) hl hd,bS]
 unfold eo
 cases hm:fL t a c with
 |false=>rfl
 |true=>
  obtain ⟨i,rfl,hi,hmt,hn,hin,h1,h2,h3,h4,h5,h6⟩:=eU hm
  have hvl:=iK hm
  obtain ⟨r0,r1,d0,d1⟩:=il (t:=t) (a:=(i:Int))
  obtain ⟨_,_,hr⟩:=iE r1 h3 h2
  obtain ⟨_,_,hdl⟩:=iE d1 h4 (by omega)
  rw [Bool.not_true,cF,if_pos rfl,fY (by omega),bS,vY (by omega) r0 r1,bS,vY (by omega) d0 d1,bS]
  obtain ⟨q,hq⟩:∃q,k=q+4:=⟨k - 4,by omega⟩
  have key:∀(A B C:Int) (r d:List UInt8),r.length≤102400→d.length≤102400→bY.l0 aF k (q+4) r d ((([A,B,C]:List Int).length:Nat):Int) 0 c.reps c.defs c.values ([]:List Int) [A,B,C]=
    bY.l2 aF k k c.values ((c.values.length:Nat):Int) 0 (bE (((w4 A++w4 B)++w4 C)++(r++d))):=by
   intro A B C r d hr hd
   rw [bY.l0_eq,dT (by simp),cT,dT (by omega),Bool.and_self,cT,show ([A,B,C]:List Int)[(0:Int).toNat]?=some A from rfl,bS,s9 (by omega),bS,dT (by simp [bm]),cT,show IntKind.i64.wrap (0+1)=1 from rfl,List.nil_append]
   rw [bY.l0_eq,dT (by simp),cT,dT (by omega),Bool.and_self,cT,show ([A,B,C]:List Int)[(1:Int).toNat]?=some B from rfl,bS,s9 (by omega),bS,dT (by rw [jR];simp [bm]),cT,show IntKind.i64.wrap (1+1)=2 from rfl,gX]
   rw [bY.l0_eq,dT (by simp),cT,dT (by omega),Bool.and_self,cT,show ([A,B,C]:List Int)[(2:Int).toNat]?=some C from rfl,bS,s9 (by omega),bS,dT (by rw [jR];simp [bm]),cT,show IntKind.i64.wrap (2+1)=3 from rfl,gX]
   rw [bY.l0_eq,dF (by simp),cF,dT (by omega),cT,dT (by rw [jR];simp only [List.length_append,bm];omega),cT,gX]
  have key':=key ((c.reps.length:Nat):Int) (((lO (bP t (i:Int)).1 c.reps).length:Nat):Int) (((lO (bP t (i:Int)).2.1 c.defs).length:Nat):Int) _ _ hr hdl
  rw [←hq] at key'
  rw [key',Ky (fun v hv=>qE (h5 v hv)) hvl (by simp only [List.length_append,bm];omega) (by omega) (by omega)]
  rfl
end Go.Proofs.YtjkokaockhecnaaGreatDoorP

namespace Go.Proofs.YtjkokaockhecnaaGreatDoorP
open Go Go.Proofs.YtjkokaockhecnaaGreatDoorA
theorem ES {k:Nat}(hk:400≤k):gV.f aF k=some true:=by
 obtain ⟨k,rfl⟩:∃q,k=q+400:=⟨k - 400,by omega⟩
 exact HH k
theorem wn {k:Nat}{a b:List Int}(hk:a.length+3≤k)(hl:a.length≤20000000000000):aV.f aF k a b=some (decide (a=b)):=by
 obtain ⟨k,rfl⟩:∃q,k=q+1:=⟨k - 1,by omega⟩
 rw [aV.f_eq]
 by_cases h:a.length=b.length
 ·rw [show (((a.length:Nat):Int) != ((b.length:Nat):Int))=false by rw [h];simp,cF]
  have:=jF (F:=fun n i=>aV.l0 aF k n a b (i:Int)) (p:=fun i=>decide (a[i]?=b[i]?)) (N:=a.length) (E:=some true) (Z:=some false) ?_ ?_ k (by omega)
  ·refine this.trans ?_
   have e:(List.range a.length).all (fun i=>decide (a[i]?=b[i]?))=decide (a=b):=by
    rw [Bool.eq_iff_iff,List.all_eq_true,decide_eq_true_iff]
    constructor
    ·intro hq
     refine List.ext_getElem? fun i=>?_
     rcases Nat.lt_or_ge i a.length with hi|hi
     ·simpa using hq i (List.mem_range.2 hi)
     ·rw [List.getElem?_eq_none hi,List.getElem?_eq_none (by omega)]
    ·rintro rfl i _;simp
   rw [e]
   cases decide (a=b)<;>rfl
  ·intro n i hi _
   rw [aV.l0_eq,dT (by omega),cT,aP hi,bS,aP (show i<b.length by omega),bS,List.getElem?_eq_getElem hi,List.getElem?_eq_getElem (show i<b.length by omega)]
   by_cases hx:a[i]=b[i]
   ·rw [show (a[i] != b[i])=false by rw [hx];simp,cF,dT (by rw [hx]),cT,bu (by omega)]
   ·rw [show (a[i] != b[i])=true by rw [bne_iff_ne];exact hx,cT,dF (by simpa using hx),cF]
  ·intro _ n
   rw [aV.l0_eq,dF (by omega),cF]
 ·rw [show (((a.length:Nat):Int) != ((b.length:Nat):Int))=true by rw [bne_iff_ne];omega,cT,dF (by rintro rfl;exact h rfl)]
theorem AH {k:Nat}{a b:List (List UInt8)}(hk:a.length+3≤k)(hl:a.length≤20000000000000):aY.f aF k a b=some (decide (a=b)):=by
 obtain ⟨k,rfl⟩:∃q,k=q+1:=⟨k - 1,by omega⟩
 rw [aY.f_eq]
 by_cases h:a.length=b.length
 ·rw [show (((a.length:Nat):Int) != ((b.length:Nat):Int))=false by rw [h];simp,cF]
  have:=jF (F:=fun n i=>aY.l0 aF k n a b (i:Int)) (p:=fun i=>decide (a[i]?=b[i]?)) (N:=a.length) (E:=some true) (Z:=some false) ?_ ?_ k (by omega)
  ·refine this.trans ?_
   have e:(List.range a.length).all (fun i=>decide (a[i]?=b[i]?))=decide (a=b):=by
    rw [Bool.eq_iff_iff,List.all_eq_true,decide_eq_true_iff]
    constructor
    ·intro hq
     refine List.ext_getElem? fun i=>?_
     rcases Nat.lt_or_ge i a.length with hi|hi
     ·simpa using hq i (List.mem_range.2 hi)
     ·rw [List.getElem?_eq_none hi,List.getElem?_eq_none (by omega)]
    ·rintro rfl i _;simp
   rw [e]
   cases decide (a=b)<;>rfl
  ·intro n i hi _
   rw [aY.l0_eq,dT (by omega),cT,aP hi,bS,aP (show i<b.length by omega),bS,List.getElem?_eq_getElem hi,List.getElem?_eq_getElem (show i<b.length by omega)]
   by_cases hx:a[i]=b[i]
   ·rw [show (a[i] != b[i])=false by rw [hx];simp,cF,dT (by rw [hx]),cT,bu (by omega)]
   ·rw [show (a[i] != b[i])=true by rw [bne_iff_ne];exact hx,cT,dF (by simpa using hx),cF]
  ·intro _ n
   rw [aY.l0_eq,dF (by omega),cF]
 ·rw [show (((a.length:Nat):Int) != ((b.length:Nat):Int))=true by rw [bne_iff_ne];omega,cT,dF (by rintro rfl;exact h rfl)]
theorem Col.eq_iff {c d:Col}:c=d↔c.reps=d.reps∧c.defs=d.defs∧c.values=d.values:=by
 cases c;cases d
 simp only [Col.mk.injEq]
open Classical in
theorem Fp {k:Nat}{c d:Col}(hk:c.reps.length+c.defs.length+c.values.length+5≤k)(hl:c.reps.length≤20000000000000∧c.defs.length≤20000000000000∧c.values.length≤20000000000000):
  cd.f aF k c d=some (decide (c=d)):=by
 obtain ⟨k,rfl⟩:∃q,k=q+1:=⟨k - 1,by omega⟩
 rw [cd.f_eq,wn (by omega) hl.1,bS]
 by_cases h1:c.reps=d.reps
 ·rw [dT h1,cT,wn (by omega) hl.2.1,bS]
  by_cases h2:c.defs=d.defs
  ·rw [dT h2,cT,AH (by omega) hl.2.2,bS]
   by_cases h3:c.values=d.values
   ·rw [dT h3,dT (Col.eq_iff.2 ⟨h1,h2,h3⟩)]
   ·rw [dF h3,dF fun e=>h3 (Col.eq_iff.1 e).2.2]
  ·rw [dF h2,cF,dF fun e=>h2 (Col.eq_iff.1 e).2.1]
 ·rw [dF h1,cF,dF fun e=>h1 (Col.eq_iff.1 e).1]
theorem PB.kind {t:List bc}{i:Nat}{v:List UInt8}(h:wm t (i:Int) v=true):(dy t i=0∧∃x,fe x∧v=gd x∧jI v=w8 x)∨(dy t i=1∧∃b,v=jz b∧jI v=Gx (if b then 1 else 0))∨(dy t i=2∧∃l:List UInt8,l.length≤16∧v=ct l∧jI v=w4 (l.length:Int)++l):=by
 unfold wm at h
 rw [Bool.and_eq_true,bne_iff_ne,Int.toNat_natCast] at h
 obtain ⟨_,⟨e,_⟩|⟨e,x,hx,rfl⟩|⟨e,b,rfl⟩|⟨e,l,hl,rfl⟩⟩:=mC.1 h.2
 ·exact absurd e h.1
 ·exact .inl ⟨e,x,hx,rfl,(PB.i x hx).eq⟩
 ·exact .inr (.inl ⟨e,b,rfl,(PB.b b).eq⟩)
 ·exact .inr (.inr ⟨e,l,hl,rfl,(PB.s l hl).eq⟩)
theorem HC {t:List bc}{a:Int}{c:Col}(h:fL t a c=false):eo t a c=([],2200):=by unfold eo;rw [if_neg (by rw [h];simp)]
theorem HG {t:List bc}{a:Int}{c:Col}(h:fL t a c=true):(eo t a c).2=0:=by unfold eo;rw [if_pos h]
end Go.Proofs.YtjkokaockhecnaaGreatDoorP
