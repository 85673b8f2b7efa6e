/- What the functions below the laws answer, in plain lists and numbers; no condition but the sizes that a machine has. The law ChunkOrder; no condition but the sizes that a machine has. -/
import Derived.Test.YtjkokaockhecnaaGreatDoorPPh0
import Derived.Laws.BitsLemmas
import Derived.KernelRfl
import Derived.Lib.AtoiAllCases
namespace Go.Proofs.YtjkokaockhecnaaGreatDoorP
open Go Go.Proofs.YtjkokaockhecnaaGreatDoorA
theorem index_hit (c:UInt8):∀(p q:List UInt8),c ∉ p→Lib.index (p++c :: q) [c]=(p.length:Int)
 |[],q,_=>by simp [Lib.index,List.isPrefixOf]
 |b :: p,q,h=>by
  have hb:¬c=b:=fun e=>h (by rw [e];exact List.mem_cons_self)
  have ih:=index_hit c p q fun hm=>h (List.mem_cons_of_mem _ hm)
  rw [List.cons_append,Lib.index,ih]
  have e1:List.isPrefixOf [c] (b :: (p++c :: q))=false:=by simp [List.isPrefixOf,hb]
  rw [e1]
  have e2:(((p.length:Nat):Int)==-1)=false:=by rw [beq_eq_false_iff_ne];omega
  rw [e2]
  simp
theorem index_miss (c:UInt8):∀(s:List UInt8),c ∉ s→Lib.index s [c]=-1
 |[],_=>by simp [Lib.index]
 |b :: s,h=>by
  have hb:¬c=b:=fun e=>h (by rw [e];exact List.mem_cons_self)
  have ih:=index_miss c s fun hm=>h (List.mem_cons_of_mem _ hm)
  rw [Lib.index,ih]
  have e1:List.isPrefixOf [c] (b :: s)=false:=by simp [List.isPrefixOf,hb]
  rw [e1]
  simp
theorem cut_hit {c:UInt8}{p q:List UInt8}(h:c ∉ p):Lib.cut (p++c :: q) [c]=(p,q,true):=by
 unfold Lib.cut
 rw [index_hit c p q h,if_pos (by omega),Int.toNat_natCast]
 simp
theorem cut_miss {c:UInt8}{s:List UInt8}(h:c ∉ s):Lib.cut s [c]=(s,[],false):=by
 unfold Lib.cut
 rw [index_miss c s h,if_neg (by omega)]
theorem cut_any (c:UInt8):∀(s:List UInt8),(∃p q,s=p++c :: q∧c ∉ p)∨c ∉ s
 |[]=>.inr (by simp)
 |b :: s=>by
  by_cases hb:c=b
  ·subst hb;exact .inl ⟨[],s,rfl,by simp⟩
  ·rcases cut_any c s with ⟨p,q,rfl,h⟩|h
   ·exact .inl ⟨b :: p,q,rfl,by simp [hb,h]⟩
   ·exact .inr (by simp [hb,h])
theorem Cut_ok {k:Nat}(hk:1≤k){s sep:List UInt8}(hs:s.length≤4000000000):strings_Cut.f aS k s sep=some (Lib.cut s sep):=by
 obtain ⟨k,rfl⟩:∃q,k=q+1:=⟨k - 1,by omega⟩
 rw [strings_Cut.f_eq]
 unfold pu
 rw [dT (by omega)];rfl
theorem vItoa_ok {k:Nat}(hk:1≤k){x:Int}(h:jJ x):strconv_Itoa.f aS k x=some (eW x):=by
 obtain ⟨k,rfl⟩:∃q,k=q+1:=⟨k - 1,by omega⟩
 obtain ⟨h0,h1⟩:=h
 rw [strconv_Itoa.f_eq]
 unfold mq
 rw [dT h0,dT h1,BX h0 h1];rfl
theorem atoiSat_in (l:List UInt8):jJ (Lib.atoiSat l):=by unfold Lib.atoiSat jJ;split<;>omega
theorem Atoi_any {k:Nat}(hk:1≤k){l:List UInt8}(hl:l.length≤4000000000):∃x b,cL.f aS k l=some (x,b)∧jJ x:=by
 obtain ⟨k,rfl⟩:∃q,k=q+1:=⟨k - 1,by omega⟩
 rw [cL.f_eq]
 unfold kz
 rw [dT (by omega)]
 simp only [cond]
 split
 ·rename_i v hv;exact ⟨_,_,rfl,Lib.atoiAll_bounds hv⟩
 ·exact ⟨_,_,rfl,by unfold jJ;omega⟩
 ·exact ⟨_,_,rfl,atoiSat_in l⟩
theorem parse_dbytes:∀(ds:List Nat) (acc:Nat),(∀d∈ds,d<10)→ds.foldl (fun a d=>10*a+d) acc<18446744073709551616→Lib.parseUint10 acc (jt ds)=.ok (ds.foldl (fun a d=>10*a+d) acc)
 |[],acc,_,_=>rfl
 |d :: ds,acc,h,hv=>by
  have hd:=h d List.mem_cons_self
  have mono:∀(ds:List Nat) (a:Nat),a≤ds.foldl (fun a d=>10*a+d) a:=by
   intro ds
   induction ds with
   |nil=>intro a;exact Nat.le_refl _
   |cons d ds ih=>intro a;exact Nat.le_trans (by omega) (ih (10*a+d))
  have hm:=mono ds (10*acc+d)
  rw [List.foldl_cons] at hv ⊢
  have e:jt (d :: ds)=UInt8.ofNat (48+d) :: jt ds:=rfl
  have ec:(UInt8.ofNat (48+d)).toNat=48+d:=by rw [UInt8.toNat_ofNat'];omega
  rw [e,Lib.parseUint10,ec,if_pos (by omega),if_neg (by omega),if_neg (by omega),show acc*10+(48+d - 48)=10*acc+d by omega]
  exact parse_dbytes ds _ (fun x hx=>h x (List.mem_cons_of_mem _ hx)) hv
theorem atoi_dig {x:Int}(h:jJ x):Lib.atoiAll (eW x)=.ok x:=by
 obtain ⟨h0,h1⟩:=h
 have p19:(10:Nat) ^ 19=10000000000000000000:=by decide
 have key:∀n:Nat,n<10 ^ 19→Lib.parseMag (wm n)=.ok n∧∃b r,wm n=b :: r∧48≤b.toNat∧b.toNat≤57:=by
  intro n hn
  obtain ⟨v1,v2,v3⟩:=qj 19 n hn (by omega)
  rw [qf hn]
  have hp:=parse_dbytes (ox 19 n) 0 v2 (by unfold lD at v1;rw [v1];omega)
  unfold lD at v1
  rw [v1] at hp
  cases hq:ox 19 n with
  |nil=>exact absurd hq v3
  |cons d ds=>
   rw [hq] at hp v2
   have hd:=v2 d List.mem_cons_self
   have e:jt (d :: ds)=UInt8.ofNat (48+d) :: jt ds:=rfl
   have ec:(UInt8.ofNat (48+d)).toNat=48+d:=by rw [UInt8.toNat_ofNat'];omega
   refine ⟨?_,_,_,e,by omega,by omega⟩
   unfold Lib.parseMag
   rw [if_neg (by rw [e];simp)]
   exact hp
 unfold eW
 by_cases hx:x<0
 ·rw [if_pos hx]
  obtain ⟨k1,_⟩:=key x.natAbs (by omega)
  unfold Lib.atoiAll
  simp only [show (45:UInt8).toNat=45 from rfl,or_true,if_true,k1]
  rw [if_neg (by simp),if_neg (by simp;omega)]
  congr 1;omega
 ·rw [if_neg hx]
  obtain ⟨k1,b,r,e,c1,c2⟩:=key x.toNat (by omega)
  rw [e] at k1 ⊢
  unfold Lib.atoiAll
  simp only
  rw [if_neg (show¬(b.toNat=43∨b.toNat=45) by omega),k1]
  simp only
  rw [if_neg (by omega),if_neg (by omega),if_neg (by omega)]
  congr 1;omega
theorem Atoi_dig {k:Nat}(hk:1≤k){x:Int}(h:jJ x):cL.f aS k (eW x)=some (x,false):=by
 obtain ⟨k,rfl⟩:∃q,k=q+1:=⟨k - 1,by omega⟩
 have hl:=mD x
 rw [cL.f_eq]
 unfold kz
 rw [dT (by omega),atoi_dig h];rfl
theorem number_any {k:Nat}(hk:2≤k){r:List UInt8}(hr:r.length≤4000000000)(bad:Bool)(c:UInt8):
  ∃x d r' b',aL.f aS k r bad [c]=some ((x,d),(r',b'))∧r'.length≤r.length∧(b'=false→bad=false∧jJ x∧d=eW x∧r=eW x++c :: r'∧c ∉ eW x):=by
 obtain ⟨k,rfl⟩:∃q,k=q+1:=⟨k - 1,by omega⟩
 rw [aL.f_eq,Cut_ok (by omega) hr,bS]
 rcases cut_any c r with ⟨p,q,rfl,hc⟩|hc
 ·rw [cut_hit hc]
  have hl:p.length≤4000000000:=by rw [List.length_append] at hr;omega
  obtain ⟨x,b,ha,hx⟩:=Atoi_any (k:=k) (by omega) hl
  have hq:q.length≤(p++c :: q).length:=by rw [List.length_append,List.length_cons];omega
  simp only [ha,bS,Bool.not_true,Bool.not_false,cT]
  cases b with
  |true=>simp only [Bool.not_true,cF];exact ⟨_,_,_,_,rfl,hq,(fun h=>by cases h)⟩
  |false=>
   simp only [Bool.not_false,cT,vItoa_ok (show 1≤k by omega) hx,bS]
   cases he:(eW x != p) with
   |true=>simp only [cT];exact ⟨_,_,_,_,rfl,hq,(fun h=>by cases h)⟩
   |false=>
    simp only [cF]
    have e:eW x=p:=by simpa using he
    exact ⟨_,_,_,_,rfl,hq,fun h=>⟨h,hx,e.symm,by rw [e],by rw [e];exact hc⟩⟩
 ·rw [cut_miss hc]
  obtain ⟨x,b,ha,hx⟩:=Atoi_any (k:=k) (by omega) hr
  simp only [ha,bS,Bool.not_true,Bool.not_false,cT,cF]
  exact ⟨_,_,_,_,rfl,by simp,(fun h=>by cases h)⟩
theorem number_dig {k:Nat}(hk:2≤k){x:Int}(hx:jJ x){c:UInt8}(hc:c=58∨c=59){r:List UInt8}(hr:(eW x++c :: r).length≤4000000000):
  aL.f aS k (eW x++c :: r) false [c]=some ((x,eW x),(r,false)):=by
 obtain ⟨k,rfl⟩:∃q,k=q+1:=⟨k - 1,by omega⟩
 have hn:c ∉ eW x:=by
  intro hm
  obtain ⟨_,h2⟩:=vL hx.1 hx.2
  have:=h2 c hm
  rcases hc with rfl|rfl
  ·exact this.1 rfl
  ·exact this.2 rfl
 rw [aL.f_eq,Cut_ok (by omega) hr,bS,cut_hit hn]
 simp only [Atoi_dig (show 1≤k by omega) hx,bS,Bool.not_true,Bool.not_false,cT,vItoa_ok (show 1≤k by omega) hx,bne_self_eq_false,cF]
theorem vbytes_ok {k:Nat}(hk:1≤k)(r:List UInt8)(bad:Bool)(n:Int):bP.f aS k r bad n=
  some (if bad=false∧0≤n∧n≤(r.length:Int) then (r.take n.toNat,(r.drop n.toNat,false)) else ([],(r,true))):=by
 obtain ⟨k,rfl⟩:∃q,k=q+1:=⟨k - 1,by omega⟩
 rw [bP.f_eq]
 cases bad with
 |true=>simp
 |false=>
  rw [Bool.not_false,cT]
  by_cases h0:n<0
  ·rw [dT h0,Bool.not_true,cF,if_neg (by omega)]
  ·rw [dF h0,Bool.not_false,cT]
   by_cases h1:n>(r.length:Int)
   ·rw [dT h1,cT,if_neg (by omega)]
   ·rw [dF h1,cF,dT (show (0:Int)≤n by omega),dT (show n≤(r.length:Int) by omega),Bool.and_self,cT,cT,if_pos ⟨rfl,by omega,by omega⟩,List.drop_zero,List.take_length]
theorem vbyte_ok {k:Nat}(hk:1≤k)(r:List UInt8)(bad:Bool):bn.f aS k r bad=some (match r with|[]=>(0,([],true))|b :: l=>((b.toNat:Int),(l,bad))):=by
 obtain ⟨k,rfl⟩:∃q,k=q+1:=⟨k - 1,by omega⟩
 rw [bn.f_eq]
 cases r with
 |nil=>rfl
 |cons b l=>
  have e:((b :: l)==([]:List UInt8))=false:=rfl
  rw [e,cF,show rd (b :: l) 0=some b from rfl,bS,dT (by omega),dT (by simp only [List.length_cons];omega),Bool.and_self,cT,List.take_length]
  rfl
def Taken (w:Int)(r:List UInt8)(bad:Bool)(res:(Int×List (List UInt8))×(List UInt8×Bool)):Prop:=
 res.2.1.length≤r.length∧(res.2.2=false→bad=false∧res.2.1.length<r.length)∧(bad=true→res.2.2=true)
theorem row_l0 {k:Nat}{w:Int}(hv:∀(r:List UInt8) (bad:Bool),r.length≤70000→∃res,aK.f aS k r bad w=some res∧Taken w r bad res)(hk:1≤k)(c:Int):
  ∀(m:Nat) (r:List UInt8) (bad:Bool) (out:List (List UInt8)) (n:Nat),r.length≤m→m≤70000→out.length+r.length≤70000→m+2≤n→
   ∃res,am.l0 aS k n c w r bad out=some res∧res.2.1.length≤r.length∧(res.2.2=false→bad=false∧res.2.1.length<r.length)∧(bad=true→res.2.2=true):=by
 have fin:∀(r:List UInt8) (bad:Bool) (out:List (List UInt8)),∃res:List (List UInt8)×(List UInt8×Bool),((bn.f aS k r bad).bind fun r_4=>some (out,(r_4.2.1,r_4.2.2)))=some res∧res.2.1.length≤r.length∧(res.2.2=false→bad=false∧res.2.1.length<r.length)∧(bad=true→res.2.2=true):=by
  intro r bad out
  rw [vbyte_ok hk,bS]
  cases r with
  |nil=>exact ⟨_,rfl,Nat.le_refl _,(fun h=>by cases h),fun _=>rfl⟩
  |cons b l=>exact ⟨_,rfl,by simp,fun h=>⟨h,by simp⟩,fun h=>h⟩
 intro m
 induction m with
 |zero=>
  intro r bad out n h1 h2 h3 h4
  obtain ⟨n,rfl⟩:∃q,n=q+1:=⟨n - 1,by omega⟩
  rw [am.l0_eq]
  have hr:r=[]:=List.length_eq_zero_iff.1 (by omega)
  subst hr
  cases bad with
  |true=>rw [Bool.not_true,cF];exact fin _ _ _
  |false=>rw [Bool.not_false,cT,show (([]:List UInt8) != [])=false from rfl,cF];exact fin _ _ _
 |succ m ih=>
  intro r bad out n h1 h2 h3 h4
  obtain ⟨n,rfl⟩:∃q,n=q+1:=⟨n - 1,by omega⟩
  rw [am.l0_eq]
  cases bad with
  |true=>rw [Bool.not_true,cF];exact fin _ _ _
  |false=>
   rw [Bool.not_false,cT]
   cases r with
   |nil=>rw [show (([]:List UInt8) != [])=false from rfl,cF];exact fin _ _ _
   |cons b l=>
    rw [show ((b :: l) != ([]:List UInt8))=true from rfl,cT,show rd (b :: l) 0=some b from rfl,bS]
    cases hb:((b.toNat:Int) != c) with
    |false=>rw [cF];exact fin _ _ _
    |true=>
     rw [cT]
     obtain ⟨res,e,t1,t2,t3⟩:=hv (b :: l) false (by omega)
     rw [e,bS]
     have hl:((b :: l).length:Int) - (res.2.1.length:Int)=(((b :: l).length - res.2.1.length:Nat):Int):=by omega
     rw [hl,b9 _ (by omega),dT (by omega),dT (by omega),Bool.and_self,cT,dT (by simp only [List.length_cons,List.length_nil];simp only [List.length_cons] at h3;omega),cT]
     cases hbad:res.2.2 with
     |true=>
      -- the next round ends it
      obtain ⟨n,rfl⟩:∃q,n=q+1:=⟨n - 1,by omega⟩
      rw [am.l0_eq,Bool.not_true,cF]
      obtain ⟨res',e',q1,q2,q3⟩:=fin res.2.1 true (out++[List.drop 0 (List.take ((((b :: l).length - res.2.1.length:Nat):Int)).toNat (b :: l))])
      exact ⟨res',e',by omega,(fun h=>by rw [q3 rfl] at h;cases h),(fun h=>by cases h)⟩
     |false=>
      obtain ⟨_,t4⟩:=t2 hbad
      obtain ⟨res',e',q1,q2,q3⟩:=ih res.2.1 false (out++[List.drop 0 (List.take ((((b :: l).length - res.2.1.length:Nat):Int)).toNat (b :: l))]) n (by omega) (by omega) (by simp only [List.length_append,List.length_cons,List.length_nil] at h3 ⊢;simp only [List.length_cons] at t4;omega) (by omega)
      exact ⟨res',e',by omega,fun h=>⟨rfl,by have:=(q2 h).2;omega⟩,(fun h=>by cases h)⟩
theorem value_tot:∀(e:Nat) {k:Nat},e≤10→70100+3*e≤k→∀(w:Int),w+e=5→∀(r:List UInt8) (bad:Bool),r.length≤70000→∃res,aK.f aS k r bad w=some res∧Taken w r bad res
 |0,k,_,hk,w,hw,r,bad,hr=>by
  obtain ⟨k,rfl⟩:∃q,k=q+2:=⟨k - 2,by omega⟩
  rw [aK.f_eq,dT (by omega),cT,aU.f_eq,bS]
  exact ⟨_,rfl,Nat.le_refl _,(fun h=>by cases h),fun _=>rfl⟩
 |e+1,k,he,hk,w,hw,r,bad,hr=>by
  obtain ⟨k,rfl⟩:∃q,k=q+1:=⟨k - 1,by omega⟩
  rw [aK.f_eq,dF (by omega),cF,vbyte_ok (by omega),bS]
  cases r with
  |nil=>
   simp only [show ((0:Int)==110)=false from rfl,show ((0:Int)==105)=false from rfl,show ((0:Int)==116)=false from rfl,show ((0:Int)==102)=false from rfl,show ((0:Int)==115)=false from rfl,show ((0:Int)==91)=false from rfl,show ((0:Int)==123)=false from rfl,cF]
   obtain ⟨k,rfl⟩:∃q,k=q+1:=⟨k - 1,by omega⟩
   rw [aU.f_eq,bS]
   exact ⟨_,rfl,Nat.le_refl _,(fun h=>by cases h),fun _=>rfl⟩
  |cons b l=>
   simp only
   have hl:l.length+1≤70000:=by simpa using hr
   have ok:∀(res:(Int×List (List UInt8))×(List UInt8×Bool)),res.2.1.length≤l.length→(res.2.2=false→bad=false)→(bad=true→res.2.2=true)→Taken w (b :: l) bad res:=by
    intro res h1 h2 h3
    exact ⟨by simp only [List.length_cons];omega,fun h=>⟨h2 h,by simp only [List.length_cons];omega⟩,h3⟩
   have hnum:∀(c:UInt8),∃x d r' b',aL.f aS k l bad [c]=some ((x,d),(r',b'))∧r'.length≤l.length∧(b'=false→bad=false):=by
    intro c
    obtain ⟨x,d,r',b',h1,h2,h3⟩:=number_any (k:=k) (by omega) (r:=l) (by omega) bad c
    exact ⟨x,d,r',b',h1,h2,fun h=>(h3 h).1⟩
   have hrow:∀(c:Int),∃res,am.f aS k l bad c (IntKind.i64.wrap (w+1))=some res∧res.2.1.length≤l.length∧(res.2.2=false→bad=false)∧(bad=true→res.2.2=true):=by
    intro c
    obtain ⟨k,rfl⟩:∃q,k=q+1:=⟨k - 1,by omega⟩
    rw [am.f_eq,b9 _ (by omega)]
    obtain ⟨res,h1,h2,h3,h4⟩:=row_l0 (k:=k) (w:=w+1) (fun r bad hr=>value_tot e (by omega) (by omega) (w+1) (by omega) r bad hr) (by omega) c l.length l bad [] k (Nat.le_refl _) (by omega) (by simp;omega) (by omega)
    exact ⟨res,h1,h2,fun h=>(h3 h).1,h4⟩
   have hstr:∃res,((aL.f aS k l bad [58]).bind fun r_4=>(bP.f aS k r_4.2.1 r_4.2.2 r_4.1.1).bind fun r_5=>some (((2:Int),([r_5.1]:List (List UInt8))),(r_5.2.1,r_5.2.2)))=some res∧Taken w (b :: l) bad res:=by
    obtain ⟨x,d,r',b',h1,h2,h3⟩:=hnum 58
    rw [h1,bS,vbytes_ok (by omega),bS]
    refine ⟨_,rfl,ok _ ?_ ?_ ?_⟩
    ·simp only
     split
     ·simp only [List.length_drop];omega
     ·exact h2
    ·simp only
     split
     ·rename_i hc;intro _;exact h3 hc.1
     ·intro h;cases h
    ·intro hb
     simp only
     split
     ·rename_i hc;rw [h3 hc.1] at hb;cases hb
     ·rfl
   have hrow':∀(c kd:Int),∃res,((am.f aS k l bad c (IntKind.i64.wrap (w+1))).bind fun r_6=>some ((kd,r_6.1),(r_6.2.1,r_6.2.2)))=some res∧Taken w (b :: l) bad res:=by
    intro c kd
    obtain ⟨res,h1,h2,h3,h4⟩:=hrow c
    rw [h1,bS]
    exact ⟨_,rfl,ok _ h2 h3 h4⟩
   have hfail:∃res,((aU.f aS k l bad).bind fun r_8=>some ((r_8.1.1,r_8.1.2),(r_8.2.1,r_8.2.2)))=some res∧Taken w (b :: l) bad res:=by
    obtain ⟨k,rfl⟩:∃q,k=q+1:=⟨k - 1,by omega⟩
    rw [aU.f_eq,bS]
    exact ⟨_,rfl,ok _ (Nat.le_refl _) (fun h=>by cases h) (fun _=>rfl)⟩
   have one:∀(kd:Int) (ps:List (List UInt8)),∃res,some ((kd,ps),(l,bad))=some res∧Taken w (b :: l) bad res:=fun kd ps=>⟨_,rfl,ok _ (Nat.le_refl _) (fun h=>h) (fun h=>h)⟩
   cases h1:((b.toNat:Int)==110) with
   |true=>rw [cT];exact one _ _
   |false=>
    rw [cF]
    cases h2:((b.toNat:Int)==105) with
    |true=>
     rw [cT]
     obtain ⟨x,d,r',b',q1,q2,q3⟩:=hnum 59
     rw [q1,bS]
     refine ⟨_,rfl,ok _ q2 q3 fun hb=>?_⟩
     cases b' with
     |true=>rfl
     |false=>rw [q3 rfl] at hb;cases hb
    |false=>
     rw [cF]
     cases h3:((b.toNat:Int)==116) with
     |true=>rw [cT];exact one _ _
     |false=>
      rw [cF]
      cases h4:((b.toNat:Int)==102) with
      |true=>rw [cT];exact one _ _
      |false=>
       rw [cF]
       cases h5:((b.toNat:Int)==115) with
       |true=>rw [cT];exact hstr
       |false=>
        rw [cF]
        cases h6:((b.toNat:Int)==91) with
        |true=>rw [cT];exact hrow' _ _
        |false=>
         rw [cF]
         cases h7:((b.toNat:Int)==123) with
         |true=>rw [cT];exact hrow' _ _
         |false=>rw [cF];exact hfail
theorem value_leaf {k:Nat}(hk:70200≤k){v:List UInt8}(hv:v.length≤70000){kd:Int}{ps:List (List UInt8)}(h:aK.f aS k v false 0=some ((kd,ps),(([]:List UInt8),false))):
  kd=3∨kd=4∨iH v kd ps:=by
 obtain ⟨k,rfl⟩:∃q,k=q+1:=⟨k - 1,by omega⟩
 rw [aK.f_eq,dF (by omega),cF,vbyte_ok (by omega),bS] at h
 cases v with
 |nil=>
  obtain ⟨k,rfl⟩:∃q,k=q+1:=⟨k - 1,by omega⟩
  simp only [show ((0:Int)==110)=false from rfl,show ((0:Int)==105)=false from rfl,show ((0:Int)==116)=false from rfl,show ((0:Int)==102)=false from rfl,show ((0:Int)==115)=false from rfl,show ((0:Int)==91)=false from rfl,show ((0:Int)==123)=false from rfl,cF,aU.f_eq,bS] at h
  simp at h
 |cons b l=>
  simp only at h
  have hb:∀{n:Nat},((b.toNat:Int)==(n:Int))=true→n<256→b=UInt8.ofNat n:=by
   intro n h hn
   have e:b.toNat=n:=by have:=(beq_iff_eq.1 h);omega
   rw [←e];simp
  have hl:l.length≤69999:=by simpa using hv
  cases h1:((b.toNat:Int)==110) with
  |true=>
   rw [h1,cT] at h
   have eb:=hb (n:=110) h1 (by omega)
   simp only [Option.some.injEq,Prod.mk.injEq] at h
   obtain ⟨⟨rfl,rfl⟩,rfl,_⟩:=h
   subst eb
   exact .inr (.inr .n)
  |false=>
   rw [h1,cF] at h
   cases h2:((b.toNat:Int)==105) with
   |true=>
    rw [h2,cT] at h
    have eb:=hb (n:=105) h2 (by omega)
    obtain ⟨x,d,r',b',q1,q2,q3⟩:=number_any (k:=k) (by omega) (r:=l) (by omega) false 59
    rw [q1,bS] at h
    simp only [Option.some.injEq,Prod.mk.injEq] at h
    obtain ⟨⟨rfl,rfl⟩,rfl,rfl⟩:=h
    obtain ⟨_,hx,rfl,e,_⟩:=q3 rfl
    subst eb
    rw [e]
    exact .inr (.inr (.i x hx))
   |false=>
    rw [h2,cF] at h
    cases h3:((b.toNat:Int)==116) with
    |true=>
     rw [h3,cT,cT] at h
     have eb:=hb (n:=116) h3 (by omega)
     simp only [Option.some.injEq,Prod.mk.injEq] at h
     obtain ⟨⟨rfl,rfl⟩,rfl,_⟩:=h
     subst eb
     exact .inr (.inr (.b true))
    |false=>
     rw [h3,cF] at h
     cases h4:((b.toNat:Int)==102) with
     |true=>
      rw [h4,cT] at h
      have eb:=hb (n:=102) h4 (by omega)
      simp only [Option.some.injEq,Prod.mk.injEq] at h
      obtain ⟨⟨rfl,rfl⟩,rfl,_⟩:=h
      subst eb
      exact .inr (.inr (.b false))
     |false=>
      rw [h4,cF] at h
      cases h5:((b.toNat:Int)==115) with
      |true=>
       rw [h5,cT] at h
       have eb:=hb (n:=115) h5 (by omega)
       obtain ⟨x,d,r',b',q1,q2,q3⟩:=number_any (k:=k) (by omega) (r:=l) (by omega) false 58
       rw [q1,bS,vbytes_ok (by omega),bS] at h
       simp only at h
       split at h
       ·rename_i hc
        obtain ⟨hb',h0,hx1⟩:=hc
        obtain ⟨_,hx,rfl,e,_⟩:=q3 hb'
        simp only [Option.some.injEq,Prod.mk.injEq] at h
        obtain ⟨⟨rfl,rfl⟩,hd,_⟩:=h
        have hlen:r'.length≤x.toNat:=by have:=congrArg List.length hd;simp at this;omega
        have hxl:x=(r'.length:Int):=by omega
        subst hxl
        rw [Int.toNat_natCast,List.take_length]
        subst eb
        rw [e,o8]
        have eb2:gj r'=UInt8.ofNat 115 :: (wm r'.length++58 :: r'):=by simp [gj]
        rw [←eb2]
        exact .inr (.inr (.s r'))
       ·simp at h
      |false=>
       rw [h5,cF] at h
       cases h6:((b.toNat:Int)==91) with
       |true=>
        rw [h6,cT] at h
        cases hr:am.f aS k l false 93 (IntKind.i64.wrap (0+1)) with
        |none=>rw [hr] at h;cases h
        |some r=>
         rw [hr,bS] at h
         simp only [Option.some.injEq,Prod.mk.injEq] at h
         exact .inl h.1.1.symm
       |false=>
        rw [h6,cF] at h
        cases h7:((b.toNat:Int)==123) with
        |true=>
         rw [h7,cT] at h
         cases hr:am.f aS k l false 125 (IntKind.i64.wrap (0+1)) with
         |none=>rw [hr] at h;cases h
         |some r=>
          rw [hr,bS] at h
          simp only [Option.some.injEq,Prod.mk.injEq] at h
          exact .inr (.inl h.1.1.symm)
        |false=>
         obtain ⟨k,rfl⟩:∃q,k=q+1:=⟨k - 1,by omega⟩
         rw [h7,cF,aU.f_eq,bS] at h
         simp at h
theorem vParts_any {k:Nat}(hk:70300≤k)(v:List UInt8):cn.f aS k v=some (0,[],700)∨∃kd ps,cn.f aS k v=some (kd,ps,0)∧v.length≤65536∧(kd=3∨kd=4∨iH v kd ps):=by
 obtain ⟨k,rfl⟩:∃q,k=q+1:=⟨k - 1,by omega⟩
 rw [cn.f_eq]
 by_cases hl:v.length≤65536
 ·rw [dF (by omega),cF]
  obtain ⟨res,h1,h2⟩:=value_tot 5 (k:=k) (by omega) (by omega) 0 (by omega) v false (by omega)
  rw [h1,bS]
  obtain ⟨⟨kd,ps⟩,r',b'⟩:=res
  cases b' with
  |true=>exact .inl rfl
  |false=>
   simp only [Bool.not_false,cT]
   cases r' with
   |cons b l=>exact .inl rfl
   |nil=>exact .inr ⟨kd,ps,rfl,hl,value_leaf (by omega) (by omega) h1⟩
 ·rw [dT (by omega),cT];exact .inl rfl
theorem vParts_leaf {k:Nat}(hk:70300≤k){v:List UInt8}(hl:v.length≤65536){kd:Int}{ps:List (List UInt8)}(h:iH v kd ps)(h3:kd<3):cn.f aS k v=some (kd,ps,0):=by
 obtain ⟨k,rfl⟩:∃q,k=q+1:=⟨k - 1,by omega⟩
 have key:aK.f aS k v false 0=some ((kd,ps),(([]:List UInt8),false)):=by
  obtain ⟨k,rfl⟩:∃q,k=q+1:=⟨k - 1,by omega⟩
  rw [aK.f_eq,dF (by omega),cF,vbyte_ok (by omega),bS]
  cases h with
  |n=>rfl
  |i x hx=>
   have e:tq x=105 :: (eW x++59 :: []):=rfl
   have hlen:=mD x
   rw [e]
   simp only [show (((105:UInt8).toNat:Int)==110)=false from rfl,show (((105:UInt8).toNat:Int)==105)=true from rfl,cT,cF]
   rw [number_dig (by omega) hx (.inr rfl) (by rw [List.length_append];simp only [List.length_cons,List.length_nil];omega),bS]
  |b b=>cases b<;>rfl
  |s l=>
   have e:gj l=115 :: (eW ((l.length:Nat):Int)++58 :: l):=by rw [o8];simp [gj]
   rw [e] at hl ⊢
   have hx:jJ ((l.length:Nat):Int):=by
    rw [List.length_cons,List.length_append,List.length_cons] at hl
    unfold jJ;omega
   simp only [show (((115:UInt8).toNat:Int)==110)=false from rfl,show (((115:UInt8).toNat:Int)==105)=false from rfl,show (((115:UInt8).toNat:Int)==116)=false from rfl,show (((115:UInt8).toNat:Int)==102)=false from rfl,show (((115:UInt8).toNat:Int)==115)=true from rfl,cT,cF]
   rw [number_dig (by omega) hx (.inl rfl) (by rw [List.length_cons] at hl;omega),bS,vbytes_ok (by omega),bS]
   simp only
   rw [if_pos ⟨trivial,by omega,by omega⟩,Int.toNat_natCast,List.take_length,List.drop_length]
  |l vs h=>omega
  |r vs h=>omega
 rw [cn.f_eq,dF (by omega),cF,key,bS]
 rfl
def FitL (t:List bg)(i:Nat)(v:List UInt8):Prop:=
 v.length≤65536∧((v=[110]∧zR t i=true)∨(gz t i=0∧∃x,jJ x∧v=tq x)∨(gz t i=1∧∃b,v=kZ b)∨(gz t i=2∧∃l:List UInt8,l.length≤16∧v=gj l))
open Classical in
noncomputable def fitB (t:List bg)(i:Nat)(v:List UInt8):Bool:=decide (FitL t i v)
theorem fitB_iff {t:List bg}{i:Nat}{v:List UInt8}:fitB t i v=true↔FitL t i v:=by unfold fitB;simp
theorem fitB_of {t:List bg}{i:Nat}{v:List UInt8}{b:Bool}(h:b=true↔FitL t i v):fitB t i v=b:=by
 cases hb:b with
 |true=>exact fitB_iff.2 (h.1 hb)
 |false=>
  cases hf:fitB t i v with
  |false=>rfl
  |true=>rw [h.2 (fitB_iff.1 hf)] at hb;cases hb
theorem FitL.shape {t:List bg}{i:Nat}{v:List UInt8}(h:FitL t i v):∃kd ps,iH v kd ps∧kd<3∧((kd=-1∧zR t i=true)∨(kd=gz t i∧0≤kd∧∀l ps',kd=2→ps=l :: ps'→l.length≤16)):=by
 obtain ⟨_,⟨rfl,h⟩|⟨h,x,hx,rfl⟩|⟨h,b,rfl⟩|⟨h,l,hl,rfl⟩⟩:=h
 ·exact ⟨_,_,.n,by omega,.inl ⟨rfl,h⟩⟩
 ·exact ⟨_,_,.i x hx,by omega,.inr ⟨h.symm,by omega,fun _ _ h=>by omega⟩⟩
 ·exact ⟨_,_,.b b,by omega,.inr ⟨h.symm,by omega,fun _ _ h=>by omega⟩⟩
 ·refine ⟨_,_,.s l,by omega,.inr ⟨h.symm,by omega,fun l' ps' _ e=>?_⟩⟩
  simp only [List.cons.injEq] at e
  rw [←e.1];exact hl
theorem FitL.of_shape {t:List bg}{i:Nat}{v:List UInt8}{kd:Int}{ps:List (List UInt8)}(hs:iH v kd ps)(hl:v.length≤65536)(h3:kd<3)(h:(kd=-1∧zR t i=true)∨(kd=gz t i∧0≤kd∧∀l ps',kd=2→ps=l :: ps'→l.length≤16)):FitL t i v:=by
 refine ⟨hl,?_⟩
 cases hs with
 |n=>
     rcases h with ⟨_,h⟩|⟨_,h,_⟩
     ·exact .inl ⟨rfl,h⟩
     ·omega
 |i x hx=>
       rcases h with ⟨h,_⟩|⟨h,_⟩
       ·omega
       ·exact .inr (.inl ⟨h.symm,x,hx,rfl⟩)
 |b b=>
      rcases h with ⟨h,_⟩|⟨h,_⟩
      ·omega
      ·exact .inr (.inr (.inl ⟨h.symm,b,rfl⟩))
 |s l=>
      rcases h with ⟨h,_⟩|⟨h,_,h'⟩
      ·omega
      ·exact .inr (.inr (.inr ⟨h.symm,l,h' l [] rfl rfl,rfl⟩))
 |l vs _=>omega
 |r vs _=>omega
theorem shape_kd {v:List UInt8}{kd:Int}{ps:List (List UInt8)}(hs:iH v kd ps):-1≤kd∧kd≤4∧(kd=2→∃l,ps=[l]):=by
 cases hs with
 |s l=>exact ⟨by omega,by omega,fun _=>⟨l,rfl⟩⟩
 |_=>exact ⟨by omega,by omega,fun h=>by omega⟩
theorem leaf_knd {t:List bg}{i:Nat}(hm:mN t=true)(hi:i<t.length)(hin:jy (gz t i)=false):gz t i=0∨gz t i=1∨gz t i=2:=by
 have:=(((mc t).1 hm).2.1 i hi).1
 unfold rL at this
 simp only [Bool.and_eq_true,decide_eq_true_eq] at this
 unfold jy at hin
 simp only [Bool.or_eq_false_iff,beq_eq_false_iff_ne] at hin
 omega
theorem vFits_loop {k:Nat}{kd:Int}(hkd:kd≠3){ps:List (List UInt8)}{t:List bg}{ks:List Int}(hl:ps.length≤1000):∀(d i n:Nat),i+d=ps.length→d+1≤n→
  bR.l1 aS k n ps kd ((ps.length:Nat):Int) (i:Int) t ks=some (decide ((ps.length:Int)≤64))
 |0,i,n,h,hn=>by
  obtain ⟨n,rfl⟩:∃q,n=q+1:=⟨n - 1,by omega⟩
  rw [bR.l1_eq,dF (by omega),cF]
 |d+1,i,n,h,hn=>by
  obtain ⟨n,rfl⟩:∃q,n=q+1:=⟨n - 1,by omega⟩
  rw [bR.l1_eq,dT (by omega),cT,bF (by omega),bS,show (kd==3)=false by rw [beq_eq_false_iff_ne];exact hkd,cF,dk (by omega)]
  exact vFits_loop hkd hl d (i+1) n (by omega) (by omega)
theorem vFits_ok {k:Nat}(hk:70400≤k){t:List bg}{i:Nat}(hn:eL t (i:Int)=true)(hi:i<t.length)(hm:mN t=true)(hin:jy (gz t i)=false)(v:List UInt8):bR.f aS k t (i:Int) v=some (fitB t i v):=by
 obtain ⟨k,rfl⟩:∃q,k=q+1:=⟨k - 1,by omega⟩
 have hkn:=leaf_knd hm hi hin
 rw [bR.f_eq,fy (by omega),bS,hn,Bool.not_true,cF]
 have uniq:∀{kd:Int}{ps:List (List UInt8)}{e:Int},cn.f aS k v=some (kd,ps,e)→FitL t i v→e=0∧kd<3∧((kd=-1∧zR t i=true)∨(kd=gz t i∧0≤kd∧∀l ps',kd=2→ps=l :: ps'→l.length≤16)):=by
  intro kd ps e hp hf
  obtain ⟨kd',ps',h1,h2,h3⟩:=hf.shape
  rw [vParts_leaf (by omega) hf.1 h1 h2] at hp
  simp only [Option.some.injEq,Prod.mk.injEq] at hp
  obtain ⟨rfl,rfl,rfl⟩:=hp
  exact ⟨rfl,h2,h3⟩
 rcases vParts_any (k:=k) (by omega) v with hp|⟨kd,ps,hp,hl,hs⟩
 ·rw [hp,bS,bF hi,bS]
  have:fitB t i v=false:=fitB_of ⟨(fun h=>by cases h),fun hf=>by have:=(uniq hp hf).1;omega⟩
  rw [this];rfl
 ·rw [hp,bS,bF hi,bS,wt hi,jb hi]
  simp only [show (!((0:Int) != 0))=true from rfl,show ((0:Int)==0)=true from rfl,cT]
  cases h1:(kd==-1) with
  |true=>
   have e:kd=-1:=by simpa using h1
   rw [cT]
   congr 1
   refine (fitB_of ⟨fun hb=>?_,fun hf=>?_⟩).symm
   ·rcases hs with h|h|h
    ·omega
    ·omega
    ·exact FitL.of_shape h hl (by omega) (.inl ⟨e,hb⟩)
   ·rcases (uniq hp hf).2.2 with ⟨_,h⟩|⟨_,h,_⟩
    ·exact h
    ·omega
  |false=>
   have hne:kd≠-1:=by simpa using h1
   rw [cF,qV (by omega),bS]
   cases h2:(kd != gz t i) with
   |true=>
    have hne2:kd≠gz t i:=by simpa using h2
    rw [cT]
    have:fitB t i v=false:=fitB_of ⟨(fun h=>by cases h),fun hf=>by
     rcases (uniq hp hf).2.2 with ⟨h,_⟩|⟨h,_⟩
     ·exact absurd h hne
     ·exact absurd h hne2⟩
    rw [this]
   |false=>
    have he2:kd=gz t i:=by simpa using h2
    rw [cF]
    have hsh:iH v kd ps:=by
     rcases hs with h|h|h
     ·omega
     ·omega
     ·exact h
    cases h3:(kd==2) with
    |true=>
     have e2:kd=2:=by simpa using h3
     obtain ⟨l,rfl⟩:=(shape_kd hsh).2.2 e2
     rw [cT,dT (by omega),dT (by simp),Bool.and_self,cT,show ([l]:List (List UInt8))[0]?=some l from rfl,bS]
     congr 1
     refine (fitB_of ⟨fun hb=>?_,fun hf=>?_⟩).symm
     ·refine FitL.of_shape hsh hl (by omega) (.inr ⟨he2,by omega,fun l' ps' _ e=>?_⟩)
      simp only [List.cons.injEq] at e
      rw [←e.1]
      have:=of_decide_eq_true hb;omega
     ·rcases (uniq hp hf).2.2 with ⟨h,_⟩|⟨_,_,h⟩
      ·exact absurd h hne
      ·have:=h l [] e2 rfl
       exact decide_eq_true (by omega)
    |false=>
     have e2:kd≠2:=by simpa using h3
     rw [cF,show (kd==4)=false by rw [beq_eq_false_iff_ne];omega,cF]
     have hps:ps.length=1:=by
      cases hsh with
      |n=>omega
      |i x hx=>rfl
      |b b=>rfl
      |s l=>rfl
      |l vs _=>omega
      |r vs _=>omega
     have hL:=vFits_loop (k:=k) (kd:=kd) (by omega) (ps:=ps) (t:=t) (ks:=(zQ t (i:Int)).1) (by omega) ps.length 0 k (by omega) (by omega)
     rw [show ((0:Nat):Int)=0 from rfl] at hL
     rw [hL]
     have:fitB t i v=true:=fitB_iff.2 (FitL.of_shape hsh hl (by omega) (.inr ⟨he2,by omega,fun _ _ h=>absurd h e2⟩))
     rw [this,dT (by omega)]
def bw (n:Int):Int:=if n<1 then 0 else if n<2 then 1 else if n<4 then 2 else if n<8 then 3 else 4
theorem bw_range (n:Int):0≤bw n∧bw n≤4:=by unfold bw;split<;>(try split)<;>(try split)<;>(try split)<;>omega
theorem bw_fits {n x:Int}(hn:n≤15)(h0:0≤x)(h1:x≤n):x<2 ^ (bw n).toNat:=by
 unfold bw
 split
 ·show x<1;omega
 ·split
  ·show x<2;omega
  ·split
   ·show x<4;omega
   ·split
    ·show x<8;omega
    ·show x<16;omega
theorem Len_tab (k:Nat):(List.range 16).map (fun n=>dY.f aS (k+2) (IntKind.u64.wrap ((n:Nat):Int)))=(List.range 16).map (fun n=>some (bw ((n:Nat):Int))):=by kernel_rfl
theorem Len_ok {k:Nat}(hk:2≤k){n:Int}(h0:0≤n)(h1:n≤15):dY.f aS k (IntKind.u64.wrap n)=some (bw n):=by
 obtain ⟨k,rfl⟩:∃q,k=q+2:=⟨k - 2,by omega⟩
 obtain ⟨m,rfl⟩:∃m:Nat,n=(m:Int):=⟨n.toNat,by omega⟩
 exact List.map_inj_left.1 (Len_tab k) m (List.mem_range.2 (by omega))
theorem lev_range {t:List bg}{a:Int}:0≤(cm t a).1∧(cm t a).1≤15∧0≤(cm t a).2.1∧(cm t a).2.1≤15:=by
 cases hn:eL t a with
 |false=>rw [Bg hn];decide
 |true=>
  obtain ⟨hm,i,hi,rfl⟩:=f9 hn
  rw [BY hm hi]
  have h1:=oS t (fe t (i:Int))
  have h2:=qu t (fe t (i:Int))
  have h3:=(((mc t).1 hm).2.2 i hi).2
  simp only
  omega
theorem word4' {k:Nat}(hk:12≤k)(x:Int):cu.f aS k x 4=some (w4 x):=by
 obtain ⟨k,rfl⟩:∃q,k=q+12:=⟨k - 12,by omega⟩
 exact FM k x
theorem word8' {k:Nat}(hk:12≤k)(x:Int):cu.f aS k x 8=some (w8 x):=by
 obtain ⟨k,rfl⟩:∃q,k=q+12:=⟨k - 12,by omega⟩
 exact Fz k x
theorem word1' {k:Nat}(hk:12≤k)(x:Int):cu.f aS k x 1=some (BH x):=by
 obtain ⟨k,rfl⟩:∃q,k=q+12:=⟨k - 12,by omega⟩
 exact Cm k x
def inL (most:Int)(xs:List Int):Bool:=xs.all fun x=>decide (0≤x)&&decide (x≤most)
theorem range_get {α:Type}(xs:List α)(p:α→Bool)(q:Nat→Bool)(h:∀i (hi:i<xs.length),q i=p xs[i]):(List.range xs.length).all q=xs.all p:=by
 rw [Bool.eq_iff_iff,List.all_eq_true,List.all_eq_true]
 constructor
 ·intro hq x hx
  obtain ⟨i,hi,rfl⟩:=List.mem_iff_getElem.1 hx
  rw [←h i hi];exact hq i (List.mem_range.2 hi)
 ·intro hp i hi
  have hi':=List.mem_range.1 hi
  rw [h i hi'];exact hp _ (List.getElem_mem hi')
theorem within_ok {k:Nat}{xs:List Int}(hk:xs.length+3≤k)(hl:xs.length≤20000000000000)(most:Int):bA.f aS k xs most=some (inL most xs):=by
 obtain ⟨k,rfl⟩:∃q,k=q+1:=⟨k - 1,by omega⟩
 rw [bA.f_eq]
 have:=ma (F:=fun n i=>bA.l0 aS k n most xs (xs.length:Int) (i:Int)) (p:=fun i=>match xs[i]? with|some x=>decide (0≤x)&&decide (x≤most)|none=>false) (N:=xs.length) (E:=some true) (Z:=some false) ?_ ?_ k (by omega)
 ·refine this.trans ?_
  rw [range_get xs (fun x=>decide (0≤x)&&decide (x≤most)) _ fun i hi=>by simp only [List.getElem?_eq_getElem hi]]
  unfold inL
  cases xs.all _<;>rfl
 ·intro n i hi _
  rw [bA.l0_eq,dT (by omega),cT,bF hi,bS,List.getElem?_eq_getElem hi]
  simp only
  by_cases h0:xs[i]<0
  ·rw [dT h0,Bool.not_true,cF,dF (show¬(0:Int)≤xs[i] by omega),Bool.false_and,cF]
  ·rw [dF h0,Bool.not_false,cT,dT (show (0:Int)≤xs[i] by omega),Bool.true_and]
   by_cases h1:xs[i]>most
   ·rw [dT h1,cT,dF (show¬xs[i]≤most by omega),cF]
   ·rw [dF h1,cF,dT (show xs[i]≤most by omega),cT,dk (by omega)]
 ·intro _ n
  rw [bA.l0_eq,dF (by omega),cF]
def cnt (one:Int)(xs:List Int):Nat:=xs.countP fun x=>x==one
theorem cnt_le (one:Int)(xs:List Int):cnt one xs≤xs.length:=List.countP_le_length
theorem cnt_succ (one:Int){xs:List Int}{i:Nat}(h:i<xs.length):cnt one (xs.take (i+1))=cnt one (xs.take i)+(if xs[i]==one then 1 else 0):=by
 unfold cnt
 rw [List.take_succ_eq_append_getElem h,List.countP_append,List.countP_cons,List.countP_nil]
 omega
theorem there_ok' {k:Nat}{xs:List Int}(hk:xs.length+3≤k)(hl:xs.length≤20000000000000)(one:Int):bu.f aS k xs one=some ((cnt one xs:Nat):Int):=by
 obtain ⟨k,rfl⟩:∃q,k=q+1:=⟨k - 1,by omega⟩
 rw [bu.f_eq]
 have:=fZ (F:=fun n i=>bu.l0 aS k n one ((cnt one (xs.take i):Nat):Int) xs (xs.length:Int) (i:Int)) (N:=xs.length) (r:=some ((cnt one xs:Nat):Int)) ?_ ?_ k 0 (by omega) (by omega)
 ·simpa [cnt] using this
 ·intro n i hi
  have hc:=cnt_succ one hi
  have hle:cnt one (xs.take i)≤i:=Nat.le_trans (cnt_le one _) (by rw [List.length_take];omega)
  rw [bu.l0_eq,dT (by omega),cT,bF hi,bS,dk (i:=i) (by omega),hc]
  cases hx:(xs[i]==one) with
  |true=>rw [cT,b9 _ (by omega)];rfl
  |false=>rw [cF];rfl
 ·intro n
  rw [bu.l0_eq,dF (by omega),cF,List.take_length]
noncomputable def vOk (t:List bg)(a:Int)(v:List UInt8):Bool:=(v != [110])&&fitB t a.toNat v
noncomputable def colMay (t:List bg)(a:Int)(c:Col):Bool:=
 (eL t a&&!jy (gz t a.toNat))&&(decide (c.reps.length=c.defs.length)&&(decide (c.reps.length≤4096)&&(inL (cm t a).1 c.reps&&(inL (cm t a).2.1 c.defs&&(c.values.all (vOk t a)&&decide (c.values.length=cnt (cm t a).2.1 c.defs))))))
theorem Leaf_ok {k:Nat}(hk:32≤k)(t:List bg)(a:Int):dI.f aS k t a=some (eL t a&&!jy (gz t a.toNat)):=by
 obtain ⟨k,rfl⟩:∃q,k=q+1:=⟨k - 1,by omega⟩
 rw [dI.f_eq,fy (by omega),bS]
 cases hn:eL t a with
 |false=>rfl
 |true=>
  obtain ⟨hm,i,hi,rfl⟩:=f9 hn
  rw [cT,bF hi,bS,jQ (by omega),bS,jb hi,Int.toNat_natCast,Bool.true_and]
theorem page_May_ok {k:Nat}{t:List bg}{a:Int}{c:Col}(hk:70500+c.values.length≤k)(hl:c.values.length≤20000000000000)(hd:c.reps.length≤20000000000000∧c.defs.length≤20000000000000):cw.f aS k t a c=some (colMay t a c):=by
 obtain ⟨k,rfl⟩:∃q,k=q+1:=⟨k - 1,by omega⟩
 rw [cw.f_eq,eg (by omega),bS,Leaf_ok (by omega),bS]
 unfold colMay
 cases hn:eL t a&&!jy (gz t a.toNat) with
 |false=>rfl
 |true=>
  rw [Bool.not_true,Bool.not_false,cT,Bool.true_and]
  by_cases h1:c.reps.length=c.defs.length
  ·rw [show (((c.reps.length:Nat):Int) != ((c.defs.length:Nat):Int))=false by rw [h1];simp,Bool.not_false,cT,dT h1,Bool.true_and]
   by_cases h2:c.reps.length≤4096
   ·rw [dF (by omega),Bool.not_false,cT,dT h2,Bool.true_and,within_ok (by omega) (by omega),bS]
    cases h3:inL (cm t a).1 c.reps with
    |false=>rfl
    |true=>
     rw [Bool.not_true,Bool.not_false,cT,Bool.true_and,within_ok (by omega) (by omega),bS]
     cases h4:inL (cm t a).2.1 c.defs with
     |false=>rfl
     |true=>
      rw [Bool.not_true,cF,Bool.true_and]
      rw [Bool.and_eq_true] at hn
      obtain ⟨hm,i,hi,rfl⟩:=f9 hn.1
      rw [Int.toNat_natCast] at hn
      have hin:jy (gz t i)=false:=by simpa using hn.2
      have:=ma (F:=fun n j=>cw.l0 aS k n (i:Int) (cm t (i:Int)).2.1 c.values (c.values.length:Int) (j:Int) t c.reps c.defs) (p:=fun j=>match c.values[j]? with|some v=>vOk t (i:Int) v|none=>false) (N:=c.values.length) (E:=some (decide (c.values.length=cnt (cm t (i:Int)).2.1 c.defs))) (Z:=some false) ?_ ?_ k (by omega)
      ·refine this.trans ?_
       rw [range_get c.values (vOk t (i:Int)) _ fun j hj=>by simp only [List.getElem?_eq_getElem hj]]
       cases c.values.all (vOk t (i:Int))<;>rfl
      ·intro n j hj _
       obtain ⟨k,rfl⟩:∃q,k=q+1:=⟨k - 1,by omega⟩
       rw [cw.l0_eq,dT (by omega),cT,bF hj,bS,iO.f_eq,bS,List.getElem?_eq_getElem hj]
       simp only [vOk,Int.toNat_natCast]
       cases hx:(c.values[j]==[110]) with
       |true=>
        rw [Bool.not_true,cF,show (c.values[j] != [110])=false by simp [bne,hx],Bool.false_and,cF]
       |false=>
        rw [Bool.not_false,cT,show (c.values[j] != [110])=true by simp [bne,hx],Bool.true_and,vFits_ok (by omega) hn.1 hi hm hin,bS]
        cases fitB t i c.values[j] with
        |false=>rfl
        |true=>rw [Bool.not_true,cF,dk (by omega),cT]
      ·intro _ n
       rw [cw.l0_eq,dF (by omega),cF,there_ok' (by omega) (by omega),bS]
       congr 1
       rw [Bool.eq_iff_iff,beq_iff_eq,decide_eq_true_iff];omega
   ·rw [dT (by omega),Bool.not_true,cF,dF h2,Bool.false_and]
  ·rw [show (((c.reps.length:Nat):Int) != ((c.defs.length:Nat):Int))=true by rw [bne_iff_ne];omega,Bool.not_true,cF,dF h1,Bool.false_and]
def rnd (x:Int):Int:=ax .xor .u32 (Int.fdiv x (2 ^ (min 1 IntKind.u32.bits))) (IntKind.u32.wrap (3988292384*(ax .and .u32 x 1)))
def rnds:Nat→Int→Int
 |0,x=>x
 |n+1,x=>rnds n (rnd x)
def crcB (x:Int)(b:UInt8):Int:=rnds 8 (ax .xor .u32 x (IntKind.u32.wrap (b.toNat:Int)))
def crcS (s:List UInt8):Int:=IntKind.i64.wrap (ax .xor .u32 (s.foldl crcB 4294967295) 4294967295)
theorem crc_l2 {k m1:Nat}{s:List UInt8}{len i:Int}:∀(d j n:Nat) (x:Int),j+d=8→d+1≤n→bU.l2 aS k m1 n s x len i (j:Int)=bU.l0 aS k m1 s (rnds d x) len (IntKind.i64.wrap (i+1))
 |0,j,n,x,h,hn=>by
  obtain ⟨n,rfl⟩:∃q,n=q+1:=⟨n - 1,by omega⟩
  rw [bU.l2_eq,dF (by omega),cF];rfl
 |d+1,j,n,x,h,hn=>by
  obtain ⟨n,rfl⟩:∃q,n=q+1:=⟨n - 1,by omega⟩
  rw [bU.l2_eq,dT (by omega),cT,dk (by omega)]
  exact crc_l2 d (j+1) n (rnd x) (by omega) (by omega)
theorem crc_ok {k:Nat}{s:List UInt8}(hk:s.length+12≤k)(hl:s.length≤1000000000000000):bU.f aS k s=some (crcS s):=by
 obtain ⟨k,rfl⟩:∃q,k=q+1:=⟨k - 1,by omega⟩
 rw [bU.f_eq]
 have:=fZ (F:=fun n i=>bU.l0 aS k n s ((s.take i).foldl crcB 4294967295) (s.length:Int) (i:Int)) (N:=s.length) (r:=some (crcS s)) ?_ ?_ k 0 (by omega) (by omega)
 ·simpa using this
 ·intro n i hi
  rw [bU.l0_eq,dT (by omega),cT,bF hi,bS]
  have:=crc_l2 (k:=k) (m1:=n) (s:=s) (len:=(s.length:Int)) (i:=(i:Int)) 8 0 k (ax .xor .u32 ((s.take i).foldl crcB 4294967295) (IntKind.u32.wrap (s[i].toNat:Int))) (by omega) (by omega)
  rw [show ((0:Nat):Int)=0 from rfl] at this
  rw [this,dk (by omega),List.take_succ_eq_append_getElem hi,List.foldl_append]
  rfl
 ·intro n
  rw [bU.l0_eq,dF (by omega),cF,List.take_length]
  rfl
inductive PB:List UInt8→List UInt8→Prop
 |i (x:Int) (h:jJ x):PB (tq x) (w8 x)
 |b (b:Bool):PB (kZ b) (BH (if b then 1 else 0))
 |s (l:List UInt8) (h:l.length≤16):PB (gj l) (w4 (l.length:Int)++l)
theorem PB.len {v b:List UInt8}(h:PB v b):b.length≤20:=by
 cases h with
 |i x h=>show 8≤20;omega
 |b b=>show 1≤20;omega
 |s l h=>rw [List.length_append,b6];omega
theorem FitL.pb {t:List bg}{i:Nat}{v:List UInt8}(h:FitL t i v)(hv:v≠[110]):∃b,PB v b:=by
 obtain ⟨_,⟨h,_⟩|⟨_,x,hx,rfl⟩|⟨_,b,rfl⟩|⟨_,l,hl,rfl⟩⟩:=h
 ·exact absurd h hv
 ·exact ⟨_,.i x hx⟩
 ·exact ⟨_,.b b⟩
 ·exact ⟨_,.s l hl⟩
theorem pgBytes_ok {k:Nat}(hk:70500≤k){v b:List UInt8}(h:PB v b)(hl:v.length≤65536):fk.f aS k v=some b:=by
 obtain ⟨k,rfl⟩:∃q,k=q+1:=⟨k - 1,by omega⟩
 rw [fk.f_eq]
 cases h with
 |i x hx=>
  rw [vParts_leaf (by omega) hl (.i x hx) (by omega),bS]
  simp only [show ((0:Int)==0)=true from rfl,cT]
  rw [dT (by omega),dT (by simp),Bool.and_self,cT,show ([eW x]:List (List UInt8))[0]?=some (eW x) from rfl,bS,Atoi_dig (by omega) hx,bS,word8' (by omega),bS]
 |b b=>
  rw [vParts_leaf (by omega) hl (.b b) (by omega),bS]
  simp only [show ((1:Int)==0)=false from rfl,show ((1:Int)==1)=true from rfl,cT,cF]
  rw [dT (by omega),dT (by simp),Bool.and_self,cT,show ([kZ b]:List (List UInt8))[0]?=some (kZ b) from rfl,bS]
  cases b with
  |true=>
   rw [show rd (kZ true) 0=some 116 from rfl,bS,there_ok' (by simp only [List.length_cons,List.length_nil];omega) (by simp),bS,word1' (by omega),bS]
   rfl
  |false=>
   rw [show rd (kZ false) 0=some 102 from rfl,bS,there_ok' (by simp only [List.length_cons,List.length_nil];omega) (by simp),bS,word1' (by omega),bS]
   rfl
 |s l h16=>
  rw [vParts_leaf (by omega) hl (.s l) (by omega),bS]
  simp only [show ((2:Int)==0)=false from rfl,show ((2:Int)==1)=false from rfl,cF]
  rw [dT (by omega),dT (by simp),Bool.and_self,cT,show ([l]:List (List UInt8))[0]?=some l from rfl,bS,word4' (by omega),bS,cT,bS,dT (by rw [b6];omega),cT]
noncomputable def pgB (v:List UInt8):List UInt8:=(fk.f aS 80000 v).getD []
theorem PB.short {v b:List UInt8}(h:PB v b):v.length≤100:=by
 cases h with
 |i x h=>have:=mD x;unfold tq;simp only [List.length_append,List.length_cons,List.length_nil];omega
 |b b=>cases b<;>decide
 |s l h=>have:=oL l.length;unfold gj;simp only [List.length_append,List.length_cons,List.length_nil];omega
theorem PB.eq {v b:List UInt8}(h:PB v b):pgB v=b:=by
 unfold pgB
 rw [pgBytes_ok (by omega) h (by have:=h.short;omega)];rfl
theorem vOk_pb {t:List bg}{a:Int}{v:List UInt8}(h:vOk t a v=true):PB v (pgB v):=by
 unfold vOk at h
 rw [Bool.and_eq_true,bne_iff_ne] at h
 obtain ⟨b,hb⟩:=(fitB_iff.1 h.2).pb h.1
 rw [hb.eq];exact hb
theorem colMay_parts {t:List bg}{a:Int}{c:Col}(h:colMay t a c=true):∃i:Nat,a=(i:Int)∧i<t.length∧mN t=true∧eL t (i:Int)=true∧jy (gz t i)=false∧c.reps.length=c.defs.length∧c.reps.length≤4096∧
  inL (cm t a).1 c.reps=true∧inL (cm t a).2.1 c.defs=true∧(∀v∈c.values,vOk t a v=true)∧c.values.length=cnt (cm t a).2.1 c.defs:=by
 unfold colMay at h
 simp only [Bool.and_eq_true,decide_eq_true_eq,List.all_eq_true,Bool.not_eq_true'] at h
 obtain ⟨⟨h0,h1⟩,h2,h3,h4,h5,h6,h7⟩:=h
 obtain ⟨hm,i,hi,rfl⟩:=f9 h0
 rw [Int.toNat_natCast] at h1
 exact ⟨i,rfl,hi,hm,h0,h1,h2,h3,h4,h5,h6,h7⟩
theorem colMay_vlen {t:List bg}{a:Int}{c:Col}(h:colMay t a c=true):c.values.length≤4096:=by
 obtain ⟨i,_,_,_,_,_,h1,h2,_,_,_,h3⟩:=colMay_parts h
 have:=cnt_le (cm t a).2.1 c.defs
 omega
theorem inL_ok {most:Int}(hm:most≤15){xs:List Int}(h:inL most xs=true):sR (bw most).toNat xs=true:=by
 unfold inL at h
 unfold sR
 rw [List.all_eq_true] at h ⊢
 intro x hx
 have:=h x hx
 simp only [Bool.and_eq_true,decide_eq_true_eq] at this
 unfold AD
 rw [dT this.1,dT (bw_fits hm this.1 this.2)];rfl
def lvB (most:Int)(xs:List Int):List UInt8:=(kL (bw most) xs).1
theorem levels_ok {k:Nat}(hk:1200020≤k){most:Int}(h0:0≤most)(h1:most≤15)(xs:List Int):ez.f aS k xs most=some (lvB most xs):=by
 obtain ⟨k,rfl⟩:∃q,k=q+1:=⟨k - 1,by omega⟩
 rw [ez.f_eq,Len_ok (by omega) h0 h1,bS,BW (by omega),bS];rfl
theorem lvB_put {most:Int}(h1:most≤15){xs:List Int}(hx:inL most xs=true)(hl:xs.length≤4096):kL (bw most) xs=(lvB most xs,0)∧lvB most xs=iL (bw most).toNat xs∧(lvB most xs).length≤102400:=by
 have hb:=bw_range most
 have ho:=inL_ok h1 hx
 have:=BI (w:=(bw most).toNat) (by omega) hl ho
 rw [Int.toNat_of_nonneg hb.1] at this
 have e:lvB most xs=iL (bw most).toNat xs:=by unfold lvB;rw [this]
 refine ⟨by rw [this,e],e,?_⟩
 have:=ux (w:=(bw most).toNat) (by omega) xs.length xs (Nat.le_refl _) hl
 rw [e];omega
def pgHead (n r d:Nat):List UInt8:=(w4 (n:Int)++w4 (r:Int))++w4 (d:Int)
noncomputable def pgBody (t:List bg)(a:Int)(c:Col):List UInt8:=
 (pgHead c.reps.length (lvB (cm t a).1 c.reps).length (lvB (cm t a).2.1 c.defs).length++(lvB (cm t a).1 c.reps++lvB (cm t a).2.1 c.defs))++(c.values.map pgB).flatten
noncomputable def putP (t:List bg)(a:Int)(c:Col):List UInt8×Int:=if colMay t a c=true then (w4 (crcS (pgBody t a c))++pgBody t a c,0) else ([],2200)
theorem bytesOf_append (x y:List UInt8):aH x++aH y=aH (x++y):=by unfold aH;rw [List.map_append]
theorem bytesOf_len (x:List UInt8):(aH x).length=x.length:=by unfold aH;rw [List.length_map]
theorem pgflat_len {vs:List (List UInt8)}(h:∀v∈vs,PB v (pgB v)):(vs.map pgB).flatten.length≤20*vs.length:=by
 induction vs with
 |nil=>simp
 |cons v vs ih=>
  have h1:=(h v List.mem_cons_self).len
  have h2:=ih fun w hw=>h w (List.mem_cons_of_mem _ hw)
  simp only [List.map_cons,List.flatten_cons,List.length_append,List.length_cons]
  omega
theorem Put_l2 {k:Nat}{vs:List (List UInt8)}(hv:∀v∈vs,PB v (pgB v))(hl:vs.length≤4096){H:List UInt8}(hH:H.length≤1000000)(hk:1200000≤k){n:Nat}(hn:vs.length<n):
  aV.l2 aS k n vs (vs.length:Int) 0 (aH H)=some (w4 (crcS (H++(vs.map pgB).flatten))++(H++(vs.map pgB).flatten),0):=by
 have hfl:=pgflat_len hv
 have:=fZ (F:=fun n i=>aV.l2 aS k n vs (vs.length:Int) (i:Int) (aH (H++((vs.take i).map pgB).flatten))) (N:=vs.length) (r:=some (w4 (crcS (H++(vs.map pgB).flatten))++(H++(vs.map pgB).flatten),0)) ?_ ?_ n 0 (by omega) (by omega)
 ·simpa using this
 ·intro n i hi
  have hb:=hv vs[i] (List.getElem_mem hi)
  have hft:=pgflat_len (vs:=vs.take i) fun v h=>hv v (List.mem_of_mem_take h)
  rw [List.length_take] at hft
  have hbl:=hb.len
  rw [aV.l2_eq,dT (by omega),cT,bF hi,bS,pgBytes_ok (by omega) hb (by have:=hb.short;omega),bS,dT (by rw [bytesOf_len,List.length_append];omega),cT,bytesOf_append,dk (i:=i) (by omega)]
  congr 1
  rw [List.take_succ_eq_append_getElem hi,List.map_append,List.flatten_append,List.map_cons,List.map_nil,List.flatten_cons,List.flatten_nil,List.append_nil,List.append_assoc]
 ·intro n
  rw [aV.l2_eq,dF (by omega),cF,List.take_length,jd,crc_ok (by rw [List.length_append];omega) (by rw [List.length_append];omega),bS,word4' (by omega),bS,dT (by rw [List.length_append,b6];omega),cT]
theorem page_Put_ok {k:Nat}{t:List bg}{a:Int}{c:Col}(hk:1200100+c.values.length≤k)(hl:c.values.length≤20000000000000)(hd:c.reps.length≤20000000000000∧c.defs.length≤20000000000000):aV.f aS k t a c=some (putP t a c):=by
 obtain ⟨k,rfl⟩:∃q,k=q+1:=⟨k - 1,by omega⟩
 rw [aV.f_eq,page_May_ok (by omega) hl hd,bS]
 unfold putP
 cases hm:colMay t a c with
 |false=>rfl
 |true=>
  obtain ⟨i,rfl,hi,hmt,hn,hin,h1,h2,h3,h4,h5,h6⟩:=colMay_parts hm
  have hvl:=colMay_vlen hm
  obtain ⟨r0,r1,d0,d1⟩:=lev_range (t:=t) (a:=(i:Int))
  obtain ⟨_,_,hr⟩:=lvB_put r1 h3 h2
  obtain ⟨_,_,hdl⟩:=lvB_put d1 h4 (by omega)
  rw [Bool.not_true,cF,if_pos rfl,eg (by omega),bS,levels_ok (by omega) r0 r1,bS,levels_ok (by omega) d0 d1,bS]
  obtain ⟨q,hq⟩:∃q,k=q+4:=⟨k - 4,by omega⟩
  have key:∀(A B C:Int) (r d:List UInt8),r.length≤102400→d.length≤102400→aV.l0 aS k (q+4) r d ((([A,B,C]:List Int).length:Nat):Int) 0 c.reps c.defs c.values ([]:List Int) [A,B,C]=
    aV.l2 aS k k c.values ((c.values.length:Nat):Int) 0 (aH (((w4 A++w4 B)++w4 C)++(r++d))):=by
   intro A B C r d hr hd
   rw [aV.l0_eq,dT (by simp),cT,dT (by omega),Bool.and_self,cT,show ([A,B,C]:List Int)[(0:Int).toNat]?=some A from rfl,bS,word4' (by omega),bS,dT (by simp [b6]),cT,show IntKind.i64.wrap (0+1)=1 from rfl,List.nil_append]
   rw [aV.l0_eq,dT (by simp),cT,dT (by omega),Bool.and_self,cT,show ([A,B,C]:List Int)[(1:Int).toNat]?=some B from rfl,bS,word4' (by omega),bS,dT (by rw [bytesOf_len];simp [b6]),cT,show IntKind.i64.wrap (1+1)=2 from rfl,bytesOf_append]
   rw [aV.l0_eq,dT (by simp),cT,dT (by omega),Bool.and_self,cT,show ([A,B,C]:List Int)[(2:Int).toNat]?=some C from rfl,bS,word4' (by omega),bS,dT (by rw [bytesOf_len];simp [b6]),cT,show IntKind.i64.wrap (2+1)=3 from rfl,bytesOf_append]
   rw [aV.l0_eq,dF (by simp),cF,dT (by omega),cT,dT (by rw [bytesOf_len];simp only [List.length_append,b6];omega),cT,bytesOf_append]
  have key':=key ((c.reps.length:Nat):Int) (((lvB (cm t (i:Int)).1 c.reps).length:Nat):Int) (((lvB (cm t (i:Int)).2.1 c.defs).length:Nat):Int) _ _ hr hdl
  rw [←hq] at key'
  rw [key',Put_l2 (fun v hv=>vOk_pb (h5 v hv)) hvl (by simp only [List.length_append,b6];omega) (by omega) (by omega)]
  rfl
theorem same_ints {k:Nat}{a b:List Int}(hk:a.length+3≤k)(hl:a.length≤20000000000000):au.f aS k a b=some (decide (a=b)):=by
 obtain ⟨k,rfl⟩:∃q,k=q+1:=⟨k - 1,by omega⟩
 rw [au.f_eq]
 by_cases h:a.length=b.length
 ·rw [show (((a.length:Nat):Int) != ((b.length:Nat):Int))=false by rw [h];simp,cF]
  have:=ma (F:=fun n i=>au.l0 aS k n a b (i:Int)) (p:=fun i=>decide (a[i]?=b[i]?)) (N:=a.length) (E:=some true) (Z:=some false) ?_ ?_ k (by omega)
  ·refine this.trans ?_
   have e:(List.range a.length).all (fun i=>decide (a[i]?=b[i]?))=decide (a=b):=by
    rw [Bool.eq_iff_iff,List.all_eq_true,decide_eq_true_iff]
    constructor
    ·intro hq
     refine List.ext_getElem? fun i=>?_
     rcases Nat.lt_or_ge i a.length with hi|hi
     ·simpa using hq i (List.mem_range.2 hi)
     ·rw [List.getElem?_eq_none hi,List.getElem?_eq_none (by omega)]
    ·rintro rfl i _;simp
   rw [e]
   cases decide (a=b)<;>rfl
  ·intro n i hi _
   rw [au.l0_eq,dT (by omega),cT,bF hi,bS,bF (show i<b.length by omega),bS,List.getElem?_eq_getElem hi,List.getElem?_eq_getElem (show i<b.length by omega)]
   by_cases hx:a[i]=b[i]
   ·rw [show (a[i] != b[i])=false by rw [hx];simp,cF,dT (by rw [hx]),cT,dk (by omega)]
   ·rw [show (a[i] != b[i])=true by rw [bne_iff_ne];exact hx,cT,dF (by simpa using hx),cF]
  ·intro _ n
   rw [au.l0_eq,dF (by omega),cF]
 ·rw [show (((a.length:Nat):Int) != ((b.length:Nat):Int))=true by rw [bne_iff_ne];omega,cT,dF (by rintro rfl;exact h rfl)]
theorem same_texts {k:Nat}{a b:List (List UInt8)}(hk:a.length+3≤k)(hl:a.length≤20000000000000):aw.f aS k a b=some (decide (a=b)):=by
 obtain ⟨k,rfl⟩:∃q,k=q+1:=⟨k - 1,by omega⟩
 rw [aw.f_eq]
 by_cases h:a.length=b.length
 ·rw [show (((a.length:Nat):Int) != ((b.length:Nat):Int))=false by rw [h];simp,cF]
  have:=ma (F:=fun n i=>aw.l0 aS k n a b (i:Int)) (p:=fun i=>decide (a[i]?=b[i]?)) (N:=a.length) (E:=some true) (Z:=some false) ?_ ?_ k (by omega)
  ·refine this.trans ?_
   have e:(List.range a.length).all (fun i=>decide (a[i]?=b[i]?))=decide (a=b):=by
    rw [Bool.eq_iff_iff,List.all_eq_true,decide_eq_true_iff]
    constructor
    ·intro hq
     refine List.ext_getElem? fun i=>?_
     rcases Nat.lt_or_ge i a.length with hi|hi
     ·simpa using hq i (List.mem_range.2 hi)
     ·rw [List.getElem?_eq_none hi,List.getElem?_eq_none (by omega)]
    ·rintro rfl i _;simp
   rw [e]
   cases decide (a=b)<;>rfl
  ·intro n i hi _
   rw [aw.l0_eq,dT (by omega),cT,bF hi,bS,bF (show i<b.length by omega),bS,List.getElem?_eq_getElem hi,List.getElem?_eq_getElem (show i<b.length by omega)]
   by_cases hx:a[i]=b[i]
   ·rw [show (a[i] != b[i])=false by rw [hx];simp,cF,dT (by rw [hx]),cT,dk (by omega)]
   ·rw [show (a[i] != b[i])=true by rw [bne_iff_ne];exact hx,cT,dF (by simpa using hx),cF]
  ·intro _ n
   rw [aw.l0_eq,dF (by omega),cF]
 ·rw [show (((a.length:Nat):Int) != ((b.length:Nat):Int))=true by rw [bne_iff_ne];omega,cT,dF (by rintro rfl;exact h rfl)]
theorem Col.eq_iff {c d:Col}:c=d↔c.reps=d.reps∧c.defs=d.defs∧c.values=d.values:=by
 cases c;cases d
 simp only [Col.mk.injEq]
open Classical in
theorem same_col {k:Nat}{c d:Col}(hk:c.reps.length+c.defs.length+c.values.length+5≤k)(hl:c.reps.length≤20000000000000∧c.defs.length≤20000000000000∧c.values.length≤20000000000000):
  aM.f aS k c d=some (decide (c=d)):=by
 obtain ⟨k,rfl⟩:∃q,k=q+1:=⟨k - 1,by omega⟩
 rw [aM.f_eq,same_ints (by omega) hl.1,bS]
 by_cases h1:c.reps=d.reps
 ·rw [dT h1,cT,same_ints (by omega) hl.2.1,bS]
  by_cases h2:c.defs=d.defs
  ·rw [dT h2,cT,same_texts (by omega) hl.2.2,bS]
   by_cases h3:c.values=d.values
   ·rw [dT h3,dT (Col.eq_iff.2 ⟨h1,h2,h3⟩)]
   ·rw [dF h3,dF fun e=>h3 (Col.eq_iff.1 e).2.2]
  ·rw [dF h2,cF,dF fun e=>h2 (Col.eq_iff.1 e).2.1]
 ·rw [dF h1,cF,dF fun e=>h1 (Col.eq_iff.1 e).1]
theorem PB.kind {t:List bg}{i:Nat}{v:List UInt8}(h:vOk t (i:Int) v=true):(gz t i=0∧∃x,jJ x∧v=tq x∧pgB v=w8 x)∨(gz t i=1∧∃b,v=kZ b∧pgB v=BH (if b then 1 else 0))∨(gz t i=2∧∃l:List UInt8,l.length≤16∧v=gj l∧pgB v=w4 (l.length:Int)++l):=by
 unfold vOk at h
 rw [Bool.and_eq_true,bne_iff_ne,Int.toNat_natCast] at h
 obtain ⟨_,⟨e,_⟩|⟨e,x,hx,rfl⟩|⟨e,b,rfl⟩|⟨e,l,hl,rfl⟩⟩:=fitB_iff.1 h.2
 ·exact absurd e h.1
 ·exact .inl ⟨e,x,hx,rfl,(PB.i x hx).eq⟩
 ·exact .inr (.inl ⟨e,b,rfl,(PB.b b).eq⟩)
 ·exact .inr (.inr ⟨e,l,hl,rfl,(PB.s l hl).eq⟩)
theorem putP_ok {t:List bg}{a:Int}{c:Col}(h:colMay t a c=true):(putP t a c).2=0:=by unfold putP;rw [if_pos h]
theorem u32_range (n:Int):0≤IntKind.u32.wrap n∧IntKind.u32.wrap n≤4294967295:=by
 simp [IntKind.wrap,IntKind.bits,IntKind.signed];omega
theorem crcS_range (s:List UInt8):0≤crcS s∧crcS s≤4294967295:=by
 unfold crcS
 have h:∀x y,0≤ax .xor .u32 x y∧ax .xor .u32 x y≤4294967295:=fun x y=>by unfold ax;exact u32_range _
 have:=h (s.foldl crcB 4294967295) 4294967295
 rw [b9 _ (by omega)];exact this
theorem numOf_w4' {x:Int}(h:0≤x∧x≤4294967295):gp (w4 x)=x:=by
 unfold gp
 rw [zC x ⟨h.1,by omega⟩,b9 _ (by omega)]
theorem tBytes_ok {k:Nat}(hk:1≤k)(r:List UInt8)(bad:Bool)(n:Int):aP.f aS k r bad n=
  some (if bad=false∧0≤n∧n≤(r.length:Int) then (r.take n.toNat,(r.drop n.toNat,false)) else ([],(r,true))):=by
 obtain ⟨k,rfl⟩:∃q,k=q+1:=⟨k - 1,by omega⟩
 rw [aP.f_eq]
 cases bad with
 |true=>simp
 |false=>
  rw [Bool.not_false,cT]
  by_cases h0:n<0
  ·rw [dT h0,Bool.not_true,cF,if_neg (by omega)]
  ·rw [dF h0,Bool.not_false,cT]
   by_cases h1:n>(r.length:Int)
   ·rw [dT h1,cT,if_neg (by omega)]
   ·rw [dF h1,cF,dT (show (0:Int)≤n by omega),dT (show n≤(r.length:Int) by omega),Bool.and_self,cT,cT,if_pos ⟨rfl,by omega,by omega⟩,List.drop_zero,List.take_length]
theorem get_len {r:List UInt8}(h:(yg r 0 4).2=0):4≤r.length:=by
 unfold yg at h
 split at h
 ·rename_i hc;omega
 ·cases h
theorem tNumber_ok {k:Nat}(hk:20≤k){r:List UInt8}(hr:r.length≤200000000000000)(bad:Bool):bc.f aS k r bad=
  some ((yg r 0 4).1,if bad=false∧(yg r 0 4).2=0 then (r.drop 4,false) else (r,true)):=by
 obtain ⟨k,rfl⟩:∃q,k=q+1:=⟨k - 1,by omega⟩
 rw [bc.f_eq,vo (by omega) r (by omega) 0 4 (by omega),bS]
 cases bad with
 |true=>rw [Bool.not_true,cF,tBytes_ok (by omega),bS,if_neg (by simp),if_neg (by simp)]
 |false=>
  rw [Bool.not_false,cT,tBytes_ok (by omega),bS]
  by_cases h:(yg r 0 4).2=0
  ·have hl:=get_len h
   rw [h,if_pos ⟨rfl,by omega,by omega⟩,if_pos ⟨rfl,rfl⟩]
   rfl
  ·rw [show ((yg r 0 4).2 != 0)=true by rw [bne_iff_ne];exact h,if_neg (by simp),if_neg (by simp [h])]
theorem vInt_ok {k:Nat}(hk:2≤k){x:Int}(h:jJ x):ix.f aS k x=some (tq x):=by
 obtain ⟨k,rfl⟩:∃q,k=q+1:=⟨k - 1,by omega⟩
 have hl:=mD x
 rw [ix.f_eq,vItoa_ok (by omega) h,bS,dT (by simp only [List.length_cons,List.length_nil];omega),cT,dT (by simp only [List.length_append,List.length_cons,List.length_nil];omega),cT]
 rfl
theorem vBool_ok {k:Nat}(hk:1≤k)(b:Bool):gn.f aS k b=some (kZ b):=by
 obtain ⟨k,rfl⟩:∃q,k=q+1:=⟨k - 1,by omega⟩
 rw [gn.f_eq];cases b<;>rfl
theorem vBytes_ok {k:Nat}(hk:2≤k){l:List UInt8}(h:l.length≤200000000000000):fF.f aS k l=some (gj l):=by
 obtain ⟨k,rfl⟩:∃q,k=q+1:=⟨k - 1,by omega⟩
 have hl:=oL l.length
 rw [fF.f_eq,vItoa_ok (by omega) (by unfold jJ;omega),bS,o8,dT (by simp only [List.length_cons,List.length_nil];omega),cT,dT (by simp only [List.length_append,List.length_cons,List.length_nil];omega),cT,dT (by simp only [List.length_append,List.length_cons,List.length_nil];omega),cT]
 rfl
theorem tValue_pb {k:Nat}(hk:40≤k){t:List bg}{i:Nat}{v rest:List UInt8}(h:vOk t (i:Int) v=true)(hl:rest.length≤100000000000000):cX.f aS k (pgB v++rest) false (gz t i)=some (v,(rest,false)):=by
 obtain ⟨k,rfl⟩:∃q,k=q+1:=⟨k - 1,by omega⟩
 rw [cX.f_eq]
 rcases PB.kind h with ⟨e,x,hx,rfl,ev⟩|⟨e,b,rfl,ev⟩|⟨e,l,h16,rfl,ev⟩
 ·rw [e,ev]
  simp only [show ((0:Int)==0)=true from rfl,cT]
  have e8:=xb x
  rw [tBytes_ok (by omega),bS,if_pos ⟨rfl,by omega,by rw [List.length_append,e8];omega⟩]
  simp only
  rw [show (8:Int).toNat=(w8 x).length from e8.symm,List.take_left',List.drop_left',fh (by omega) _ (by rw [e8];omega),bS,zA x hx,vInt_ok (by omega) hx,bS]
  ·rfl
  ·rfl
 ·rw [e,ev]
  simp only [show ((1:Int)==0)=false from rfl,show ((1:Int)==1)=true from rfl,cT,cF]
  rw [tBytes_ok (by omega),bS,if_pos ⟨rfl,by omega,by rw [List.length_append];show (1:Int)≤((1+rest.length:Nat):Int);omega⟩]
  simp only
  rw [show (1:Int).toNat=(BH (if b then 1 else 0)).length from rfl,List.take_left',List.drop_left',fh (by omega) _ (by show 1≤8;omega),bS,vBool_ok (by omega),bS]
  ·cases b<;>rfl
  ·rfl
  ·rfl
 ·rw [e,ev]
  simp only [show ((2:Int)==0)=false from rfl,show ((2:Int)==1)=false from rfl,cF]
  obtain ⟨k,rfl⟩:∃q,k=q+1:=⟨k - 1,by omega⟩
  have hg:=yk [] (l++rest) (l.length:Int) (fw.2 ⟨by omega,by omega⟩)
  simp only [List.nil_append,List.length_nil] at hg
  rw [show ((0:Nat):Int)=0 from rfl] at hg
  rw [List.append_assoc,ei.f_eq,tNumber_ok (by omega) (by simp only [List.length_append,b6];omega),bS,hg]
  simp only
  rw [if_pos ⟨trivial,trivial⟩]
  simp only
  rw [show (4:Nat)=(w4 (l.length:Int)).length from rfl,List.drop_left',tBytes_ok (by omega),bS,if_pos ⟨rfl,by omega,by rw [List.length_append];omega⟩,bS]
  ·simp only
   rw [Int.toNat_natCast,List.take_left',List.drop_left',vBytes_ok (by omega) (by omega),bS]
   ·rfl
   ·rfl
  ·rfl
def noCol:List Int×List Int×List (List UInt8):=([],[],[])
def colOf (c:Col):List Int×List Int×List (List UInt8):=(c.reps,c.defs,c.values)
theorem Get_end {k n:Nat}{t:List bg}{a:Int}{s:List UInt8}{e f:Int}{m:Nat}{c:Col}{r:List UInt8}{bad:Bool}(hk:1200100+c.values.length≤k)(hl:c.values.length≤20000000000000)(hd:c.reps.length≤20000000000000∧c.defs.length≤20000000000000):
  bX.l0 aS k (n+1) a s e f (m:Int) (m:Int) t c.reps c.defs c.values r bad=some (if bad=false∧e=0∧f=0∧putP t a c=(s,0) then (colOf c,0) else (noCol,2200)):=by
 rw [bX.l0_eq,dF (by omega),cF]
 have hc:(Col.mk c.reps c.defs c.values)=c:=by cases c;rfl
 rw [hc,page_Put_ok hk hl hd,bS]
 cases bad with
 |true=>rw [Bool.not_true,cF,if_neg (by simp)];rfl
 |false=>
  rw [Bool.not_false,cT]
  by_cases h1:e=0
  ·rw [h1,show ((0:Int) != 0)=false from rfl,Bool.not_false,cT]
   by_cases h2:f=0
   ·rw [h2,show ((0:Int) != 0)=false from rfl,Bool.not_false,cT]
    by_cases h3:(putP t a c).2=0
    ·rw [h3,show ((0:Int) != 0)=false from rfl,Bool.not_false,cT]
     by_cases h4:(putP t a c).1=s
     ·rw [show ((putP t a c).1 != s)=false by rw [h4];simp,cF,if_pos ⟨rfl,rfl,rfl,Prod.ext h4 h3⟩];rfl
     ·rw [show ((putP t a c).1 != s)=true by rw [bne_iff_ne];exact h4,cT,if_neg (by rintro ⟨_,_,_,h⟩;exact h4 (by rw [h]))];rfl
    ·rw [show ((putP t a c).2 != 0)=true by rw [bne_iff_ne];exact h3,Bool.not_true,cF,if_neg (by rintro ⟨_,_,_,h⟩;exact h3 (by rw [h]))];rfl
   ·rw [show (f != 0)=true by rw [bne_iff_ne];exact h2,Bool.not_true,cF,if_neg (by rintro ⟨_,_,h,_⟩;exact h2 h)];rfl
  ·rw [show (e != 0)=true by rw [bne_iff_ne];exact h1,Bool.not_true,cF,if_neg (by rintro ⟨_,h,_⟩;exact h1 h)];rfl
theorem Get_less {k:Nat}(hk:40≤k){t:List bg}{a:Int}{s:List UInt8}(h4:s.length<4):bX.f aS k t a s=some (noCol,2200):=by
 obtain ⟨k,rfl⟩:∃q,k=q+1:=⟨k - 1,by omega⟩
 rw [bX.f_eq,Leaf_ok (by omega),bS]
 cases hn:eL t a&&!jy (gz t a.toNat) with
 |false=>rfl
 |true=>rw [Bool.not_true,Bool.not_false,cT,dT (by omega),cT];rfl
theorem tNumber_w4 {k:Nat}(hk:20≤k){n:Nat}(hn:n≤1000000000){r:List UInt8}(hr:r.length≤100000000000000):bc.f aS k (w4 (n:Int)++r) false=some ((n:Int),(r,false)):=by
 have hg:=yk [] r (n:Int) (fw.2 ⟨by omega,by omega⟩)
 simp only [List.nil_append,List.length_nil] at hg
 rw [show ((0:Nat):Int)=0 from rfl] at hg
 rw [tNumber_ok hk (by simp only [List.length_append,b6];omega),hg]
 simp only
 rw [if_pos ⟨trivial,trivial⟩,show (4:Nat)=(w4 (n:Int)).length from rfl,List.drop_left']
 rfl
theorem tBytes_app {k:Nat}(hk:1≤k)(x r:List UInt8):aP.f aS k (x++r) false (x.length:Int)=some (x,(r,false)):=by
 rw [tBytes_ok hk,if_pos ⟨rfl,by omega,by rw [List.length_append];omega⟩,Int.toNat_natCast,List.take_left',List.drop_left']<;>rfl
theorem Get_l0_put {k:Nat}{t:List bg}{i:Nat}(hi:i<t.length){s:List UInt8}{R D:List Int}{vs:List (List UInt8)}(hv:∀v∈vs,vOk t (i:Int) v=true)(hm:vs.length≤4096)(hR:R.length≤5000∧D.length≤5000)(hk:1300000≤k)
  (hput:putP t (i:Int) ⟨R,D,vs⟩=(s,0)):∀(d j n:Nat),j+d=vs.length→d+1≤n→
   bX.l0 aS k n (i:Int) s 0 0 (vs.length:Int) (j:Int) t R D (vs.take j) (((vs.drop j).map pgB).flatten) false=some ((R,D,vs),0)
 |0,j,n,hj,hn=>by
  obtain ⟨n,rfl⟩:∃q,n=q+1:=⟨n - 1,by omega⟩
  have hjm:j=vs.length:=by omega
  subst hjm
  rw [List.take_length]
  have:=Get_end (k:=k) (n:=n) (t:=t) (a:=(i:Int)) (s:=s) (e:=0) (f:=0) (m:=vs.length) (c:=⟨R,D,vs⟩) (r:=((vs.drop vs.length).map pgB).flatten) (bad:=false) (by simp only;omega) (by simp only;omega) (by simp only;omega)
  rw [if_pos ⟨rfl,rfl,rfl,hput⟩] at this
  exact this
 |d+1,j,n,hj,hn=>by
  obtain ⟨n,rfl⟩:∃q,n=q+1:=⟨n - 1,by omega⟩
  have hjv:j<vs.length:=by omega
  have hfl:=pgflat_len (vs:=vs.drop (j+1)) fun v h=>vOk_pb (hv v (List.mem_of_mem_drop h))
  rw [List.length_drop] at hfl
  rw [bX.l0_eq,dT (by omega),cT,Bool.not_false,cT,bF hi,bS,jb hi,List.drop_eq_getElem_cons hjv,List.map_cons,List.flatten_cons,tValue_pb (by omega) (hv _ (List.getElem_mem hjv)) (by omega),bS,
   dT (by simp only [List.length_take,List.length_cons,List.length_nil];omega),cT,dk (by omega)]
  have e:vs.take j++[vs[j]]=vs.take (j+1):=(List.take_succ_eq_append_getElem hjv).symm
  rw [e]
  exact Get_l0_put hi hv hm hR hk hput d (j+1) n (by omega) (by omega)
theorem Get_back {k:Nat}{t:List bg}{a:Int}{c:Col}(hk:1600000≤k)(hm:colMay t a c=true):bX.f aS k t a (putP t a c).1=some (colOf c,0):=by
 obtain ⟨k,rfl⟩:∃q,k=q+1:=⟨k - 1,by omega⟩
 obtain ⟨i,rfl,hi,hmt,hn,hin,h1,h2,h3,h4,h5,h6⟩:=colMay_parts hm
 have hvl:=colMay_vlen hm
 obtain ⟨r0,r1,d0,d1⟩:=lev_range (t:=t) (a:=(i:Int))
 obtain ⟨pr,_,hr⟩:=lvB_put r1 h3 h2
 obtain ⟨pd,_,hdl⟩:=lvB_put d1 h4 (by omega)
 have hfl:=pgflat_len fun v h=>vOk_pb (h5 v h)
 have hs:(putP t (i:Int) c).1=w4 (crcS (pgBody t (i:Int) c))++pgBody t (i:Int) c:=by unfold putP;rw [if_pos hm]
 have hput:putP t (i:Int) ⟨c.reps,c.defs,c.values⟩=((putP t (i:Int) c).1,0):=Prod.ext rfl (putP_ok hm)
 have hbody:pgBody t (i:Int) c=w4 ((c.reps.length:Nat):Int)++(w4 (((lvB (cm t (i:Int)).1 c.reps).length:Nat):Int)++(w4 (((lvB (cm t (i:Int)).2.1 c.defs).length:Nat):Int)++(lvB (cm t (i:Int)).1 c.reps++(lvB (cm t (i:Int)).2.1 c.defs++(c.values.map pgB).flatten)))):=by
  unfold pgBody pgHead
  simp only [List.append_assoc]
 have hbl:(pgBody t (i:Int) c).length≤400000:=by rw [hbody];simp only [List.length_append,b6];omega
 generalize hS:(putP t (i:Int) c).1=s at hs hput
 generalize pgBody t (i:Int) c=B at hs hbl hbody
 have h4':List.take 4 s=w4 (crcS B):=by rw [hs,show (4:Nat)=(w4 (crcS B)).length from rfl,List.take_left'];rfl
 have h4d:List.drop 4 s=B:=by rw [hs,show (4:Nat)=(w4 (crcS B)).length from rfl,List.drop_left'];rfl
 have hsl:s.length=4+B.length:=by rw [hs,List.length_append,b6]
 rw [bX.f_eq,Leaf_ok (by omega),bS,Int.toNat_natCast,hn,hin,Bool.not_false,Bool.and_self,Bool.not_true,Bool.not_false,cT,dF (by omega),cF,dT (by omega),dT (by omega),Bool.and_self,cT,List.drop_zero,fh (by omega) _ (by rw [List.length_take];omega),bS,cT,List.take_length,crc_ok (by rw [List.length_drop];omega) (by rw [List.length_drop];omega),bS]
 rw [h4',h4d,numOf_w4' (crcS_range B),show (crcS B != crcS B)=false by simp,cF,eg (by omega),bS,cT,hbody]
 rw [tNumber_w4 (by omega) (by omega) (by simp only [List.length_append,b6];omega),bS]
 simp only
 rw [tNumber_w4 (by omega) (by omega) (by simp only [List.length_append,b6];omega),bS]
 simp only
 rw [tNumber_w4 (by omega) (by omega) (by simp only [List.length_append];omega),bS]
 simp only
 rw [tBytes_app (by omega),bS]
 simp only
 rw [Len_ok (by omega) r0 r1,bS,wJ (by omega) pr (by omega),bS]
 simp only
 rw [tBytes_app (by omega),bS]
 simp only
 rw [Len_ok (by omega) d0 d1,bS,h1,wJ (by omega) pd (by omega),bS]
 simp only
 rw [there_ok' (by omega) (by omega),bS,←h6]
 exact Get_l0_put hi h5 (by omega) (by omega) (by omega) hput c.values.length 0 k (by omega) (by omega)
theorem same_self {k:Nat}{c:Col}(hk:c.reps.length+c.defs.length+c.values.length+5≤k)(hl:c.reps.length≤20000000000000∧c.defs.length≤20000000000000∧c.values.length≤20000000000000):aM.f aS k c c=some true:=by
 rw [same_col hk hl];simp
def dR (K:Nat):Nat→List Int→Nat
 |_,[]=>0
 |seen,x :: xs=>if x=0 then (if seen=K then 0 else dR K (seen+1) xs+1) else dR K seen xs+1
theorem sq (K:Nat):∀(seen:Nat) (xs:List Int),dR K seen xs≤xs.length
 |_,[]=>Nat.le_refl _
 |seen,x :: xs=>by
  have h1:=sq K (seen+1) xs
  have h2:=sq K seen xs
  simp only [dR,List.length_cons]
  split
  ·split<;>omega
  ·omega
theorem kt (one x:Int)(xs:List Int):cnt one (x :: xs)=cnt one xs+(if x=one then 1 else 0):=by
 unfold cnt
 rw [List.countP_cons]
 by_cases h:x=one<;>simp [h]
theorem o7 (K:Nat):∀(seen:Nat) (xs:List Int),seen≤K→(dR K seen xs=xs.length∧seen+cnt 0 xs≤K)∨(∃ys,xs.drop (dR K seen xs)=0 :: ys∧seen+cnt 0 (xs.take (dR K seen xs))=K)
 |seen,[],h=>.inl ⟨rfl,by unfold cnt;simpa using h⟩
 |seen,x :: xs,h=>by
  simp only [dR]
  by_cases hx:x=0
  ·subst hx
   rw [if_pos rfl]
   by_cases hs:seen=K
   ·rw [if_pos hs]
    exact .inr ⟨xs,rfl,by unfold cnt;simpa using hs⟩
   ·rw [if_neg hs]
    rcases o7 K (seen+1) xs (by omega) with ⟨h1,h2⟩|⟨ys,h1,h2⟩
    ·exact .inl ⟨by rw [h1,List.length_cons],by rw [kt,if_pos rfl];omega⟩
    ·exact .inr ⟨ys,by rw [List.drop_succ_cons];exact h1,by rw [List.take_succ_cons,kt,if_pos rfl];omega⟩
  ·rw [if_neg hx]
   rcases o7 K seen xs h with ⟨h1,h2⟩|⟨ys,h1,h2⟩
   ·exact .inl ⟨by rw [h1,List.length_cons],by rw [kt,if_neg hx];omega⟩
   ·exact .inr ⟨ys,by rw [List.drop_succ_cons];exact h1,by rw [List.take_succ_cons,kt,if_neg hx];omega⟩
theorem vC {k:Nat}{R D:List Int}{V:List (List UInt8)}{K:Nat}{one:Int}(hRD:R.length=D.length)(hl:R.length≤4096):∀(d i n seen:Nat),i+d=R.length→d+1≤n→seen≤i→
  aW.l0 aS k n R D V (K:Int) one (seen:Int) ((cnt one (D.take i):Nat):Int) (R.length:Int) (i:Int)=some (((i+dR K seen (R.drop i):Nat):Int),((cnt one (D.take (i+dR K seen (R.drop i))):Nat):Int))
 |0,i,n,seen,hi,hn,hs=>by
  obtain ⟨n,rfl⟩:∃q,n=q+1:=⟨n - 1,by omega⟩
  rw [aW.l0_eq,dF (by omega),cF,List.drop_eq_nil_of_le (by omega)]
  simp only [dR,Nat.add_zero]
  have:i=R.length:=by omega
  rw [this]
 |d+1,i,n,seen,hi,hn,hs=>by
  obtain ⟨n,rfl⟩:∃q,n=q+1:=⟨n - 1,by omega⟩
  have hiR:i<R.length:=by omega
  have hiD:i<D.length:=by omega
  have hc:=cnt_le one (D.take i)
  rw [List.length_take] at hc
  have hj:∀s:Nat,s≤i+1→aW.j9 aS k n R D V (K:Int) one (s:Int) ((cnt one (D.take i):Nat):Int) (i:Int) (R.length:Int)=aW.l0 aS k n R D V (K:Int) one (s:Int) ((cnt one (D.take (i+1)):Nat):Int) (R.length:Int) ((i+1:Nat):Int):=by
   intro s _
   rw [aW.j9_eq,bF hiD,bS,cnt_succ one hiD,dk (i:=i) (by omega)]
   cases (D[i]==one)
   ·rw [cF,if_neg (by simp)];rfl
   ·rw [cT,dk (by omega),if_pos rfl]
  rw [aW.l0_eq,dT (by omega),cT,bF hiR,bS,List.drop_eq_getElem_cons hiR]
  simp only [dR]
  by_cases hx:R[i]=0
  ·rw [hx,show ((0:Int)==0)=true from rfl,cT,if_pos rfl]
   by_cases hsK:seen=K
   ·rw [hsK,show (((K:Int))==(K:Int))=true by simp,cT,if_pos rfl,Nat.add_zero]
   ·rw [show (((seen:Int))==(K:Int))=false by rw [beq_eq_false_iff_ne];omega,cF,if_neg hsK,dk (by omega),Ab]
    rw [hj (seen+1) (by omega),vC hRD hl d (i+1) n (seen+1) (by omega) (by omega) (by omega),show i+1+dR K (seen+1) (R.drop (i+1))=i+(dR K (seen+1) (R.drop (i+1))+1) by omega]
  ·rw [show (R[i]==0)=false by rw [beq_eq_false_iff_ne];exact hx,cF,if_neg hx,Ab]
   rw [hj seen (by omega),vC hRD hl d (i+1) n seen (by omega) (by omega) (by omega),show i+1+dR K seen (R.drop (i+1))=i+(dR K seen (R.drop (i+1))+1) by omega]
theorem uX {k:Nat}{c:Col}{K:Nat}{one:Int}(hk:5000≤k)(hRD:c.reps.length=c.defs.length)(hl:c.reps.length≤4096):
  aW.f aS k c (K:Int) one=some (((dR K 0 c.reps:Nat):Int),((cnt one (c.defs.take (dR K 0 c.reps)):Nat):Int)):=by
 obtain ⟨k,rfl⟩:∃q,k=q+1:=⟨k - 1,by omega⟩
 have:=vC (k:=k) (R:=c.reps) (D:=c.defs) (V:=c.values) (K:=K) (one:=one) hRD hl c.reps.length 0 k 0 (by omega) (by omega) (by omega)
 simp only [List.take_zero,List.drop_zero,Nat.zero_add] at this
 rw [aW.f_eq]
 exact this
structure np (t:List bg)(a:Int)(K:Nat)(c:Col)(cs:List Col):Prop where
 may:∀d∈cs,colMay t a d=true
 hd:∀d∈cs,∃xs,d.reps=0 :: xs
 reps:(cs.map Col.reps).flatten=c.reps
 defs:(cs.map Col.defs).flatten=c.defs
 values:(cs.map Col.values).flatten=c.values
 num:cs.length=(cnt 0 c.reps+K - 1) / K
theorem mA {most:Int}{xs:List Int}(h:inL most xs=true)(n:Nat):inL most (xs.take n)=true∧inL most (xs.drop n)=true:=by
 unfold inL at*
 rw [List.all_eq_true] at*
 simp only [List.all_eq_true]
 exact ⟨fun x hx=>h x (List.mem_of_mem_take hx),fun x hx=>h x (List.mem_of_mem_drop hx)⟩
theorem rR (one:Int)(xs:List Int)(n:Nat):cnt one xs=cnt one (xs.take n)+cnt one (xs.drop n):=by
 unfold cnt
 rw [←List.countP_append,List.take_append_drop]
theorem rp {t:List bg}{a:Int}{c:Col}(h:colMay t a c=true){R D:List Int}{V:List (List UInt8)}(h1:R.length=D.length)(h2:R.length≤4096)(h3:inL (cm t a).1 R=true)(h4:inL (cm t a).2.1 D=true)(h5:∀v∈V,v∈c.values)(h6:V.length=cnt (cm t a).2.1 D):
  colMay t a ⟨R,D,V⟩=true:=by
 have h0:=h
 unfold colMay at h ⊢
 simp only [Bool.and_eq_true,decide_eq_true_eq,List.all_eq_true] at h ⊢
 obtain ⟨p,q1,q2,q3,q4,q5,q6⟩:=h
 exact ⟨p,h1,h2,h3,h4,fun v hv=>q5 v (h5 v hv),h6⟩
theorem vD {t:List bg}{a:Int}{c:Col}(h:colMay t a c=true){n:Nat}(hn:n≤c.reps.length):
  colMay t a ⟨c.reps.take n,c.defs.take n,c.values.take (cnt (cm t a).2.1 (c.defs.take n))⟩=true∧colMay t a ⟨c.reps.drop n,c.defs.drop n,c.values.drop (cnt (cm t a).2.1 (c.defs.take n))⟩=true∧cnt (cm t a).2.1 (c.defs.take n)≤c.values.length:=by
 obtain ⟨i,_,_,_,_,_,h1,h2,h3,h4,h5,h6⟩:=colMay_parts h
 have hs:=rR (cm t a).2.1 c.defs n
 refine ⟨rp h ?_ ?_ (mA h3 n).1 (mA h4 n).1 (fun v hv=>List.mem_of_mem_take hv) ?_,rp h ?_ ?_ (mA h3 n).2 (mA h4 n).2 (fun v hv=>List.mem_of_mem_drop hv) ?_,by omega⟩
 ·simp only [List.length_take];omega
 ·simp only [List.length_take];omega
 ·simp only [List.length_take];omega
 ·simp only [List.length_drop];omega
 ·simp only [List.length_drop];omega
 ·simp only [List.length_drop];omega
def gZ (one:Int)(K:Nat):Nat→Col→List Col
 |0,_=>[]
 |f+1,c=>if c.reps=[] then [] else
  ⟨c.reps.take (dR K 0 c.reps),c.defs.take (dR K 0 c.reps),c.values.take (cnt one (c.defs.take (dR K 0 c.reps)))⟩ :: gZ one K f ⟨c.reps.drop (dR K 0 c.reps),c.defs.drop (dR K 0 c.reps),c.values.drop (cnt one (c.defs.take (dR K 0 c.reps)))⟩
theorem uH {k:Nat}{t:List bg}{a:Int}{K:Nat}(hK:1≤K)(hk:1300000≤k):∀(m:Nat) (c:Col) (out:List (List UInt8)) (n:Nat),c.reps.length≤m→colMay t a c=true→(∀x xs,c.reps=x :: xs→x=0)→m+1≤n→out.length+m≤100000→
  ∃cs,cs=gZ (cm t a).2.1 K m c∧np t a K c cs∧aC.l0 aS k n a (K:Int) (cm t a).2.1 t c.reps c.defs c.values out=some (out++cs.map (fun d=>(putP t a d).1),0):=by
 intro m
 induction m with
 |zero=>
  intro c out n hm hc _ hn _
  obtain ⟨n,rfl⟩:∃q,n=q+1:=⟨n - 1,by omega⟩
  obtain ⟨i,_,_,_,_,_,h1,h2,h3,h4,h5,h6⟩:=colMay_parts hc
  have e1:c.reps=[]:=List.length_eq_zero_iff.1 (by omega)
  have e2:c.defs=[]:=List.length_eq_zero_iff.1 (by omega)
  have e3:c.values=[]:=List.length_eq_zero_iff.1 (by rw [h6,e2];rfl)
  refine ⟨[],rfl,⟨fun d h=>by simp at h,fun d h=>by simp at h,by rw [e1];rfl,by rw [e2];rfl,by rw [e3];rfl,by rw [e1];simp only [List.length_nil,cnt,List.countP_nil];exact (Nat.div_eq_of_lt (by omega)).symm⟩,?_⟩
  rw [aC.l0_eq,e1,dF (by simp),cF,List.map_nil,List.append_nil]
 |succ m ih=>
  intro c out n hm hc h0 hn ho
  obtain ⟨n,rfl⟩:∃q,n=q+1:=⟨n - 1,by omega⟩
  obtain ⟨i,_,_,_,_,_,h1,h2,h3,h4,h5,h6⟩:=colMay_parts hc
  cases hR:c.reps with
  |nil=>
   have e2:c.defs=[]:=List.length_eq_zero_iff.1 (by rw [←h1,hR];rfl)
   have e3:c.values=[]:=List.length_eq_zero_iff.1 (by rw [h6,e2];rfl)
   refine ⟨[],by rw [gZ,if_pos hR],⟨fun d h=>by simp at h,fun d h=>by simp at h,by rw [hR];rfl,by rw [e2];rfl,by rw [e3];rfl,by rw [hR];simp only [List.length_nil,cnt,List.countP_nil];exact (Nat.div_eq_of_lt (by omega)).symm⟩,?_⟩
   rw [aC.l0_eq,dF (by simp),cF,List.map_nil,List.append_nil]
  |cons x xs=>
   have hx:=h0 x xs hR
   subst hx
   rw [←hR]
   have hpf:gZ (cm t a).2.1 K (m+1) c=⟨c.reps.take (dR K 0 c.reps),c.defs.take (dR K 0 c.reps),c.values.take (cnt (cm t a).2.1 (c.defs.take (dR K 0 c.reps)))⟩ :: gZ (cm t a).2.1 K m ⟨c.reps.drop (dR K 0 c.reps),c.defs.drop (dR K 0 c.reps),c.values.drop (cnt (cm t a).2.1 (c.defs.take (dR K 0 c.reps)))⟩:=by rw [gZ,if_neg (by rw [hR];simp)]
   have hpos:1≤dR K 0 c.reps:=by
    rw [hR]
    simp only [dR,if_true]
    rw [if_neg (by omega)];omega
   have hle:=sq K 0 c.reps
   have hcc:=o7 K 0 c.reps (by omega)
   have hlen:0<c.reps.length:=by rw [hR];simp
   obtain ⟨m1,m2,m3⟩:=vD hc hle
   have hcut:=uX (k:=k) (c:=⟨c.reps,c.defs,c.values⟩) (K:=K) (one:=(cm t a).2.1) (by omega) h1 h2
   simp only at hcut
   generalize dR K 0 c.reps=N at hpos hle hcc m1 m2 m3 hcut hpf
   generalize cnt (cm t a).2.1 (c.defs.take N)=M at m1 m2 m3 hcut hpf
   have hvl:=colMay_vlen hc
   have h0':∀x xs,(⟨c.reps.drop N,c.defs.drop N,c.values.drop M⟩:Col).reps=x :: xs→x=0:=by
    intro x xs e
    simp only at e
    rcases hcc with ⟨q1,_⟩|⟨ys,q1,_⟩
    ·rw [List.drop_eq_nil_of_le (by omega)] at e;cases e
    ·rw [q1] at e;cases e;rfl
   obtain ⟨cs,hcsf,hp,hrun⟩:=ih ⟨c.reps.drop N,c.defs.drop N,c.values.drop M⟩ (out++[(putP t a ⟨c.reps.take N,c.defs.take N,c.values.take M⟩).1]) n (by simp only [List.length_drop];omega) m2 h0' (by omega) (by simp only [List.length_append,List.length_cons,List.length_nil];omega)
   refine ⟨⟨c.reps.take N,c.defs.take N,c.values.take M⟩ :: cs,by rw [hpf,hcsf],⟨?_,?_,?_,?_,?_,?_⟩,?_⟩
   ·intro d hd
    rcases List.mem_cons.mp hd with rfl|hd
    ·exact m1
    ·exact hp.may d hd
   ·intro d hd
    rcases List.mem_cons.mp hd with rfl|hd
    ·refine ⟨xs.take (N - 1),?_⟩
     obtain ⟨N',rfl⟩:∃q,N=q+1:=⟨N - 1,by omega⟩
     simp only [hR,List.take_succ_cons,Nat.add_sub_cancel]
    ·exact hp.hd d hd
   ·rw [List.map_cons,List.flatten_cons,hp.reps];exact List.take_append_drop _ _
   ·rw [List.map_cons,List.flatten_cons,hp.defs];exact List.take_append_drop _ _
   ·rw [List.map_cons,List.flatten_cons,hp.values];exact List.take_append_drop _ _
   ·rw [List.length_cons,hp.num]
    simp only
    have hs:=rR 0 c.reps N
    have h1c:1≤cnt 0 c.reps:=by rw [hR,kt,if_pos rfl];omega
    rcases hcc with ⟨q1,q2⟩|⟨ys,q1,q2⟩
    ·rw [List.drop_eq_nil_of_le (by omega)]
     rw [show cnt 0 ([]:List Int)=0 from rfl,Nat.div_eq_of_lt (show 0+K - 1<K by omega)]
     have:(cnt 0 c.reps+K - 1) / K=1:=by
      rw [Nat.div_eq_iff (by omega)]
      omega
     rw [this]
    ·rw [hs,show cnt 0 (c.reps.take N)+cnt 0 (c.reps.drop N)+K - 1=cnt 0 (c.reps.drop N)+K - 1+K by omega,Nat.add_div_right _ (by omega)]
   ·rw [aC.l0_eq,dT (by omega),cT,hcut,bS]
    simp only
    rw [dT (show (0:Int)≤((N:Nat):Int) by omega),dT (show ((N:Nat):Int)≤((c.reps.length:Nat):Int) by omega),dT (show ((N:Nat):Int)≤((c.defs.length:Nat):Int) by omega),dT (show (0:Int)≤((M:Nat):Int) by omega),dT (show ((M:Nat):Int)≤((c.values.length:Nat):Int) by omega)]
    simp only [Bool.and_self,cT,Int.toNat_natCast,List.drop_zero,List.take_length]
    rw [page_Put_ok (by simp only [List.length_take];omega) (by simp only [List.length_take];omega) (by simp only [List.length_take];omega),bS,dT (by simp only [List.length_cons,List.length_nil];omega),cT]
    refine hrun.trans ?_
    rw [List.map_cons,List.append_assoc];rfl
theorem lZ {k:Nat}{t:List bg}{a:Int}{c:Col}{K:Nat}(hk:1400000+c.values.length≤k)(hl:c.values.length≤20000000000000)(hd:c.reps.length≤20000000000000∧c.defs.length≤20000000000000)(hK:1≤K):
  (aC.f aS k t a c (K:Int)=some ([],2300)∧¬(colMay t a c=true∧∀x xs,c.reps=x :: xs→x=0))∨
  (colMay t a c=true∧(∀x xs,c.reps=x :: xs→x=0)∧∃cs,cs=gZ (cm t a).2.1 K c.reps.length c∧np t a K c cs∧aC.f aS k t a c (K:Int)=some (cs.map (fun d=>(putP t a d).1),0)):=by
 obtain ⟨k,rfl⟩:∃q,k=q+1:=⟨k - 1,by omega⟩
 rw [aC.f_eq,page_May_ok (by omega) hl hd,bS]
 cases hm:colMay t a c with
 |false=>exact .inl ⟨rfl,fun h=>by cases h.1⟩
 |true=>
  obtain ⟨i,_,_,_,_,_,h1,h2,h3,h4,h5,h6⟩:=colMay_parts hm
  rw [Bool.not_true,Bool.not_false,cT,dF (show¬((K:Int)<1) by omega),Bool.not_false,cT]
  have key:(∀x xs,c.reps=x :: xs→x=0)→∃cs,cs=gZ (cm t a).2.1 K c.reps.length c∧np t a K c cs∧((aA.f aS k t a).bind fun r=>aC.l0 aS k k a (K:Int) r.2.1 t c.reps c.defs c.values [])=some (cs.map (fun d=>(putP t a d).1),0):=by
   intro h0
   obtain ⟨cs,hcsf,hp,hrun⟩:=uH (k:=k) (t:=t) (a:=a) hK (by omega) c.reps.length c [] k (Nat.le_refl _) hm h0 (by omega) (by simp;omega)
   refine ⟨cs,hcsf,hp,?_⟩
   rw [eg (by omega),bS]
   exact hrun
  cases hR:c.reps with
  |nil=>
   rw [hR] at key
   obtain ⟨cs,hcsf,hp,hrun⟩:=key (fun x xs e=>by cases e)
   refine .inr ⟨rfl,fun x xs e=>(by cases e),cs,hcsf,hp,?_⟩
   rw [dF (by simp),cF]
   exact hrun
  |cons x xs=>
   rw [hR] at key
   rw [dT (by simp),cT,show rd (x :: xs) 0=some x from rfl,bS]
   by_cases hx:x=0
   ·subst hx
    obtain ⟨cs,hcsf,hp,hrun⟩:=key (fun x xs e=>by cases e;rfl)
    refine .inr ⟨rfl,fun x xs e=>(by cases e;rfl),cs,hcsf,hp,?_⟩
    rw [show ((0:Int) != 0)=false from rfl,cF]
    exact hrun
   ·rw [show (x != 0)=true by rw [bne_iff_ne];exact hx,cT]
    exact .inl ⟨rfl,fun h=>hx (h.2 x xs rfl)⟩
theorem pM {k:Nat}{t:List bg}{a:Int}(hk:1700000≤k){is:Bool}{cs:List Col}(hm:∀d∈cs,colMay t a d=true)(hh:∀d∈cs,∃xs,d.reps=0 :: xs)(hcs:cs.length≤100000)(hl:((cs.map Col.reps).flatten).length≤4096):
  ∀(d i n:Nat),i+d=cs.length→d+1≤n→
  aI.l0 aS k n a is (cs.map fun d=>(putP t a d).1) (cs.length:Int) (i:Int) t (((cs.take i).map Col.reps).flatten) (((cs.take i).map Col.defs).flatten) (((cs.take i).map Col.values).flatten)=
   some (if is then ((((cs.map Col.reps).flatten),((cs.map Col.defs).flatten),((cs.map Col.values).flatten)),0) else (noCol,2300)):=by
 intro d
 induction d with
 |zero=>
  intro i n hi hn
  obtain ⟨n,rfl⟩:∃q,n=q+1:=⟨n - 1,by omega⟩
  rw [aI.l0_eq,dF (by omega),cF,List.take_of_length_le (by omega)]
  cases is<;>rfl
 |succ d ih=>
  intro i n hi hn
  obtain ⟨n,rfl⟩:∃q,n=q+1:=⟨n - 1,by omega⟩
  have hic:i<cs.length:=by omega
  have hmi:=hm _ (List.getElem_mem hic)
  obtain ⟨xs,hx⟩:=hh _ (List.getElem_mem hic)
  obtain ⟨_,_,_,_,_,_,h1,h2,_⟩:=colMay_parts hmi
  have hvl:=colMay_vlen hmi
  have e:cs.take (i+1)=cs.take i++[cs[i]]:=List.take_succ_eq_append_getElem hic
  have ihr:=ih (i+1) n (by omega) (by omega)
  have hsum:(((cs.take i).map Col.reps).flatten).length+cs[i].reps.length≤4096:=by
   have h3:(((cs.take (i+1)).map Col.reps).flatten).length≤((cs.map Col.reps).flatten).length:=by
    conv=>rhs;rw [←List.take_append_drop (i+1) cs]
    rw [List.map_append,List.flatten_append,List.length_append];omega
   rw [e,List.map_append,List.flatten_append,List.length_append] at h3
   simp only [List.map_cons,List.map_nil,List.flatten_cons,List.flatten_nil,List.append_nil] at h3
   omega
  have hdl:(((cs.take i).map Col.defs).flatten).length=(((cs.take i).map Col.reps).flatten).length∧(((cs.take i).map Col.values).flatten).length≤(((cs.take i).map Col.reps).flatten).length:=by
   have:∀l:List Col,(∀d∈l,colMay t a d=true)→((l.map Col.defs).flatten).length=((l.map Col.reps).flatten).length∧((l.map Col.values).flatten).length≤((l.map Col.reps).flatten).length:=by
    intro l
    induction l with
    |nil=>intro _;simp
    |cons x l ih2=>
     intro h
     have h3:=ih2 fun d hd=>h d (List.mem_cons_of_mem _ hd)
     obtain ⟨_,_,_,_,_,_,q1,_,_,_,_,q6⟩:=colMay_parts (h x List.mem_cons_self)
     have q7:=cnt_le (cm t a).2.1 x.defs
     simp only [List.map_cons,List.flatten_cons,List.length_append]
     omega
   exact this _ fun d hd=>hm d (List.mem_of_mem_take hd)
  rw [e] at ihr
  simp only [List.map_append,List.flatten_append,List.map_cons,List.map_nil,List.flatten_cons,List.flatten_nil,List.append_nil] at ihr
  have hrd:rd (cs.map fun d=>(putP t a d).1) (i:Int)=some (putP t a cs[i]).1:=by
   rw [bF (by rw [List.length_map];exact hic),List.getElem_map]
  have hg:bX.f aS k t a (putP t a cs[i]).1=some ((cs[i].reps,cs[i].defs,cs[i].values),0):=Get_back (by omega) hmi
  rw [aI.l0_eq,dT (by omega),cT,hrd,bS,hg,bS]
  simp only
  rw [show ((0:Int) != 0)=false from rfl,Bool.not_false,cT,show (((cs[i].reps.length:Nat):Int)==0)=false by rw [beq_eq_false_iff_ne,hx];simp;omega,Bool.not_false,cT,show (decide (0≤0)&&decide (0<((cs[i].reps.length:Nat):Int)))=true by rw [hx];simp,cT,
   show cs[i].reps[0]?=some 0 by rw [hx];rfl,bS,show ((0:Int) != 0)=false from rfl,Bool.not_false,cT,b9 _ (by omega),dF (by omega),cF,dT (by omega),cT,dT (by omega),cT,dT (by omega),cT,dk (by omega)]
  exact ihr
theorem AQ {k:Nat}{t:List bg}{a:Int}{K:Nat}{c:Col}{cs:List Col}(hk:1800000≤k)(hm:colMay t a c=true)(hp:np t a K c cs)(hcs:cs.length≤100000):aI.f aS k t a (cs.map fun d=>(putP t a d).1)=some (colOf c,0):=by
 obtain ⟨k,rfl⟩:∃q,k=q+1:=⟨k - 1,by omega⟩
 obtain ⟨i,rfl,_,_,hn,hin,h1,h2,_⟩:=colMay_parts hm
 have:=pM (k:=k) (t:=t) (a:=(i:Int)) (by omega) (is:=true) hp.may hp.hd hcs (by rw [hp.reps];exact h2) cs.length 0 k (by omega) (by omega)
 rw [aI.f_eq,Leaf_ok (by omega),bS,Int.toNat_natCast,hn,hin,Bool.not_false,Bool.and_self,List.length_map]
 rw [hp.reps,hp.defs,hp.values] at this
 exact this
def jB:List bg:=[bg.mk 0 (-1) true]
def l7:Col:=Col.mk [0,0,0] [1,0,1] [[105,53,59],[105,54,59]]
theorem Dh:colMay jB 0 l7=true:=by
 have h:cw.f aS 200000 jB 0 l7=some true:=by kernel_rfl
 rw [page_May_ok (by decide) (by decide) (by decide)] at h
 exact Option.some.inj h
theorem DN {k:Nat}(hk:1≤k):bm.f aS k=some jB:=by
 obtain ⟨k,rfl⟩:∃q,k=q+1:=⟨k - 1,by omega⟩
 rw [bm.f_eq];rfl
theorem vr {k:Nat}{t:List bg}{a:Int}{c:Col}{lim:Int}(hk:1400000+c.values.length≤k)(hl:c.values.length≤20000000000000)(hd:c.reps.length≤20000000000000∧c.defs.length≤20000000000000)(hlim:lim<1):aC.f aS k t a c lim=some ([],2300):=by
 obtain ⟨k,rfl⟩:∃q,k=q+1:=⟨k - 1,by omega⟩
 rw [aC.f_eq,page_May_ok (by omega) hl hd,bS]
 cases colMay t a c with
 |false=>rfl
 |true=>rw [Bool.not_true,Bool.not_false,cT,dT hlim];rfl
theorem Ac {k:Nat}(hk:32≤k):dI.f aS k jB 0=some true:=by rw [Leaf_ok hk];rfl
theorem A4 {k:Nat}(hk:2000000≤k):cD.f aS k=some true:=by
 obtain ⟨k,rfl⟩:∃q,k=q+1:=⟨k - 1,by omega⟩
 have e1:∃cs,np jB 0 2 l7 cs∧aC.f aS k jB 0 (Col.mk ([0,0,0]:List Int) ([1,0,1]:List Int) ([([105,53,59]:List UInt8),([105,54,59]:List UInt8)]:List (List UInt8))) 2=some (cs.map (fun d=>(putP jB 0 d).1),0):=by
  rcases lZ (k:=k) (t:=jB) (a:=0) (c:=l7) (K:=2) (by show 1400000+2≤k;omega) (by decide) (by decide) (by omega) with ⟨_,h⟩|⟨_,_,cs,_,hp,h⟩
  ·exact absurd ⟨Dh,fun x xs e=>by cases e;rfl⟩ h
  ·exact ⟨cs,hp,h⟩
 obtain ⟨cs,hp,e1⟩:=e1
 have hn:cs.length=2:=by rw [hp.num];rfl
 have e2:=AQ (k:=k) (by omega) Dh hp (by omega)
 have e3:aC.f aS k jB 0 (Col.mk ([0,0,0]:List Int) ([1,0,1]:List Int) ([([105,53,59]:List UInt8),([105,54,59]:List UInt8)]:List (List UInt8))) 0=some ([],2300):=
  vr (c:=l7) (by show 1400000+2≤k;omega) (by decide) (by decide) (by omega)
 have e4:aI.f aS k jB 0 [[]]=some (noCol,2300):=by
  obtain ⟨q,rfl⟩:∃q,k=q+2:=⟨k - 2,by omega⟩
  rw [aI.f_eq,Ac (by omega),bS,aI.l0_eq,dT (by simp),cT,show rd ([[]]:List (List UInt8)) 0=some [] from rfl,bS,Get_less (by omega) (by simp),bS]
  rfl
 have e5:aI.f aS k jB 0 []=some (([],[],[]),0):=by
  obtain ⟨q,rfl⟩:∃q,k=q+2:=⟨k - 2,by omega⟩
  rw [aI.f_eq,Ac (by omega),bS,aI.l0_eq,dF (by simp),cF]
  rfl
 have hi:=DN (show 1≤k by omega)
 rw [cD.f_eq,hi,bS,e1,bS]
 simp only [hi,bS,e2,e3,e4,e5,qg (show 1≤k by omega)]
 rw [show ((((cs.map fun d=>(putP jB 0 d).1).length:Nat):Int)==2)=true by rw [List.length_map,hn];rfl,cT,show ((0:Int)==0)=true from rfl,cT,
  show aM.f aS k (Col.mk ([0,0,0]:List Int) ([1,0,1]:List Int) ([([105,53,59]:List UInt8),([105,54,59]:List UInt8)]:List (List UInt8))) (Col.mk (colOf l7).1 (colOf l7).2.1 (colOf l7).2.2)=some true from same_self (c:=l7) (by show 3+3+2+5≤k;omega) (by decide),bS]
 simp only [show ((2300:Int)==2300)=true from rfl,cT]
 rw [same_self (by show 0+0+0+5≤k;omega) (by decide),bS]
 rfl
theorem DC (x:Int)(m:Nat)(hm:m≤12)(q:Int)(hq:q=2 ^ m - 1):∃K:Nat,IntKind.i64.wrap (1+ax .and .i64 x q)=(K:Int)∧1≤K∧K≤2 ^ m:=by
 have:=tB x m (by omega)
 rw [hq,this]
 have hp:(0:Int)<2 ^ m:=Int.pow_pos (by omega)
 have h0:=Int.emod_nonneg x (show (2 ^ m:Int)≠0 by omega)
 have h1:=Int.emod_lt_of_pos x hp
 have h2:(2 ^ m:Int)≤4096:=by
  have:(2:Nat) ^ m≤2 ^ 12:=Nat.pow_le_pow_right (by omega) hm
  have h3:((2 ^ m:Nat):Int)≤((2 ^ 12:Nat):Int):=by omega
  simpa using h3
 refine ⟨(1+x % 2 ^ m).toNat,?_,by omega,?_⟩
 ·rw [b9 _ (by omega)];omega
 ·have:(((2:Nat) ^ m:Nat):Int)=2 ^ m:=by simp
  omega
end Go.Proofs.YtjkokaockhecnaaGreatDoorP

namespace Go.Proofs.YtjkokaockhecnaaGreatDoorP
open Go Go.Proofs.YtjkokaockhecnaaGreatDoorA
theorem uA {k:Nat}(hk:1≤k){c:Col}(h:c.reps.length≤5000∧c.defs.length≤5000∧c.values.length≤5000):bY.f aS k c=some (c.reps,c.defs,c.values):=by
 obtain ⟨k,rfl⟩:∃q,k=q+1:=⟨k - 1,by omega⟩
 rw [bY.f_eq,dT (by omega),cT,dT (by omega),cT,dT (by omega),cT]
theorem yT {k:Nat}{t:List bg}{a:Int}{c:Col}(hk:1800000≤k)(hm:colMay t a c=true){cs:List Col}(hms:∀d∈cs,colMay t a d=true)(hh:∀d∈cs,∃xs,d.reps=0 :: xs)(hcs:cs.length≤100000)(hl:((cs.map Col.reps).flatten).length≤4096):
  aI.f aS k t a (cs.map fun d=>(putP t a d).1)=some ((((cs.map Col.reps).flatten),((cs.map Col.defs).flatten),((cs.map Col.values).flatten)),0):=by
 obtain ⟨k,rfl⟩:∃q,k=q+1:=⟨k - 1,by omega⟩
 obtain ⟨i,rfl,_,_,hn,hin,h1,h2,_⟩:=colMay_parts hm
 have:=pM (k:=k) (t:=t) (a:=(i:Int)) (by omega) (is:=true) hms hh hcs hl cs.length 0 k (by omega) (by omega)
 rw [aI.f_eq,Leaf_ok (by omega),bS,Int.toNat_natCast,hn,hin,Bool.not_false,Bool.and_self,List.length_map]
 exact this
theorem nM {t:List bg}{a:Int}{K:Nat}{c:Col}{cs:List Col}(hK:1≤K)(hm:colMay t a c=true)(hp:np t a K c cs):cs.length≤4096:=by
 obtain ⟨_,_,_,_,_,_,h1,h2,_⟩:=colMay_parts hm
 have hcl:=cnt_le 0 c.reps
 rw [hp.num]
 have:(cnt 0 c.reps+K - 1) / K<cnt 0 c.reps+1:=by
  rw [Nat.div_lt_iff_lt_mul (by omega),Nat.add_mul,Nat.one_mul]
  have:=Nat.le_mul_of_pos_right (cnt 0 c.reps) (show 0<K by omega)
  omega
 omega
theorem pure_ChunkOrder (t:List bg)(a:Int)(c d:Col)(x:Int)(hc:RoomyC c)(hd:RoomyC d):∃k,ck.f aS k t a c d x=some true:=by
 obtain ⟨hc1,hc2,hc3⟩:=hc.short
 obtain ⟨hd1,hd2,hd3⟩:=hd.short
 refine ⟨2000000+c.reps.length+c.values.length+d.reps.length+d.values.length+1,?_⟩
 generalize hk:2000000+c.reps.length+c.values.length+d.reps.length+d.values.length=k
 obtain ⟨K,e,hK1,hK2⟩:=DC x 4 (by omega) 15 rfl
 rw [ck.f_eq,A4 (by omega),bS,Bool.not_true,cF,e]
 rcases lZ (k:=k) (t:=t) (a:=a) (c:=c) (K:=K) (by omega) (by omega) (by omega) hK1 with ⟨h1,_⟩|⟨hm1,_,cs1,_,hp1,h1⟩
 ·rw [h1,bS]
  rcases lZ (k:=k) (t:=t) (a:=a) (c:=d) (K:=K) (by omega) (by omega) (by omega) hK1 with ⟨h2,_⟩|⟨hm2,_,cs2,_,hp2,h2⟩
  ·rw [h2,bS,qg (by omega),bS];rfl
  ·rw [h2,bS,qg (by omega),bS];rfl
 ·rw [h1,bS]
  rcases lZ (k:=k) (t:=t) (a:=a) (c:=d) (K:=K) (by omega) (by omega) (by omega) hK1 with ⟨h2,_⟩|⟨hm2,_,cs2,_,hp2,h2⟩
  ·rw [h2,bS];simp only [qg (show 1≤k by omega),bS];rfl
  ·have n1:=nM hK1 hm1 hp1
   have n2:=nM hK1 hm2 hp2
   obtain ⟨_,_,_,_,_,_,c1,c2,_,_,_,c3⟩:=colMay_parts hm1
   obtain ⟨_,_,_,_,_,_,d1,d2,_,_,_,d3⟩:=colMay_parts hm2
   have v1:=colMay_vlen hm1
   have v2:=colMay_vlen hm2
   rw [h2,bS]
   simp only [qg (show 1≤k by omega),bS,show ((0:Int) != 0)=false from rfl,Bool.not_false,cT]
   rw [b9 _ (by omega)]
   by_cases hg:(c.reps.length:Int)+(d.reps.length:Int)>4096
   ·rw [dT hg,cT]
   ·have er:(((cs1++cs2).map Col.reps).flatten)=c.reps++d.reps:=by rw [List.map_append,List.flatten_append,hp1.reps,hp2.reps]
    have ed:(((cs1++cs2).map Col.defs).flatten)=c.defs++d.defs:=by rw [List.map_append,List.flatten_append,hp1.defs,hp2.defs]
    have ev:(((cs1++cs2).map Col.values).flatten)=c.values++d.values:=by rw [List.map_append,List.flatten_append,hp1.values,hp2.values]
    have hj:=yT (k:=k) (t:=t) (a:=a) (cs:=cs1++cs2) (by omega) hm1 (fun q hq=>by
     rcases List.mem_append.1 hq with hq|hq
     ·exact hp1.may q hq
     ·exact hp2.may q hq) (fun q hq=>by
     rcases List.mem_append.1 hq with hq|hq
     ·exact hp1.hd q hq
     ·exact hp2.hd q hq) (by rw [List.length_append];omega) (by rw [er,List.length_append];omega)
    rw [er,ed,ev,List.map_append] at hj
    rw [dF hg,cF,dT (by simp only [List.length_nil,List.length_map];omega),cT,List.nil_append,dT (by simp only [List.length_map];omega),cT,hj,bS,uA (by omega) ⟨by omega,by omega,by omega⟩,bS]
    dsimp only
    rw [dT (by omega),cT,dT (by omega),cT,dT (by omega),cT,show ((0:Int)==0)=true from rfl,cT]
    rw [same_self (by simp only [List.length_append];omega) (by simp only [List.length_append];omega),bS]
end Go.Proofs.YtjkokaockhecnaaGreatDoorP
