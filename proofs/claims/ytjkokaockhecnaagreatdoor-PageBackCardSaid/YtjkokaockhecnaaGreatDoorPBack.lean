/- What the functions below the laws answer, in plain lists and numbers; no condition but the sizes that a machine has. A sum tells a burst of 32 bits; no condition. A text of which four bytes on end are turned; no condition. The law PageBack; no condition but the sizes that a machine has. -/
import Derived.Test.YtjkokaockhecnaaGreatDoorPPh0
import Derived.Test.YtjkokaockhecnaaGreatDoorPPgA
import Derived.Laws.BitsLemmas
import Derived.KernelRfl
import Derived.Lib.AtoiAllCases
namespace Go.Proofs.YtjkokaockhecnaaGreatDoorP
open Go Go.Proofs.YtjkokaockhecnaaGreatDoorA
theorem index_hit (c:UInt8):∀(p q:List UInt8),c ∉ p→Lib.index (p++c :: q) [c]=(p.length:Int)
 |[],q,_=>by simp [Lib.index,List.isPrefixOf]
 |b :: p,q,h=>by
  have hb:¬c=b:=fun e=>h (by rw [e];exact List.mem_cons_self)
  have ih:=index_hit c p q fun hm=>h (List.mem_cons_of_mem _ hm)
  rw [List.cons_append,Lib.index,ih]
  have e1:List.isPrefixOf [c] (b :: (p++c :: q))=false:=by simp [List.isPrefixOf,hb]
  rw [e1]
  have e2:(((p.length:Nat):Int)==-1)=false:=by rw [beq_eq_false_iff_ne];omega
  rw [e2]
  simp
theorem index_miss (c:UInt8):∀(s:List UInt8),c ∉ s→Lib.index s [c]=-1
 |[],_=>by simp [Lib.index]
 |b :: s,h=>by
  have hb:¬c=b:=fun e=>h (by rw [e];exact List.mem_cons_self)
  have ih:=index_miss c s fun hm=>h (List.mem_cons_of_mem _ hm)
  rw [Lib.index,ih]
  have e1:List.isPrefixOf [c] (b :: s)=false:=by simp [List.isPrefixOf,hb]
  rw [e1]
  simp
theorem cut_hit {c:UInt8}{p q:List UInt8}(h:c ∉ p):Lib.cut (p++c :: q) [c]=(p,q,true):=by
 unfold Lib.cut
 rw [index_hit c p q h,if_pos (by omega),Int.toNat_natCast]
 simp
theorem cut_miss {c:UInt8}{s:List UInt8}(h:c ∉ s):Lib.cut s [c]=(s,[],false):=by
 unfold Lib.cut
 rw [index_miss c s h,if_neg (by omega)]
theorem cut_any (c:UInt8):∀(s:List UInt8),(∃p q,s=p++c :: q∧c ∉ p)∨c ∉ s
 |[]=>.inr (by simp)
 |b :: s=>by
  by_cases hb:c=b
  ·subst hb;exact .inl ⟨[],s,rfl,by simp⟩
  ·rcases cut_any c s with ⟨p,q,rfl,h⟩|h
   ·exact .inl ⟨b :: p,q,rfl,by simp [hb,h]⟩
   ·exact .inr (by simp [hb,h])
theorem Cut_ok {k:Nat}(hk:1≤k){s sep:List UInt8}(hs:s.length≤4000000000):strings_Cut.f aT k s sep=some (Lib.cut s sep):=by
 obtain ⟨k,rfl⟩:∃q,k=q+1:=⟨k - 1,by omega⟩
 rw [strings_Cut.f_eq]
 unfold oS
 rw [dT (by omega)];rfl
theorem vItoa_ok {k:Nat}(hk:1≤k){x:Int}(h:kl x):strconv_Itoa.f aT k x=some (eU x):=by
 obtain ⟨k,rfl⟩:∃q,k=q+1:=⟨k - 1,by omega⟩
 obtain ⟨h0,h1⟩:=h
 rw [strconv_Itoa.f_eq]
 unfold mq
 rw [dT h0,dT h1,BW h0 h1];rfl
theorem atoiSat_in (l:List UInt8):kl (Lib.atoiSat l):=by unfold Lib.atoiSat kl;split<;>omega
theorem Atoi_any {k:Nat}(hk:1≤k){l:List UInt8}(hl:l.length≤4000000000):∃x b,cC.f aT k l=some (x,b)∧kl x:=by
 obtain ⟨k,rfl⟩:∃q,k=q+1:=⟨k - 1,by omega⟩
 rw [cC.f_eq]
 unfold kr
 rw [dT (by omega)]
 simp only [cond]
 split
 ·rename_i v hv;exact ⟨_,_,rfl,Lib.atoiAll_bounds hv⟩
 ·exact ⟨_,_,rfl,by unfold kl;omega⟩
 ·exact ⟨_,_,rfl,atoiSat_in l⟩
theorem parse_dbytes:∀(ds:List Nat) (acc:Nat),(∀d∈ds,d<10)→ds.foldl (fun a d=>10*a+d) acc<18446744073709551616→Lib.parseUint10 acc (jg ds)=.ok (ds.foldl (fun a d=>10*a+d) acc)
 |[],acc,_,_=>rfl
 |d :: ds,acc,h,hv=>by
  have hd:=h d List.mem_cons_self
  have mono:∀(ds:List Nat) (a:Nat),a≤ds.foldl (fun a d=>10*a+d) a:=by
   intro ds
   induction ds with
   |nil=>intro a;exact Nat.le_refl _
   |cons d ds ih=>intro a;exact Nat.le_trans (by omega) (ih (10*a+d))
  have hm:=mono ds (10*acc+d)
  rw [List.foldl_cons] at hv ⊢
  have e:jg (d :: ds)=UInt8.ofNat (48+d) :: jg ds:=rfl
  have ec:(UInt8.ofNat (48+d)).toNat=48+d:=by rw [UInt8.toNat_ofNat'];omega
  rw [e,Lib.parseUint10,ec,if_pos (by omega),if_neg (by omega),if_neg (by omega),show acc*10+(48+d - 48)=10*acc+d by omega]
  exact parse_dbytes ds _ (fun x hx=>h x (List.mem_cons_of_mem _ hx)) hv
theorem atoi_dig {x:Int}(h:kl x):Lib.atoiAll (eU x)=.ok x:=by
 obtain ⟨h0,h1⟩:=h
 have p19:(10:Nat) ^ 19=10000000000000000000:=by decide
 have key:∀n:Nat,n<10 ^ 19→Lib.parseMag (wX n)=.ok n∧∃b r,wX n=b :: r∧48≤b.toNat∧b.toNat≤57:=by
  intro n hn
  obtain ⟨v1,v2,v3⟩:=qa 19 n hn (by omega)
  rw [qA hn]
  have hp:=parse_dbytes (oz 19 n) 0 v2 (by unfold lR at v1;rw [v1];omega)
  unfold lR at v1
  rw [v1] at hp
  cases hq:oz 19 n with
  |nil=>exact absurd hq v3
  |cons d ds=>
   rw [hq] at hp v2
   have hd:=v2 d List.mem_cons_self
   have e:jg (d :: ds)=UInt8.ofNat (48+d) :: jg ds:=rfl
   have ec:(UInt8.ofNat (48+d)).toNat=48+d:=by rw [UInt8.toNat_ofNat'];omega
   refine ⟨?_,_,_,e,by omega,by omega⟩
   unfold Lib.parseMag
   rw [if_neg (by rw [e];simp)]
   exact hp
 unfold eU
 by_cases hx:x<0
 ·rw [if_pos hx]
  obtain ⟨k1,_⟩:=key x.natAbs (by omega)
  unfold Lib.atoiAll
  simp only [show (45:UInt8).toNat=45 from rfl,or_true,if_true,k1]
  rw [if_neg (by simp),if_neg (by simp;omega)]
  congr 1;omega
 ·rw [if_neg hx]
  obtain ⟨k1,b,r,e,c1,c2⟩:=key x.toNat (by omega)
  rw [e] at k1 ⊢
  unfold Lib.atoiAll
  simp only
  rw [if_neg (show¬(b.toNat=43∨b.toNat=45) by omega),k1]
  simp only
  rw [if_neg (by omega),if_neg (by omega),if_neg (by omega)]
  congr 1;omega
theorem Atoi_dig {k:Nat}(hk:1≤k){x:Int}(h:kl x):cC.f aT k (eU x)=some (x,false):=by
 obtain ⟨k,rfl⟩:∃q,k=q+1:=⟨k - 1,by omega⟩
 have hl:=mc x
 rw [cC.f_eq]
 unfold kr
 rw [dT (by omega),atoi_dig h];rfl
theorem number_any {k:Nat}(hk:2≤k){r:List UInt8}(hr:r.length≤4000000000)(bad:Bool)(c:UInt8):
  ∃x d r' b',aK.f aT k r bad [c]=some ((x,d),(r',b'))∧r'.length≤r.length∧(b'=false→bad=false∧kl x∧d=eU x∧r=eU x++c :: r'∧c ∉ eU x):=by
 obtain ⟨k,rfl⟩:∃q,k=q+1:=⟨k - 1,by omega⟩
 rw [aK.f_eq,Cut_ok (by omega) hr,bS]
 rcases cut_any c r with ⟨p,q,rfl,hc⟩|hc
 ·rw [cut_hit hc]
  have hl:p.length≤4000000000:=by rw [List.length_append] at hr;omega
  obtain ⟨x,b,ha,hx⟩:=Atoi_any (k:=k) (by omega) hl
  have hq:q.length≤(p++c :: q).length:=by rw [List.length_append,List.length_cons];omega
  simp only [ha,bS,Bool.not_true,Bool.not_false,cT]
  cases b with
  |true=>simp only [Bool.not_true,cF];exact ⟨_,_,_,_,rfl,hq,(fun h=>by cases h)⟩
  |false=>
   simp only [Bool.not_false,cT,vItoa_ok (show 1≤k by omega) hx,bS]
   cases he:(eU x != p) with
   |true=>simp only [cT];exact ⟨_,_,_,_,rfl,hq,(fun h=>by cases h)⟩
   |false=>
    simp only [cF]
    have e:eU x=p:=by simpa using he
    exact ⟨_,_,_,_,rfl,hq,fun h=>⟨h,hx,e.symm,by rw [e],by rw [e];exact hc⟩⟩
 ·rw [cut_miss hc]
  obtain ⟨x,b,ha,hx⟩:=Atoi_any (k:=k) (by omega) hr
  simp only [ha,bS,Bool.not_true,Bool.not_false,cT,cF]
  exact ⟨_,_,_,_,rfl,by simp,(fun h=>by cases h)⟩
theorem number_dig {k:Nat}(hk:2≤k){x:Int}(hx:kl x){c:UInt8}(hc:c=58∨c=59){r:List UInt8}(hr:(eU x++c :: r).length≤4000000000):
  aK.f aT k (eU x++c :: r) false [c]=some ((x,eU x),(r,false)):=by
 obtain ⟨k,rfl⟩:∃q,k=q+1:=⟨k - 1,by omega⟩
 have hn:c ∉ eU x:=by
  intro hm
  obtain ⟨_,h2⟩:=vZ hx.1 hx.2
  have:=h2 c hm
  rcases hc with rfl|rfl
  ·exact this.1 rfl
  ·exact this.2 rfl
 rw [aK.f_eq,Cut_ok (by omega) hr,bS,cut_hit hn]
 simp only [Atoi_dig (show 1≤k by omega) hx,bS,Bool.not_true,Bool.not_false,cT,vItoa_ok (show 1≤k by omega) hx,bne_self_eq_false,cF]
theorem vbytes_ok {k:Nat}(hk:1≤k)(r:List UInt8)(bad:Bool)(n:Int):bI.f aT k r bad n=
  some (if bad=false∧0≤n∧n≤(r.length:Int) then (r.take n.toNat,(r.drop n.toNat,false)) else ([],(r,true))):=by
 obtain ⟨k,rfl⟩:∃q,k=q+1:=⟨k - 1,by omega⟩
 rw [bI.f_eq]
 cases bad with
 |true=>simp
 |false=>
  rw [Bool.not_false,cT]
  by_cases h0:n<0
  ·rw [dT h0,Bool.not_true,cF,if_neg (by omega)]
  ·rw [dF h0,Bool.not_false,cT]
   by_cases h1:n>(r.length:Int)
   ·rw [dT h1,cT,if_neg (by omega)]
   ·rw [dF h1,cF,dT (show (0:Int)≤n by omega),dT (show n≤(r.length:Int) by omega),Bool.and_self,cT,cT,if_pos ⟨rfl,by omega,by omega⟩,List.drop_zero,List.take_length]
theorem vbyte_ok {k:Nat}(hk:1≤k)(r:List UInt8)(bad:Bool):bb.f aT k r bad=some (match r with|[]=>(0,([],true))|b :: l=>((b.toNat:Int),(l,bad))):=by
 obtain ⟨k,rfl⟩:∃q,k=q+1:=⟨k - 1,by omega⟩
 rw [bb.f_eq]
 cases r with
 |nil=>rfl
 |cons b l=>
  have e:((b :: l)==([]:List UInt8))=false:=rfl
  rw [e,cF,show rd (b :: l) 0=some b from rfl,bS,dT (by omega),dT (by simp only [List.length_cons];omega),Bool.and_self,cT,List.take_length]
  rfl
def Taken (w:Int)(r:List UInt8)(bad:Bool)(res:(Int×List (List UInt8))×(List UInt8×Bool)):Prop:=
 res.2.1.length≤r.length∧(res.2.2=false→bad=false∧res.2.1.length<r.length)∧(bad=true→res.2.2=true)
theorem row_l0 {k:Nat}{w:Int}(hv:∀(r:List UInt8) (bad:Bool),r.length≤70000→∃res,aJ.f aT k r bad w=some res∧Taken w r bad res)(hk:1≤k)(c:Int):
  ∀(m:Nat) (r:List UInt8) (bad:Bool) (out:List (List UInt8)) (n:Nat),r.length≤m→m≤70000→out.length+r.length≤70000→m+2≤n→
   ∃res,au.l0 aT k n c w r bad out=some res∧res.2.1.length≤r.length∧(res.2.2=false→bad=false∧res.2.1.length<r.length)∧(bad=true→res.2.2=true):=by
 have fin:∀(r:List UInt8) (bad:Bool) (out:List (List UInt8)),∃res:List (List UInt8)×(List UInt8×Bool),((bb.f aT k r bad).bind fun r_4=>some (out,(r_4.2.1,r_4.2.2)))=some res∧res.2.1.length≤r.length∧(res.2.2=false→bad=false∧res.2.1.length<r.length)∧(bad=true→res.2.2=true):=by
  intro r bad out
  rw [vbyte_ok hk,bS]
  cases r with
  |nil=>exact ⟨_,rfl,Nat.le_refl _,(fun h=>by cases h),fun _=>rfl⟩
  |cons b l=>exact ⟨_,rfl,by simp,fun h=>⟨h,by simp⟩,fun h=>h⟩
 intro m
 induction m with
 |zero=>
  intro r bad out n h1 h2 h3 h4
  obtain ⟨n,rfl⟩:∃q,n=q+1:=⟨n - 1,by omega⟩
  rw [au.l0_eq]
  have hr:r=[]:=List.length_eq_zero_iff.1 (by omega)
  subst hr
  cases bad with
  |true=>rw [Bool.not_true,cF];exact fin _ _ _
  |false=>rw [Bool.not_false,cT,show (([]:List UInt8) != [])=false from rfl,cF];exact fin _ _ _
 |succ m ih=>
  intro r bad out n h1 h2 h3 h4
  obtain ⟨n,rfl⟩:∃q,n=q+1:=⟨n - 1,by omega⟩
  rw [au.l0_eq]
  cases bad with
  |true=>rw [Bool.not_true,cF];exact fin _ _ _
  |false=>
   rw [Bool.not_false,cT]
   cases r with
   |nil=>rw [show (([]:List UInt8) != [])=false from rfl,cF];exact fin _ _ _
   |cons b l=>
    rw [show ((b :: l) != ([]:List UInt8))=true from rfl,cT,show rd (b :: l) 0=some b from rfl,bS]
    cases hb:((b.toNat:Int) != c) with
    |false=>rw [cF];exact fin _ _ _
    |true=>
     rw [cT]
     obtain ⟨res,e,t1,t2,t3⟩:=hv (b :: l) false (by omega)
     rw [e,bS]
     have hl:((b :: l).length:Int) - (res.2.1.length:Int)=(((b :: l).length - res.2.1.length:Nat):Int):=by omega
     rw [hl,bH _ (by omega),dT (by omega),dT (by omega),Bool.and_self,cT,dT (by simp only [List.length_cons,List.length_nil];simp only [List.length_cons] at h3;omega),cT]
     cases hbad:res.2.2 with
     |true=>
      -- the next round ends it
      obtain ⟨n,rfl⟩:∃q,n=q+1:=⟨n - 1,by omega⟩
      rw [au.l0_eq,Bool.not_true,cF]
      obtain ⟨res',e',q1,q2,q3⟩:=fin res.2.1 true (out++[List.drop 0 (List.take ((((b :: l).length - res.2.1.length:Nat):Int)).toNat (b :: l))])
      exact ⟨res',e',by omega,(fun h=>by rw [q3 rfl] at h;cases h),(fun h=>by cases h)⟩
     |false=>
      obtain ⟨_,t4⟩:=t2 hbad
      obtain ⟨res',e',q1,q2,q3⟩:=ih res.2.1 false (out++[List.drop 0 (List.take ((((b :: l).length - res.2.1.length:Nat):Int)).toNat (b :: l))]) n (by omega) (by omega) (by simp only [List.length_append,List.length_cons,List.length_nil] at h3 ⊢;simp only [List.length_cons] at t4;omega) (by omega)
      exact ⟨res',e',by omega,fun h=>⟨rfl,by have:=(q2 h).2;omega⟩,(fun h=>by cases h)⟩
theorem value_tot:∀(e:Nat) {k:Nat},e≤10→70100+3*e≤k→∀(w:Int),w+e=5→∀(r:List UInt8) (bad:Bool),r.length≤70000→∃res,aJ.f aT k r bad w=some res∧Taken w r bad res
 |0,k,_,hk,w,hw,r,bad,hr=>by
  obtain ⟨k,rfl⟩:∃q,k=q+2:=⟨k - 2,by omega⟩
  rw [aJ.f_eq,dT (by omega),cT,aR.f_eq,bS]
  exact ⟨_,rfl,Nat.le_refl _,(fun h=>by cases h),fun _=>rfl⟩
 |e+1,k,he,hk,w,hw,r,bad,hr=>by
  obtain ⟨k,rfl⟩:∃q,k=q+1:=⟨k - 1,by omega⟩
  rw [aJ.f_eq,dF (by omega),cF,vbyte_ok (by omega),bS]
  cases r with
  |nil=>
   simp only [show ((0:Int)==110)=false from rfl,show ((0:Int)==105)=false from rfl,show ((0:Int)==116)=false from rfl,show ((0:Int)==102)=false from rfl,show ((0:Int)==115)=false from rfl,show ((0:Int)==91)=false from rfl,show ((0:Int)==123)=false from rfl,cF]
   obtain ⟨k,rfl⟩:∃q,k=q+1:=⟨k - 1,by omega⟩
   rw [aR.f_eq,bS]
   exact ⟨_,rfl,Nat.le_refl _,(fun h=>by cases h),fun _=>rfl⟩
  |cons b l=>
   simp only
   have hl:l.length+1≤70000:=by simpa using hr
   have ok:∀(res:(Int×List (List UInt8))×(List UInt8×Bool)),res.2.1.length≤l.length→(res.2.2=false→bad=false)→(bad=true→res.2.2=true)→Taken w (b :: l) bad res:=by
    intro res h1 h2 h3
    exact ⟨by simp only [List.length_cons];omega,fun h=>⟨h2 h,by simp only [List.length_cons];omega⟩,h3⟩
   have hnum:∀(c:UInt8),∃x d r' b',aK.f aT k l bad [c]=some ((x,d),(r',b'))∧r'.length≤l.length∧(b'=false→bad=false):=by
    intro c
    obtain ⟨x,d,r',b',h1,h2,h3⟩:=number_any (k:=k) (by omega) (r:=l) (by omega) bad c
    exact ⟨x,d,r',b',h1,h2,fun h=>(h3 h).1⟩
   have hrow:∀(c:Int),∃res,au.f aT k l bad c (IntKind.i64.wrap (w+1))=some res∧res.2.1.length≤l.length∧(res.2.2=false→bad=false)∧(bad=true→res.2.2=true):=by
    intro c
    obtain ⟨k,rfl⟩:∃q,k=q+1:=⟨k - 1,by omega⟩
    rw [au.f_eq,bH _ (by omega)]
    obtain ⟨res,h1,h2,h3,h4⟩:=row_l0 (k:=k) (w:=w+1) (fun r bad hr=>value_tot e (by omega) (by omega) (w+1) (by omega) r bad hr) (by omega) c l.length l bad [] k (Nat.le_refl _) (by omega) (by simp;omega) (by omega)
    exact ⟨res,h1,h2,fun h=>(h3 h).1,h4⟩
   have hstr:∃res,((aK.f aT k l bad [58]).bind fun r_4=>(bI.f aT k r_4.2.1 r_4.2.2 r_4.1.1).bind fun r_5=>some (((2:Int),([r_5.1]:List (List UInt8))),(r_5.2.1,r_5.2.2)))=some res∧Taken w (b :: l) bad res:=by
    obtain ⟨x,d,r',b',h1,h2,h3⟩:=hnum 58
    rw [h1,bS,vbytes_ok (by omega),bS]
    refine ⟨_,rfl,ok _ ?_ ?_ ?_⟩
    ·simp only
     split
     ·simp only [List.length_drop];omega
     ·exact h2
    ·simp only
     split
     ·rename_i hc;intro _;exact h3 hc.1
     ·intro h;cases h
    ·intro hb
     simp only
     split
     ·rename_i hc;rw [h3 hc.1] at hb;cases hb
     ·rfl
   have hrow':∀(c kd:Int),∃res,((au.f aT k l bad c (IntKind.i64.wrap (w+1))).bind fun r_6=>some ((kd,r_6.1),(r_6.2.1,r_6.2.2)))=some res∧Taken w (b :: l) bad res:=by
    intro c kd
    obtain ⟨res,h1,h2,h3,h4⟩:=hrow c
    rw [h1,bS]
    exact ⟨_,rfl,ok _ h2 h3 h4⟩
   have hfail:∃res,((aR.f aT k l bad).bind fun r_8=>some ((r_8.1.1,r_8.1.2),(r_8.2.1,r_8.2.2)))=some res∧Taken w (b :: l) bad res:=by
    obtain ⟨k,rfl⟩:∃q,k=q+1:=⟨k - 1,by omega⟩
    rw [aR.f_eq,bS]
    exact ⟨_,rfl,ok _ (Nat.le_refl _) (fun h=>by cases h) (fun _=>rfl)⟩
   have one:∀(kd:Int) (ps:List (List UInt8)),∃res,some ((kd,ps),(l,bad))=some res∧Taken w (b :: l) bad res:=fun kd ps=>⟨_,rfl,ok _ (Nat.le_refl _) (fun h=>h) (fun h=>h)⟩
   cases h1:((b.toNat:Int)==110) with
   |true=>rw [cT];exact one _ _
   |false=>
    rw [cF]
    cases h2:((b.toNat:Int)==105) with
    |true=>
     rw [cT]
     obtain ⟨x,d,r',b',q1,q2,q3⟩:=hnum 59
     rw [q1,bS]
     refine ⟨_,rfl,ok _ q2 q3 fun hb=>?_⟩
     cases b' with
     |true=>rfl
     |false=>rw [q3 rfl] at hb;cases hb
    |false=>
     rw [cF]
     cases h3:((b.toNat:Int)==116) with
     |true=>rw [cT];exact one _ _
     |false=>
      rw [cF]
      cases h4:((b.toNat:Int)==102) with
      |true=>rw [cT];exact one _ _
      |false=>
       rw [cF]
       cases h5:((b.toNat:Int)==115) with
       |true=>rw [cT];exact hstr
       |false=>
        rw [cF]
        cases h6:((b.toNat:Int)==91) with
        |true=>rw [cT];exact hrow' _ _
        |false=>
         rw [cF]
         cases h7:((b.toNat:Int)==123) with
         |true=>rw [cT];exact hrow' _ _
         |false=>rw [cF];exact hfail
theorem value_leaf {k:Nat}(hk:70200≤k){v:List UInt8}(hv:v.length≤70000){kd:Int}{ps:List (List UInt8)}(h:aJ.f aT k v false 0=some ((kd,ps),(([]:List UInt8),false))):
  kd=3∨kd=4∨iD v kd ps:=by
 obtain ⟨k,rfl⟩:∃q,k=q+1:=⟨k - 1,by omega⟩
 rw [aJ.f_eq,dF (by omega),cF,vbyte_ok (by omega),bS] at h
 cases v with
 |nil=>
  obtain ⟨k,rfl⟩:∃q,k=q+1:=⟨k - 1,by omega⟩
  simp only [show ((0:Int)==110)=false from rfl,show ((0:Int)==105)=false from rfl,show ((0:Int)==116)=false from rfl,show ((0:Int)==102)=false from rfl,show ((0:Int)==115)=false from rfl,show ((0:Int)==91)=false from rfl,show ((0:Int)==123)=false from rfl,cF,aR.f_eq,bS] at h
  simp at h
 |cons b l=>
  simp only at h
  have hb:∀{n:Nat},((b.toNat:Int)==(n:Int))=true→n<256→b=UInt8.ofNat n:=by
   intro n h hn
   have e:b.toNat=n:=by have:=(beq_iff_eq.1 h);omega
   rw [←e];simp
  have hl:l.length≤69999:=by simpa using hv
  cases h1:((b.toNat:Int)==110) with
  |true=>
   rw [h1,cT] at h
   have eb:=hb (n:=110) h1 (by omega)
   simp only [Option.some.injEq,Prod.mk.injEq] at h
   obtain ⟨⟨rfl,rfl⟩,rfl,_⟩:=h
   subst eb
   exact .inr (.inr .n)
  |false=>
   rw [h1,cF] at h
   cases h2:((b.toNat:Int)==105) with
   |true=>
    rw [h2,cT] at h
    have eb:=hb (n:=105) h2 (by omega)
    obtain ⟨x,d,r',b',q1,q2,q3⟩:=number_any (k:=k) (by omega) (r:=l) (by omega) false 59
    rw [q1,bS] at h
    simp only [Option.some.injEq,Prod.mk.injEq] at h
    obtain ⟨⟨rfl,rfl⟩,rfl,rfl⟩:=h
    obtain ⟨_,hx,rfl,e,_⟩:=q3 rfl
    subst eb
    rw [e]
    exact .inr (.inr (.i x hx))
   |false=>
    rw [h2,cF] at h
    cases h3:((b.toNat:Int)==116) with
    |true=>
     rw [h3,cT,cT] at h
     have eb:=hb (n:=116) h3 (by omega)
     simp only [Option.some.injEq,Prod.mk.injEq] at h
     obtain ⟨⟨rfl,rfl⟩,rfl,_⟩:=h
     subst eb
     exact .inr (.inr (.b true))
    |false=>
     rw [h3,cF] at h
     cases h4:((b.toNat:Int)==102) with
     |true=>
      rw [h4,cT] at h
      have eb:=hb (n:=102) h4 (by omega)
      simp only [Option.some.injEq,Prod.mk.injEq] at h
      obtain ⟨⟨rfl,rfl⟩,rfl,_⟩:=h
      subst eb
      exact .inr (.inr (.b false))
     |false=>
      rw [h4,cF] at h
      cases h5:((b.toNat:Int)==115) with
      |true=>
       rw [h5,cT] at h
       have eb:=hb (n:=115) h5 (by omega)
       obtain ⟨x,d,r',b',q1,q2,q3⟩:=number_any (k:=k) (by omega) (r:=l) (by omega) false 58
       rw [q1,bS,vbytes_ok (by omega),bS] at h
       simp only at h
       split at h
       ·rename_i hc
        obtain ⟨hb',h0,hx1⟩:=hc
        obtain ⟨_,hx,rfl,e,_⟩:=q3 hb'
        simp only [Option.some.injEq,Prod.mk.injEq] at h
        obtain ⟨⟨rfl,rfl⟩,hd,_⟩:=h
        have hlen:r'.length≤x.toNat:=by have:=congrArg List.length hd;simp at this;omega
        have hxl:x=(r'.length:Int):=by omega
        subst hxl
        rw [Int.toNat_natCast,List.take_length]
        subst eb
        rw [e,pm]
        have eb2:gi r'=UInt8.ofNat 115 :: (wX r'.length++58 :: r'):=by simp [gi]
        rw [←eb2]
        exact .inr (.inr (.s r'))
       ·simp at h
      |false=>
       rw [h5,cF] at h
       cases h6:((b.toNat:Int)==91) with
       |true=>
        rw [h6,cT] at h
        cases hr:au.f aT k l false 93 (IntKind.i64.wrap (0+1)) with
        |none=>rw [hr] at h;cases h
        |some r=>
         rw [hr,bS] at h
         simp only [Option.some.injEq,Prod.mk.injEq] at h
         exact .inl h.1.1.symm
       |false=>
        rw [h6,cF] at h
        cases h7:((b.toNat:Int)==123) with
        |true=>
         rw [h7,cT] at h
         cases hr:au.f aT k l false 125 (IntKind.i64.wrap (0+1)) with
         |none=>rw [hr] at h;cases h
         |some r=>
          rw [hr,bS] at h
          simp only [Option.some.injEq,Prod.mk.injEq] at h
          exact .inr (.inl h.1.1.symm)
        |false=>
         obtain ⟨k,rfl⟩:∃q,k=q+1:=⟨k - 1,by omega⟩
         rw [h7,cF,aR.f_eq,bS] at h
         simp at h
theorem vParts_any {k:Nat}(hk:70300≤k)(v:List UInt8):cd.f aT k v=some (0,[],700)∨∃kd ps,cd.f aT k v=some (kd,ps,0)∧v.length≤65536∧(kd=3∨kd=4∨iD v kd ps):=by
 obtain ⟨k,rfl⟩:∃q,k=q+1:=⟨k - 1,by omega⟩
 rw [cd.f_eq]
 by_cases hl:v.length≤65536
 ·rw [dF (by omega),cF]
  obtain ⟨res,h1,h2⟩:=value_tot 5 (k:=k) (by omega) (by omega) 0 (by omega) v false (by omega)
  rw [h1,bS]
  obtain ⟨⟨kd,ps⟩,r',b'⟩:=res
  cases b' with
  |true=>exact .inl rfl
  |false=>
   simp only [Bool.not_false,cT]
   cases r' with
   |cons b l=>exact .inl rfl
   |nil=>exact .inr ⟨kd,ps,rfl,hl,value_leaf (by omega) (by omega) h1⟩
 ·rw [dT (by omega),cT];exact .inl rfl
theorem vParts_leaf {k:Nat}(hk:70300≤k){v:List UInt8}(hl:v.length≤65536){kd:Int}{ps:List (List UInt8)}(h:iD v kd ps)(h3:kd<3):cd.f aT k v=some (kd,ps,0):=by
 obtain ⟨k,rfl⟩:∃q,k=q+1:=⟨k - 1,by omega⟩
 have key:aJ.f aT k v false 0=some ((kd,ps),(([]:List UInt8),false)):=by
  obtain ⟨k,rfl⟩:∃q,k=q+1:=⟨k - 1,by omega⟩
  rw [aJ.f_eq,dF (by omega),cF,vbyte_ok (by omega),bS]
  cases h with
  |n=>rfl
  |i x hx=>
   have e:tY x=105 :: (eU x++59 :: []):=rfl
   have hlen:=mc x
   rw [e]
   simp only [show (((105:UInt8).toNat:Int)==110)=false from rfl,show (((105:UInt8).toNat:Int)==105)=true from rfl,cT,cF]
   rw [number_dig (by omega) hx (.inr rfl) (by rw [List.length_append];simp only [List.length_cons,List.length_nil];omega),bS]
  |b b=>cases b<;>rfl
  |s l=>
   have e:gi l=115 :: (eU ((l.length:Nat):Int)++58 :: l):=by rw [pm];simp [gi]
   rw [e] at hl ⊢
   have hx:kl ((l.length:Nat):Int):=by
    rw [List.length_cons,List.length_append,List.length_cons] at hl
    unfold kl;omega
   simp only [show (((115:UInt8).toNat:Int)==110)=false from rfl,show (((115:UInt8).toNat:Int)==105)=false from rfl,show (((115:UInt8).toNat:Int)==116)=false from rfl,show (((115:UInt8).toNat:Int)==102)=false from rfl,show (((115:UInt8).toNat:Int)==115)=true from rfl,cT,cF]
   rw [number_dig (by omega) hx (.inl rfl) (by rw [List.length_cons] at hl;omega),bS,vbytes_ok (by omega),bS]
   simp only
   rw [if_pos ⟨trivial,by omega,by omega⟩,Int.toNat_natCast,List.take_length,List.drop_length]
  |l vs h=>omega
  |r vs h=>omega
 rw [cd.f_eq,dF (by omega),cF,key,bS]
 rfl
def FitL (t:List bu)(i:Nat)(v:List UInt8):Prop:=
 v.length≤65536∧((v=[110]∧zT t i=true)∨(f8 t i=0∧∃x,kl x∧v=tY x)∨(f8 t i=1∧∃b,v=lk b)∨(f8 t i=2∧∃l:List UInt8,l.length≤16∧v=gi l))
open Classical in
noncomputable def fitB (t:List bu)(i:Nat)(v:List UInt8):Bool:=decide (FitL t i v)
theorem fitB_iff {t:List bu}{i:Nat}{v:List UInt8}:fitB t i v=true↔FitL t i v:=by unfold fitB;simp
theorem fitB_of {t:List bu}{i:Nat}{v:List UInt8}{b:Bool}(h:b=true↔FitL t i v):fitB t i v=b:=by
 cases hb:b with
 |true=>exact fitB_iff.2 (h.1 hb)
 |false=>
  cases hf:fitB t i v with
  |false=>rfl
  |true=>rw [h.2 (fitB_iff.1 hf)] at hb;cases hb
theorem FitL.shape {t:List bu}{i:Nat}{v:List UInt8}(h:FitL t i v):∃kd ps,iD v kd ps∧kd<3∧((kd=-1∧zT t i=true)∨(kd=f8 t i∧0≤kd∧∀l ps',kd=2→ps=l :: ps'→l.length≤16)):=by
 obtain ⟨_,⟨rfl,h⟩|⟨h,x,hx,rfl⟩|⟨h,b,rfl⟩|⟨h,l,hl,rfl⟩⟩:=h
 ·exact ⟨_,_,.n,by omega,.inl ⟨rfl,h⟩⟩
 ·exact ⟨_,_,.i x hx,by omega,.inr ⟨h.symm,by omega,fun _ _ h=>by omega⟩⟩
 ·exact ⟨_,_,.b b,by omega,.inr ⟨h.symm,by omega,fun _ _ h=>by omega⟩⟩
 ·refine ⟨_,_,.s l,by omega,.inr ⟨h.symm,by omega,fun l' ps' _ e=>?_⟩⟩
  simp only [List.cons.injEq] at e
  rw [←e.1];exact hl
theorem FitL.of_shape {t:List bu}{i:Nat}{v:List UInt8}{kd:Int}{ps:List (List UInt8)}(hs:iD v kd ps)(hl:v.length≤65536)(h3:kd<3)(h:(kd=-1∧zT t i=true)∨(kd=f8 t i∧0≤kd∧∀l ps',kd=2→ps=l :: ps'→l.length≤16)):FitL t i v:=by
 refine ⟨hl,?_⟩
 cases hs with
 |n=>
     rcases h with ⟨_,h⟩|⟨_,h,_⟩
     ·exact .inl ⟨rfl,h⟩
     ·omega
 |i x hx=>
       rcases h with ⟨h,_⟩|⟨h,_⟩
       ·omega
       ·exact .inr (.inl ⟨h.symm,x,hx,rfl⟩)
 |b b=>
      rcases h with ⟨h,_⟩|⟨h,_⟩
      ·omega
      ·exact .inr (.inr (.inl ⟨h.symm,b,rfl⟩))
 |s l=>
      rcases h with ⟨h,_⟩|⟨h,_,h'⟩
      ·omega
      ·exact .inr (.inr (.inr ⟨h.symm,l,h' l [] rfl rfl,rfl⟩))
 |l vs _=>omega
 |r vs _=>omega
theorem shape_kd {v:List UInt8}{kd:Int}{ps:List (List UInt8)}(hs:iD v kd ps):-1≤kd∧kd≤4∧(kd=2→∃l,ps=[l]):=by
 cases hs with
 |s l=>exact ⟨by omega,by omega,fun _=>⟨l,rfl⟩⟩
 |_=>exact ⟨by omega,by omega,fun h=>by omega⟩
theorem leaf_knd {t:List bu}{i:Nat}(hm:mn t=true)(hi:i<t.length)(hin:iJ (f8 t i)=false):f8 t i=0∨f8 t i=1∨f8 t i=2:=by
 have:=(((ma t).1 hm).2.1 i hi).1
 unfold rJ at this
 simp only [Bool.and_eq_true,decide_eq_true_eq] at this
 unfold iJ at hin
 simp only [Bool.or_eq_false_iff,beq_eq_false_iff_ne] at hin
 omega
theorem vFits_loop {k:Nat}{kd:Int}(hkd:kd≠3){ps:List (List UInt8)}{t:List bu}{ks:List Int}(hl:ps.length≤1000):∀(d i n:Nat),i+d=ps.length→d+1≤n→
  bM.l1 aT k n ps kd ((ps.length:Nat):Int) (i:Int) t ks=some (decide ((ps.length:Int)≤64))
 |0,i,n,h,hn=>by
  obtain ⟨n,rfl⟩:∃q,n=q+1:=⟨n - 1,by omega⟩
  rw [bM.l1_eq,dF (by omega),cF]
 |d+1,i,n,h,hn=>by
  obtain ⟨n,rfl⟩:∃q,n=q+1:=⟨n - 1,by omega⟩
  rw [bM.l1_eq,dT (by omega),cT,bT (by omega),bS,show (kd==3)=false by rw [beq_eq_false_iff_ne];exact hkd,cF,dB (by omega)]
  exact vFits_loop hkd hl d (i+1) n (by omega) (by omega)
theorem vFits_ok {k:Nat}(hk:70400≤k){t:List bu}{i:Nat}(hn:er t (i:Int)=true)(hi:i<t.length)(hm:mn t=true)(hin:iJ (f8 t i)=false)(v:List UInt8):bM.f aT k t (i:Int) v=some (fitB t i v):=by
 obtain ⟨k,rfl⟩:∃q,k=q+1:=⟨k - 1,by omega⟩
 have hkn:=leaf_knd hm hi hin
 rw [bM.f_eq,fl (by omega),bS,hn,Bool.not_true,cF]
 have uniq:∀{kd:Int}{ps:List (List UInt8)}{e:Int},cd.f aT k v=some (kd,ps,e)→FitL t i v→e=0∧kd<3∧((kd=-1∧zT t i=true)∨(kd=f8 t i∧0≤kd∧∀l ps',kd=2→ps=l :: ps'→l.length≤16)):=by
  intro kd ps e hp hf
  obtain ⟨kd',ps',h1,h2,h3⟩:=hf.shape
  rw [vParts_leaf (by omega) hf.1 h1 h2] at hp
  simp only [Option.some.injEq,Prod.mk.injEq] at hp
  obtain ⟨rfl,rfl,rfl⟩:=hp
  exact ⟨rfl,h2,h3⟩
 rcases vParts_any (k:=k) (by omega) v with hp|⟨kd,ps,hp,hl,hs⟩
 ·rw [hp,bS,bT hi,bS]
  have:fitB t i v=false:=fitB_of ⟨(fun h=>by cases h),fun hf=>by have:=(uniq hp hf).1;omega⟩
  rw [this];rfl
 ·rw [hp,bS,bT hi,bS,wV hi,js hi]
  simp only [show (!((0:Int) != 0))=true from rfl,show ((0:Int)==0)=true from rfl,cT]
  cases h1:(kd==-1) with
  |true=>
   have e:kd=-1:=by simpa using h1
   rw [cT]
   congr 1
   refine (fitB_of ⟨fun hb=>?_,fun hf=>?_⟩).symm
   ·rcases hs with h|h|h
    ·omega
    ·omega
    ·exact FitL.of_shape h hl (by omega) (.inl ⟨e,hb⟩)
   ·rcases (uniq hp hf).2.2 with ⟨_,h⟩|⟨_,h,_⟩
    ·exact h
    ·omega
  |false=>
   have hne:kd≠-1:=by simpa using h1
   rw [cF,qY (by omega),bS]
   cases h2:(kd != f8 t i) with
   |true=>
    have hne2:kd≠f8 t i:=by simpa using h2
    rw [cT]
    have:fitB t i v=false:=fitB_of ⟨(fun h=>by cases h),fun hf=>by
     rcases (uniq hp hf).2.2 with ⟨h,_⟩|⟨h,_⟩
     ·exact absurd h hne
     ·exact absurd h hne2⟩
    rw [this]
   |false=>
    have he2:kd=f8 t i:=by simpa using h2
    rw [cF]
    have hsh:iD v kd ps:=by
     rcases hs with h|h|h
     ·omega
     ·omega
     ·exact h
    cases h3:(kd==2) with
    |true=>
     have e2:kd=2:=by simpa using h3
     obtain ⟨l,rfl⟩:=(shape_kd hsh).2.2 e2
     rw [cT,dT (by omega),dT (by simp),Bool.and_self,cT,show ([l]:List (List UInt8))[0]?=some l from rfl,bS]
     congr 1
     refine (fitB_of ⟨fun hb=>?_,fun hf=>?_⟩).symm
     ·refine FitL.of_shape hsh hl (by omega) (.inr ⟨he2,by omega,fun l' ps' _ e=>?_⟩)
      simp only [List.cons.injEq] at e
      rw [←e.1]
      have:=of_decide_eq_true hb;omega
     ·rcases (uniq hp hf).2.2 with ⟨h,_⟩|⟨_,_,h⟩
      ·exact absurd h hne
      ·have:=h l [] e2 rfl
       exact decide_eq_true (by omega)
    |false=>
     have e2:kd≠2:=by simpa using h3
     rw [cF,show (kd==4)=false by rw [beq_eq_false_iff_ne];omega,cF]
     have hps:ps.length=1:=by
      cases hsh with
      |n=>omega
      |i x hx=>rfl
      |b b=>rfl
      |s l=>rfl
      |l vs _=>omega
      |r vs _=>omega
     have hL:=vFits_loop (k:=k) (kd:=kd) (by omega) (ps:=ps) (t:=t) (ks:=(AO t (i:Int)).1) (by omega) ps.length 0 k (by omega) (by omega)
     rw [show ((0:Nat):Int)=0 from rfl] at hL
     rw [hL]
     have:fitB t i v=true:=fitB_iff.2 (FitL.of_shape hsh hl (by omega) (.inr ⟨he2,by omega,fun _ _ h=>absurd h e2⟩))
     rw [this,dT (by omega)]
def bw (n:Int):Int:=if n<1 then 0 else if n<2 then 1 else if n<4 then 2 else if n<8 then 3 else 4
theorem bw_range (n:Int):0≤bw n∧bw n≤4:=by unfold bw;split<;>(try split)<;>(try split)<;>(try split)<;>omega
theorem bw_fits {n x:Int}(hn:n≤15)(h0:0≤x)(h1:x≤n):x<2 ^ (bw n).toNat:=by
 unfold bw
 split
 ·show x<1;omega
 ·split
  ·show x<2;omega
  ·split
   ·show x<4;omega
   ·split
    ·show x<8;omega
    ·show x<16;omega
theorem Len_tab (k:Nat):(List.range 16).map (fun n=>dP.f aT (k+2) (IntKind.u64.wrap ((n:Nat):Int)))=(List.range 16).map (fun n=>some (bw ((n:Nat):Int))):=by kernel_rfl
theorem Len_ok {k:Nat}(hk:2≤k){n:Int}(h0:0≤n)(h1:n≤15):dP.f aT k (IntKind.u64.wrap n)=some (bw n):=by
 obtain ⟨k,rfl⟩:∃q,k=q+2:=⟨k - 2,by omega⟩
 obtain ⟨m,rfl⟩:∃m:Nat,n=(m:Int):=⟨n.toNat,by omega⟩
 exact List.map_inj_left.1 (Len_tab k) m (List.mem_range.2 (by omega))
theorem lev_range {t:List bu}{a:Int}:0≤(d6 t a).1∧(d6 t a).1≤15∧0≤(d6 t a).2.1∧(d6 t a).2.1≤15:=by
 cases hn:er t a with
 |false=>rw [BU hn];decide
 |true=>
  obtain ⟨hm,i,hi,rfl⟩:=f6 hn
  rw [BG hm hi]
  have h1:=o7 t (fa t (i:Int))
  have h2:=o6 t (fa t (i:Int))
  have h3:=(((ma t).1 hm).2.2 i hi).2
  simp only
  omega
theorem word4' {k:Nat}(hk:12≤k)(x:Int):cq.f aT k x 4=some (w4 x):=by
 obtain ⟨k,rfl⟩:∃q,k=q+12:=⟨k - 12,by omega⟩
 exact EU k x
theorem word8' {k:Nat}(hk:12≤k)(x:Int):cq.f aT k x 8=some (w8 x):=by
 obtain ⟨k,rfl⟩:∃q,k=q+12:=⟨k - 12,by omega⟩
 exact Fq k x
theorem word1' {k:Nat}(hk:12≤k)(x:Int):cq.f aT k x 1=some (Ce x):=by
 obtain ⟨k,rfl⟩:∃q,k=q+12:=⟨k - 12,by omega⟩
 exact C4 k x
def inL (most:Int)(xs:List Int):Bool:=xs.all fun x=>decide (0≤x)&&decide (x≤most)
theorem range_get {α:Type}(xs:List α)(p:α→Bool)(q:Nat→Bool)(h:∀i (hi:i<xs.length),q i=p xs[i]):(List.range xs.length).all q=xs.all p:=by
 rw [Bool.eq_iff_iff,List.all_eq_true,List.all_eq_true]
 constructor
 ·intro hq x hx
  obtain ⟨i,hi,rfl⟩:=List.mem_iff_getElem.1 hx
  rw [←h i hi];exact hq i (List.mem_range.2 hi)
 ·intro hp i hi
  have hi':=List.mem_range.1 hi
  rw [h i hi'];exact hp _ (List.getElem_mem hi')
theorem within_ok {k:Nat}{xs:List Int}(hk:xs.length+3≤k)(hl:xs.length≤20000000000000)(most:Int):bm.f aT k xs most=some (inL most xs):=by
 obtain ⟨k,rfl⟩:∃q,k=q+1:=⟨k - 1,by omega⟩
 rw [bm.f_eq]
 have:=lT (F:=fun n i=>bm.l0 aT k n most xs (xs.length:Int) (i:Int)) (p:=fun i=>match xs[i]? with|some x=>decide (0≤x)&&decide (x≤most)|none=>false) (N:=xs.length) (E:=some true) (Z:=some false) ?_ ?_ k (by omega)
 ·refine this.trans ?_
  rw [range_get xs (fun x=>decide (0≤x)&&decide (x≤most)) _ fun i hi=>by simp only [List.getElem?_eq_getElem hi]]
  unfold inL
  cases xs.all _<;>rfl
 ·intro n i hi _
  rw [bm.l0_eq,dT (by omega),cT,bT hi,bS,List.getElem?_eq_getElem hi]
  simp only
  by_cases h0:xs[i]<0
  ·rw [dT h0,Bool.not_true,cF,dF (show¬(0:Int)≤xs[i] by omega),Bool.false_and,cF]
  ·rw [dF h0,Bool.not_false,cT,dT (show (0:Int)≤xs[i] by omega),Bool.true_and]
   by_cases h1:xs[i]>most
   ·rw [dT h1,cT,dF (show¬xs[i]≤most by omega),cF]
   ·rw [dF h1,cF,dT (show xs[i]≤most by omega),cT,dB (by omega)]
 ·intro _ n
  rw [bm.l0_eq,dF (by omega),cF]
def cnt (one:Int)(xs:List Int):Nat:=xs.countP fun x=>x==one
theorem cnt_le (one:Int)(xs:List Int):cnt one xs≤xs.length:=List.countP_le_length
theorem cnt_succ (one:Int){xs:List Int}{i:Nat}(h:i<xs.length):cnt one (xs.take (i+1))=cnt one (xs.take i)+(if xs[i]==one then 1 else 0):=by
 unfold cnt
 rw [List.take_succ_eq_append_getElem h,List.countP_append,List.countP_cons,List.countP_nil]
 omega
theorem there_ok' {k:Nat}{xs:List Int}(hk:xs.length+3≤k)(hl:xs.length≤20000000000000)(one:Int):bh.f aT k xs one=some ((cnt one xs:Nat):Int):=by
 obtain ⟨k,rfl⟩:∃q,k=q+1:=⟨k - 1,by omega⟩
 rw [bh.f_eq]
 have:=fX (F:=fun n i=>bh.l0 aT k n one ((cnt one (xs.take i):Nat):Int) xs (xs.length:Int) (i:Int)) (N:=xs.length) (r:=some ((cnt one xs:Nat):Int)) ?_ ?_ k 0 (by omega) (by omega)
 ·simpa [cnt] using this
 ·intro n i hi
  have hc:=cnt_succ one hi
  have hle:cnt one (xs.take i)≤i:=Nat.le_trans (cnt_le one _) (by rw [List.length_take];omega)
  rw [bh.l0_eq,dT (by omega),cT,bT hi,bS,dB (i:=i) (by omega),hc]
  cases hx:(xs[i]==one) with
  |true=>rw [cT,bH _ (by omega)];rfl
  |false=>rw [cF];rfl
 ·intro n
  rw [bh.l0_eq,dF (by omega),cF,List.take_length]
noncomputable def vOk (t:List bu)(a:Int)(v:List UInt8):Bool:=(v != [110])&&fitB t a.toNat v
noncomputable def colMay (t:List bu)(a:Int)(c:Col):Bool:=
 (er t a&&!iJ (f8 t a.toNat))&&(decide (c.reps.length=c.defs.length)&&(decide (c.reps.length≤4096)&&(inL (d6 t a).1 c.reps&&(inL (d6 t a).2.1 c.defs&&(c.values.all (vOk t a)&&decide (c.values.length=cnt (d6 t a).2.1 c.defs))))))
theorem Leaf_ok {k:Nat}(hk:32≤k)(t:List bu)(a:Int):fk.f aT k t a=some (er t a&&!iJ (f8 t a.toNat)):=by
 obtain ⟨k,rfl⟩:∃q,k=q+1:=⟨k - 1,by omega⟩
 rw [fk.f_eq,fl (by omega),bS]
 cases hn:er t a with
 |false=>rfl
 |true=>
  obtain ⟨hm,i,hi,rfl⟩:=f6 hn
  rw [cT,bT hi,bS,j2 (by omega),bS,js hi,Int.toNat_natCast,Bool.true_and]
theorem page_May_ok {k:Nat}{t:List bu}{a:Int}{c:Col}(hk:70500+c.values.length≤k)(hl:c.values.length≤20000000000000)(hd:c.reps.length≤20000000000000∧c.defs.length≤20000000000000):cZ.f aT k t a c=some (colMay t a c):=by
 obtain ⟨k,rfl⟩:∃q,k=q+1:=⟨k - 1,by omega⟩
 rw [cZ.f_eq,fN (by omega),bS,Leaf_ok (by omega),bS]
 unfold colMay
 cases hn:er t a&&!iJ (f8 t a.toNat) with
 |false=>rfl
 |true=>
  rw [Bool.not_true,Bool.not_false,cT,Bool.true_and]
  by_cases h1:c.reps.length=c.defs.length
  ·rw [show (((c.reps.length:Nat):Int) != ((c.defs.length:Nat):Int))=false by rw [h1];simp,Bool.not_false,cT,dT h1,Bool.true_and]
   by_cases h2:c.reps.length≤4096
   ·rw [dF (by omega),Bool.not_false,cT,dT h2,Bool.true_and,within_ok (by omega) (by omega),bS]
    cases h3:inL (d6 t a).1 c.reps with
    |false=>rfl
    |true=>
     rw [Bool.not_true,Bool.not_false,cT,Bool.true_and,within_ok (by omega) (by omega),bS]
     cases h4:inL (d6 t a).2.1 c.defs with
     |false=>rfl
     |true=>
      rw [Bool.not_true,cF,Bool.true_and]
      rw [Bool.and_eq_true] at hn
      obtain ⟨hm,i,hi,rfl⟩:=f6 hn.1
      rw [Int.toNat_natCast] at hn
      have hin:iJ (f8 t i)=false:=by simpa using hn.2
      have:=lT (F:=fun n j=>cZ.l0 aT k n (i:Int) (d6 t (i:Int)).2.1 c.values (c.values.length:Int) (j:Int) t c.reps c.defs) (p:=fun j=>match c.values[j]? with|some v=>vOk t (i:Int) v|none=>false) (N:=c.values.length) (E:=some (decide (c.values.length=cnt (d6 t (i:Int)).2.1 c.defs))) (Z:=some false) ?_ ?_ k (by omega)
      ·refine this.trans ?_
       rw [range_get c.values (vOk t (i:Int)) _ fun j hj=>by simp only [List.getElem?_eq_getElem hj]]
       cases c.values.all (vOk t (i:Int))<;>rfl
      ·intro n j hj _
       obtain ⟨k,rfl⟩:∃q,k=q+1:=⟨k - 1,by omega⟩
       rw [cZ.l0_eq,dT (by omega),cT,bT hj,bS,jb.f_eq,bS,List.getElem?_eq_getElem hj]
       simp only [vOk,Int.toNat_natCast]
       cases hx:(c.values[j]==[110]) with
       |true=>
        rw [Bool.not_true,cF,show (c.values[j] != [110])=false by simp [bne,hx],Bool.false_and,cF]
       |false=>
        rw [Bool.not_false,cT,show (c.values[j] != [110])=true by simp [bne,hx],Bool.true_and,vFits_ok (by omega) hn.1 hi hm hin,bS]
        cases fitB t i c.values[j] with
        |false=>rfl
        |true=>rw [Bool.not_true,cF,dB (by omega),cT]
      ·intro _ n
       rw [cZ.l0_eq,dF (by omega),cF,there_ok' (by omega) (by omega),bS]
       congr 1
       rw [Bool.eq_iff_iff,beq_iff_eq,decide_eq_true_iff];omega
   ·rw [dT (by omega),Bool.not_true,cF,dF h2,Bool.false_and]
  ·rw [show (((c.reps.length:Nat):Int) != ((c.defs.length:Nat):Int))=true by rw [bne_iff_ne];omega,Bool.not_true,cF,dF h1,Bool.false_and]
def rnd (x:Int):Int:=ax .xor .u32 (Int.fdiv x (2 ^ (min 1 IntKind.u32.bits))) (IntKind.u32.wrap (3988292384*(ax .and .u32 x 1)))
def rnds:Nat→Int→Int
 |0,x=>x
 |n+1,x=>rnds n (rnd x)
def crcB (x:Int)(b:UInt8):Int:=rnds 8 (ax .xor .u32 x (IntKind.u32.wrap (b.toNat:Int)))
def crcS (s:List UInt8):Int:=IntKind.i64.wrap (ax .xor .u32 (s.foldl crcB 4294967295) 4294967295)
theorem crc_l2 {k m1:Nat}{s:List UInt8}{len i:Int}:∀(d j n:Nat) (x:Int),j+d=8→d+1≤n→bP.l2 aT k m1 n s x len i (j:Int)=bP.l0 aT k m1 s (rnds d x) len (IntKind.i64.wrap (i+1))
 |0,j,n,x,h,hn=>by
  obtain ⟨n,rfl⟩:∃q,n=q+1:=⟨n - 1,by omega⟩
  rw [bP.l2_eq,dF (by omega),cF];rfl
 |d+1,j,n,x,h,hn=>by
  obtain ⟨n,rfl⟩:∃q,n=q+1:=⟨n - 1,by omega⟩
  rw [bP.l2_eq,dT (by omega),cT,dB (by omega)]
  exact crc_l2 d (j+1) n (rnd x) (by omega) (by omega)
theorem crc_ok {k:Nat}{s:List UInt8}(hk:s.length+12≤k)(hl:s.length≤1000000000000000):bP.f aT k s=some (crcS s):=by
 obtain ⟨k,rfl⟩:∃q,k=q+1:=⟨k - 1,by omega⟩
 rw [bP.f_eq]
 have:=fX (F:=fun n i=>bP.l0 aT k n s ((s.take i).foldl crcB 4294967295) (s.length:Int) (i:Int)) (N:=s.length) (r:=some (crcS s)) ?_ ?_ k 0 (by omega) (by omega)
 ·simpa using this
 ·intro n i hi
  rw [bP.l0_eq,dT (by omega),cT,bT hi,bS]
  have:=crc_l2 (k:=k) (m1:=n) (s:=s) (len:=(s.length:Int)) (i:=(i:Int)) 8 0 k (ax .xor .u32 ((s.take i).foldl crcB 4294967295) (IntKind.u32.wrap (s[i].toNat:Int))) (by omega) (by omega)
  rw [show ((0:Nat):Int)=0 from rfl] at this
  rw [this,dB (by omega),List.take_succ_eq_append_getElem hi,List.foldl_append]
  rfl
 ·intro n
  rw [bP.l0_eq,dF (by omega),cF,List.take_length]
  rfl
inductive PB:List UInt8→List UInt8→Prop
 |i (x:Int) (h:kl x):PB (tY x) (w8 x)
 |b (b:Bool):PB (lk b) (Ce (if b then 1 else 0))
 |s (l:List UInt8) (h:l.length≤16):PB (gi l) (w4 (l.length:Int)++l)
theorem PB.len {v b:List UInt8}(h:PB v b):b.length≤20:=by
 cases h with
 |i x h=>show 8≤20;omega
 |b b=>show 1≤20;omega
 |s l h=>rw [List.length_append,bR];omega
theorem FitL.pb {t:List bu}{i:Nat}{v:List UInt8}(h:FitL t i v)(hv:v≠[110]):∃b,PB v b:=by
 obtain ⟨_,⟨h,_⟩|⟨_,x,hx,rfl⟩|⟨_,b,rfl⟩|⟨_,l,hl,rfl⟩⟩:=h
 ·exact absurd h hv
 ·exact ⟨_,.i x hx⟩
 ·exact ⟨_,.b b⟩
 ·exact ⟨_,.s l hl⟩
theorem pgBytes_ok {k:Nat}(hk:70500≤k){v b:List UInt8}(h:PB v b)(hl:v.length≤65536):fb.f aT k v=some b:=by
 obtain ⟨k,rfl⟩:∃q,k=q+1:=⟨k - 1,by omega⟩
 rw [fb.f_eq]
 cases h with
 |i x hx=>
  rw [vParts_leaf (by omega) hl (.i x hx) (by omega),bS]
  simp only [show ((0:Int)==0)=true from rfl,cT]
  rw [dT (by omega),dT (by simp),Bool.and_self,cT,show ([eU x]:List (List UInt8))[0]?=some (eU x) from rfl,bS,Atoi_dig (by omega) hx,bS,word8' (by omega),bS]
 |b b=>
  rw [vParts_leaf (by omega) hl (.b b) (by omega),bS]
  simp only [show ((1:Int)==0)=false from rfl,show ((1:Int)==1)=true from rfl,cT,cF]
  rw [dT (by omega),dT (by simp),Bool.and_self,cT,show ([lk b]:List (List UInt8))[0]?=some (lk b) from rfl,bS]
  cases b with
  |true=>
   rw [show rd (lk true) 0=some 116 from rfl,bS,there_ok' (by simp only [List.length_cons,List.length_nil];omega) (by simp),bS,word1' (by omega),bS]
   rfl
  |false=>
   rw [show rd (lk false) 0=some 102 from rfl,bS,there_ok' (by simp only [List.length_cons,List.length_nil];omega) (by simp),bS,word1' (by omega),bS]
   rfl
 |s l h16=>
  rw [vParts_leaf (by omega) hl (.s l) (by omega),bS]
  simp only [show ((2:Int)==0)=false from rfl,show ((2:Int)==1)=false from rfl,cF]
  rw [dT (by omega),dT (by simp),Bool.and_self,cT,show ([l]:List (List UInt8))[0]?=some l from rfl,bS,word4' (by omega),bS,cT,bS,dT (by rw [bR];omega),cT]
noncomputable def pgB (v:List UInt8):List UInt8:=(fb.f aT 80000 v).getD []
theorem PB.short {v b:List UInt8}(h:PB v b):v.length≤100:=by
 cases h with
 |i x h=>have:=mc x;unfold tY;simp only [List.length_append,List.length_cons,List.length_nil];omega
 |b b=>cases b<;>decide
 |s l h=>have:=oN l.length;unfold gi;simp only [List.length_append,List.length_cons,List.length_nil];omega
theorem PB.eq {v b:List UInt8}(h:PB v b):pgB v=b:=by
 unfold pgB
 rw [pgBytes_ok (by omega) h (by have:=h.short;omega)];rfl
theorem vOk_pb {t:List bu}{a:Int}{v:List UInt8}(h:vOk t a v=true):PB v (pgB v):=by
 unfold vOk at h
 rw [Bool.and_eq_true,bne_iff_ne] at h
 obtain ⟨b,hb⟩:=(fitB_iff.1 h.2).pb h.1
 rw [hb.eq];exact hb
theorem colMay_parts {t:List bu}{a:Int}{c:Col}(h:colMay t a c=true):∃i:Nat,a=(i:Int)∧i<t.length∧mn t=true∧er t (i:Int)=true∧iJ (f8 t i)=false∧c.reps.length=c.defs.length∧c.reps.length≤4096∧
  inL (d6 t a).1 c.reps=true∧inL (d6 t a).2.1 c.defs=true∧(∀v∈c.values,vOk t a v=true)∧c.values.length=cnt (d6 t a).2.1 c.defs:=by
 unfold colMay at h
 simp only [Bool.and_eq_true,decide_eq_true_eq,List.all_eq_true,Bool.not_eq_true'] at h
 obtain ⟨⟨h0,h1⟩,h2,h3,h4,h5,h6,h7⟩:=h
 obtain ⟨hm,i,hi,rfl⟩:=f6 h0
 rw [Int.toNat_natCast] at h1
 exact ⟨i,rfl,hi,hm,h0,h1,h2,h3,h4,h5,h6,h7⟩
theorem colMay_vlen {t:List bu}{a:Int}{c:Col}(h:colMay t a c=true):c.values.length≤4096:=by
 obtain ⟨i,_,_,_,_,_,h1,h2,_,_,_,h3⟩:=colMay_parts h
 have:=cnt_le (d6 t a).2.1 c.defs
 omega
theorem inL_ok {most:Int}(hm:most≤15){xs:List Int}(h:inL most xs=true):sD (bw most).toNat xs=true:=by
 unfold inL at h
 unfold sD
 rw [List.all_eq_true] at h ⊢
 intro x hx
 have:=h x hx
 simp only [Bool.and_eq_true,decide_eq_true_eq] at this
 unfold AU
 rw [dT this.1,dT (bw_fits hm this.1 this.2)];rfl
def lvB (most:Int)(xs:List Int):List UInt8:=(kJ (bw most) xs).1
theorem levels_ok {k:Nat}(hk:1200020≤k){most:Int}(h0:0≤most)(h1:most≤15)(xs:List Int):eo.f aT k xs most=some (lvB most xs):=by
 obtain ⟨k,rfl⟩:∃q,k=q+1:=⟨k - 1,by omega⟩
 rw [eo.f_eq,Len_ok (by omega) h0 h1,bS,A2 (by omega),bS];rfl
theorem lvB_put {most:Int}(h1:most≤15){xs:List Int}(hx:inL most xs=true)(hl:xs.length≤4096):kJ (bw most) xs=(lvB most xs,0)∧lvB most xs=iY (bw most).toNat xs∧(lvB most xs).length≤102400:=by
 have hb:=bw_range most
 have ho:=inL_ok h1 hx
 have:=Cb (w:=(bw most).toNat) (by omega) hl ho
 rw [Int.toNat_of_nonneg hb.1] at this
 have e:lvB most xs=iY (bw most).toNat xs:=by unfold lvB;rw [this]
 refine ⟨by rw [this,e],e,?_⟩
 have:=uF (w:=(bw most).toNat) (by omega) xs.length xs (Nat.le_refl _) hl
 rw [e];omega
def pgHead (n r d:Nat):List UInt8:=(w4 (n:Int)++w4 (r:Int))++w4 (d:Int)
noncomputable def pgBody (t:List bu)(a:Int)(c:Col):List UInt8:=
 (pgHead c.reps.length (lvB (d6 t a).1 c.reps).length (lvB (d6 t a).2.1 c.defs).length++(lvB (d6 t a).1 c.reps++lvB (d6 t a).2.1 c.defs))++(c.values.map pgB).flatten
noncomputable def putP (t:List bu)(a:Int)(c:Col):List UInt8×Int:=if colMay t a c=true then (w4 (crcS (pgBody t a c))++pgBody t a c,0) else ([],2200)
theorem bytesOf_append (x y:List UInt8):ac x++ac y=ac (x++y):=by unfold ac;rw [List.map_append]
theorem bytesOf_len (x:List UInt8):(ac x).length=x.length:=by unfold ac;rw [List.length_map]
theorem pgflat_len {vs:List (List UInt8)}(h:∀v∈vs,PB v (pgB v)):(vs.map pgB).flatten.length≤20*vs.length:=by
 induction vs with
 |nil=>simp
 |cons v vs ih=>
  have h1:=(h v List.mem_cons_self).len
  have h2:=ih fun w hw=>h w (List.mem_cons_of_mem _ hw)
  simp only [List.map_cons,List.flatten_cons,List.length_append,List.length_cons]
  omega
theorem Put_l2 {k:Nat}{vs:List (List UInt8)}(hv:∀v∈vs,PB v (pgB v))(hl:vs.length≤4096){H:List UInt8}(hH:H.length≤1000000)(hk:1200000≤k){n:Nat}(hn:vs.length<n):
  aS.l2 aT k n vs (vs.length:Int) 0 (ac H)=some (w4 (crcS (H++(vs.map pgB).flatten))++(H++(vs.map pgB).flatten),0):=by
 have hfl:=pgflat_len hv
 have:=fX (F:=fun n i=>aS.l2 aT k n vs (vs.length:Int) (i:Int) (ac (H++((vs.take i).map pgB).flatten))) (N:=vs.length) (r:=some (w4 (crcS (H++(vs.map pgB).flatten))++(H++(vs.map pgB).flatten),0)) ?_ ?_ n 0 (by omega) (by omega)
 ·simpa using this
 ·intro n i hi
  have hb:=hv vs[i] (List.getElem_mem hi)
  have hft:=pgflat_len (vs:=vs.take i) fun v h=>hv v (List.mem_of_mem_take h)
  rw [List.length_take] at hft
  have hbl:=hb.len
  rw [aS.l2_eq,dT (by omega),cT,bT hi,bS,pgBytes_ok (by omega) hb (by have:=hb.short;omega),bS,dT (by rw [bytesOf_len,List.length_append];omega),cT,bytesOf_append,dB (i:=i) (by omega)]
  congr 1
  rw [List.take_succ_eq_append_getElem hi,List.map_append,List.flatten_append,List.map_cons,List.map_nil,List.flatten_cons,List.flatten_nil,List.append_nil,List.append_assoc]
 ·intro n
  rw [aS.l2_eq,dF (by omega),cF,List.take_length,jm,crc_ok (by rw [List.length_append];omega) (by rw [List.length_append];omega),bS,word4' (by omega),bS,dT (by rw [List.length_append,bR];omega),cT]
theorem page_Put_ok {k:Nat}{t:List bu}{a:Int}{c:Col}(hk:1200100+c.values.length≤k)(hl:c.values.length≤20000000000000)(hd:c.reps.length≤20000000000000∧c.defs.length≤20000000000000):aS.f aT k t a c=some (putP t a c):=by
 obtain ⟨k,rfl⟩:∃q,k=q+1:=⟨k - 1,by omega⟩
 rw [aS.f_eq,page_May_ok (by omega) hl hd,bS]
 unfold putP
 cases hm:colMay t a c with
 |false=>rfl
 |true=>
  obtain ⟨i,rfl,hi,hmt,hn,hin,h1,h2,h3,h4,h5,h6⟩:=colMay_parts hm
  have hvl:=colMay_vlen hm
  obtain ⟨r0,r1,d0,d1⟩:=lev_range (t:=t) (a:=(i:Int))
  obtain ⟨_,_,hr⟩:=lvB_put r1 h3 h2
  obtain ⟨_,_,hdl⟩:=lvB_put d1 h4 (by omega)
  rw [Bool.not_true,cF,if_pos rfl,fN (by omega),bS,levels_ok (by omega) r0 r1,bS,levels_ok (by omega) d0 d1,bS]
  obtain ⟨q,hq⟩:∃q,k=q+4:=⟨k - 4,by omega⟩
  have key:∀(A B C:Int) (r d:List UInt8),r.length≤102400→d.length≤102400→aS.l0 aT k (q+4) r d ((([A,B,C]:List Int).length:Nat):Int) 0 c.reps c.defs c.values ([]:List Int) [A,B,C]=
    aS.l2 aT k k c.values ((c.values.length:Nat):Int) 0 (ac (((w4 A++w4 B)++w4 C)++(r++d))):=by
   intro A B C r d hr hd
   rw [aS.l0_eq,dT (by simp),cT,dT (by omega),Bool.and_self,cT,show ([A,B,C]:List Int)[(0:Int).toNat]?=some A from rfl,bS,word4' (by omega),bS,dT (by simp [bR]),cT,show IntKind.i64.wrap (0+1)=1 from rfl,List.nil_append]
   rw [aS.l0_eq,dT (by simp),cT,dT (by omega),Bool.and_self,cT,show ([A,B,C]:List Int)[(1:Int).toNat]?=some B from rfl,bS,word4' (by omega),bS,dT (by rw [bytesOf_len];simp [bR]),cT,show IntKind.i64.wrap (1+1)=2 from rfl,bytesOf_append]
   rw [aS.l0_eq,dT (by simp),cT,dT (by omega),Bool.and_self,cT,show ([A,B,C]:List Int)[(2:Int).toNat]?=some C from rfl,bS,word4' (by omega),bS,dT (by rw [bytesOf_len];simp [bR]),cT,show IntKind.i64.wrap (2+1)=3 from rfl,bytesOf_append]
   rw [aS.l0_eq,dF (by simp),cF,dT (by omega),cT,dT (by rw [bytesOf_len];simp only [List.length_append,bR];omega),cT,bytesOf_append]
  have key':=key ((c.reps.length:Nat):Int) (((lvB (d6 t (i:Int)).1 c.reps).length:Nat):Int) (((lvB (d6 t (i:Int)).2.1 c.defs).length:Nat):Int) _ _ hr hdl
  rw [←hq] at key'
  rw [key',Put_l2 (fun v hv=>vOk_pb (h5 v hv)) hvl (by simp only [List.length_append,bR];omega) (by omega) (by omega)]
  rfl
theorem awake22' {k:Nat}(hk:400≤k):eO.f aT k=some true:=by
 obtain ⟨k,rfl⟩:∃q,k=q+400:=⟨k - 400,by omega⟩
 exact BD k
theorem same_ints {k:Nat}{a b:List Int}(hk:a.length+3≤k)(hl:a.length≤20000000000000):ay.f aT k a b=some (decide (a=b)):=by
 obtain ⟨k,rfl⟩:∃q,k=q+1:=⟨k - 1,by omega⟩
 rw [ay.f_eq]
 by_cases h:a.length=b.length
 ·rw [show (((a.length:Nat):Int) != ((b.length:Nat):Int))=false by rw [h];simp,cF]
  have:=lT (F:=fun n i=>ay.l0 aT k n a b (i:Int)) (p:=fun i=>decide (a[i]?=b[i]?)) (N:=a.length) (E:=some true) (Z:=some false) ?_ ?_ k (by omega)
  ·refine this.trans ?_
   have e:(List.range a.length).all (fun i=>decide (a[i]?=b[i]?))=decide (a=b):=by
    rw [Bool.eq_iff_iff,List.all_eq_true,decide_eq_true_iff]
    constructor
    ·intro hq
     refine List.ext_getElem? fun i=>?_
     rcases Nat.lt_or_ge i a.length with hi|hi
     ·simpa using hq i (List.mem_range.2 hi)
     ·rw [List.getElem?_eq_none hi,List.getElem?_eq_none (by omega)]
    ·rintro rfl i _;simp
   rw [e]
   cases decide (a=b)<;>rfl
  ·intro n i hi _
   rw [ay.l0_eq,dT (by omega),cT,bT hi,bS,bT (show i<b.length by omega),bS,List.getElem?_eq_getElem hi,List.getElem?_eq_getElem (show i<b.length by omega)]
   by_cases hx:a[i]=b[i]
   ·rw [show (a[i] != b[i])=false by rw [hx];simp,cF,dT (by rw [hx]),cT,dB (by omega)]
   ·rw [show (a[i] != b[i])=true by rw [bne_iff_ne];exact hx,cT,dF (by simpa using hx),cF]
  ·intro _ n
   rw [ay.l0_eq,dF (by omega),cF]
 ·rw [show (((a.length:Nat):Int) != ((b.length:Nat):Int))=true by rw [bne_iff_ne];omega,cT,dF (by rintro rfl;exact h rfl)]
theorem same_texts {k:Nat}{a b:List (List UInt8)}(hk:a.length+3≤k)(hl:a.length≤20000000000000):az.f aT k a b=some (decide (a=b)):=by
 obtain ⟨k,rfl⟩:∃q,k=q+1:=⟨k - 1,by omega⟩
 rw [az.f_eq]
 by_cases h:a.length=b.length
 ·rw [show (((a.length:Nat):Int) != ((b.length:Nat):Int))=false by rw [h];simp,cF]
  have:=lT (F:=fun n i=>az.l0 aT k n a b (i:Int)) (p:=fun i=>decide (a[i]?=b[i]?)) (N:=a.length) (E:=some true) (Z:=some false) ?_ ?_ k (by omega)
  ·refine this.trans ?_
   have e:(List.range a.length).all (fun i=>decide (a[i]?=b[i]?))=decide (a=b):=by
    rw [Bool.eq_iff_iff,List.all_eq_true,decide_eq_true_iff]
    constructor
    ·intro hq
     refine List.ext_getElem? fun i=>?_
     rcases Nat.lt_or_ge i a.length with hi|hi
     ·simpa using hq i (List.mem_range.2 hi)
     ·rw [List.getElem?_eq_none hi,List.getElem?_eq_none (by omega)]
    ·rintro rfl i _;simp
   rw [e]
   cases decide (a=b)<;>rfl
  ·intro n i hi _
   rw [az.l0_eq,dT (by omega),cT,bT hi,bS,bT (show i<b.length by omega),bS,List.getElem?_eq_getElem hi,List.getElem?_eq_getElem (show i<b.length by omega)]
   by_cases hx:a[i]=b[i]
   ·rw [show (a[i] != b[i])=false by rw [hx];simp,cF,dT (by rw [hx]),cT,dB (by omega)]
   ·rw [show (a[i] != b[i])=true by rw [bne_iff_ne];exact hx,cT,dF (by simpa using hx),cF]
  ·intro _ n
   rw [az.l0_eq,dF (by omega),cF]
 ·rw [show (((a.length:Nat):Int) != ((b.length:Nat):Int))=true by rw [bne_iff_ne];omega,cT,dF (by rintro rfl;exact h rfl)]
theorem Col.eq_iff {c d:Col}:c=d↔c.reps=d.reps∧c.defs=d.defs∧c.values=d.values:=by
 cases c;cases d
 simp only [Col.mk.injEq]
open Classical in
theorem same_col {k:Nat}{c d:Col}(hk:c.reps.length+c.defs.length+c.values.length+5≤k)(hl:c.reps.length≤20000000000000∧c.defs.length≤20000000000000∧c.values.length≤20000000000000):
  bn.f aT k c d=some (decide (c=d)):=by
 obtain ⟨k,rfl⟩:∃q,k=q+1:=⟨k - 1,by omega⟩
 rw [bn.f_eq,same_ints (by omega) hl.1,bS]
 by_cases h1:c.reps=d.reps
 ·rw [dT h1,cT,same_ints (by omega) hl.2.1,bS]
  by_cases h2:c.defs=d.defs
  ·rw [dT h2,cT,same_texts (by omega) hl.2.2,bS]
   by_cases h3:c.values=d.values
   ·rw [dT h3,dT (Col.eq_iff.2 ⟨h1,h2,h3⟩)]
   ·rw [dF h3,dF fun e=>h3 (Col.eq_iff.1 e).2.2]
  ·rw [dF h2,cF,dF fun e=>h2 (Col.eq_iff.1 e).2.1]
 ·rw [dF h1,cF,dF fun e=>h1 (Col.eq_iff.1 e).1]
theorem PB.kind {t:List bu}{i:Nat}{v:List UInt8}(h:vOk t (i:Int) v=true):(f8 t i=0∧∃x,kl x∧v=tY x∧pgB v=w8 x)∨(f8 t i=1∧∃b,v=lk b∧pgB v=Ce (if b then 1 else 0))∨(f8 t i=2∧∃l:List UInt8,l.length≤16∧v=gi l∧pgB v=w4 (l.length:Int)++l):=by
 unfold vOk at h
 rw [Bool.and_eq_true,bne_iff_ne,Int.toNat_natCast] at h
 obtain ⟨_,⟨e,_⟩|⟨e,x,hx,rfl⟩|⟨e,b,rfl⟩|⟨e,l,hl,rfl⟩⟩:=fitB_iff.1 h.2
 ·exact absurd e h.1
 ·exact .inl ⟨e,x,hx,rfl,(PB.i x hx).eq⟩
 ·exact .inr (.inl ⟨e,b,rfl,(PB.b b).eq⟩)
 ·exact .inr (.inr ⟨e,l,hl,rfl,(PB.s l hl).eq⟩)
theorem putP_no {t:List bu}{a:Int}{c:Col}(h:colMay t a c=false):putP t a c=([],2200):=by unfold putP;rw [if_neg (by rw [h];simp)]
theorem putP_ok {t:List bu}{a:Int}{c:Col}(h:colMay t a c=true):(putP t a c).2=0:=by unfold putP;rw [if_pos h]
theorem u32_range (n:Int):0≤IntKind.u32.wrap n∧IntKind.u32.wrap n≤4294967295:=by
 simp [IntKind.wrap,IntKind.bits,IntKind.signed];omega
theorem crcS_range (s:List UInt8):0≤crcS s∧crcS s≤4294967295:=by
 unfold crcS
 have h:∀x y,0≤ax .xor .u32 x y∧ax .xor .u32 x y≤4294967295:=fun x y=>by unfold ax;exact u32_range _
 have:=h (s.foldl crcB 4294967295) 4294967295
 rw [bH _ (by omega)];exact this
theorem numOf_w4' {x:Int}(h:0≤x∧x≤4294967295):fw (w4 x)=x:=by
 unfold fw
 rw [zH x ⟨h.1,by omega⟩,bH _ (by omega)]
theorem tBytes_ok {k:Nat}(hk:1≤k)(r:List UInt8)(bad:Bool)(n:Int):aO.f aT k r bad n=
  some (if bad=false∧0≤n∧n≤(r.length:Int) then (r.take n.toNat,(r.drop n.toNat,false)) else ([],(r,true))):=by
 obtain ⟨k,rfl⟩:∃q,k=q+1:=⟨k - 1,by omega⟩
 rw [aO.f_eq]
 cases bad with
 |true=>simp
 |false=>
  rw [Bool.not_false,cT]
  by_cases h0:n<0
  ·rw [dT h0,Bool.not_true,cF,if_neg (by omega)]
  ·rw [dF h0,Bool.not_false,cT]
   by_cases h1:n>(r.length:Int)
   ·rw [dT h1,cT,if_neg (by omega)]
   ·rw [dF h1,cF,dT (show (0:Int)≤n by omega),dT (show n≤(r.length:Int) by omega),Bool.and_self,cT,cT,if_pos ⟨rfl,by omega,by omega⟩,List.drop_zero,List.take_length]
theorem get_len {r:List UInt8}(h:(wY r 0 4).2=0):4≤r.length:=by
 unfold wY at h
 split at h
 ·rename_i hc;omega
 ·cases h
theorem tNumber_ok {k:Nat}(hk:20≤k){r:List UInt8}(hr:r.length≤200000000000000)(bad:Bool):a7.f aT k r bad=
  some ((wY r 0 4).1,if bad=false∧(wY r 0 4).2=0 then (r.drop 4,false) else (r,true)):=by
 obtain ⟨k,rfl⟩:∃q,k=q+1:=⟨k - 1,by omega⟩
 rw [a7.f_eq,vL (by omega) r (by omega) 0 4 (by omega),bS]
 cases bad with
 |true=>rw [Bool.not_true,cF,tBytes_ok (by omega),bS,if_neg (by simp),if_neg (by simp)]
 |false=>
  rw [Bool.not_false,cT,tBytes_ok (by omega),bS]
  by_cases h:(wY r 0 4).2=0
  ·have hl:=get_len h
   rw [h,if_pos ⟨rfl,by omega,by omega⟩,if_pos ⟨rfl,rfl⟩]
   rfl
  ·rw [show ((wY r 0 4).2 != 0)=true by rw [bne_iff_ne];exact h,if_neg (by simp),if_neg (by simp [h])]
theorem vInt_ok {k:Nat}(hk:2≤k){x:Int}(h:kl x):iF.f aT k x=some (tY x):=by
 obtain ⟨k,rfl⟩:∃q,k=q+1:=⟨k - 1,by omega⟩
 have hl:=mc x
 rw [iF.f_eq,vItoa_ok (by omega) h,bS,dT (by simp only [List.length_cons,List.length_nil];omega),cT,dT (by simp only [List.length_append,List.length_cons,List.length_nil];omega),cT]
 rfl
theorem vBool_ok {k:Nat}(hk:1≤k)(b:Bool):gw.f aT k b=some (lk b):=by
 obtain ⟨k,rfl⟩:∃q,k=q+1:=⟨k - 1,by omega⟩
 rw [gw.f_eq];cases b<;>rfl
theorem vBytes_ok {k:Nat}(hk:2≤k){l:List UInt8}(h:l.length≤200000000000000):fu.f aT k l=some (gi l):=by
 obtain ⟨k,rfl⟩:∃q,k=q+1:=⟨k - 1,by omega⟩
 have hl:=oN l.length
 rw [fu.f_eq,vItoa_ok (by omega) (by unfold kl;omega),bS,pm,dT (by simp only [List.length_cons,List.length_nil];omega),cT,dT (by simp only [List.length_append,List.length_cons,List.length_nil];omega),cT,dT (by simp only [List.length_append,List.length_cons,List.length_nil];omega),cT]
 rfl
theorem tValue_pb {k:Nat}(hk:40≤k){t:List bu}{i:Nat}{v rest:List UInt8}(h:vOk t (i:Int) v=true)(hl:rest.length≤100000000000000):c6.f aT k (pgB v++rest) false (f8 t i)=some (v,(rest,false)):=by
 obtain ⟨k,rfl⟩:∃q,k=q+1:=⟨k - 1,by omega⟩
 rw [c6.f_eq]
 rcases PB.kind h with ⟨e,x,hx,rfl,ev⟩|⟨e,b,rfl,ev⟩|⟨e,l,h16,rfl,ev⟩
 ·rw [e,ev]
  simp only [show ((0:Int)==0)=true from rfl,cT]
  have e8:=yn x
  rw [tBytes_ok (by omega),bS,if_pos ⟨rfl,by omega,by rw [List.length_append,e8];omega⟩]
  simp only
  rw [show (8:Int).toNat=(w8 x).length from e8.symm,List.take_left',List.drop_left',eh (by omega) _ (by rw [e8];omega),bS,zE x hx,vInt_ok (by omega) hx,bS]
  ·rfl
  ·rfl
 ·rw [e,ev]
  simp only [show ((1:Int)==0)=false from rfl,show ((1:Int)==1)=true from rfl,cT,cF]
  rw [tBytes_ok (by omega),bS,if_pos ⟨rfl,by omega,by rw [List.length_append];show (1:Int)≤((1+rest.length:Nat):Int);omega⟩]
  simp only
  rw [show (1:Int).toNat=(Ce (if b then 1 else 0)).length from rfl,List.take_left',List.drop_left',eh (by omega) _ (by show 1≤8;omega),bS,vBool_ok (by omega),bS]
  ·cases b<;>rfl
  ·rfl
  ·rfl
 ·rw [e,ev]
  simp only [show ((2:Int)==0)=false from rfl,show ((2:Int)==1)=false from rfl,cF]
  obtain ⟨k,rfl⟩:∃q,k=q+1:=⟨k - 1,by omega⟩
  have hg:=Aa [] (l++rest) (l.length:Int) (fm.2 ⟨by omega,by omega⟩)
  simp only [List.nil_append,List.length_nil] at hg
  rw [show ((0:Nat):Int)=0 from rfl] at hg
  rw [List.append_assoc,dY.f_eq,tNumber_ok (by omega) (by simp only [List.length_append,bR];omega),bS,hg]
  simp only
  rw [if_pos ⟨trivial,trivial⟩]
  simp only
  rw [show (4:Nat)=(w4 (l.length:Int)).length from rfl,List.drop_left',tBytes_ok (by omega),bS,if_pos ⟨rfl,by omega,by rw [List.length_append];omega⟩,bS]
  ·simp only
   rw [Int.toNat_natCast,List.take_left',List.drop_left',vBytes_ok (by omega) (by omega),bS]
   ·rfl
   ·rfl
  ·rfl
def noCol:List Int×List Int×List (List UInt8):=([],[],[])
def colOf (c:Col):List Int×List Int×List (List UInt8):=(c.reps,c.defs,c.values)
theorem Get_end {k n:Nat}{t:List bu}{a:Int}{s:List UInt8}{e f:Int}{m:Nat}{c:Col}{r:List UInt8}{bad:Bool}(hk:1200100+c.values.length≤k)(hl:c.values.length≤20000000000000)(hd:c.reps.length≤20000000000000∧c.defs.length≤20000000000000):
  bB.l0 aT k (n+1) a s e f (m:Int) (m:Int) t c.reps c.defs c.values r bad=some (if bad=false∧e=0∧f=0∧putP t a c=(s,0) then (colOf c,0) else (noCol,2200)):=by
 rw [bB.l0_eq,dF (by omega),cF]
 have hc:(Col.mk c.reps c.defs c.values)=c:=by cases c;rfl
 rw [hc,page_Put_ok hk hl hd,bS]
 cases bad with
 |true=>rw [Bool.not_true,cF,if_neg (by simp)];rfl
 |false=>
  rw [Bool.not_false,cT]
  by_cases h1:e=0
  ·rw [h1,show ((0:Int) != 0)=false from rfl,Bool.not_false,cT]
   by_cases h2:f=0
   ·rw [h2,show ((0:Int) != 0)=false from rfl,Bool.not_false,cT]
    by_cases h3:(putP t a c).2=0
    ·rw [h3,show ((0:Int) != 0)=false from rfl,Bool.not_false,cT]
     by_cases h4:(putP t a c).1=s
     ·rw [show ((putP t a c).1 != s)=false by rw [h4];simp,cF,if_pos ⟨rfl,rfl,rfl,Prod.ext h4 h3⟩];rfl
     ·rw [show ((putP t a c).1 != s)=true by rw [bne_iff_ne];exact h4,cT,if_neg (by rintro ⟨_,_,_,h⟩;exact h4 (by rw [h]))];rfl
    ·rw [show ((putP t a c).2 != 0)=true by rw [bne_iff_ne];exact h3,Bool.not_true,cF,if_neg (by rintro ⟨_,_,_,h⟩;exact h3 (by rw [h]))];rfl
   ·rw [show (f != 0)=true by rw [bne_iff_ne];exact h2,Bool.not_true,cF,if_neg (by rintro ⟨_,_,h,_⟩;exact h2 h)];rfl
  ·rw [show (e != 0)=true by rw [bne_iff_ne];exact h1,Bool.not_true,cF,if_neg (by rintro ⟨_,h,_⟩;exact h1 h)];rfl
theorem Get_sum {k:Nat}{t:List bu}{a:Int}{s:List UInt8}(hk:s.length+40≤k)(hs:s.length≤140737488351232)(h4:4≤s.length)(hn:(er t a&&!iJ (f8 t a.toNat))=true)(hc:fw (s.take 4)≠crcS (s.drop 4)):bB.f aT k t a s=some (noCol,2201):=by
 obtain ⟨k,rfl⟩:∃q,k=q+1:=⟨k - 1,by omega⟩
 rw [bB.f_eq,Leaf_ok (by omega),bS,hn,Bool.not_true,Bool.not_false,cT,dF (by omega),cF,dT (by omega),dT (by omega),Bool.and_self,cT,List.drop_zero,eh (by omega) _ (by rw [List.length_take];omega),bS,cT,List.take_length,crc_ok (by rw [List.length_drop];omega) (by rw [List.length_drop];omega),bS,
  show (fw (s.take 4) != crcS (s.drop 4))=true by rw [bne_iff_ne];exact hc,cT]
 rfl
theorem tNumber_w4 {k:Nat}(hk:20≤k){n:Nat}(hn:n≤1000000000){r:List UInt8}(hr:r.length≤100000000000000):a7.f aT k (w4 (n:Int)++r) false=some ((n:Int),(r,false)):=by
 have hg:=Aa [] r (n:Int) (fm.2 ⟨by omega,by omega⟩)
 simp only [List.nil_append,List.length_nil] at hg
 rw [show ((0:Nat):Int)=0 from rfl] at hg
 rw [tNumber_ok hk (by simp only [List.length_append,bR];omega),hg]
 simp only
 rw [if_pos ⟨trivial,trivial⟩,show (4:Nat)=(w4 (n:Int)).length from rfl,List.drop_left']
 rfl
theorem tBytes_app {k:Nat}(hk:1≤k)(x r:List UInt8):aO.f aT k (x++r) false (x.length:Int)=some (x,(r,false)):=by
 rw [tBytes_ok hk,if_pos ⟨rfl,by omega,by rw [List.length_append];omega⟩,Int.toNat_natCast,List.take_left',List.drop_left']<;>rfl
theorem Get_l0_put {k:Nat}{t:List bu}{i:Nat}(hi:i<t.length){s:List UInt8}{R D:List Int}{vs:List (List UInt8)}(hv:∀v∈vs,vOk t (i:Int) v=true)(hm:vs.length≤4096)(hR:R.length≤5000∧D.length≤5000)(hk:1300000≤k)
  (hput:putP t (i:Int) ⟨R,D,vs⟩=(s,0)):∀(d j n:Nat),j+d=vs.length→d+1≤n→
   bB.l0 aT k n (i:Int) s 0 0 (vs.length:Int) (j:Int) t R D (vs.take j) (((vs.drop j).map pgB).flatten) false=some ((R,D,vs),0)
 |0,j,n,hj,hn=>by
  obtain ⟨n,rfl⟩:∃q,n=q+1:=⟨n - 1,by omega⟩
  have hjm:j=vs.length:=by omega
  subst hjm
  rw [List.take_length]
  have:=Get_end (k:=k) (n:=n) (t:=t) (a:=(i:Int)) (s:=s) (e:=0) (f:=0) (m:=vs.length) (c:=⟨R,D,vs⟩) (r:=((vs.drop vs.length).map pgB).flatten) (bad:=false) (by simp only;omega) (by simp only;omega) (by simp only;omega)
  rw [if_pos ⟨rfl,rfl,rfl,hput⟩] at this
  exact this
 |d+1,j,n,hj,hn=>by
  obtain ⟨n,rfl⟩:∃q,n=q+1:=⟨n - 1,by omega⟩
  have hjv:j<vs.length:=by omega
  have hfl:=pgflat_len (vs:=vs.drop (j+1)) fun v h=>vOk_pb (hv v (List.mem_of_mem_drop h))
  rw [List.length_drop] at hfl
  rw [bB.l0_eq,dT (by omega),cT,Bool.not_false,cT,bT hi,bS,js hi,List.drop_eq_getElem_cons hjv,List.map_cons,List.flatten_cons,tValue_pb (by omega) (hv _ (List.getElem_mem hjv)) (by omega),bS,
   dT (by simp only [List.length_take,List.length_cons,List.length_nil];omega),cT,dB (by omega)]
  have e:vs.take j++[vs[j]]=vs.take (j+1):=(List.take_succ_eq_append_getElem hjv).symm
  rw [e]
  exact Get_l0_put hi hv hm hR hk hput d (j+1) n (by omega) (by omega)
theorem Get_back {k:Nat}{t:List bu}{a:Int}{c:Col}(hk:1600000≤k)(hm:colMay t a c=true):bB.f aT k t a (putP t a c).1=some (colOf c,0):=by
 obtain ⟨k,rfl⟩:∃q,k=q+1:=⟨k - 1,by omega⟩
 obtain ⟨i,rfl,hi,hmt,hn,hin,h1,h2,h3,h4,h5,h6⟩:=colMay_parts hm
 have hvl:=colMay_vlen hm
 obtain ⟨r0,r1,d0,d1⟩:=lev_range (t:=t) (a:=(i:Int))
 obtain ⟨pr,_,hr⟩:=lvB_put r1 h3 h2
 obtain ⟨pd,_,hdl⟩:=lvB_put d1 h4 (by omega)
 have hfl:=pgflat_len fun v h=>vOk_pb (h5 v h)
 have hs:(putP t (i:Int) c).1=w4 (crcS (pgBody t (i:Int) c))++pgBody t (i:Int) c:=by unfold putP;rw [if_pos hm]
 have hput:putP t (i:Int) ⟨c.reps,c.defs,c.values⟩=((putP t (i:Int) c).1,0):=Prod.ext rfl (putP_ok hm)
 have hbody:pgBody t (i:Int) c=w4 ((c.reps.length:Nat):Int)++(w4 (((lvB (d6 t (i:Int)).1 c.reps).length:Nat):Int)++(w4 (((lvB (d6 t (i:Int)).2.1 c.defs).length:Nat):Int)++(lvB (d6 t (i:Int)).1 c.reps++(lvB (d6 t (i:Int)).2.1 c.defs++(c.values.map pgB).flatten)))):=by
  unfold pgBody pgHead
  simp only [List.append_assoc]
 have hbl:(pgBody t (i:Int) c).length≤400000:=by rw [hbody];simp only [List.length_append,bR];omega
 generalize hS:(putP t (i:Int) c).1=s at hs hput
 generalize pgBody t (i:Int) c=B at hs hbl hbody
 have h4':List.take 4 s=w4 (crcS B):=by rw [hs,show (4:Nat)=(w4 (crcS B)).length from rfl,List.take_left'];rfl
 have h4d:List.drop 4 s=B:=by rw [hs,show (4:Nat)=(w4 (crcS B)).length from rfl,List.drop_left'];rfl
 have hsl:s.length=4+B.length:=by rw [hs,List.length_append,bR]
 rw [bB.f_eq,Leaf_ok (by omega),bS,Int.toNat_natCast,hn,hin,Bool.not_false,Bool.and_self,Bool.not_true,Bool.not_false,cT,dF (by omega),cF,dT (by omega),dT (by omega),Bool.and_self,cT,List.drop_zero,eh (by omega) _ (by rw [List.length_take];omega),bS,cT,List.take_length,crc_ok (by rw [List.length_drop];omega) (by rw [List.length_drop];omega),bS]
 rw [h4',h4d,numOf_w4' (crcS_range B),show (crcS B != crcS B)=false by simp,cF,fN (by omega),bS,cT,hbody]
 rw [tNumber_w4 (by omega) (by omega) (by simp only [List.length_append,bR];omega),bS]
 simp only
 rw [tNumber_w4 (by omega) (by omega) (by simp only [List.length_append,bR];omega),bS]
 simp only
 rw [tNumber_w4 (by omega) (by omega) (by simp only [List.length_append];omega),bS]
 simp only
 rw [tBytes_app (by omega),bS]
 simp only
 rw [Len_ok (by omega) r0 r1,bS,we (by omega) pr (by omega),bS]
 simp only
 rw [tBytes_app (by omega),bS]
 simp only
 rw [Len_ok (by omega) d0 d1,bS,h1,we (by omega) pd (by omega),bS]
 simp only
 rw [there_ok' (by omega) (by omega),bS,←h6]
 exact Get_l0_put hi h5 (by omega) (by omega) (by omega) hput c.values.length 0 k (by omega) (by omega)
theorem same_self {k:Nat}{c:Col}(hk:c.reps.length+c.defs.length+c.values.length+5≤k)(hl:c.reps.length≤20000000000000∧c.defs.length≤20000000000000∧c.values.length≤20000000000000):bn.f aT k c c=some true:=by
 rw [same_col hk hl];simp
end Go.Proofs.YtjkokaockhecnaaGreatDoorP

namespace Go.Proofs.YtjkokaockhecnaaGreatDoorP
open Go Go.Proofs.YtjkokaockhecnaaGreatDoorA
def wA:BitVec 32:=3988292384#32
def zZ (r:BitVec 32):BitVec 32:=(r >>> 1) ^^^ (if r.getLsbD 0 then wA else 0#32)
theorem Bm (a b:BitVec 32):zZ (a ^^^ b)=zZ a ^^^ zZ b:=by
 unfold zZ
 rw [BitVec.getLsbD_xor,BitVec.ushiftRight_xor_distrib]
 cases a.getLsbD 0<;>cases b.getLsbD 0<;>simp
 all_goals (apply BitVec.eq_of_getLsbD_eq;intro i hi;simp only [BitVec.getLsbD_xor];cases (a >>> 1).getLsbD i<;>cases (b >>> 1).getLsbD i<;>cases wA.getLsbD i<;>rfl)
theorem zO {a:BitVec 32}(h:zZ a=0#32):a=0#32:=by
 unfold zZ at h
 cases h0:a.getLsbD 0 with
 |false=>
  rw [h0] at h
  simp only [Bool.false_eq_true,if_false,BitVec.xor_zero] at h
  apply BitVec.eq_of_getLsbD_eq
  intro i hi
  cases i with
  |zero=>rw [h0];simp
  |succ i=>
   have:=congrArg (fun r:BitVec 32=>r.getLsbD i) h
   simp only [BitVec.getLsbD_ushiftRight,BitVec.getLsbD_zero] at this
   rw [Nat.add_comm] at this
   rw [this];simp
 |true=>
  rw [h0] at h
  simp only [if_true] at h
  have:=congrArg (fun r:BitVec 32=>r.getLsbD 31) h
  simp only [BitVec.getLsbD_xor,BitVec.getLsbD_ushiftRight,BitVec.getLsbD_zero] at this
  rw [BitVec.getLsbD_of_ge a (1+31) (by omega),show wA.getLsbD 31=true by decide] at this
  cases this
def mK:Nat→BitVec 32→BitVec 32
 |0,r=>r
 |n+1,r=>mK n (zZ r)
theorem sx:∀(n:Nat) (a b:BitVec 32),mK n (a ^^^ b)=mK n a ^^^ mK n b
 |0,_,_=>rfl
 |n+1,a,b=>by simp only [mK,Bm];exact sx n _ _
theorem uy:∀(n:Nat) {a:BitVec 32},mK n a=0#32→a=0#32
 |0,_,h=>h
 |n+1,_,h=>zO (uy n h)
theorem wQ {n:Nat}{a b:BitVec 32}(h:mK n a=mK n b):a=b:=by
 have h1:mK n (a ^^^ b)=0#32:=by rw [sx,h,BitVec.xor_self]
 have h2:=uy n h1
 have h3:a ^^^ b ^^^ b=0#32 ^^^ b:=by rw [h2]
 rwa [BitVec.xor_assoc,BitVec.xor_self,BitVec.xor_zero,BitVec.zero_xor] at h3
theorem rA:∀(n:Nat) (a:BitVec 32),(∀i,i<n→a.getLsbD i=false)→mK n a=a >>> n
 |0,a,_=>by simp [mK]
 |n+1,a,h=>by
  have h0:=h 0 (by omega)
  have e:zZ a=a >>> 1:=by unfold zZ;rw [h0];simp
  simp only [mK]
  rw [e,rA n (a >>> 1) (fun i hi=>by rw [BitVec.getLsbD_ushiftRight];exact h (1+i) (by omega))]
  apply BitVec.eq_of_getLsbD_eq
  intro i hi
  simp only [BitVec.getLsbD_ushiftRight]
  congr 1;omega
def mL (b:UInt8):BitVec 32:=BitVec.ofNat 32 b.toNat
theorem zY {a:BitVec 32}(h:∀i,24≤i→a.getLsbD i=false):mK 8 (a <<< 8)=a:=by
 rw [rA 8 (a <<< 8) (fun i hi=>by rw [BitVec.getLsbD_shiftLeft];simp;omega)]
 apply BitVec.eq_of_getLsbD_eq
 intro i hi
 rw [BitVec.getLsbD_ushiftRight,BitVec.getLsbD_shiftLeft]
 by_cases h24:24≤i
 ·rw [h i h24]
  have:decide (8+i<32)=false:=by simp;omega
  rw [this];rfl
 ·have e1:decide (8+i<32)=true:=by simp;omega
  have e2:decide (8+i<8)=false:=by simp
  rw [e1,e2,show 8+i - 8=i by omega];simp
theorem tK {b:UInt8}{i:Nat}(h:8≤i):(mL b).getLsbD i=false:=by
 unfold mL
 rw [BitVec.getLsbD_ofNat]
 have hb:=b.toNat_lt
 have:b.toNat.testBit i=false:=Nat.testBit_lt_two_pow (Nat.lt_of_lt_of_le hb (Nat.pow_le_pow_right (by omega) h))
 rw [this];simp
theorem oJ {a b:UInt8}(h:mL a ^^^ mL b=0#32):a=b:=by
 have h1:mL a ^^^ mL b ^^^ mL b=0#32 ^^^ mL b:=by rw [h]
 rw [BitVec.xor_assoc,BitVec.xor_self,BitVec.xor_zero,BitVec.zero_xor] at h1
 unfold mL at h1
 have h2:=congrArg BitVec.toNat h1
 have ha:=a.toNat_lt
 have hb:=b.toNat_lt
 simp only [BitVec.toNat_ofNat] at h2
 rw [Nat.mod_eq_of_lt (by omega),Nat.mod_eq_of_lt (by omega)] at h2
 exact UInt8.toNat_inj.1 h2
theorem back1 {R R' a b Z:BitVec 32}(hZ:∀i,24≤i→Z.getLsbD i=false)(h:mK 8 (R ^^^ a) ^^^ mK 8 (R' ^^^ b)=Z):R ^^^ R'=(a ^^^ b) ^^^ (Z <<< 8):=by
 rw [←sx] at h
 have h1:R ^^^ a ^^^ (R' ^^^ b)=Z <<< 8:=wQ (n:=8) (by rw [h,zY hZ])
 rw [←h1]
 apply BitVec.eq_of_getLsbD_eq
 intro i hi
 simp only [BitVec.getLsbD_xor]
 cases R.getLsbD i<;>cases R'.getLsbD i<;>cases a.getLsbD i<;>cases b.getLsbD i<;>rfl
theorem vk {d Z:BitVec 32}(hd:∀i,8≤i→d.getLsbD i=false)(hZ:∀i,24≤i→Z.getLsbD i=false)(h:d ^^^ (Z <<< 8)=0#32):d=0#32∧Z=0#32:=by
 have hb:∀i,(d.getLsbD i ^^ (decide (i<32)&&!decide (i<8)&&Z.getLsbD (i - 8)))=false:=by
  intro i
  have:=congrArg (fun r:BitVec 32=>r.getLsbD i) h
  simpa [BitVec.getLsbD_xor,BitVec.getLsbD_shiftLeft] using this
 constructor
 ·apply BitVec.eq_of_getLsbD_eq
  intro i hi
  by_cases h8:i<8
  ·have:=hb i
   rw [show decide (i<8)=true by simpa using h8] at this
   simpa using this
  ·rw [hd i (by omega)];simp
 ·apply BitVec.eq_of_getLsbD_eq
  intro i hi
  by_cases h24:24≤i
  ·rw [hZ i h24];simp
  ·have:=hb (i+8)
   rw [hd (i+8) (by omega),show decide (i+8<32)=true by simp;omega,show decide (i+8<8)=false by simp,Nat.add_sub_cancel] at this
   simpa using this
theorem wB {d Z:BitVec 32}{n:Nat}(hd:∀i,8≤i→d.getLsbD i=false)(hZ:∀i,n≤i→Z.getLsbD i=false)(hn:8≤n+8):∀i,n+8≤i→(d ^^^ (Z <<< 8)).getLsbD i=false:=by
 intro i hi
 rw [BitVec.getLsbD_xor,BitVec.getLsbD_shiftLeft,hd i (by omega),hZ (i - 8) (by omega)]
 simp
def lD (r:BitVec 32)(s:List UInt8):BitVec 32:=s.foldl (fun r b=>mK 8 (r ^^^ mL b)) r
theorem xA (r:BitVec 32)(b:UInt8)(s:List UInt8):lD r (b :: s)=lD (mK 8 (r ^^^ mL b)) s:=rfl
theorem gI (r:BitVec 32)(s u:List UInt8):lD r (s++u)=lD (lD r s) u:=List.foldl_append
theorem s4:∀(s:List UInt8) {r r':BitVec 32},lD r s=lD r' s→r=r'
 |[],_,_,h=>h
 |b :: s,r,r',h=>by
  have h1:=wQ (s4 s h)
  have h2:r ^^^ mL b ^^^ mL b=r' ^^^ mL b ^^^ mL b:=by rw [h1]
  rwa [BitVec.xor_assoc,BitVec.xor_assoc,BitVec.xor_self,BitVec.xor_zero,BitVec.xor_zero] at h2
theorem xw {r:BitVec 32}{a0 a1 a2 a3 b0 b1 b2 b3:UInt8}(h:lD r [a0,a1,a2,a3]=lD r [b0,b1,b2,b3]):a0=b0∧a1=b1∧a2=b2∧a3=b3:=by
 simp only [lD,List.foldl_cons,List.foldl_nil] at h
 have hx:∀(a b:UInt8) i,8≤i→(mL a ^^^ mL b).getLsbD i=false:=fun a b i hi=>by rw [BitVec.getLsbD_xor,tK hi,tK hi];rfl
 have e4:mK 8 (mK 8 (mK 8 (mK 8 (r ^^^ mL a0) ^^^ mL a1) ^^^ mL a2) ^^^ mL a3) ^^^ mK 8 (mK 8 (mK 8 (mK 8 (r ^^^ mL b0) ^^^ mL b1) ^^^ mL b2) ^^^ mL b3)=0#32:=by rw [h,BitVec.xor_self]
 have e3:=back1 (fun i _=>by simp) e4
 rw [show (0#32:BitVec 32) <<< 8=0#32 by decide,BitVec.xor_zero] at e3
 have e2:=back1 (fun i hi=>hx a3 b3 i (by omega)) e3
 have l2:=wB (n:=8) (hx a2 b2) (hx a3 b3) (by omega)
 have e1:=back1 (fun i hi=>l2 i (by omega)) e2
 have l1:=wB (n:=16) (hx a1 b1) l2 (by omega)
 have e0:=back1 (fun i hi=>l1 i (by omega)) e1
 rw [BitVec.xor_self] at e0
 obtain ⟨z0,y0⟩:=vk (hx a0 b0) (fun i hi=>l1 i (by omega)) e0.symm
 obtain ⟨z1,y1⟩:=vk (hx a1 b1) (fun i hi=>l2 i (by omega)) y0
 obtain ⟨z2,y2⟩:=vk (hx a2 b2) (fun i hi=>hx a3 b3 i (by omega)) y1
 exact ⟨oJ z0,oJ z1,oJ z2,oJ y2⟩
theorem EY (n:Int)(h:0≤n∧n≤4294967295):IntKind.u32.wrap n=n:=by
 have:IntKind.u32.wrap n=n % 4294967296:=by simp [IntKind.wrap,IntKind.bits,IntKind.signed]
 omega
theorem wW (a b:BitVec 32):ax .xor .u32 (a.toNat:Int) (b.toNat:Int)=((a ^^^ b).toNat:Int):=by
 have h:=(a ^^^ b).isLt
 unfold ax
 simp only [IntKind.bits,BitVec.ofInt_natCast,BitVec.ofNat_toNat,BitVec.setWidth_eq]
 rw [EY _ (by omega)]
 rfl
theorem D5 (r:BitVec 32):rnd (r.toNat:Int)=((zZ r).toNat:Int):=by
 have hr:=r.isLt
 have e1:Int.fdiv (r.toNat:Int) (2 ^ (min 1 IntKind.u32.bits))=(((r >>> 1).toNat:Nat):Int):=by
  rw [show (2:Int) ^ (min 1 IntKind.u32.bits)=2 from rfl,Int.fdiv_eq_ediv_of_nonneg _ (by omega),BitVec.toNat_ushiftRight,Nat.shiftRight_eq_div_pow]
  omega
 have e2:ax .and .u32 (r.toNat:Int) 1=(if r.getLsbD 0 then 1 else 0):=by
  have h1:(BitVec.ofInt 32 1)=1#32:=by decide
  have h2:(r &&& 1#32).toNat=r.toNat % 2:=by rw [BitVec.toNat_and,show (1#32:BitVec 32).toNat=1 by decide,Nat.and_one_is_mod]
  have h3:r.getLsbD 0=decide (r.toNat % 2=1):=by unfold BitVec.getLsbD;rw [Nat.testBit_zero]
  unfold ax
  simp only [IntKind.bits,BitVec.ofInt_natCast,BitVec.ofNat_toNat,BitVec.setWidth_eq,h1]
  show IntKind.u32.wrap (((r &&& 1#32).toNat:Nat):Int)=_
  rw [h2,h3]
  have h4:=Nat.mod_two_eq_zero_or_one r.toNat
  rcases h4 with h4|h4<;>rw [h4]<;>decide
 unfold rnd zZ
 rw [e1,e2]
 cases r.getLsbD 0 with
 |true=>
  rw [if_pos rfl,if_pos rfl,show IntKind.u32.wrap (3988292384*1)=((wA.toNat:Nat):Int) by decide,wW]
 |false=>
  rw [if_neg (by simp),if_neg (by simp),show IntKind.u32.wrap (3988292384*0)=(((0#32:BitVec 32).toNat:Nat):Int) by decide,wW]
theorem wv:∀(n:Nat) (r:BitVec 32),rnds n (r.toNat:Int)=((mK n r).toNat:Int)
 |0,_=>rfl
 |n+1,r=>by simp only [rnds,mK,D5];exact wv n _
theorem BN (r:BitVec 32)(b:UInt8):crcB (r.toNat:Int) b=((mK 8 (r ^^^ mL b)).toNat:Int):=by
 have hb:=b.toNat_lt
 have e:IntKind.u32.wrap (b.toNat:Int)=((mL b).toNat:Int):=by
  rw [EY _ (by omega)]
  unfold mL
  rw [BitVec.toNat_ofNat,Nat.mod_eq_of_lt (by omega)]
 unfold crcB
 rw [e,wW,wv]
theorem wq:∀(s:List UInt8) (r:BitVec 32),s.foldl crcB (r.toNat:Int)=((lD r s).toNat:Int)
 |[],_=>rfl
 |b :: s,r=>by rw [List.foldl_cons,BN,wq s,xA]
theorem ta (s:List UInt8):crcS s=((lD 4294967295#32 s ^^^ 4294967295#32).toNat:Int):=by
 have h:=(lD 4294967295#32 s ^^^ 4294967295#32).isLt
 unfold crcS
 rw [show (4294967295:Int)=(((4294967295#32:BitVec 32).toNat:Nat):Int) by decide,wq,wW,bH _ (by omega)]
theorem xO (p q:List UInt8){a0 a1 a2 a3 b0 b1 b2 b3:UInt8}(h:crcS (p++([a0,a1,a2,a3]++q))=crcS (p++([b0,b1,b2,b3]++q))):a0=b0∧a1=b1∧a2=b2∧a3=b3:=by
 rw [ta,ta] at h
 have h1:lD 4294967295#32 (p++([a0,a1,a2,a3]++q)) ^^^ 4294967295#32=lD 4294967295#32 (p++([b0,b1,b2,b3]++q)) ^^^ 4294967295#32:=BitVec.eq_of_toNat_eq (by omega)
 have h2:∀(x y z:BitVec 32),x ^^^ z=y ^^^ z→x=y:=by
  intro x y z e
  have e2:x ^^^ z ^^^ z=y ^^^ z ^^^ z:=by rw [e]
  rwa [BitVec.xor_assoc,BitVec.xor_assoc,BitVec.xor_self,BitVec.xor_zero,BitVec.xor_zero] at e2
 have h3:=h2 _ _ _ h1
 rw [gI,gI,gI,gI] at h3
 exact xw (s4 q h3)
end Go.Proofs.YtjkokaockhecnaaGreatDoorP

namespace Go.Proofs.YtjkokaockhecnaaGreatDoorP
open Go Go.Proofs.YtjkokaockhecnaaGreatDoorA
def ot (a:Int)(x:Int)(k:Nat):Int:=ax .xor .u8 a (IntKind.u8.wrap (Int.fdiv x (2 ^ (8*k))))
theorem lW {b:UInt8}{x:Int}{k:Nat}(h:UInt8.ofNat (ot (b.toNat:Int) x k).toNat=b):Int.fdiv x (2 ^ (8*k)) % 256=0:=by
 have hb:=b.toNat_lt
 unfold ot at h
 have e:IntKind.u8.wrap (Int.fdiv x (2 ^ (8*k)))=Int.fdiv x (2 ^ (8*k)) % 256:=AW _
 rw [e] at h
 have d0:=Int.emod_nonneg (Int.fdiv x (2 ^ (8*k))) (show (256:Int)≠0 by omega)
 have d1:=Int.emod_lt_of_pos (Int.fdiv x (2 ^ (8*k))) (show (0:Int)<256 by omega)
 generalize Int.fdiv x (2 ^ (8*k)) % 256=d at h d0 d1 ⊢
 obtain ⟨d,rfl⟩:∃n:Nat,d=(n:Int):=⟨d.toNat,by omega⟩
 have hd:d<256:=by omega
 -- as bit vectors
 have hx:ax .xor .u8 (b.toNat:Int) (d:Int)=((BitVec.ofNat 8 b.toNat ^^^ BitVec.ofNat 8 d).toNat:Int):=by
  have hl:=(BitVec.ofNat 8 b.toNat ^^^ BitVec.ofNat 8 d).isLt
  unfold ax
  simp only [IntKind.bits,BitVec.ofInt_natCast]
  rw [AW]
  show (((BitVec.ofNat 8 b.toNat ^^^ BitVec.ofNat 8 d).toNat:Nat):Int) % 256=_
  omega
 rw [hx,Int.toNat_natCast] at h
 have hl:=(BitVec.ofNat 8 b.toNat ^^^ BitVec.ofNat 8 d).isLt
 have h1:=congrArg UInt8.toNat h
 rw [UInt8.toNat_ofNat_of_lt' (by simpa using hl)] at h1
 have h2:BitVec.ofNat 8 b.toNat ^^^ BitVec.ofNat 8 d=BitVec.ofNat 8 b.toNat:=BitVec.eq_of_toNat_eq (by rw [h1,BitVec.toNat_ofNat,Nat.mod_eq_of_lt hb])
 have h3:BitVec.ofNat 8 b.toNat ^^^ (BitVec.ofNat 8 b.toNat ^^^ BitVec.ofNat 8 d)=BitVec.ofNat 8 b.toNat ^^^ BitVec.ofNat 8 b.toNat:=by rw [h2]
 rw [←BitVec.xor_assoc,BitVec.xor_self,BitVec.zero_xor] at h3
 have h4:=congrArg BitVec.toNat h3
 simp only [BitVec.toNat_ofNat] at h4
 rw [Nat.mod_eq_of_lt (by omega)] at h4
 simp at h4
 omega
theorem vw {x:Int}(hx:1≤x∧x≤4294967295)(h:∀k,k<4→Int.fdiv x (2 ^ (8*k)) % 256=0):False:=by
 have h0:=h 0 (by omega)
 have h1:=h 1 (by omega)
 have h2:=h 2 (by omega)
 have h3:=h 3 (by omega)
 rw [Int.fdiv_eq_ediv_of_nonneg _ (Int.le_of_lt (Int.pow_pos (by omega)))] at h0 h1 h2 h3
 simp only [Nat.mul_zero,Nat.reduceMul,Int.pow_zero,Int.ediv_one,show (2:Int) ^ 8=256 from rfl,show (2:Int) ^ 16=65536 from rfl,show (2:Int) ^ 24=16777216 from rfl] at h0 h1 h2 h3
 omega
theorem rB (p:List UInt8):ab (ac p)=p:=by
 unfold ab ac
 rw [List.map_map]
 conv=>rhs;rw [←List.map_id p]
 refine List.map_congr_left fun b _=>?_
 simp
def turned (p q:List UInt8)(a0 a1 a2 a3:UInt8)(x:Int):List UInt8:=
 ab (ac p++([ot (a0.toNat:Int) x 0,ot (a1.toNat:Int) x 1,ot (a2.toNat:Int) x 2,ot (a3.toNat:Int) x 3]++ac q))
theorem xn (p q:List UInt8)(a0 a1 a2 a3:UInt8)(x:Int):turned p q a0 a1 a2 a3 x=
  p++([UInt8.ofNat (ot (a0.toNat:Int) x 0).toNat,UInt8.ofNat (ot (a1.toNat:Int) x 1).toNat,UInt8.ofNat (ot (a2.toNat:Int) x 2).toNat,UInt8.ofNat (ot (a3.toNat:Int) x 3).toNat]++q):=by
 unfold turned
 rw [cA,cA,rB,rB]
 rfl
theorem xG {p q:List UInt8}{a0 a1 a2 a3:UInt8}{x:Int}(hp:4≤p.length)(hx:1≤x∧x≤4294967295):
  (turned p q a0 a1 a2 a3 x).take 4=(p++([a0,a1,a2,a3]++q)).take 4∧crcS ((turned p q a0 a1 a2 a3 x).drop 4)≠crcS ((p++([a0,a1,a2,a3]++q)).drop 4):=by
 rw [xn]
 constructor
 ·rw [List.take_append_of_le_length hp,List.take_append_of_le_length hp]
 ·rw [List.drop_append_of_le_length hp,List.drop_append_of_le_length hp]
  intro h
  obtain ⟨e0,e1,e2,e3⟩:=xO _ _ h
  refine vw hx fun k hk=>?_
  have:k=0∨k=1∨k=2∨k=3:=by omega
  rcases this with rfl|rfl|rfl|rfl
  ·exact lW e0
  ·exact lW e1
  ·exact lW e2
  ·exact lW e3
theorem BX {s:List UInt8}{i:Nat}(h:i+4≤s.length):∃p q a0 a1 a2 a3,s=p++([a0,a1,a2,a3]++q)∧p.length=i:=by
 refine ⟨s.take i,s.drop (i+4),s[i],s[i+1],s[i+2],s[i+3],?_,by rw [List.length_take];omega⟩
 conv=>lhs;rw [←List.take_append_drop i s]
 congr 1
 rw [List.drop_eq_getElem_cons (show i<s.length by omega),List.drop_eq_getElem_cons (show i+1<s.length by omega),List.drop_eq_getElem_cons (show i+1+1<s.length by omega),List.drop_eq_getElem_cons (show i+1+1+1<s.length by omega)]
 rfl
end Go.Proofs.YtjkokaockhecnaaGreatDoorP

namespace Go.Proofs.YtjkokaockhecnaaGreatDoorP
open Go Go.Proofs.YtjkokaockhecnaaGreatDoorA
theorem FS {k n:Nat}{t:List bu}{a:Int}{c:Col}(hk:1700000≤k)(hm:colMay t a c=true){i:Nat}(hi:4≤i)(hil:i+4≤(putP t a c).1.length)(hl:(putP t a c).1.length≤1000000){x:Int}(hx:1≤x∧x≤4294967295):
  ak.l0 aT k (n+5) a 0 (i:Int) x 0 t c.reps c.defs c.values c.reps c.defs c.values (ac (putP t a c).1)=some true:=by
 obtain ⟨p,q,a0,a1,a2,a3,hs,hp⟩:=BX hil
 have hput:=hs
 have hPl:(ac p).length=i:=by rw [dt];exact hp
 obtain ⟨q0,rfl,_,hmt,hn,hin,h1,h2,h3,h4,h5,h6⟩:=colMay_parts hm
 have hvl:=colMay_vlen hm
 -- the list so far
 have lst:∀(b0 b1 b2 b3:Int),(ac p++([b0,b1,b2,b3]++ac q)).length=(putP t (q0:Int) c).1.length:=by
  intro b0 b1 b2 b3
  rw [hs];simp [ac,List.length_append]
 have wY:∀(b0 b1 b2 b3:Int) (j:Nat),j<4→(ac p++([b0,b1,b2,b3]++ac q))[i+j]?=([b0,b1,b2,b3]++ac q)[j]?:=by
  intro b0 b1 b2 b3 j hj
  rw [List.getElem?_append_right (by omega),hPl,Nat.add_sub_cancel_left]
 have set_:∀(b0 b1 b2 b3 v:Int) (j:Nat),j<4→(ac p++([b0,b1,b2,b3]++ac q)).set (i+j) v=ac p++(([b0,b1,b2,b3]++ac q).set j v):=by
  intro b0 b1 b2 b3 v j hj
  rw [List.set_append_right _ _ (by omega),hPl,Nat.add_sub_cancel_left]
 have hB:ac (putP t (q0:Int) c).1=ac p++([(a0.toNat:Int),(a1.toNat:Int),(a2.toNat:Int),(a3.toNat:Int)]++ac q):=by
  rw [hs];simp [ac]
 have step:∀(b0 b1 b2 b3:Int) (j m:Nat),j<4→∀e,([b0,b1,b2,b3]++ac q)[j]?=some e→
   ak.l0 aT k (m+1) (q0:Int) 0 (i:Int) x (j:Int) t c.reps c.defs c.values c.reps c.defs c.values (ac p++([b0,b1,b2,b3]++ac q))=
   ak.l0 aT k m (q0:Int) 0 (i:Int) x ((j+1:Nat):Int) t c.reps c.defs c.values c.reps c.defs c.values (ac p++(([b0,b1,b2,b3]++ac q).set j (ot e x j))):=by
  intro b0 b1 b2 b3 j m hj e he
  have hw:IntKind.i64.wrap ((i:Int)+(j:Int))=((i+j:Nat):Int):=by rw [bH _ (by omega)];push_cast;rfl
  have h8:IntKind.i64.wrap (8*(j:Int))=((8*j:Nat):Int):=by rw [bH _ (by omega)];push_cast;rfl
  have hmin:(min (((8*j:Nat):Int)).toNat IntKind.i64.bits)=8*j:=by
   rw [Int.toNat_natCast];show min (8*j) 64=8*j;omega
  rw [ak.l0_eq,dT (by omega),cT,hw,h8,lst,dT (show (0:Int)≤((i+j:Nat):Int) by omega),dT (show ((i+j:Nat):Int)<(((putP t (q0:Int) c).1.length:Nat):Int) by omega),Bool.and_self,cT,Int.toNat_natCast,wY _ _ _ _ j hj,he,bS,dF (by omega),cF,cT,bS,hmin,set_ _ _ _ _ _ j hj,dB (by omega)]
  rfl
 rw [hB]
 have s0:=step (a0.toNat:Int) (a1.toNat:Int) (a2.toNat:Int) (a3.toNat:Int) 0 (n+4) (by omega) _ rfl
 rw [show ((0:Nat):Int)=0 from rfl] at s0
 rw [s0]
 show ak.l0 aT k (n+3+1) (q0:Int) 0 (i:Int) x ((1:Nat):Int) t c.reps c.defs c.values c.reps c.defs c.values (ac p++([ot (a0.toNat:Int) x 0,(a1.toNat:Int),(a2.toNat:Int),(a3.toNat:Int)]++ac q))=some true
 rw [step _ _ _ _ 1 (n+3) (by omega) _ rfl]
 show ak.l0 aT k (n+2+1) (q0:Int) 0 (i:Int) x ((2:Nat):Int) t c.reps c.defs c.values c.reps c.defs c.values (ac p++([ot (a0.toNat:Int) x 0,ot (a1.toNat:Int) x 1,(a2.toNat:Int),(a3.toNat:Int)]++ac q))=some true
 rw [step _ _ _ _ 2 (n+2) (by omega) _ rfl]
 show ak.l0 aT k (n+1+1) (q0:Int) 0 (i:Int) x ((3:Nat):Int) t c.reps c.defs c.values c.reps c.defs c.values (ac p++([ot (a0.toNat:Int) x 0,ot (a1.toNat:Int) x 1,ot (a2.toNat:Int) x 2,(a3.toNat:Int)]++ac q))=some true
 rw [step _ _ _ _ 3 (n+1) (by omega) _ rfl]
 show ak.l0 aT k (n+1) (q0:Int) 0 (i:Int) x ((4:Nat):Int) t c.reps c.defs c.values c.reps c.defs c.values (ac p++([ot (a0.toNat:Int) x 0,ot (a1.toNat:Int) x 1,ot (a2.toNat:Int) x 2,ot (a3.toNat:Int) x 3]++ac q))=some true
 obtain ⟨w1,w2⟩:=xG (p:=p) (q:=q) (a0:=a0) (a1:=a1) (a2:=a2) (a3:=a3) (x:=x) (by omega) hx
 have hul:(turned p q a0 a1 a2 a3 x).length=(putP t (q0:Int) c).1.length:=by
  unfold turned;rw [eQ];exact lst _ _ _ _
 rw [←hs] at w1 w2
 have hsv:(putP t (q0:Int) c).1=w4 (crcS (pgBody t (q0:Int) c))++pgBody t (q0:Int) c:=by unfold putP;rw [if_pos hm]
 have ht4:(putP t (q0:Int) c).1.take 4=w4 (crcS (pgBody t (q0:Int) c)):=by rw [hsv,show (4:Nat)=(w4 (crcS (pgBody t (q0:Int) c))).length from rfl,List.take_left'];rfl
 have hd4:(putP t (q0:Int) c).1.drop 4=pgBody t (q0:Int) c:=by rw [hsv,show (4:Nat)=(w4 (crcS (pgBody t (q0:Int) c))).length from rfl,List.drop_left'];rfl
 have hlf:(er t (q0:Int)&&!iJ (f8 t (q0:Int).toNat))=true:=by rw [Int.toNat_natCast,hn,hin];rfl
 have hg:bB.f aT k t (q0:Int) (ab (ac p++([ot (a0.toNat:Int) x 0,ot (a1.toNat:Int) x 1,ot (a2.toNat:Int) x 2,ot (a3.toNat:Int) x 3]++ac q)))=some (noCol,2201):=by
  show bB.f aT k t (q0:Int) (turned p q a0 a1 a2 a3 x)=_
  refine Get_sum (by omega) (by omega) (by omega) hlf fun e=>?_
  rw [w1,ht4,numOf_w4' (crcS_range _)] at e
  rw [hd4] at w2
  exact w2 e.symm
 have hc:Col.mk c.reps c.defs c.values=c:=by cases c;rfl
 rw [ak.l0_eq,dF (by omega),cF,hg,bS,vu (by omega),bS,show ((0:Int)==0)=true from rfl,cT,hc,same_self (by omega) (by omega),bS,cT,vu (by omega),bS]
 rfl
theorem DI {t:List bu}{a:Int}{c:Col}(hm:colMay t a c=true):16≤(putP t a c).1.length∧(putP t a c).1.length≤1000000:=by
 obtain ⟨i,rfl,hi,hmt,hn,hin,h1,h2,h3,h4,h5,h6⟩:=colMay_parts hm
 have hvl:=colMay_vlen hm
 obtain ⟨r0,r1,d0,d1⟩:=lev_range (t:=t) (a:=(i:Int))
 obtain ⟨pr,_,hr⟩:=lvB_put r1 h3 h2
 obtain ⟨pd,_,hdl⟩:=lvB_put d1 h4 (by omega)
 have hfl:=pgflat_len fun v h=>vOk_pb (h5 v h)
 unfold putP
 rw [if_pos hm]
 unfold pgBody pgHead
 simp only [List.length_append,bR]
 omega
theorem pure_PageBack (t:List bu)(a:Int)(c:Col)(at_ by_:Int)(hc:RoomyC c):∃k,ak.f aT k t a c at_ by_=some true:=by
 obtain ⟨hc1,hc2,hc3⟩:=hc.short
 refine ⟨2000000+c.reps.length+c.defs.length+c.values.length+1,?_⟩
 generalize hk:2000000+c.reps.length+c.defs.length+c.values.length=k
 rw [ak.f_eq,awake22' (by omega),bS,Bool.not_true,cF,page_Put_ok (by omega) (by omega) (by omega),bS,vu (by omega),bS]
 cases hm:colMay t a c with
 |false=>rw [putP_no hm];rfl
 |true=>
  obtain ⟨l1,l2⟩:=DI hm
  rw [putP_ok hm,show ((0:Int) != 0)=false from rfl,Bool.not_false,cT,dF (by omega),cF,Get_back (by omega) hm,bS,dT (by omega),cT,dt]
  generalize hL:(putP t a c).1.length=L at l1 l2
  obtain ⟨u1,u2,u3,u4⟩:=Gp (a:=at_) (m:=(L:Int) - 7) (by omega)
  rw [bH ((L:Int) - 7) (by omega),show (IntKind.u64.wrap ((L:Int) - 7)==0)=false by simpa using u1,cF,u2]
  have hu:IntKind.u64.wrap by_=by_ % 18446744073709551616:=by simp [IntKind.wrap,IntKind.bits,IntKind.signed]
  have y0:=Int.emod_nonneg by_ (show (18446744073709551616:Int)≠0 by omega)
  have e2:Int.tmod (IntKind.u64.wrap by_) 4294967295=(by_ % 18446744073709551616) % 4294967295:=by rw [hu,Int.tmod_eq_emod_of_nonneg y0]
  have z0:=Int.emod_nonneg (by_ % 18446744073709551616) (show (4294967295:Int)≠0 by omega)
  have z1:=Int.emod_lt_of_pos (by_ % 18446744073709551616) (show (0:Int)<4294967295 by omega)
  rw [e2]
  generalize (by_ % 18446744073709551616) % 4294967295=y at z0 z1
  generalize (at_ % 18446744073709551616) % ((L:Int) - 7)=m at u3 u4
  obtain ⟨m,rfl⟩:∃n:Nat,m=(n:Int):=⟨m.toNat,by omega⟩
  rw [bH (y) (by omega),bH (1+y) (by omega),bH (4+(m:Int)) (by omega),show 4+(m:Int)=((4+m:Nat):Int) by push_cast;rfl]
  obtain ⟨n,hn⟩:∃n,k=n+5:=⟨k - 5,by omega⟩
  have:=FS (k:=k) (n:=n) (t:=t) (a:=a) (c:=c) (by omega) hm (i:=4+m) (by omega) (by omega) (by omega) (x:=1+y) (by omega)
  rw [←hn] at this
  exact this
end Go.Proofs.YtjkokaockhecnaaGreatDoorP
