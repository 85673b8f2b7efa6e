/- What the functions below the laws answer, in plain lists and numbers; no condition but the sizes that a machine has. The law PageForms; no condition. -/
import Derived.Test.YtjkokaockhecnaaGreatDoorPPh0
import Derived.Test.YtjkokaockhecnaaGreatDoorPPgA
import Derived.Laws.BitsLemmas
import Derived.KernelRfl
import Derived.Lib.AtoiAllCases
namespace Go.Proofs.YtjkokaockhecnaaGreatDoorP
open Go Go.Proofs.YtjkokaockhecnaaGreatDoorA
theorem index_hit (c:UInt8):∀(p q:List UInt8),c ∉ p→Lib.index (p++c :: q) [c]=(p.length:Int)
 |[],q,_=>by simp [Lib.index,List.isPrefixOf]
 |b :: p,q,h=>by
  have hb:¬c=b:=fun e=>h (by rw [e];exact List.mem_cons_self)
  have ih:=index_hit c p q fun hm=>h (List.mem_cons_of_mem _ hm)
  rw [List.cons_append,Lib.index,ih]
  have e1:List.isPrefixOf [c] (b :: (p++c :: q))=false:=by simp [List.isPrefixOf,hb]
  rw [e1]
  have e2:(((p.length:Nat):Int)==-1)=false:=by rw [beq_eq_false_iff_ne];omega
  rw [e2]
  simp
theorem index_miss (c:UInt8):∀(s:List UInt8),c ∉ s→Lib.index s [c]=-1
 |[],_=>by simp [Lib.index]
 |b :: s,h=>by
  have hb:¬c=b:=fun e=>h (by rw [e];exact List.mem_cons_self)
  have ih:=index_miss c s fun hm=>h (List.mem_cons_of_mem _ hm)
  rw [Lib.index,ih]
  have e1:List.isPrefixOf [c] (b :: s)=false:=by simp [List.isPrefixOf,hb]
  rw [e1]
  simp
theorem cut_hit {c:UInt8}{p q:List UInt8}(h:c ∉ p):Lib.cut (p++c :: q) [c]=(p,q,true):=by
 unfold Lib.cut
 rw [index_hit c p q h,if_pos (by omega),Int.toNat_natCast]
 simp
theorem cut_miss {c:UInt8}{s:List UInt8}(h:c ∉ s):Lib.cut s [c]=(s,[],false):=by
 unfold Lib.cut
 rw [index_miss c s h,if_neg (by omega)]
theorem cut_any (c:UInt8):∀(s:List UInt8),(∃p q,s=p++c :: q∧c ∉ p)∨c ∉ s
 |[]=>.inr (by simp)
 |b :: s=>by
  by_cases hb:c=b
  ·subst hb;exact .inl ⟨[],s,rfl,by simp⟩
  ·rcases cut_any c s with ⟨p,q,rfl,h⟩|h
   ·exact .inl ⟨b :: p,q,rfl,by simp [hb,h]⟩
   ·exact .inr (by simp [hb,h])
theorem Cut_ok {k:Nat}(hk:1≤k){s sep:List UInt8}(hs:s.length≤4000000000):strings_Cut.f bK k s sep=some (Lib.cut s sep):=by
 obtain ⟨k,rfl⟩:∃q,k=q+1:=⟨k - 1,by omega⟩
 rw [strings_Cut.f_eq]
 unfold oG
 rw [dT (by omega)];rfl
theorem vItoa_ok {k:Nat}(hk:1≤k){x:Int}(h:kV x):strconv_Itoa.f bK k x=some (ei x):=by
 obtain ⟨k,rfl⟩:∃q,k=q+1:=⟨k - 1,by omega⟩
 obtain ⟨h0,h1⟩:=h
 rw [strconv_Itoa.f_eq]
 unfold lm
 rw [dT h0,dT h1,yn h0 h1];rfl
theorem atoiSat_in (l:List UInt8):kV (Lib.atoiSat l):=by unfold Lib.atoiSat kV;split<;>omega
theorem Atoi_any {k:Nat}(hk:1≤k){l:List UInt8}(hl:l.length≤4000000000):∃x b,cd.f bK k l=some (x,b)∧kV x:=by
 obtain ⟨k,rfl⟩:∃q,k=q+1:=⟨k - 1,by omega⟩
 rw [cd.f_eq]
 unfold jD
 rw [dT (by omega)]
 simp only [cond]
 split
 ·rename_i v hv;exact ⟨_,_,rfl,Lib.atoiAll_bounds hv⟩
 ·exact ⟨_,_,rfl,by unfold kV;omega⟩
 ·exact ⟨_,_,rfl,atoiSat_in l⟩
theorem parse_dbytes:∀(ds:List Nat) (acc:Nat),(∀d∈ds,d<10)→ds.foldl (fun a d=>10*a+d) acc<18446744073709551616→Lib.parseUint10 acc (ie ds)=.ok (ds.foldl (fun a d=>10*a+d) acc)
 |[],acc,_,_=>rfl
 |d :: ds,acc,h,hv=>by
  have hd:=h d List.mem_cons_self
  have mono:∀(ds:List Nat) (a:Nat),a≤ds.foldl (fun a d=>10*a+d) a:=by
   intro ds
   induction ds with
   |nil=>intro a;exact Nat.le_refl _
   |cons d ds ih=>intro a;exact Nat.le_trans (by omega) (ih (10*a+d))
  have hm:=mono ds (10*acc+d)
  rw [List.foldl_cons] at hv ⊢
  have e:ie (d :: ds)=UInt8.ofNat (48+d) :: ie ds:=rfl
  have ec:(UInt8.ofNat (48+d)).toNat=48+d:=by rw [UInt8.toNat_ofNat'];omega
  rw [e,Lib.parseUint10,ec,if_pos (by omega),if_neg (by omega),if_neg (by omega),show acc*10+(48+d - 48)=10*acc+d by omega]
  exact parse_dbytes ds _ (fun x hx=>h x (List.mem_cons_of_mem _ hx)) hv
theorem atoi_dig {x:Int}(h:kV x):Lib.atoiAll (ei x)=.ok x:=by
 obtain ⟨h0,h1⟩:=h
 have p19:(10:Nat) ^ 19=10000000000000000000:=by decide
 have key:∀n:Nat,n<10 ^ 19→Lib.parseMag (uk n)=.ok n∧∃b r,uk n=b :: r∧48≤b.toNat∧b.toNat≤57:=by
  intro n hn
  obtain ⟨v1,v2,v3⟩:=na 19 n hn (by omega)
  rw [ni hn]
  have hp:=parse_dbytes (mU 19 n) 0 v2 (by unfold kh at v1;rw [v1];omega)
  unfold kh at v1
  rw [v1] at hp
  cases hq:mU 19 n with
  |nil=>exact absurd hq v3
  |cons d ds=>
   rw [hq] at hp v2
   have hd:=v2 d List.mem_cons_self
   have e:ie (d :: ds)=UInt8.ofNat (48+d) :: ie ds:=rfl
   have ec:(UInt8.ofNat (48+d)).toNat=48+d:=by rw [UInt8.toNat_ofNat'];omega
   refine ⟨?_,_,_,e,by omega,by omega⟩
   unfold Lib.parseMag
   rw [if_neg (by rw [e];simp)]
   exact hp
 unfold ei
 by_cases hx:x<0
 ·rw [if_pos hx]
  obtain ⟨k1,_⟩:=key x.natAbs (by omega)
  unfold Lib.atoiAll
  simp only [show (45:UInt8).toNat=45 from rfl,or_true,if_true,k1]
  rw [if_neg (by simp),if_neg (by simp;omega)]
  congr 1;omega
 ·rw [if_neg hx]
  obtain ⟨k1,b,r,e,c1,c2⟩:=key x.toNat (by omega)
  rw [e] at k1 ⊢
  unfold Lib.atoiAll
  simp only
  rw [if_neg (show¬(b.toNat=43∨b.toNat=45) by omega),k1]
  simp only
  rw [if_neg (by omega),if_neg (by omega),if_neg (by omega)]
  congr 1;omega
theorem Atoi_dig {k:Nat}(hk:1≤k){x:Int}(h:kV x):cd.f bK k (ei x)=some (x,false):=by
 obtain ⟨k,rfl⟩:∃q,k=q+1:=⟨k - 1,by omega⟩
 have hl:=nV x
 rw [cd.f_eq]
 unfold jD
 rw [dT (by omega),atoi_dig h];rfl
theorem number_any {k:Nat}(hk:2≤k){r:List UInt8}(hr:r.length≤4000000000)(bad:Bool)(c:UInt8):
  ∃x d r' b',aD.f bK k r bad [c]=some ((x,d),(r',b'))∧r'.length≤r.length∧(b'=false→bad=false∧kV x∧d=ei x∧r=ei x++c :: r'∧c ∉ ei x):=by
 obtain ⟨k,rfl⟩:∃q,k=q+1:=⟨k - 1,by omega⟩
 rw [aD.f_eq,Cut_ok (by omega) hr,bS]
 rcases cut_any c r with ⟨p,q,rfl,hc⟩|hc
 ·rw [cut_hit hc]
  have hl:p.length≤4000000000:=by rw [List.length_append] at hr;omega
  obtain ⟨x,b,ha,hx⟩:=Atoi_any (k:=k) (by omega) hl
  have hq:q.length≤(p++c :: q).length:=by rw [List.length_append,List.length_cons];omega
  simp only [ha,bS,Bool.not_true,Bool.not_false,cT]
  cases b with
  |true=>simp only [Bool.not_true,cF];exact ⟨_,_,_,_,rfl,hq,(fun h=>by cases h)⟩
  |false=>
   simp only [Bool.not_false,cT,vItoa_ok (show 1≤k by omega) hx,bS]
   cases he:(ei x != p) with
   |true=>simp only [cT];exact ⟨_,_,_,_,rfl,hq,(fun h=>by cases h)⟩
   |false=>
    simp only [cF]
    have e:ei x=p:=by simpa using he
    exact ⟨_,_,_,_,rfl,hq,fun h=>⟨h,hx,e.symm,by rw [e],by rw [e];exact hc⟩⟩
 ·rw [cut_miss hc]
  obtain ⟨x,b,ha,hx⟩:=Atoi_any (k:=k) (by omega) hr
  simp only [ha,bS,Bool.not_true,Bool.not_false,cT,cF]
  exact ⟨_,_,_,_,rfl,by simp,(fun h=>by cases h)⟩
theorem number_dig {k:Nat}(hk:2≤k){x:Int}(hx:kV x){c:UInt8}(hc:c=58∨c=59){r:List UInt8}(hr:(ei x++c :: r).length≤4000000000):
  aD.f bK k (ei x++c :: r) false [c]=some ((x,ei x),(r,false)):=by
 obtain ⟨k,rfl⟩:∃q,k=q+1:=⟨k - 1,by omega⟩
 have hn:c ∉ ei x:=by
  intro hm
  obtain ⟨_,h2⟩:=sF hx.1 hx.2
  have:=h2 c hm
  rcases hc with rfl|rfl
  ·exact this.1 rfl
  ·exact this.2 rfl
 rw [aD.f_eq,Cut_ok (by omega) hr,bS,cut_hit hn]
 simp only [Atoi_dig (show 1≤k by omega) hx,bS,Bool.not_true,Bool.not_false,cT,vItoa_ok (show 1≤k by omega) hx,bne_self_eq_false,cF]
theorem vbytes_ok {k:Nat}(hk:1≤k)(r:List UInt8)(bad:Bool)(n:Int):bp.f bK k r bad n=
  some (if bad=false∧0≤n∧n≤(r.length:Int) then (r.take n.toNat,(r.drop n.toNat,false)) else ([],(r,true))):=by
 obtain ⟨k,rfl⟩:∃q,k=q+1:=⟨k - 1,by omega⟩
 rw [bp.f_eq]
 cases bad with
 |true=>simp
 |false=>
  rw [Bool.not_false,cT]
  by_cases h0:n<0
  ·rw [dT h0,Bool.not_true,cF,if_neg (by omega)]
  ·rw [dF h0,Bool.not_false,cT]
   by_cases h1:n>(r.length:Int)
   ·rw [dT h1,cT,if_neg (by omega)]
   ·rw [dF h1,cF,dT (show (0:Int)≤n by omega),dT (show n≤(r.length:Int) by omega),Bool.and_self,cT,cT,if_pos ⟨rfl,by omega,by omega⟩,List.drop_zero,List.take_length]
theorem vbyte_ok {k:Nat}(hk:1≤k)(r:List UInt8)(bad:Bool):aZ.f bK k r bad=some (match r with|[]=>(0,([],true))|b :: l=>((b.toNat:Int),(l,bad))):=by
 obtain ⟨k,rfl⟩:∃q,k=q+1:=⟨k - 1,by omega⟩
 rw [aZ.f_eq]
 cases r with
 |nil=>rfl
 |cons b l=>
  have e:((b :: l)==([]:List UInt8))=false:=rfl
  rw [e,cF,show rd (b :: l) 0=some b from rfl,bS,dT (by omega),dT (by simp only [List.length_cons];omega),Bool.and_self,cT,List.take_length]
  rfl
def Taken (w:Int)(r:List UInt8)(bad:Bool)(res:(Int×List (List UInt8))×(List UInt8×Bool)):Prop:=
 res.2.1.length≤r.length∧(res.2.2=false→bad=false∧res.2.1.length<r.length)∧(bad=true→res.2.2=true)
theorem row_l0 {k:Nat}{w:Int}(hv:∀(r:List UInt8) (bad:Bool),r.length≤70000→∃res,aC.f bK k r bad w=some res∧Taken w r bad res)(hk:1≤k)(c:Int):
  ∀(m:Nat) (r:List UInt8) (bad:Bool) (out:List (List UInt8)) (n:Nat),r.length≤m→m≤70000→out.length+r.length≤70000→m+2≤n→
   ∃res,am.l0 bK k n c w r bad out=some res∧res.2.1.length≤r.length∧(res.2.2=false→bad=false∧res.2.1.length<r.length)∧(bad=true→res.2.2=true):=by
 have fin:∀(r:List UInt8) (bad:Bool) (out:List (List UInt8)),∃res:List (List UInt8)×(List UInt8×Bool),((aZ.f bK k r bad).bind fun r_4=>some (out,(r_4.2.1,r_4.2.2)))=some res∧res.2.1.length≤r.length∧(res.2.2=false→bad=false∧res.2.1.length<r.length)∧(bad=true→res.2.2=true):=by
  intro r bad out
  rw [vbyte_ok hk,bS]
  cases r with
  |nil=>exact ⟨_,rfl,Nat.le_refl _,(fun h=>by cases h),fun _=>rfl⟩
  |cons b l=>exact ⟨_,rfl,by simp,fun h=>⟨h,by simp⟩,fun h=>h⟩
 intro m
 induction m with
 |zero=>
  intro r bad out n h1 h2 h3 h4
  obtain ⟨n,rfl⟩:∃q,n=q+1:=⟨n - 1,by omega⟩
  rw [am.l0_eq]
  have hr:r=[]:=List.length_eq_zero_iff.1 (by omega)
  subst hr
  cases bad with
  |true=>rw [Bool.not_true,cF];exact fin _ _ _
  |false=>rw [Bool.not_false,cT,show (([]:List UInt8) != [])=false from rfl,cF];exact fin _ _ _
 |succ m ih=>
  intro r bad out n h1 h2 h3 h4
  obtain ⟨n,rfl⟩:∃q,n=q+1:=⟨n - 1,by omega⟩
  rw [am.l0_eq]
  cases bad with
  |true=>rw [Bool.not_true,cF];exact fin _ _ _
  |false=>
   rw [Bool.not_false,cT]
   cases r with
   |nil=>rw [show (([]:List UInt8) != [])=false from rfl,cF];exact fin _ _ _
   |cons b l=>
    rw [show ((b :: l) != ([]:List UInt8))=true from rfl,cT,show rd (b :: l) 0=some b from rfl,bS]
    cases hb:((b.toNat:Int) != c) with
    |false=>rw [cF];exact fin _ _ _
    |true=>
     rw [cT]
     obtain ⟨res,e,t1,t2,t3⟩:=hv (b :: l) false (by omega)
     rw [e,bS]
     have hl:((b :: l).length:Int) - (res.2.1.length:Int)=(((b :: l).length - res.2.1.length:Nat):Int):=by omega
     rw [hl,ek _ (by omega),dT (by omega),dT (by omega),Bool.and_self,cT,dT (by simp only [List.length_cons,List.length_nil];simp only [List.length_cons] at h3;omega),cT]
     cases hbad:res.2.2 with
     |true=>
      -- the next round ends it
      obtain ⟨n,rfl⟩:∃q,n=q+1:=⟨n - 1,by omega⟩
      rw [am.l0_eq,Bool.not_true,cF]
      obtain ⟨res',e',q1,q2,q3⟩:=fin res.2.1 true (out++[List.drop 0 (List.take ((((b :: l).length - res.2.1.length:Nat):Int)).toNat (b :: l))])
      exact ⟨res',e',by omega,(fun h=>by rw [q3 rfl] at h;cases h),(fun h=>by cases h)⟩
     |false=>
      obtain ⟨_,t4⟩:=t2 hbad
      obtain ⟨res',e',q1,q2,q3⟩:=ih res.2.1 false (out++[List.drop 0 (List.take ((((b :: l).length - res.2.1.length:Nat):Int)).toNat (b :: l))]) n (by omega) (by omega) (by simp only [List.length_append,List.length_cons,List.length_nil] at h3 ⊢;simp only [List.length_cons] at t4;omega) (by omega)
      exact ⟨res',e',by omega,fun h=>⟨rfl,by have:=(q2 h).2;omega⟩,(fun h=>by cases h)⟩
theorem value_tot:∀(e:Nat) {k:Nat},e≤10→70100+3*e≤k→∀(w:Int),w+e=5→∀(r:List UInt8) (bad:Bool),r.length≤70000→∃res,aC.f bK k r bad w=some res∧Taken w r bad res
 |0,k,_,hk,w,hw,r,bad,hr=>by
  obtain ⟨k,rfl⟩:∃q,k=q+2:=⟨k - 2,by omega⟩
  rw [aC.f_eq,dT (by omega),cT,aL.f_eq,bS]
  exact ⟨_,rfl,Nat.le_refl _,(fun h=>by cases h),fun _=>rfl⟩
 |e+1,k,he,hk,w,hw,r,bad,hr=>by
  obtain ⟨k,rfl⟩:∃q,k=q+1:=⟨k - 1,by omega⟩
  rw [aC.f_eq,dF (by omega),cF,vbyte_ok (by omega),bS]
  cases r with
  |nil=>
   simp only [show ((0:Int)==110)=false from rfl,show ((0:Int)==105)=false from rfl,show ((0:Int)==116)=false from rfl,show ((0:Int)==102)=false from rfl,show ((0:Int)==115)=false from rfl,show ((0:Int)==91)=false from rfl,show ((0:Int)==123)=false from rfl,cF]
   obtain ⟨k,rfl⟩:∃q,k=q+1:=⟨k - 1,by omega⟩
   rw [aL.f_eq,bS]
   exact ⟨_,rfl,Nat.le_refl _,(fun h=>by cases h),fun _=>rfl⟩
  |cons b l=>
   simp only
   have hl:l.length+1≤70000:=by simpa using hr
   have ok:∀(res:(Int×List (List UInt8))×(List UInt8×Bool)),res.2.1.length≤l.length→(res.2.2=false→bad=false)→(bad=true→res.2.2=true)→Taken w (b :: l) bad res:=by
    intro res h1 h2 h3
    exact ⟨by simp only [List.length_cons];omega,fun h=>⟨h2 h,by simp only [List.length_cons];omega⟩,h3⟩
   have hnum:∀(c:UInt8),∃x d r' b',aD.f bK k l bad [c]=some ((x,d),(r',b'))∧r'.length≤l.length∧(b'=false→bad=false):=by
    intro c
    obtain ⟨x,d,r',b',h1,h2,h3⟩:=number_any (k:=k) (by omega) (r:=l) (by omega) bad c
    exact ⟨x,d,r',b',h1,h2,fun h=>(h3 h).1⟩
   have hrow:∀(c:Int),∃res,am.f bK k l bad c (IntKind.i64.wrap (w+1))=some res∧res.2.1.length≤l.length∧(res.2.2=false→bad=false)∧(bad=true→res.2.2=true):=by
    intro c
    obtain ⟨k,rfl⟩:∃q,k=q+1:=⟨k - 1,by omega⟩
    rw [am.f_eq,ek _ (by omega)]
    obtain ⟨res,h1,h2,h3,h4⟩:=row_l0 (k:=k) (w:=w+1) (fun r bad hr=>value_tot e (by omega) (by omega) (w+1) (by omega) r bad hr) (by omega) c l.length l bad [] k (Nat.le_refl _) (by omega) (by simp;omega) (by omega)
    exact ⟨res,h1,h2,fun h=>(h3 h).1,h4⟩
   have hstr:∃res,((aD.f bK k l bad [58]).bind fun r_4=>(bp.f bK k r_4.2.1 r_4.2.2 r_4.1.1).bind fun r_5=>some (((2:Int),([r_5.1]:List (List UInt8))),(r_5.2.1,r_5.2.2)))=some res∧Taken w (b :: l) bad res:=by
    obtain ⟨x,d,r',b',h1,h2,h3⟩:=hnum 58
    rw [h1,bS,vbytes_ok (by omega),bS]
    refine ⟨_,rfl,ok _ ?_ ?_ ?_⟩
    ·simp only
     split
     ·simp only [List.length_drop];omega
     ·exact h2
    ·simp only
     split
     ·rename_i hc;intro _;exact h3 hc.1
     ·intro h;cases h
    ·intro hb
     simp only
     split
     ·rename_i hc;rw [h3 hc.1] at hb;cases hb
     ·rfl
   have hrow':∀(c kd:Int),∃res,((am.f bK k l bad c (IntKind.i64.wrap (w+1))).bind fun r_6=>some ((kd,r_6.1),(r_6.2.1,r_6.2.2)))=some res∧Taken w (b :: l) bad res:=by
    intro c kd
    obtain ⟨res,h1,h2,h3,h4⟩:=hrow c
    rw [h1,bS]
    exact ⟨_,rfl,ok _ h2 h3 h4⟩
   have hfail:∃res,((aL.f bK k l bad).bind fun r_8=>some ((r_8.1.1,r_8.1.2),(r_8.2.1,r_8.2.2)))=some res∧Taken w (b :: l) bad res:=by
    obtain ⟨k,rfl⟩:∃q,k=q+1:=⟨k - 1,by omega⟩
    rw [aL.f_eq,bS]
    exact ⟨_,rfl,ok _ (Nat.le_refl _) (fun h=>by cases h) (fun _=>rfl)⟩
   have one:∀(kd:Int) (ps:List (List UInt8)),∃res,some ((kd,ps),(l,bad))=some res∧Taken w (b :: l) bad res:=fun kd ps=>⟨_,rfl,ok _ (Nat.le_refl _) (fun h=>h) (fun h=>h)⟩
   cases h1:((b.toNat:Int)==110) with
   |true=>rw [cT];exact one _ _
   |false=>
    rw [cF]
    cases h2:((b.toNat:Int)==105) with
    |true=>
     rw [cT]
     obtain ⟨x,d,r',b',q1,q2,q3⟩:=hnum 59
     rw [q1,bS]
     refine ⟨_,rfl,ok _ q2 q3 fun hb=>?_⟩
     cases b' with
     |true=>rfl
     |false=>rw [q3 rfl] at hb;cases hb
    |false=>
     rw [cF]
     cases h3:((b.toNat:Int)==116) with
     |true=>rw [cT];exact one _ _
     |false=>
      rw [cF]
      cases h4:((b.toNat:Int)==102) with
      |true=>rw [cT];exact one _ _
      |false=>
       rw [cF]
       cases h5:((b.toNat:Int)==115) with
       |true=>rw [cT];exact hstr
       |false=>
        rw [cF]
        cases h6:((b.toNat:Int)==91) with
        |true=>rw [cT];exact hrow' _ _
        |false=>
         rw [cF]
         cases h7:((b.toNat:Int)==123) with
         |true=>rw [cT];exact hrow' _ _
         |false=>rw [cF];exact hfail
theorem value_leaf {k:Nat}(hk:70200≤k){v:List UInt8}(hv:v.length≤70000){kd:Int}{ps:List (List UInt8)}(h:aC.f bK k v false 0=some ((kd,ps),(([]:List UInt8),false))):
  kd=3∨kd=4∨gv v kd ps:=by
 obtain ⟨k,rfl⟩:∃q,k=q+1:=⟨k - 1,by omega⟩
 rw [aC.f_eq,dF (by omega),cF,vbyte_ok (by omega),bS] at h
 cases v with
 |nil=>
  obtain ⟨k,rfl⟩:∃q,k=q+1:=⟨k - 1,by omega⟩
  simp only [show ((0:Int)==110)=false from rfl,show ((0:Int)==105)=false from rfl,show ((0:Int)==116)=false from rfl,show ((0:Int)==102)=false from rfl,show ((0:Int)==115)=false from rfl,show ((0:Int)==91)=false from rfl,show ((0:Int)==123)=false from rfl,cF,aL.f_eq,bS] at h
  simp at h
 |cons b l=>
  simp only at h
  have hb:∀{n:Nat},((b.toNat:Int)==(n:Int))=true→n<256→b=UInt8.ofNat n:=by
   intro n h hn
   have e:b.toNat=n:=by have:=(beq_iff_eq.1 h);omega
   rw [←e];simp
  have hl:l.length≤69999:=by simpa using hv
  cases h1:((b.toNat:Int)==110) with
  |true=>
   rw [h1,cT] at h
   have eb:=hb (n:=110) h1 (by omega)
   simp only [Option.some.injEq,Prod.mk.injEq] at h
   obtain ⟨⟨rfl,rfl⟩,rfl,_⟩:=h
   subst eb
   exact .inr (.inr .n)
  |false=>
   rw [h1,cF] at h
   cases h2:((b.toNat:Int)==105) with
   |true=>
    rw [h2,cT] at h
    have eb:=hb (n:=105) h2 (by omega)
    obtain ⟨x,d,r',b',q1,q2,q3⟩:=number_any (k:=k) (by omega) (r:=l) (by omega) false 59
    rw [q1,bS] at h
    simp only [Option.some.injEq,Prod.mk.injEq] at h
    obtain ⟨⟨rfl,rfl⟩,rfl,rfl⟩:=h
    obtain ⟨_,hx,rfl,e,_⟩:=q3 rfl
    subst eb
    rw [e]
    exact .inr (.inr (.i x hx))
   |false=>
    rw [h2,cF] at h
    cases h3:((b.toNat:Int)==116) with
    |true=>
     rw [h3,cT,cT] at h
     have eb:=hb (n:=116) h3 (by omega)
     simp only [Option.some.injEq,Prod.mk.injEq] at h
     obtain ⟨⟨rfl,rfl⟩,rfl,_⟩:=h
     subst eb
     exact .inr (.inr (.b true))
    |false=>
     rw [h3,cF] at h
     cases h4:((b.toNat:Int)==102) with
     |true=>
      rw [h4,cT] at h
      have eb:=hb (n:=102) h4 (by omega)
      simp only [Option.some.injEq,Prod.mk.injEq] at h
      obtain ⟨⟨rfl,rfl⟩,rfl,_⟩:=h
      subst eb
      exact .inr (.inr (.b false))
     |false=>
      rw [h4,cF] at h
      cases h5:((b.toNat:Int)==115) with
      |true=>
       rw [h5,cT] at h
       have eb:=hb (n:=115) h5 (by omega)
       obtain ⟨x,d,r',b',q1,q2,q3⟩:=number_any (k:=k) (by omega) (r:=l) (by omega) false 58
       rw [q1,bS,vbytes_ok (by omega),bS] at h
       simp only at h
       split at h
       ·rename_i hc
        obtain ⟨hb',h0,hx1⟩:=hc
        obtain ⟨_,hx,rfl,e,_⟩:=q3 hb'
        simp only [Option.some.injEq,Prod.mk.injEq] at h
        obtain ⟨⟨rfl,rfl⟩,hd,_⟩:=h
        have hlen:r'.length≤x.toNat:=by have:=congrArg List.length hd;simp at this;omega
        have hxl:x=(r'.length:Int):=by omega
        subst hxl
        rw [Int.toNat_natCast,List.take_length]
        subst eb
        rw [e,sp]
        have eb2:gK r'=UInt8.ofNat 115 :: (uk r'.length++58 :: r'):=by simp [gK]
        rw [←eb2]
        exact .inr (.inr (.s r'))
       ·simp at h
      |false=>
       rw [h5,cF] at h
       cases h6:((b.toNat:Int)==91) with
       |true=>
        rw [h6,cT] at h
        cases hr:am.f bK k l false 93 (IntKind.i64.wrap (0+1)) with
        |none=>rw [hr] at h;cases h
        |some r=>
         rw [hr,bS] at h
         simp only [Option.some.injEq,Prod.mk.injEq] at h
         exact .inl h.1.1.symm
       |false=>
        rw [h6,cF] at h
        cases h7:((b.toNat:Int)==123) with
        |true=>
         rw [h7,cT] at h
         cases hr:am.f bK k l false 125 (IntKind.i64.wrap (0+1)) with
         |none=>rw [hr] at h;cases h
         |some r=>
          rw [hr,bS] at h
          simp only [Option.some.injEq,Prod.mk.injEq] at h
          exact .inr (.inl h.1.1.symm)
        |false=>
         obtain ⟨k,rfl⟩:∃q,k=q+1:=⟨k - 1,by omega⟩
         rw [h7,cF,aL.f_eq,bS] at h
         simp at h
theorem vParts_any {k:Nat}(hk:70300≤k)(v:List UInt8):bR.f bK k v=some (0,[],700)∨∃kd ps,bR.f bK k v=some (kd,ps,0)∧v.length≤65536∧(kd=3∨kd=4∨gv v kd ps):=by
 obtain ⟨k,rfl⟩:∃q,k=q+1:=⟨k - 1,by omega⟩
 rw [bR.f_eq]
 by_cases hl:v.length≤65536
 ·rw [dF (by omega),cF]
  obtain ⟨res,h1,h2⟩:=value_tot 5 (k:=k) (by omega) (by omega) 0 (by omega) v false (by omega)
  rw [h1,bS]
  obtain ⟨⟨kd,ps⟩,r',b'⟩:=res
  cases b' with
  |true=>exact .inl rfl
  |false=>
   simp only [Bool.not_false,cT]
   cases r' with
   |cons b l=>exact .inl rfl
   |nil=>exact .inr ⟨kd,ps,rfl,hl,value_leaf (by omega) (by omega) h1⟩
 ·rw [dT (by omega),cT];exact .inl rfl
theorem vParts_leaf {k:Nat}(hk:70300≤k){v:List UInt8}(hl:v.length≤65536){kd:Int}{ps:List (List UInt8)}(h:gv v kd ps)(h3:kd<3):bR.f bK k v=some (kd,ps,0):=by
 obtain ⟨k,rfl⟩:∃q,k=q+1:=⟨k - 1,by omega⟩
 have key:aC.f bK k v false 0=some ((kd,ps),(([]:List UInt8),false)):=by
  obtain ⟨k,rfl⟩:∃q,k=q+1:=⟨k - 1,by omega⟩
  rw [aC.f_eq,dF (by omega),cF,vbyte_ok (by omega),bS]
  cases h with
  |n=>rfl
  |i x hx=>
   have e:uO x=105 :: (ei x++59 :: []):=rfl
   have hlen:=nV x
   rw [e]
   simp only [show (((105:UInt8).toNat:Int)==110)=false from rfl,show (((105:UInt8).toNat:Int)==105)=true from rfl,cT,cF]
   rw [number_dig (by omega) hx (.inr rfl) (by rw [List.length_append];simp only [List.length_cons,List.length_nil];omega),bS]
  |b b=>cases b<;>rfl
  |s l=>
   have e:gK l=115 :: (ei ((l.length:Nat):Int)++58 :: l):=by rw [sp];simp [gK]
   rw [e] at hl ⊢
   have hx:kV ((l.length:Nat):Int):=by
    rw [List.length_cons,List.length_append,List.length_cons] at hl
    unfold kV;omega
   simp only [show (((115:UInt8).toNat:Int)==110)=false from rfl,show (((115:UInt8).toNat:Int)==105)=false from rfl,show (((115:UInt8).toNat:Int)==116)=false from rfl,show (((115:UInt8).toNat:Int)==102)=false from rfl,show (((115:UInt8).toNat:Int)==115)=true from rfl,cT,cF]
   rw [number_dig (by omega) hx (.inl rfl) (by rw [List.length_cons] at hl;omega),bS,vbytes_ok (by omega),bS]
   simp only
   rw [if_pos ⟨trivial,by omega,by omega⟩,Int.toNat_natCast,List.take_length,List.drop_length]
  |l vs h=>omega
  |r vs h=>omega
 rw [bR.f_eq,dF (by omega),cF,key,bS]
 rfl
def FitL (t:List aM)(i:Nat)(v:List UInt8):Prop:=
 v.length≤65536∧((v=[110]∧w9 t i=true)∨(gq t i=0∧∃x,kV x∧v=uO x)∨(gq t i=1∧∃b,v=mi b)∨(gq t i=2∧∃l:List UInt8,l.length≤16∧v=gK l))
open Classical in
noncomputable def fitB (t:List aM)(i:Nat)(v:List UInt8):Bool:=decide (FitL t i v)
theorem fitB_iff {t:List aM}{i:Nat}{v:List UInt8}:fitB t i v=true↔FitL t i v:=by unfold fitB;simp
theorem fitB_of {t:List aM}{i:Nat}{v:List UInt8}{b:Bool}(h:b=true↔FitL t i v):fitB t i v=b:=by
 cases hb:b with
 |true=>exact fitB_iff.2 (h.1 hb)
 |false=>
  cases hf:fitB t i v with
  |false=>rfl
  |true=>rw [h.2 (fitB_iff.1 hf)] at hb;cases hb
theorem FitL.shape {t:List aM}{i:Nat}{v:List UInt8}(h:FitL t i v):∃kd ps,gv v kd ps∧kd<3∧((kd=-1∧w9 t i=true)∨(kd=gq t i∧0≤kd∧∀l ps',kd=2→ps=l :: ps'→l.length≤16)):=by
 obtain ⟨_,⟨rfl,h⟩|⟨h,x,hx,rfl⟩|⟨h,b,rfl⟩|⟨h,l,hl,rfl⟩⟩:=h
 ·exact ⟨_,_,.n,by omega,.inl ⟨rfl,h⟩⟩
 ·exact ⟨_,_,.i x hx,by omega,.inr ⟨h.symm,by omega,fun _ _ h=>by omega⟩⟩
 ·exact ⟨_,_,.b b,by omega,.inr ⟨h.symm,by omega,fun _ _ h=>by omega⟩⟩
 ·refine ⟨_,_,.s l,by omega,.inr ⟨h.symm,by omega,fun l' ps' _ e=>?_⟩⟩
  simp only [List.cons.injEq] at e
  rw [←e.1];exact hl
theorem FitL.of_shape {t:List aM}{i:Nat}{v:List UInt8}{kd:Int}{ps:List (List UInt8)}(hs:gv v kd ps)(hl:v.length≤65536)(h3:kd<3)(h:(kd=-1∧w9 t i=true)∨(kd=gq t i∧0≤kd∧∀l ps',kd=2→ps=l :: ps'→l.length≤16)):FitL t i v:=by
 refine ⟨hl,?_⟩
 cases hs with
 |n=>
     rcases h with ⟨_,h⟩|⟨_,h,_⟩
     ·exact .inl ⟨rfl,h⟩
     ·omega
 |i x hx=>
       rcases h with ⟨h,_⟩|⟨h,_⟩
       ·omega
       ·exact .inr (.inl ⟨h.symm,x,hx,rfl⟩)
 |b b=>
      rcases h with ⟨h,_⟩|⟨h,_⟩
      ·omega
      ·exact .inr (.inr (.inl ⟨h.symm,b,rfl⟩))
 |s l=>
      rcases h with ⟨h,_⟩|⟨h,_,h'⟩
      ·omega
      ·exact .inr (.inr (.inr ⟨h.symm,l,h' l [] rfl rfl,rfl⟩))
 |l vs _=>omega
 |r vs _=>omega
theorem shape_kd {v:List UInt8}{kd:Int}{ps:List (List UInt8)}(hs:gv v kd ps):-1≤kd∧kd≤4∧(kd=2→∃l,ps=[l]):=by
 cases hs with
 |s l=>exact ⟨by omega,by omega,fun _=>⟨l,rfl⟩⟩
 |_=>exact ⟨by omega,by omega,fun h=>by omega⟩
theorem leaf_knd {t:List aM}{i:Nat}(hm:li t=true)(hi:i<t.length)(hin:iT (gq t i)=false):gq t i=0∨gq t i=1∨gq t i=2:=by
 have:=(((lb t).1 hm).2.1 i hi).1
 unfold pG at this
 simp only [Bool.and_eq_true,decide_eq_true_eq] at this
 unfold iT at hin
 simp only [Bool.or_eq_false_iff,beq_eq_false_iff_ne] at hin
 omega
theorem vFits_loop {k:Nat}{kd:Int}(hkd:kd≠3){ps:List (List UInt8)}{t:List aM}{ks:List Int}(hl:ps.length≤1000):∀(d i n:Nat),i+d=ps.length→d+1≤n→
  bC.l1 bK k n ps kd ((ps.length:Nat):Int) (i:Int) t ks=some (decide ((ps.length:Int)≤64))
 |0,i,n,h,hn=>by
  obtain ⟨n,rfl⟩:∃q,n=q+1:=⟨n - 1,by omega⟩
  rw [bC.l1_eq,dF (by omega),cF]
 |d+1,i,n,h,hn=>by
  obtain ⟨n,rfl⟩:∃q,n=q+1:=⟨n - 1,by omega⟩
  rw [bC.l1_eq,dT (by omega),cT,cw (by omega),bS,show (kd==3)=false by rw [beq_eq_false_iff_ne];exact hkd,cF,eZ (by omega)]
  exact vFits_loop hkd hl d (i+1) n (by omega) (by omega)
theorem vFits_ok {k:Nat}(hk:70400≤k){t:List aM}{i:Nat}(hn:em t (i:Int)=true)(hi:i<t.length)(hm:li t=true)(hin:iT (gq t i)=false)(v:List UInt8):bC.f bK k t (i:Int) v=some (fitB t i v):=by
 obtain ⟨k,rfl⟩:∃q,k=q+1:=⟨k - 1,by omega⟩
 have hkn:=leaf_knd hm hi hin
 rw [bC.f_eq,eK (by omega),bS,hn,Bool.not_true,cF]
 have uniq:∀{kd:Int}{ps:List (List UInt8)}{e:Int},bR.f bK k v=some (kd,ps,e)→FitL t i v→e=0∧kd<3∧((kd=-1∧w9 t i=true)∨(kd=gq t i∧0≤kd∧∀l ps',kd=2→ps=l :: ps'→l.length≤16)):=by
  intro kd ps e hp hf
  obtain ⟨kd',ps',h1,h2,h3⟩:=hf.shape
  rw [vParts_leaf (by omega) hf.1 h1 h2] at hp
  simp only [Option.some.injEq,Prod.mk.injEq] at hp
  obtain ⟨rfl,rfl,rfl⟩:=hp
  exact ⟨rfl,h2,h3⟩
 rcases vParts_any (k:=k) (by omega) v with hp|⟨kd,ps,hp,hl,hs⟩
 ·rw [hp,bS,cw hi,bS]
  have:fitB t i v=false:=fitB_of ⟨(fun h=>by cases h),fun hf=>by have:=(uniq hp hf).1;omega⟩
  rw [this];rfl
 ·rw [hp,bS,cw hi,bS,tY hi,jG hi]
  simp only [show (!((0:Int) != 0))=true from rfl,show ((0:Int)==0)=true from rfl,cT]
  cases h1:(kd==-1) with
  |true=>
   have e:kd=-1:=by simpa using h1
   rw [cT]
   congr 1
   refine (fitB_of ⟨fun hb=>?_,fun hf=>?_⟩).symm
   ·rcases hs with h|h|h
    ·omega
    ·omega
    ·exact FitL.of_shape h hl (by omega) (.inl ⟨e,hb⟩)
   ·rcases (uniq hp hf).2.2 with ⟨_,h⟩|⟨_,h,_⟩
    ·exact h
    ·omega
  |false=>
   have hne:kd≠-1:=by simpa using h1
   rw [cF,o8 (by omega),bS]
   cases h2:(kd != gq t i) with
   |true=>
    have hne2:kd≠gq t i:=by simpa using h2
    rw [cT]
    have:fitB t i v=false:=fitB_of ⟨(fun h=>by cases h),fun hf=>by
     rcases (uniq hp hf).2.2 with ⟨h,_⟩|⟨h,_⟩
     ·exact absurd h hne
     ·exact absurd h hne2⟩
    rw [this]
   |false=>
    have he2:kd=gq t i:=by simpa using h2
    rw [cF]
    have hsh:gv v kd ps:=by
     rcases hs with h|h|h
     ·omega
     ·omega
     ·exact h
    cases h3:(kd==2) with
    |true=>
     have e2:kd=2:=by simpa using h3
     obtain ⟨l,rfl⟩:=(shape_kd hsh).2.2 e2
     rw [cT,dT (by omega),dT (by simp),Bool.and_self,cT,show ([l]:List (List UInt8))[0]?=some l from rfl,bS]
     congr 1
     refine (fitB_of ⟨fun hb=>?_,fun hf=>?_⟩).symm
     ·refine FitL.of_shape hsh hl (by omega) (.inr ⟨he2,by omega,fun l' ps' _ e=>?_⟩)
      simp only [List.cons.injEq] at e
      rw [←e.1]
      have:=of_decide_eq_true hb;omega
     ·rcases (uniq hp hf).2.2 with ⟨h,_⟩|⟨_,_,h⟩
      ·exact absurd h hne
      ·have:=h l [] e2 rfl
       exact decide_eq_true (by omega)
    |false=>
     have e2:kd≠2:=by simpa using h3
     rw [cF,show (kd==4)=false by rw [beq_eq_false_iff_ne];omega,cF]
     have hps:ps.length=1:=by
      cases hsh with
      |n=>omega
      |i x hx=>rfl
      |b b=>rfl
      |s l=>rfl
      |l vs _=>omega
      |r vs _=>omega
     have hL:=vFits_loop (k:=k) (kd:=kd) (by omega) (ps:=ps) (t:=t) (ks:=(vC t (i:Int)).1) (by omega) ps.length 0 k (by omega) (by omega)
     rw [show ((0:Nat):Int)=0 from rfl] at hL
     rw [hL]
     have:fitB t i v=true:=fitB_iff.2 (FitL.of_shape hsh hl (by omega) (.inr ⟨he2,by omega,fun _ _ h=>absurd h e2⟩))
     rw [this,dT (by omega)]
def bw (n:Int):Int:=if n<1 then 0 else if n<2 then 1 else if n<4 then 2 else if n<8 then 3 else 4
theorem bw_range (n:Int):0≤bw n∧bw n≤4:=by unfold bw;split<;>(try split)<;>(try split)<;>(try split)<;>omega
theorem bw_fits {n x:Int}(hn:n≤15)(h0:0≤x)(h1:x≤n):x<2 ^ (bw n).toNat:=by
 unfold bw
 split
 ·show x<1;omega
 ·split
  ·show x<2;omega
  ·split
   ·show x<4;omega
   ·split
    ·show x<8;omega
    ·show x<16;omega
theorem Len_tab (k:Nat):(List.range 16).map (fun n=>gd.f bK (k+2) (IntKind.u64.wrap ((n:Nat):Int)))=(List.range 16).map (fun n=>some (bw ((n:Nat):Int))):=by kernel_rfl
theorem Len_ok {k:Nat}(hk:2≤k){n:Int}(h0:0≤n)(h1:n≤15):gd.f bK k (IntKind.u64.wrap n)=some (bw n):=by
 obtain ⟨k,rfl⟩:∃q,k=q+2:=⟨k - 2,by omega⟩
 obtain ⟨m,rfl⟩:∃m:Nat,n=(m:Int):=⟨n.toNat,by omega⟩
 exact List.map_inj_left.1 (Len_tab k) m (List.mem_range.2 (by omega))
theorem lev_range {t:List aM}{a:Int}:0≤(ez t a).1∧(ez t a).1≤15∧0≤(ez t a).2.1∧(ez t a).2.1≤15:=by
 cases hn:em t a with
 |false=>rw [yx hn];decide
 |true=>
  obtain ⟨hm,i,hi,rfl⟩:=fe hn
  rw [xM hm hi]
  have h1:=np t (eG t (i:Int))
  have h2:=oP t (eG t (i:Int))
  have h3:=(((lb t).1 hm).2.2 i hi).2
  simp only
  omega
theorem word4' {k:Nat}(hk:12≤k)(x:Int):bW.f bK k x 4=some (w4 x):=by
 obtain ⟨k,rfl⟩:∃q,k=q+12:=⟨k - 12,by omega⟩
 exact BS k x
theorem word8' {k:Nat}(hk:12≤k)(x:Int):bW.f bK k x 8=some (w8 x):=by
 obtain ⟨k,rfl⟩:∃q,k=q+12:=⟨k - 12,by omega⟩
 exact A7 k x
theorem word1' {k:Nat}(hk:12≤k)(x:Int):bW.f bK k x 1=some (B5 x):=by
 obtain ⟨k,rfl⟩:∃q,k=q+12:=⟨k - 12,by omega⟩
 exact yR k x
def inL (most:Int)(xs:List Int):Bool:=xs.all fun x=>decide (0≤x)&&decide (x≤most)
theorem range_get {α:Type}(xs:List α)(p:α→Bool)(q:Nat→Bool)(h:∀i (hi:i<xs.length),q i=p xs[i]):(List.range xs.length).all q=xs.all p:=by
 rw [Bool.eq_iff_iff,List.all_eq_true,List.all_eq_true]
 constructor
 ·intro hq x hx
  obtain ⟨i,hi,rfl⟩:=List.mem_iff_getElem.1 hx
  rw [←h i hi];exact hq i (List.mem_range.2 hi)
 ·intro hp i hi
  have hi':=List.mem_range.1 hi
  rw [h i hi'];exact hp _ (List.getElem_mem hi')
theorem within_ok {k:Nat}{xs:List Int}(hk:xs.length+3≤k)(hl:xs.length≤20000000000000)(most:Int):a8.f bK k xs most=some (inL most xs):=by
 obtain ⟨k,rfl⟩:∃q,k=q+1:=⟨k - 1,by omega⟩
 rw [a8.f_eq]
 have:=qJ (F:=fun n i=>a8.l0 bK k n most xs (xs.length:Int) (i:Int)) (p:=fun i=>match xs[i]? with|some x=>decide (0≤x)&&decide (x≤most)|none=>false) (N:=xs.length) (E:=some true) (Z:=some false) ?_ ?_ k (by omega)
 ·refine this.trans ?_
  rw [range_get xs (fun x=>decide (0≤x)&&decide (x≤most)) _ fun i hi=>by simp only [List.getElem?_eq_getElem hi]]
  unfold inL
  cases xs.all _<;>rfl
 ·intro n i hi _
  rw [a8.l0_eq,dT (by omega),cT,cw hi,bS,List.getElem?_eq_getElem hi]
  simp only
  by_cases h0:xs[i]<0
  ·rw [dT h0,Bool.not_true,cF,dF (show¬(0:Int)≤xs[i] by omega),Bool.false_and,cF]
  ·rw [dF h0,Bool.not_false,cT,dT (show (0:Int)≤xs[i] by omega),Bool.true_and]
   by_cases h1:xs[i]>most
   ·rw [dT h1,cT,dF (show¬xs[i]≤most by omega),cF]
   ·rw [dF h1,cF,dT (show xs[i]≤most by omega),cT,eZ (by omega)]
 ·intro _ n
  rw [a8.l0_eq,dF (by omega),cF]
def cnt (one:Int)(xs:List Int):Nat:=xs.countP fun x=>x==one
theorem cnt_le (one:Int)(xs:List Int):cnt one xs≤xs.length:=List.countP_le_length
theorem cnt_succ (one:Int){xs:List Int}{i:Nat}(h:i<xs.length):cnt one (xs.take (i+1))=cnt one (xs.take i)+(if xs[i]==one then 1 else 0):=by
 unfold cnt
 rw [List.take_succ_eq_append_getElem h,List.countP_append,List.countP_cons,List.countP_nil]
 omega
theorem there_ok' {k:Nat}{xs:List Int}(hk:xs.length+3≤k)(hl:xs.length≤20000000000000)(one:Int):bg.f bK k xs one=some ((cnt one xs:Nat):Int):=by
 obtain ⟨k,rfl⟩:∃q,k=q+1:=⟨k - 1,by omega⟩
 rw [bg.f_eq]
 have:=gP (F:=fun n i=>bg.l0 bK k n one ((cnt one (xs.take i):Nat):Int) xs (xs.length:Int) (i:Int)) (N:=xs.length) (r:=some ((cnt one xs:Nat):Int)) ?_ ?_ k 0 (by omega) (by omega)
 ·simpa [cnt] using this
 ·intro n i hi
  have hc:=cnt_succ one hi
  have hle:cnt one (xs.take i)≤i:=Nat.le_trans (cnt_le one _) (by rw [List.length_take];omega)
  rw [bg.l0_eq,dT (by omega),cT,cw hi,bS,eZ (i:=i) (by omega),hc]
  cases hx:(xs[i]==one) with
  |true=>rw [cT,ek _ (by omega)];rfl
  |false=>rw [cF];rfl
 ·intro n
  rw [bg.l0_eq,dF (by omega),cF,List.take_length]
noncomputable def vOk (t:List aM)(a:Int)(v:List UInt8):Bool:=(v != [110])&&fitB t a.toNat v
noncomputable def colMay (t:List aM)(a:Int)(c:Col):Bool:=
 (em t a&&!iT (gq t a.toNat))&&(decide (c.reps.length=c.defs.length)&&(decide (c.reps.length≤4096)&&(inL (ez t a).1 c.reps&&(inL (ez t a).2.1 c.defs&&(c.values.all (vOk t a)&&decide (c.values.length=cnt (ez t a).2.1 c.defs))))))
theorem Leaf_ok {k:Nat}(hk:32≤k)(t:List aM)(a:Int):fy.f bK k t a=some (em t a&&!iT (gq t a.toNat)):=by
 obtain ⟨k,rfl⟩:∃q,k=q+1:=⟨k - 1,by omega⟩
 rw [fy.f_eq,eK (by omega),bS]
 cases hn:em t a with
 |false=>rfl
 |true=>
  obtain ⟨hm,i,hi,rfl⟩:=fe hn
  rw [cT,cw hi,bS,jp (by omega),bS,jG hi,Int.toNat_natCast,Bool.true_and]
theorem page_May_ok {k:Nat}{t:List aM}{a:Int}{c:Col}(hk:70500+c.values.length≤k)(hl:c.values.length≤20000000000000)(hd:c.reps.length≤20000000000000∧c.defs.length≤20000000000000):ca.f bK k t a c=some (colMay t a c):=by
 obtain ⟨k,rfl⟩:∃q,k=q+1:=⟨k - 1,by omega⟩
 rw [ca.f_eq,iy (by omega),bS,Leaf_ok (by omega),bS]
 unfold colMay
 cases hn:em t a&&!iT (gq t a.toNat) with
 |false=>rfl
 |true=>
  rw [Bool.not_true,Bool.not_false,cT,Bool.true_and]
  by_cases h1:c.reps.length=c.defs.length
  ·rw [show (((c.reps.length:Nat):Int) != ((c.defs.length:Nat):Int))=false by rw [h1];simp,Bool.not_false,cT,dT h1,Bool.true_and]
   by_cases h2:c.reps.length≤4096
   ·rw [dF (by omega),Bool.not_false,cT,dT h2,Bool.true_and,within_ok (by omega) (by omega),bS]
    cases h3:inL (ez t a).1 c.reps with
    |false=>rfl
    |true=>
     rw [Bool.not_true,Bool.not_false,cT,Bool.true_and,within_ok (by omega) (by omega),bS]
     cases h4:inL (ez t a).2.1 c.defs with
     |false=>rfl
     |true=>
      rw [Bool.not_true,cF,Bool.true_and]
      rw [Bool.and_eq_true] at hn
      obtain ⟨hm,i,hi,rfl⟩:=fe hn.1
      rw [Int.toNat_natCast] at hn
      have hin:iT (gq t i)=false:=by simpa using hn.2
      have:=qJ (F:=fun n j=>ca.l0 bK k n (i:Int) (ez t (i:Int)).2.1 c.values (c.values.length:Int) (j:Int) t c.reps c.defs) (p:=fun j=>match c.values[j]? with|some v=>vOk t (i:Int) v|none=>false) (N:=c.values.length) (E:=some (decide (c.values.length=cnt (ez t (i:Int)).2.1 c.defs))) (Z:=some false) ?_ ?_ k (by omega)
      ·refine this.trans ?_
       rw [range_get c.values (vOk t (i:Int)) _ fun j hj=>by simp only [List.getElem?_eq_getElem hj]]
       cases c.values.all (vOk t (i:Int))<;>rfl
      ·intro n j hj _
       obtain ⟨k,rfl⟩:∃q,k=q+1:=⟨k - 1,by omega⟩
       rw [ca.l0_eq,dT (by omega),cT,cw hj,bS,iv.f_eq,bS,List.getElem?_eq_getElem hj]
       simp only [vOk,Int.toNat_natCast]
       cases hx:(c.values[j]==[110]) with
       |true=>
        rw [Bool.not_true,cF,show (c.values[j] != [110])=false by simp [bne,hx],Bool.false_and,cF]
       |false=>
        rw [Bool.not_false,cT,show (c.values[j] != [110])=true by simp [bne,hx],Bool.true_and,vFits_ok (by omega) hn.1 hi hm hin,bS]
        cases fitB t i c.values[j] with
        |false=>rfl
        |true=>rw [Bool.not_true,cF,eZ (by omega),cT]
      ·intro _ n
       rw [ca.l0_eq,dF (by omega),cF,there_ok' (by omega) (by omega),bS]
       congr 1
       rw [Bool.eq_iff_iff,beq_iff_eq,decide_eq_true_iff];omega
   ·rw [dT (by omega),Bool.not_true,cF,dF h2,Bool.false_and]
  ·rw [show (((c.reps.length:Nat):Int) != ((c.defs.length:Nat):Int))=true by rw [bne_iff_ne];omega,Bool.not_true,cF,dF h1,Bool.false_and]
def rnd (x:Int):Int:=aN .xor .u32 (Int.fdiv x (2 ^ (min 1 IntKind.u32.bits))) (IntKind.u32.wrap (3988292384*(aN .and .u32 x 1)))
def rnds:Nat→Int→Int
 |0,x=>x
 |n+1,x=>rnds n (rnd x)
def crcB (x:Int)(b:UInt8):Int:=rnds 8 (aN .xor .u32 x (IntKind.u32.wrap (b.toNat:Int)))
def crcS (s:List UInt8):Int:=IntKind.i64.wrap (aN .xor .u32 (s.foldl crcB 4294967295) 4294967295)
theorem crc_l2 {k m1:Nat}{s:List UInt8}{len i:Int}:∀(d j n:Nat) (x:Int),j+d=8→d+1≤n→bG.l2 bK k m1 n s x len i (j:Int)=bG.l0 bK k m1 s (rnds d x) len (IntKind.i64.wrap (i+1))
 |0,j,n,x,h,hn=>by
  obtain ⟨n,rfl⟩:∃q,n=q+1:=⟨n - 1,by omega⟩
  rw [bG.l2_eq,dF (by omega),cF];rfl
 |d+1,j,n,x,h,hn=>by
  obtain ⟨n,rfl⟩:∃q,n=q+1:=⟨n - 1,by omega⟩
  rw [bG.l2_eq,dT (by omega),cT,eZ (by omega)]
  exact crc_l2 d (j+1) n (rnd x) (by omega) (by omega)
theorem crc_ok {k:Nat}{s:List UInt8}(hk:s.length+12≤k)(hl:s.length≤1000000000000000):bG.f bK k s=some (crcS s):=by
 obtain ⟨k,rfl⟩:∃q,k=q+1:=⟨k - 1,by omega⟩
 rw [bG.f_eq]
 have:=gP (F:=fun n i=>bG.l0 bK k n s ((s.take i).foldl crcB 4294967295) (s.length:Int) (i:Int)) (N:=s.length) (r:=some (crcS s)) ?_ ?_ k 0 (by omega) (by omega)
 ·simpa using this
 ·intro n i hi
  rw [bG.l0_eq,dT (by omega),cT,cw hi,bS]
  have:=crc_l2 (k:=k) (m1:=n) (s:=s) (len:=(s.length:Int)) (i:=(i:Int)) 8 0 k (aN .xor .u32 ((s.take i).foldl crcB 4294967295) (IntKind.u32.wrap (s[i].toNat:Int))) (by omega) (by omega)
  rw [show ((0:Nat):Int)=0 from rfl] at this
  rw [this,eZ (by omega),List.take_succ_eq_append_getElem hi,List.foldl_append]
  rfl
 ·intro n
  rw [bG.l0_eq,dF (by omega),cF,List.take_length]
  rfl
inductive PB:List UInt8→List UInt8→Prop
 |i (x:Int) (h:kV x):PB (uO x) (w8 x)
 |b (b:Bool):PB (mi b) (B5 (if b then 1 else 0))
 |s (l:List UInt8) (h:l.length≤16):PB (gK l) (w4 (l.length:Int)++l)
theorem PB.len {v b:List UInt8}(h:PB v b):b.length≤20:=by
 cases h with
 |i x h=>show 8≤20;omega
 |b b=>show 1≤20;omega
 |s l h=>rw [List.length_append,dD];omega
theorem FitL.pb {t:List aM}{i:Nat}{v:List UInt8}(h:FitL t i v)(hv:v≠[110]):∃b,PB v b:=by
 obtain ⟨_,⟨h,_⟩|⟨_,x,hx,rfl⟩|⟨_,b,rfl⟩|⟨_,l,hl,rfl⟩⟩:=h
 ·exact absurd h hv
 ·exact ⟨_,.i x hx⟩
 ·exact ⟨_,.b b⟩
 ·exact ⟨_,.s l hl⟩
theorem pgBytes_ok {k:Nat}(hk:70500≤k){v b:List UInt8}(h:PB v b)(hl:v.length≤65536):ew.f bK k v=some b:=by
 obtain ⟨k,rfl⟩:∃q,k=q+1:=⟨k - 1,by omega⟩
 rw [ew.f_eq]
 cases h with
 |i x hx=>
  rw [vParts_leaf (by omega) hl (.i x hx) (by omega),bS]
  simp only [show ((0:Int)==0)=true from rfl,cT]
  rw [dT (by omega),dT (by simp),Bool.and_self,cT,show ([ei x]:List (List UInt8))[0]?=some (ei x) from rfl,bS,Atoi_dig (by omega) hx,bS,word8' (by omega),bS]
 |b b=>
  rw [vParts_leaf (by omega) hl (.b b) (by omega),bS]
  simp only [show ((1:Int)==0)=false from rfl,show ((1:Int)==1)=true from rfl,cT,cF]
  rw [dT (by omega),dT (by simp),Bool.and_self,cT,show ([mi b]:List (List UInt8))[0]?=some (mi b) from rfl,bS]
  cases b with
  |true=>
   rw [show rd (mi true) 0=some 116 from rfl,bS,there_ok' (by simp only [List.length_cons,List.length_nil];omega) (by simp),bS,word1' (by omega),bS]
   rfl
  |false=>
   rw [show rd (mi false) 0=some 102 from rfl,bS,there_ok' (by simp only [List.length_cons,List.length_nil];omega) (by simp),bS,word1' (by omega),bS]
   rfl
 |s l h16=>
  rw [vParts_leaf (by omega) hl (.s l) (by omega),bS]
  simp only [show ((2:Int)==0)=false from rfl,show ((2:Int)==1)=false from rfl,cF]
  rw [dT (by omega),dT (by simp),Bool.and_self,cT,show ([l]:List (List UInt8))[0]?=some l from rfl,bS,word4' (by omega),bS,cT,bS,dT (by rw [dD];omega),cT]
noncomputable def pgB (v:List UInt8):List UInt8:=(ew.f bK 80000 v).getD []
theorem PB.short {v b:List UInt8}(h:PB v b):v.length≤100:=by
 cases h with
 |i x h=>have:=nV x;unfold uO;simp only [List.length_append,List.length_cons,List.length_nil];omega
 |b b=>cases b<;>decide
 |s l h=>have:=pS l.length;unfold gK;simp only [List.length_append,List.length_cons,List.length_nil];omega
theorem PB.eq {v b:List UInt8}(h:PB v b):pgB v=b:=by
 unfold pgB
 rw [pgBytes_ok (by omega) h (by have:=h.short;omega)];rfl
theorem vOk_pb {t:List aM}{a:Int}{v:List UInt8}(h:vOk t a v=true):PB v (pgB v):=by
 unfold vOk at h
 rw [Bool.and_eq_true,bne_iff_ne] at h
 obtain ⟨b,hb⟩:=(fitB_iff.1 h.2).pb h.1
 rw [hb.eq];exact hb
theorem colMay_parts {t:List aM}{a:Int}{c:Col}(h:colMay t a c=true):∃i:Nat,a=(i:Int)∧i<t.length∧li t=true∧em t (i:Int)=true∧iT (gq t i)=false∧c.reps.length=c.defs.length∧c.reps.length≤4096∧
  inL (ez t a).1 c.reps=true∧inL (ez t a).2.1 c.defs=true∧(∀v∈c.values,vOk t a v=true)∧c.values.length=cnt (ez t a).2.1 c.defs:=by
 unfold colMay at h
 simp only [Bool.and_eq_true,decide_eq_true_eq,List.all_eq_true,Bool.not_eq_true'] at h
 obtain ⟨⟨h0,h1⟩,h2,h3,h4,h5,h6,h7⟩:=h
 obtain ⟨hm,i,hi,rfl⟩:=fe h0
 rw [Int.toNat_natCast] at h1
 exact ⟨i,rfl,hi,hm,h0,h1,h2,h3,h4,h5,h6,h7⟩
theorem colMay_vlen {t:List aM}{a:Int}{c:Col}(h:colMay t a c=true):c.values.length≤4096:=by
 obtain ⟨i,_,_,_,_,_,h1,h2,_,_,_,h3⟩:=colMay_parts h
 have:=cnt_le (ez t a).2.1 c.defs
 omega
theorem inL_ok {most:Int}(hm:most≤15){xs:List Int}(h:inL most xs=true):xI (bw most).toNat xs=true:=by
 unfold inL at h
 unfold xI
 rw [List.all_eq_true] at h ⊢
 intro x hx
 have:=h x hx
 simp only [Bool.and_eq_true,decide_eq_true_eq] at this
 unfold Aq
 rw [dT this.1,dT (bw_fits hm this.1 this.2)];rfl
def lvB (most:Int)(xs:List Int):List UInt8:=(qE (bw most) xs).1
theorem levels_ok {k:Nat}(hk:1200020≤k){most:Int}(h0:0≤most)(h1:most≤15)(xs:List Int):dM.f bK k xs most=some (lvB most xs):=by
 obtain ⟨k,rfl⟩:∃q,k=q+1:=⟨k - 1,by omega⟩
 rw [dM.f_eq,Len_ok (by omega) h0 h1,bS,xX (by omega),bS];rfl
theorem lvB_put {most:Int}(h1:most≤15){xs:List Int}(hx:inL most xs=true)(hl:xs.length≤4096):qE (bw most) xs=(lvB most xs,0)∧lvB most xs=lR (bw most).toNat xs∧(lvB most xs).length≤102400:=by
 have hb:=bw_range most
 have ho:=inL_ok h1 hx
 have:=yl (w:=(bw most).toNat) (by omega) hl ho
 rw [Int.toNat_of_nonneg hb.1] at this
 have e:lvB most xs=lR (bw most).toNat xs:=by unfold lvB;rw [this]
 refine ⟨by rw [this,e],e,?_⟩
 have:=rC (w:=(bw most).toNat) (by omega) xs.length xs (Nat.le_refl _) hl
 rw [e];omega
def pgHead (n r d:Nat):List UInt8:=(w4 (n:Int)++w4 (r:Int))++w4 (d:Int)
noncomputable def pgBody (t:List aM)(a:Int)(c:Col):List UInt8:=
 (pgHead c.reps.length (lvB (ez t a).1 c.reps).length (lvB (ez t a).2.1 c.defs).length++(lvB (ez t a).1 c.reps++lvB (ez t a).2.1 c.defs))++(c.values.map pgB).flatten
noncomputable def putP (t:List aM)(a:Int)(c:Col):List UInt8×Int:=if colMay t a c=true then (w4 (crcS (pgBody t a c))++pgBody t a c,0) else ([],2200)
theorem bytesOf_append (x y:List UInt8):aA x++aA y=aA (x++y):=by unfold aA;rw [List.map_append]
theorem bytesOf_len (x:List UInt8):(aA x).length=x.length:=by unfold aA;rw [List.length_map]
theorem pgflat_len {vs:List (List UInt8)}(h:∀v∈vs,PB v (pgB v)):(vs.map pgB).flatten.length≤20*vs.length:=by
 induction vs with
 |nil=>simp
 |cons v vs ih=>
  have h1:=(h v List.mem_cons_self).len
  have h2:=ih fun w hw=>h w (List.mem_cons_of_mem _ hw)
  simp only [List.map_cons,List.flatten_cons,List.length_append,List.length_cons]
  omega
theorem Put_l2 {k:Nat}{vs:List (List UInt8)}(hv:∀v∈vs,PB v (pgB v))(hl:vs.length≤4096){H:List UInt8}(hH:H.length≤1000000)(hk:1200000≤k){n:Nat}(hn:vs.length<n):
  aJ.l2 bK k n vs (vs.length:Int) 0 (aA H)=some (w4 (crcS (H++(vs.map pgB).flatten))++(H++(vs.map pgB).flatten),0):=by
 have hfl:=pgflat_len hv
 have:=gP (F:=fun n i=>aJ.l2 bK k n vs (vs.length:Int) (i:Int) (aA (H++((vs.take i).map pgB).flatten))) (N:=vs.length) (r:=some (w4 (crcS (H++(vs.map pgB).flatten))++(H++(vs.map pgB).flatten),0)) ?_ ?_ n 0 (by omega) (by omega)
 ·simpa using this
 ·intro n i hi
  have hb:=hv vs[i] (List.getElem_mem hi)
  have hft:=pgflat_len (vs:=vs.take i) fun v h=>hv v (List.mem_of_mem_take h)
  rw [List.length_take] at hft
  have hbl:=hb.len
  rw [aJ.l2_eq,dT (by omega),cT,cw hi,bS,pgBytes_ok (by omega) hb (by have:=hb.short;omega),bS,dT (by rw [bytesOf_len,List.length_append];omega),cT,bytesOf_append,eZ (i:=i) (by omega)]
  congr 1
  rw [List.take_succ_eq_append_getElem hi,List.map_append,List.flatten_append,List.map_cons,List.map_nil,List.flatten_cons,List.flatten_nil,List.append_nil,List.append_assoc]
 ·intro n
  rw [aJ.l2_eq,dF (by omega),cF,List.take_length,gY,crc_ok (by rw [List.length_append];omega) (by rw [List.length_append];omega),bS,word4' (by omega),bS,dT (by rw [List.length_append,dD];omega),cT]
theorem page_Put_ok {k:Nat}{t:List aM}{a:Int}{c:Col}(hk:1200100+c.values.length≤k)(hl:c.values.length≤20000000000000)(hd:c.reps.length≤20000000000000∧c.defs.length≤20000000000000):aJ.f bK k t a c=some (putP t a c):=by
 obtain ⟨k,rfl⟩:∃q,k=q+1:=⟨k - 1,by omega⟩
 rw [aJ.f_eq,page_May_ok (by omega) hl hd,bS]
 unfold putP
 cases hm:colMay t a c with
 |false=>rfl
 |true=>
  obtain ⟨i,rfl,hi,hmt,hn,hin,h1,h2,h3,h4,h5,h6⟩:=colMay_parts hm
  have hvl:=colMay_vlen hm
  obtain ⟨r0,r1,d0,d1⟩:=lev_range (t:=t) (a:=(i:Int))
  obtain ⟨_,_,hr⟩:=lvB_put r1 h3 h2
  obtain ⟨_,_,hdl⟩:=lvB_put d1 h4 (by omega)
  rw [Bool.not_true,cF,if_pos rfl,iy (by omega),bS,levels_ok (by omega) r0 r1,bS,levels_ok (by omega) d0 d1,bS]
  obtain ⟨q,hq⟩:∃q,k=q+4:=⟨k - 4,by omega⟩
  have key:∀(A B C:Int) (r d:List UInt8),r.length≤102400→d.length≤102400→aJ.l0 bK k (q+4) r d ((([A,B,C]:List Int).length:Nat):Int) 0 c.reps c.defs c.values ([]:List Int) [A,B,C]=
    aJ.l2 bK k k c.values ((c.values.length:Nat):Int) 0 (aA (((w4 A++w4 B)++w4 C)++(r++d))):=by
   intro A B C r d hr hd
   rw [aJ.l0_eq,dT (by simp),cT,dT (by omega),Bool.and_self,cT,show ([A,B,C]:List Int)[(0:Int).toNat]?=some A from rfl,bS,word4' (by omega),bS,dT (by simp [dD]),cT,show IntKind.i64.wrap (0+1)=1 from rfl,List.nil_append]
   rw [aJ.l0_eq,dT (by simp),cT,dT (by omega),Bool.and_self,cT,show ([A,B,C]:List Int)[(1:Int).toNat]?=some B from rfl,bS,word4' (by omega),bS,dT (by rw [bytesOf_len];simp [dD]),cT,show IntKind.i64.wrap (1+1)=2 from rfl,bytesOf_append]
   rw [aJ.l0_eq,dT (by simp),cT,dT (by omega),Bool.and_self,cT,show ([A,B,C]:List Int)[(2:Int).toNat]?=some C from rfl,bS,word4' (by omega),bS,dT (by rw [bytesOf_len];simp [dD]),cT,show IntKind.i64.wrap (2+1)=3 from rfl,bytesOf_append]
   rw [aJ.l0_eq,dF (by simp),cF,dT (by omega),cT,dT (by rw [bytesOf_len];simp only [List.length_append,dD];omega),cT,bytesOf_append]
  have key':=key ((c.reps.length:Nat):Int) (((lvB (ez t (i:Int)).1 c.reps).length:Nat):Int) (((lvB (ez t (i:Int)).2.1 c.defs).length:Nat):Int) _ _ hr hdl
  rw [←hq] at key'
  rw [key',Put_l2 (fun v hv=>vOk_pb (h5 v hv)) hvl (by simp only [List.length_append,dD];omega) (by omega) (by omega)]
  rfl
theorem awake22' {k:Nat}(hk:400≤k):d3.f bK k=some true:=by
 obtain ⟨k,rfl⟩:∃q,k=q+400:=⟨k - 400,by omega⟩
 exact xG k
theorem putP_no {t:List aM}{a:Int}{c:Col}(h:colMay t a c=false):putP t a c=([],2200):=by unfold putP;rw [if_neg (by rw [h];simp)]
end Go.Proofs.YtjkokaockhecnaaGreatDoorP

namespace Go.Proofs.YtjkokaockhecnaaGreatDoorP
open Go Go.Proofs.YtjkokaockhecnaaGreatDoorA
def oV:List aM:=[aM.mk 3 (-1) false,aM.mk 0 0 true]
def cG:Col:=Col.mk [0,1,0] [2,1,0] [[105,53,59]]
theorem qa {c:Col}{b:Bool}{t:List aM}{a:Int}(h:ca.f bK 200000 t a c=some b)(h1:c.reps.length≤10)(h2:c.defs.length≤10)(h3:c.values.length≤10):colMay t a c=b:=by
 rw [page_May_ok (by omega) (by omega) (by omega)] at h
 exact Option.some.inj h
def gF:List UInt8:=[86,8,145,230,3,0,0,0,2,0,0,0,3,0,0,0,3,2,3,6,0,5,0,0,0,0,0,0,0]
theorem Az (k:Nat):aJ.f bK (k+500) oV 1 cG=some (gF,0):=by kernel_rfl
theorem rB {k:Nat}(hk:1≤k){c:Col}(h:c.reps.length≤5000∧c.defs.length≤5000∧c.values.length≤5000):bb.f bK k c=some (c.reps,c.defs,c.values):=by
 obtain ⟨k,rfl⟩:∃q,k=q+1:=⟨k - 1,by omega⟩
 rw [bb.f_eq,dT (by omega),cT,dT (by omega),cT,dT (by omega),cT]
theorem d4 {k:Nat}(hk:1300000≤k){t:List aM}{a:Int}{R D:List Int}{V:List (List UInt8)}(hm:colMay t a ⟨R,D,V⟩=false)(hR:R.length≤6000)(hD:D.length≤6000)(hV:V.length≤6000):
  ag.j38 bK k a t R D V [0,1,0] [2,1,0] [[105,53,59]]=some true:=by
 obtain ⟨q,rfl⟩:∃q,k=q+500:=⟨k - 500,by omega⟩
 rw [ag.j38_eq,page_Put_ok (by simp only;omega) (by simp only;omega) (by simp only;omega),bS,putP_no hm,show aJ.f bK (q+500) [aM.mk 3 (-1) false,aM.mk 0 0 true] 1 (Col.mk [0,1,0] [2,1,0] [[105,53,59]])=some (gF,0) from Az q,bS]
 simp only [Af (show 1≤q+500 by omega),bS]
 rfl
theorem ud {t:List aM}{a:Int}{c:Col}(h:a<0∨(t.length:Int)≤a):colMay t a c=false:=by
 cases hm:colMay t a c with
 |false=>rfl
 |true=>obtain ⟨i,rfl,hi,_⟩:=colMay_parts hm;omega
theorem ya {t:List aM}{a:Int}{c:Col}{x:Int}{xs:List Int}(h:x<0)(e:c.reps=x :: xs):colMay t a c=false:=by
 cases hm:colMay t a c with
 |false=>rfl
 |true=>
  obtain ⟨i,rfl,_,_,_,_,_,_,h3,_⟩:=colMay_parts hm
  rw [e] at h3
  unfold inL at h3
  simp only [List.all_cons,Bool.and_eq_true,decide_eq_true_eq] at h3
  omega
theorem yi {t:List aM}{a:Int}{c:Col}{x y:Int}{xs:List Int}(h:x<0)(e:c.defs=y :: x :: xs):colMay t a c=false:=by
 cases hm:colMay t a c with
 |false=>rfl
 |true=>
  obtain ⟨i,rfl,_,_,_,_,_,_,_,h4,_⟩:=colMay_parts hm
  rw [e] at h4
  unfold inL at h4
  simp only [List.all_cons,Bool.and_eq_true,decide_eq_true_eq] at h4
  omega
theorem xW {t:List aM}{a:Int}{c:Col}(h:4096<c.reps.length):colMay t a c=false:=by
 cases hm:colMay t a c with
 |false=>rfl
 |true=>obtain ⟨i,rfl,_,_,_,_,_,h2,_⟩:=colMay_parts hm;omega
theorem f0:colMay [] 1 cG=false:=qa (by kernel_rfl) (by decide) (by decide) (by decide)
theorem f1:colMay oV 0 cG=false:=qa (by kernel_rfl) (by decide) (by decide) (by decide)
theorem f4:colMay oV 1 ⟨[2,1,0],[2,1,0],[[105,53,59]]⟩=false:=qa (by kernel_rfl) (by decide) (by decide) (by decide)
theorem f6:colMay oV 1 ⟨[0,1,0],[2,3,0],[[105,53,59]]⟩=false:=qa (by kernel_rfl) (by decide) (by decide) (by decide)
theorem f8:colMay oV 1 ⟨[0,1],[2,1,0],[[105,53,59]]⟩=false:=qa (by kernel_rfl) (by decide) (by decide) (by decide)
theorem f9:colMay oV 1 ⟨[0,1,0],[2,1,0],[]⟩=false:=qa (by kernel_rfl) (by decide) (by decide) (by decide)
theorem C7:colMay oV 1 ⟨[0,1,0],[2,1,0],[[105,53,59],[105,54,59]]⟩=false:=qa (by kernel_rfl) (by decide) (by decide) (by decide)
theorem C2:colMay oV 1 ⟨[0,1,0],[2,1,0],[[110]]⟩=false:=qa (by kernel_rfl) (by decide) (by decide) (by decide)
theorem C6:colMay oV 1 ⟨[0,1,0],[2,1,0],[[116]]⟩=false:=qa (by kernel_rfl) (by decide) (by decide) (by decide)
theorem pure_PageForms (a b:Int):∃k,ag.f bK k a b=some true:=by
 refine ⟨2000000+1,?_⟩
 generalize hk:2000000=k
 obtain ⟨d,hd,d1,d2⟩:=yc b
 rw [ag.f_eq,awake22' (by omega),bS,Bool.not_true,cF,show bb.f bK k (Col.mk ([0,1,0]:List Int) ([2,1,0]:List Int) ([([105,53,59]:List UInt8)]:List (List UInt8)))=some ([0,1,0],[2,1,0],[[105,53,59]]) from rB (c:=cG) (by omega) (by decide),bS,hd,ek (0 - d) (by omega),ek (1+d) (by omega),ek (4096+d) (by omega)]
 have h0:0≤IntKind.u64.wrap a:=by
  have:IntKind.u64.wrap a=a % 18446744073709551616:=by simp [IntKind.wrap,IntKind.bits,IntKind.signed]
  rw [this];exact Int.emod_nonneg _ (by omega)
 have m0:0≤Int.tmod (IntKind.u64.wrap a) 14:=by rw [Int.tmod_eq_emod_of_nonneg h0];exact Int.emod_nonneg _ (by omega)
 have m1:Int.tmod (IntKind.u64.wrap a) 14<14:=by rw [Int.tmod_eq_emod_of_nonneg h0];exact Int.emod_lt_of_pos _ (by omega)
 generalize Int.tmod (IntKind.u64.wrap a) 14=m at m0 m1
 have hk':1300000≤k:=by omega
 have:m=0∨m=1∨m=2∨m=3∨m=4∨m=5∨m=6∨m=7∨m=8∨m=9∨m=10∨m=11∨m=12∨m=13:=by omega
 rcases this with rfl|rfl|rfl|rfl|rfl|rfl|rfl|rfl|rfl|rfl|rfl|rfl|rfl|rfl
 ·rw [show ((0:Int)==0)=true from rfl,cT,dR]
  exact d4 (t:=[]) (a:=1) (R:=([0,1,0]:List Int)) (D:=([2,1,0]:List Int)) (V:=([([105,53,59]:List UInt8)]:List (List UInt8))) hk' f0 (by simp) (by simp) (by simp)
 ·rw [show ((1:Int)==0)=false from rfl,cF,show ((1:Int)==1)=true from rfl,cT,dR]
  exact d4 (t:=oV) (a:=0) (R:=([0,1,0]:List Int)) (D:=([2,1,0]:List Int)) (V:=([([105,53,59]:List UInt8)]:List (List UInt8))) hk' f1 (by simp) (by simp) (by simp)
 ·rw [show ((2:Int)==0)=false from rfl,cF,show ((2:Int)==1)=false from rfl,cF,show ((2:Int)==2)=true from rfl,cT,dR]
  exact d4 (t:=oV) (a:=0 - d) (R:=([0,1,0]:List Int)) (D:=([2,1,0]:List Int)) (V:=([([105,53,59]:List UInt8)]:List (List UInt8))) hk' (ud (.inl (by omega))) (by simp) (by simp) (by simp)
 ·rw [show ((3:Int)==0)=false from rfl,cF,show ((3:Int)==1)=false from rfl,cF,show ((3:Int)==2)=false from rfl,cF,show ((3:Int)==3)=true from rfl,cT,dR]
  exact d4 (t:=oV) (a:=1+d) (R:=([0,1,0]:List Int)) (D:=([2,1,0]:List Int)) (V:=([([105,53,59]:List UInt8)]:List (List UInt8))) hk' (ud (.inr (by show (2:Int)≤1+d;omega))) (by simp) (by simp) (by simp)
 ·rw [show ((4:Int)==0)=false from rfl,cF,show ((4:Int)==1)=false from rfl,cF,show ((4:Int)==2)=false from rfl,cF,show ((4:Int)==3)=false from rfl,cF,show ((4:Int)==4)=true from rfl,cT,show (decide (0≤0)&&decide (0<((([0,1,0]:List Int)).length:Int)))=true from rfl,cT,show (([0,1,0]:List Int)[0]?)=some 0 from rfl,bS,dR]
  exact d4 (t:=oV) (a:=1) (R:=([0,1,0]:List Int).set 0 2) (D:=([2,1,0]:List Int)) (V:=([([105,53,59]:List UInt8)]:List (List UInt8))) hk' f4 (by simp) (by simp) (by simp)
 ·rw [show ((5:Int)==0)=false from rfl,cF,show ((5:Int)==1)=false from rfl,cF,show ((5:Int)==2)=false from rfl,cF,show ((5:Int)==3)=false from rfl,cF,show ((5:Int)==4)=false from rfl,cF,show ((5:Int)==5)=true from rfl,cT,show (decide (0≤0)&&decide (0<((([0,1,0]:List Int)).length:Int)))=true from rfl,cT,show (([0,1,0]:List Int)[0]?)=some 0 from rfl,bS,dR]
  exact d4 (t:=oV) (a:=1) (R:=([0,1,0]:List Int).set 0 (0 - d)) (D:=([2,1,0]:List Int)) (V:=([([105,53,59]:List UInt8)]:List (List UInt8))) hk' (ya (x:=0 - d) (by omega) rfl) (by simp) (by simp) (by simp)
 ·rw [show ((6:Int)==0)=false from rfl,cF,show ((6:Int)==1)=false from rfl,cF,show ((6:Int)==2)=false from rfl,cF,show ((6:Int)==3)=false from rfl,cF,show ((6:Int)==4)=false from rfl,cF,show ((6:Int)==5)=false from rfl,cF,show ((6:Int)==6)=true from rfl,cT,show (decide (0≤1)&&decide (1<((([2,1,0]:List Int)).length:Int)))=true from rfl,cT,show (([2,1,0]:List Int)[1]?)=some 1 from rfl,bS,dR]
  exact d4 (t:=oV) (a:=1) (R:=([0,1,0]:List Int)) (D:=([2,1,0]:List Int).set 1 3) (V:=([([105,53,59]:List UInt8)]:List (List UInt8))) hk' f6 (by simp) (by simp) (by simp)
 ·rw [show ((7:Int)==0)=false from rfl,cF,show ((7:Int)==1)=false from rfl,cF,show ((7:Int)==2)=false from rfl,cF,show ((7:Int)==3)=false from rfl,cF,show ((7:Int)==4)=false from rfl,cF,show ((7:Int)==5)=false from rfl,cF,show ((7:Int)==6)=false from rfl,cF,show ((7:Int)==7)=true from rfl,cT,show (decide (0≤1)&&decide (1<((([2,1,0]:List Int)).length:Int)))=true from rfl,cT,show (([2,1,0]:List Int)[1]?)=some 1 from rfl,bS,dR]
  exact d4 (t:=oV) (a:=1) (R:=([0,1,0]:List Int)) (D:=([2,1,0]:List Int).set 1 (0 - d)) (V:=([([105,53,59]:List UInt8)]:List (List UInt8))) hk' (yi (x:=0 - d) (by omega) rfl) (by simp) (by simp) (by simp)
 ·rw [show ((8:Int)==0)=false from rfl,cF,show ((8:Int)==1)=false from rfl,cF,show ((8:Int)==2)=false from rfl,cF,show ((8:Int)==3)=false from rfl,cF,show ((8:Int)==4)=false from rfl,cF,show ((8:Int)==5)=false from rfl,cF,show ((8:Int)==6)=false from rfl,cF,show ((8:Int)==7)=false from rfl,cF,show ((8:Int)==8)=true from rfl,cT,show (decide (0≤2)&&decide (2≤(((([0,1,0]:List Int)).length:Nat):Int)))=true from rfl,cT,dR]
  exact d4 (t:=oV) (a:=1) (R:=List.take 2 ([0,1,0]:List Int)) (D:=([2,1,0]:List Int)) (V:=([([105,53,59]:List UInt8)]:List (List UInt8))) hk' f8 (by simp) (by simp) (by simp)
 ·rw [show ((9:Int)==0)=false from rfl,cF,show ((9:Int)==1)=false from rfl,cF,show ((9:Int)==2)=false from rfl,cF,show ((9:Int)==3)=false from rfl,cF,show ((9:Int)==4)=false from rfl,cF,show ((9:Int)==5)=false from rfl,cF,show ((9:Int)==6)=false from rfl,cF,show ((9:Int)==7)=false from rfl,cF,show ((9:Int)==8)=false from rfl,cF,show ((9:Int)==9)=true from rfl,cT,dR]
  exact d4 (t:=oV) (a:=1) (R:=([0,1,0]:List Int)) (D:=([2,1,0]:List Int)) (V:=[]) hk' f9 (by simp) (by simp) (by simp)
 ·rw [show ((10:Int)==0)=false from rfl,cF,show ((10:Int)==1)=false from rfl,cF,show ((10:Int)==2)=false from rfl,cF,show ((10:Int)==3)=false from rfl,cF,show ((10:Int)==4)=false from rfl,cF,show ((10:Int)==5)=false from rfl,cF,show ((10:Int)==6)=false from rfl,cF,show ((10:Int)==7)=false from rfl,cF,show ((10:Int)==8)=false from rfl,cF,show ((10:Int)==9)=false from rfl,cF,show ((10:Int)==10)=true from rfl,cT,show decide (((([([105,53,59]:List UInt8)]:List (List UInt8))).length+(([([105,54,59]:List UInt8)]:List (List UInt8))).length)*16≤140737488355328)=true by decide,cT,dR]
  exact d4 (t:=oV) (a:=1) (R:=([0,1,0]:List Int)) (D:=([2,1,0]:List Int)) (V:=([([105,53,59]:List UInt8)]:List (List UInt8))++[[105,54,59]]) hk' C7 (by simp) (by simp) (by simp)
 ·rw [show ((11:Int)==0)=false from rfl,cF,show ((11:Int)==1)=false from rfl,cF,show ((11:Int)==2)=false from rfl,cF,show ((11:Int)==3)=false from rfl,cF,show ((11:Int)==4)=false from rfl,cF,show ((11:Int)==5)=false from rfl,cF,show ((11:Int)==6)=false from rfl,cF,show ((11:Int)==7)=false from rfl,cF,show ((11:Int)==8)=false from rfl,cF,show ((11:Int)==9)=false from rfl,cF,show ((11:Int)==10)=false from rfl,cF,show ((11:Int)==11)=true from rfl,cT,show (decide (0≤0)&&decide (0<((([([105,53,59]:List UInt8)]:List (List UInt8))).length:Int)))=true from rfl,cT,show (([([105,53,59]:List UInt8)]:List (List UInt8))[0]?)=some ([105,53,59]:List UInt8) from rfl,bS,dR]
  exact d4 (t:=oV) (a:=1) (R:=([0,1,0]:List Int)) (D:=([2,1,0]:List Int)) (V:=([([105,53,59]:List UInt8)]:List (List UInt8)).set 0 [110]) hk' C2 (by simp) (by simp) (by simp)
 ·rw [show ((12:Int)==0)=false from rfl,cF,show ((12:Int)==1)=false from rfl,cF,show ((12:Int)==2)=false from rfl,cF,show ((12:Int)==3)=false from rfl,cF,show ((12:Int)==4)=false from rfl,cF,show ((12:Int)==5)=false from rfl,cF,show ((12:Int)==6)=false from rfl,cF,show ((12:Int)==7)=false from rfl,cF,show ((12:Int)==8)=false from rfl,cF,show ((12:Int)==9)=false from rfl,cF,show ((12:Int)==10)=false from rfl,cF,show ((12:Int)==11)=false from rfl,cF,show ((12:Int)==12)=true from rfl,cT,show (decide (0≤0)&&decide (0<((([([105,53,59]:List UInt8)]:List (List UInt8))).length:Int)))=true from rfl,cT,show (([([105,53,59]:List UInt8)]:List (List UInt8))[0]?)=some ([105,53,59]:List UInt8) from rfl,bS,dR]
  exact d4 (t:=oV) (a:=1) (R:=([0,1,0]:List Int)) (D:=([2,1,0]:List Int)) (V:=([([105,53,59]:List UInt8)]:List (List UInt8)).set 0 [116]) hk' C6 (by simp) (by simp) (by simp)
 ·have hl:(List.replicate (4096+d).toNat (0:Int)).length≤6000:=by rw [List.length_replicate];omega
  have:=d4 (k:=k) (t:=oV) (a:=1) (R:=List.replicate (4096+d).toNat (0:Int)) (D:=List.replicate (4096+d).toNat (0:Int)) (V:=[]) hk' (xW (by simp only [List.length_replicate];omega)) hl hl (by decide)
  have hc:((4096+d==4096+d)&&(decide (0≤4096+d)&&decide ((4096+d)*8≤140737488355328)))=true:=by
   simp;omega
  rw [show ((13:Int)==0)=false from rfl,cF,show ((13:Int)==1)=false from rfl,cF,show ((13:Int)==2)=false from rfl,cF,show ((13:Int)==3)=false from rfl,cF,show ((13:Int)==4)=false from rfl,cF,show ((13:Int)==5)=false from rfl,cF,show ((13:Int)==6)=false from rfl,cF,show ((13:Int)==7)=false from rfl,cF,show ((13:Int)==8)=false from rfl,cF,show ((13:Int)==9)=false from rfl,cF,show ((13:Int)==10)=false from rfl,cF,show ((13:Int)==11)=false from rfl,cF,show ((13:Int)==12)=false from rfl,cF,hc,cT,dR]
  exact this
end Go.Proofs.YtjkokaockhecnaaGreatDoorP
