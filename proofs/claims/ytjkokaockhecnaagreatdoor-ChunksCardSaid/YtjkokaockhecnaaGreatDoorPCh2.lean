/- Chunks: how a column is cut in pages, and joined; no condition but the sizes that a machine has. The laws ChunkBack, ChunkAny; no condition but the sizes that a machine has. -/
import Derived.Test.YtjkokaockhecnaaGreatDoorPPgB
namespace Go.Proofs.YtjkokaockhecnaaGreatDoorP
open Go Go.Proofs.YtjkokaockhecnaaGreatDoorA
def dx (K:Nat):Nat→List Int→Nat
 |_,[]=>0
 |seen,x :: xs=>if x=0 then (if seen=K then 0 else dx K (seen+1) xs+1) else dx K seen xs+1
theorem yM (K:Nat):∀(seen:Nat) (xs:List Int),dx K seen xs≤xs.length
 |_,[]=>Nat.le_refl _
 |seen,x :: xs=>by
  have h1:=yM K (seen+1) xs
  have h2:=yM K seen xs
  simp only [dx,List.length_cons]
  split
  ·split<;>omega
  ·omega
theorem jN (one x:Int)(xs:List Int):fw one (x :: xs)=fw one xs+(if x=one then 1 else 0):=by
 unfold fw
 rw [List.countP_cons]
 by_cases h:x=one<;>simp [h]
theorem vN (K:Nat):∀(seen:Nat) (xs:List Int),seen≤K→(dx K seen xs=xs.length∧seen+fw 0 xs≤K)∨(∃ys,xs.drop (dx K seen xs)=0 :: ys∧seen+fw 0 (xs.take (dx K seen xs))=K)
 |seen,[],h=>.inl ⟨rfl,by unfold fw;simpa using h⟩
 |seen,x :: xs,h=>by
  simp only [dx]
  by_cases hx:x=0
  ·subst hx
   rw [if_pos rfl]
   by_cases hs:seen=K
   ·rw [if_pos hs]
    exact .inr ⟨xs,rfl,by unfold fw;simpa using hs⟩
   ·rw [if_neg hs]
    rcases vN K (seen+1) xs (by omega) with ⟨h1,h2⟩|⟨ys,h1,h2⟩
    ·exact .inl ⟨by rw [h1,List.length_cons],by rw [jN,if_pos rfl];omega⟩
    ·exact .inr ⟨ys,by rw [List.drop_succ_cons];exact h1,by rw [List.take_succ_cons,jN,if_pos rfl];omega⟩
  ·rw [if_neg hx]
   rcases vN K seen xs h with ⟨h1,h2⟩|⟨ys,h1,h2⟩
   ·exact .inl ⟨by rw [h1,List.length_cons],by rw [jN,if_neg hx];omega⟩
   ·exact .inr ⟨ys,by rw [List.drop_succ_cons];exact h1,by rw [List.take_succ_cons,jN,if_neg hx];omega⟩
theorem A7 {k:Nat}{R D:List Int}{V:List (List UInt8)}{K:Nat}{one:Int}(hRD:R.length=D.length)(hl:R.length≤4096):∀(d i n seen:Nat),i+d=R.length→d+1≤n→seen≤i→
  cd.l0 aG k n R D V (K:Int) one (seen:Int) ((fw one (D.take i):Nat):Int) (R.length:Int) (i:Int)=some (((i+dx K seen (R.drop i):Nat):Int),((fw one (D.take (i+dx K seen (R.drop i))):Nat):Int))
 |0,i,n,seen,hi,hn,hs=>by
  obtain ⟨n,rfl⟩:∃q,n=q+1:=⟨n - 1,by omega⟩
  rw [cd.l0_eq,dF (by omega),cF,List.drop_eq_nil_of_le (by omega)]
  simp only [dx,Nat.add_zero]
  have:i=R.length:=by omega
  rw [this]
 |d+1,i,n,seen,hi,hn,hs=>by
  obtain ⟨n,rfl⟩:∃q,n=q+1:=⟨n - 1,by omega⟩
  have hiR:i<R.length:=by omega
  have hiD:i<D.length:=by omega
  have hc:=jW one (D.take i)
  rw [List.length_take] at hc
  have hj:∀s:Nat,s≤i+1→cd.j9 aG k n R D V (K:Int) one (s:Int) ((fw one (D.take i):Nat):Int) (i:Int) (R.length:Int)=cd.l0 aG k n R D V (K:Int) one (s:Int) ((fw one (D.take (i+1)):Nat):Int) (R.length:Int) ((i+1:Nat):Int):=by
   intro s _
   rw [cd.j9_eq,aL hiD,bS,nc one hiD,bb (i:=i) (by omega)]
   cases (D[i]==one)
   ·rw [cF,if_neg (by simp)];rfl
   ·rw [cT,bb (by omega),if_pos rfl]
  rw [cd.l0_eq,dT (by omega),cT,aL hiR,bS,List.drop_eq_getElem_cons hiR]
  simp only [dx]
  by_cases hx:R[i]=0
  ·rw [hx,show ((0:Int)==0)=true from rfl,cT,if_pos rfl]
   by_cases hsK:seen=K
   ·rw [hsK,show (((K:Int))==(K:Int))=true by simp,cT,if_pos rfl,Nat.add_zero]
   ·rw [show (((seen:Int))==(K:Int))=false by rw [beq_eq_false_iff_ne];omega,cF,if_neg hsK,bb (by omega),fH]
    rw [hj (seen+1) (by omega),A7 hRD hl d (i+1) n (seen+1) (by omega) (by omega) (by omega),show i+1+dx K (seen+1) (R.drop (i+1))=i+(dx K (seen+1) (R.drop (i+1))+1) by omega]
  ·rw [show (R[i]==0)=false by rw [beq_eq_false_iff_ne];exact hx,cF,if_neg hx,fH]
   rw [hj seen (by omega),A7 hRD hl d (i+1) n seen (by omega) (by omega) (by omega),show i+1+dx K seen (R.drop (i+1))=i+(dx K seen (R.drop (i+1))+1) by omega]
theorem A4 {k:Nat}{c:Col}{K:Nat}{one:Int}(hk:5000≤k)(hRD:c.reps.length=c.defs.length)(hl:c.reps.length≤4096):
  cd.f aG k c (K:Int) one=some (((dx K 0 c.reps:Nat):Int),((fw one (c.defs.take (dx K 0 c.reps)):Nat):Int)):=by
 obtain ⟨k,rfl⟩:∃q,k=q+1:=⟨k - 1,by omega⟩
 have:=A7 (k:=k) (R:=c.reps) (D:=c.defs) (V:=c.values) (K:=K) (one:=one) hRD hl c.reps.length 0 k 0 (by omega) (by omega) (by omega)
 simp only [List.take_zero,List.drop_zero,Nat.zero_add] at this
 rw [cd.f_eq]
 exact this
structure rT (t:List aT)(a:Int)(K:Nat)(c:Col)(cs:List Col):Prop where
 may:∀d∈cs,cj t a d=true
 hd:∀d∈cs,∃xs,d.reps=0 :: xs
 reps:(cs.map Col.reps).flatten=c.reps
 defs:(cs.map Col.defs).flatten=c.defs
 values:(cs.map Col.values).flatten=c.values
 num:cs.length=(fw 0 c.reps+K - 1) / K
theorem qi {most:Int}{xs:List Int}(h:yV most xs=true)(n:Nat):yV most (xs.take n)=true∧yV most (xs.drop n)=true:=by
 unfold yV at*
 rw [List.all_eq_true] at*
 simp only [List.all_eq_true]
 exact ⟨fun x hx=>h x (List.mem_of_mem_take hx),fun x hx=>h x (List.mem_of_mem_drop hx)⟩
theorem rJ (one:Int)(xs:List Int)(n:Nat):fw one xs=fw one (xs.take n)+fw one (xs.drop n):=by
 unfold fw
 rw [←List.countP_append,List.take_append_drop]
theorem wT {t:List aT}{a:Int}{c:Col}(h:cj t a c=true){R D:List Int}{V:List (List UInt8)}(h1:R.length=D.length)(h2:R.length≤4096)(h3:yV (bg t a).1 R=true)(h4:yV (bg t a).2.1 D=true)(h5:∀v∈V,v∈c.values)(h6:V.length=fw (bg t a).2.1 D):
  cj t a ⟨R,D,V⟩=true:=by
 have h0:=h
 unfold cj at h ⊢
 simp only [Bool.and_eq_true,decide_eq_true_eq,List.all_eq_true] at h ⊢
 obtain ⟨p,q1,q2,q3,q4,q5,q6⟩:=h
 exact ⟨p,h1,h2,h3,h4,fun v hv=>q5 v (h5 v hv),h6⟩
theorem Br {t:List aT}{a:Int}{c:Col}(h:cj t a c=true){n:Nat}(hn:n≤c.reps.length):
  cj t a ⟨c.reps.take n,c.defs.take n,c.values.take (fw (bg t a).2.1 (c.defs.take n))⟩=true∧cj t a ⟨c.reps.drop n,c.defs.drop n,c.values.drop (fw (bg t a).2.1 (c.defs.take n))⟩=true∧fw (bg t a).2.1 (c.defs.take n)≤c.values.length:=by
 obtain ⟨i,_,_,_,_,_,h1,h2,h3,h4,h5,h6⟩:=bR h
 have hs:=rJ (bg t a).2.1 c.defs n
 refine ⟨wT h ?_ ?_ (qi h3 n).1 (qi h4 n).1 (fun v hv=>List.mem_of_mem_take hv) ?_,wT h ?_ ?_ (qi h3 n).2 (qi h4 n).2 (fun v hv=>List.mem_of_mem_drop hv) ?_,by omega⟩
 ·simp only [List.length_take];omega
 ·simp only [List.length_take];omega
 ·simp only [List.length_take];omega
 ·simp only [List.length_drop];omega
 ·simp only [List.length_drop];omega
 ·simp only [List.length_drop];omega
def ej (one:Int)(K:Nat):Nat→Col→List Col
 |0,_=>[]
 |f+1,c=>if c.reps=[] then [] else
  ⟨c.reps.take (dx K 0 c.reps),c.defs.take (dx K 0 c.reps),c.values.take (fw one (c.defs.take (dx K 0 c.reps)))⟩ :: ej one K f ⟨c.reps.drop (dx K 0 c.reps),c.defs.drop (dx K 0 c.reps),c.values.drop (fw one (c.defs.take (dx K 0 c.reps)))⟩
theorem AO {k:Nat}{t:List aT}{a:Int}{K:Nat}(hK:1≤K)(hk:1300000≤k):∀(m:Nat) (c:Col) (out:List (List UInt8)) (n:Nat),c.reps.length≤m→cj t a c=true→(∀x xs,c.reps=x :: xs→x=0)→m+1≤n→out.length+m≤100000→
  ∃cs,cs=ej (bg t a).2.1 K m c∧rT t a K c cs∧bC.l0 aG k n a (K:Int) (bg t a).2.1 t c.reps c.defs c.values out=some (out++cs.map (fun d=>(dy t a d).1),0):=by
 intro m
 induction m with
 |zero=>
  intro c out n hm hc _ hn _
  obtain ⟨n,rfl⟩:∃q,n=q+1:=⟨n - 1,by omega⟩
  obtain ⟨i,_,_,_,_,_,h1,h2,h3,h4,h5,h6⟩:=bR hc
  have e1:c.reps=[]:=List.length_eq_zero_iff.1 (by omega)
  have e2:c.defs=[]:=List.length_eq_zero_iff.1 (by omega)
  have e3:c.values=[]:=List.length_eq_zero_iff.1 (by rw [h6,e2];rfl)
  refine ⟨[],rfl,⟨fun d h=>by simp at h,fun d h=>by simp at h,by rw [e1];rfl,by rw [e2];rfl,by rw [e3];rfl,by rw [e1];simp only [List.length_nil,fw,List.countP_nil];exact (Nat.div_eq_of_lt (by omega)).symm⟩,?_⟩
  rw [bC.l0_eq,e1,dF (by simp),cF,List.map_nil,List.append_nil]
 |succ m ih=>
  intro c out n hm hc h0 hn ho
  obtain ⟨n,rfl⟩:∃q,n=q+1:=⟨n - 1,by omega⟩
  obtain ⟨i,_,_,_,_,_,h1,h2,h3,h4,h5,h6⟩:=bR hc
  cases hR:c.reps with
  |nil=>
   have e2:c.defs=[]:=List.length_eq_zero_iff.1 (by rw [←h1,hR];rfl)
   have e3:c.values=[]:=List.length_eq_zero_iff.1 (by rw [h6,e2];rfl)
   refine ⟨[],by rw [ej,if_pos hR],⟨fun d h=>by simp at h,fun d h=>by simp at h,by rw [hR];rfl,by rw [e2];rfl,by rw [e3];rfl,by rw [hR];simp only [List.length_nil,fw,List.countP_nil];exact (Nat.div_eq_of_lt (by omega)).symm⟩,?_⟩
   rw [bC.l0_eq,dF (by simp),cF,List.map_nil,List.append_nil]
  |cons x xs=>
   have hx:=h0 x xs hR
   subst hx
   rw [←hR]
   have hpf:ej (bg t a).2.1 K (m+1) c=⟨c.reps.take (dx K 0 c.reps),c.defs.take (dx K 0 c.reps),c.values.take (fw (bg t a).2.1 (c.defs.take (dx K 0 c.reps)))⟩ :: ej (bg t a).2.1 K m ⟨c.reps.drop (dx K 0 c.reps),c.defs.drop (dx K 0 c.reps),c.values.drop (fw (bg t a).2.1 (c.defs.take (dx K 0 c.reps)))⟩:=by rw [ej,if_neg (by rw [hR];simp)]
   have hpos:1≤dx K 0 c.reps:=by
    rw [hR]
    simp only [dx,if_true]
    rw [if_neg (by omega)];omega
   have hle:=yM K 0 c.reps
   have hcc:=vN K 0 c.reps (by omega)
   have hlen:0<c.reps.length:=by rw [hR];simp
   obtain ⟨m1,m2,m3⟩:=Br hc hle
   have hcut:=A4 (k:=k) (c:=⟨c.reps,c.defs,c.values⟩) (K:=K) (one:=(bg t a).2.1) (by omega) h1 h2
   simp only at hcut
   generalize dx K 0 c.reps=N at hpos hle hcc m1 m2 m3 hcut hpf
   generalize fw (bg t a).2.1 (c.defs.take N)=M at m1 m2 m3 hcut hpf
   have hvl:=fg hc
   have h0':∀x xs,(⟨c.reps.drop N,c.defs.drop N,c.values.drop M⟩:Col).reps=x :: xs→x=0:=by
    intro x xs e
    simp only at e
    rcases hcc with ⟨q1,_⟩|⟨ys,q1,_⟩
    ·rw [List.drop_eq_nil_of_le (by omega)] at e;cases e
    ·rw [q1] at e;cases e;rfl
   obtain ⟨cs,hcsf,hp,hrun⟩:=ih ⟨c.reps.drop N,c.defs.drop N,c.values.drop M⟩ (out++[(dy t a ⟨c.reps.take N,c.defs.take N,c.values.take M⟩).1]) n (by simp only [List.length_drop];omega) m2 h0' (by omega) (by simp only [List.length_append,List.length_cons,List.length_nil];omega)
   refine ⟨⟨c.reps.take N,c.defs.take N,c.values.take M⟩ :: cs,by rw [hpf,hcsf],⟨?_,?_,?_,?_,?_,?_⟩,?_⟩
   ·intro d hd
    rcases List.mem_cons.mp hd with rfl|hd
    ·exact m1
    ·exact hp.may d hd
   ·intro d hd
    rcases List.mem_cons.mp hd with rfl|hd
    ·refine ⟨xs.take (N - 1),?_⟩
     obtain ⟨N',rfl⟩:∃q,N=q+1:=⟨N - 1,by omega⟩
     simp only [hR,List.take_succ_cons,Nat.add_sub_cancel]
    ·exact hp.hd d hd
   ·rw [List.map_cons,List.flatten_cons,hp.reps];exact List.take_append_drop _ _
   ·rw [List.map_cons,List.flatten_cons,hp.defs];exact List.take_append_drop _ _
   ·rw [List.map_cons,List.flatten_cons,hp.values];exact List.take_append_drop _ _
   ·rw [List.length_cons,hp.num]
    simp only
    have hs:=rJ 0 c.reps N
    have h1c:1≤fw 0 c.reps:=by rw [hR,jN,if_pos rfl];omega
    rcases hcc with ⟨q1,q2⟩|⟨ys,q1,q2⟩
    ·rw [List.drop_eq_nil_of_le (by omega)]
     rw [show fw 0 ([]:List Int)=0 from rfl,Nat.div_eq_of_lt (show 0+K - 1<K by omega)]
     have:(fw 0 c.reps+K - 1) / K=1:=by
      rw [Nat.div_eq_iff (by omega)]
      omega
     rw [this]
    ·rw [hs,show fw 0 (c.reps.take N)+fw 0 (c.reps.drop N)+K - 1=fw 0 (c.reps.drop N)+K - 1+K by omega,Nat.add_div_right _ (by omega)]
   ·rw [bC.l0_eq,dT (by omega),cT,hcut,bS]
    simp only
    rw [dT (show (0:Int)≤((N:Nat):Int) by omega),dT (show ((N:Nat):Int)≤((c.reps.length:Nat):Int) by omega),dT (show ((N:Nat):Int)≤((c.defs.length:Nat):Int) by omega),dT (show (0:Int)≤((M:Nat):Int) by omega),dT (show ((M:Nat):Int)≤((c.values.length:Nat):Int) by omega)]
    simp only [Bool.and_self,cT,Int.toNat_natCast,List.drop_zero,List.take_length]
    rw [tg (by simp only [List.length_take];omega) (by simp only [List.length_take];omega) (by simp only [List.length_take];omega),bS,dT (by simp only [List.length_cons,List.length_nil];omega),cT]
    refine hrun.trans ?_
    rw [List.map_cons,List.append_assoc];rfl
theorem AD {k:Nat}{t:List aT}{a:Int}{c:Col}{K:Nat}(hk:1400000+c.values.length≤k)(hl:c.values.length≤20000000000000)(hd:c.reps.length≤20000000000000∧c.defs.length≤20000000000000)(hK:1≤K):
  (bC.f aG k t a c (K:Int)=some ([],2300)∧¬(cj t a c=true∧∀x xs,c.reps=x :: xs→x=0))∨
  (cj t a c=true∧(∀x xs,c.reps=x :: xs→x=0)∧∃cs,cs=ej (bg t a).2.1 K c.reps.length c∧rT t a K c cs∧bC.f aG k t a c (K:Int)=some (cs.map (fun d=>(dy t a d).1),0)):=by
 obtain ⟨k,rfl⟩:∃q,k=q+1:=⟨k - 1,by omega⟩
 rw [bC.f_eq,kw (by omega) hl hd,bS]
 cases hm:cj t a c with
 |false=>exact .inl ⟨rfl,fun h=>by cases h.1⟩
 |true=>
  obtain ⟨i,_,_,_,_,_,h1,h2,h3,h4,h5,h6⟩:=bR hm
  rw [Bool.not_true,Bool.not_false,cT,dF (show¬((K:Int)<1) by omega),Bool.not_false,cT]
  have key:(∀x xs,c.reps=x :: xs→x=0)→∃cs,cs=ej (bg t a).2.1 K c.reps.length c∧rT t a K c cs∧((bz.f aG k t a).bind fun r=>bC.l0 aG k k a (K:Int) r.2.1 t c.reps c.defs c.values [])=some (cs.map (fun d=>(dy t a d).1),0):=by
   intro h0
   obtain ⟨cs,hcsf,hp,hrun⟩:=AO (k:=k) (t:=t) (a:=a) hK (by omega) c.reps.length c [] k (Nat.le_refl _) hm h0 (by omega) (by simp;omega)
   refine ⟨cs,hcsf,hp,?_⟩
   rw [fB (by omega),bS]
   exact hrun
  cases hR:c.reps with
  |nil=>
   rw [hR] at key
   obtain ⟨cs,hcsf,hp,hrun⟩:=key (fun x xs e=>by cases e)
   refine .inr ⟨rfl,fun x xs e=>(by cases e),cs,hcsf,hp,?_⟩
   rw [dF (by simp),cF]
   exact hrun
  |cons x xs=>
   rw [hR] at key
   rw [dT (by simp),cT,show rd (x :: xs) 0=some x from rfl,bS]
   by_cases hx:x=0
   ·subst hx
    obtain ⟨cs,hcsf,hp,hrun⟩:=key (fun x xs e=>by cases e;rfl)
    refine .inr ⟨rfl,fun x xs e=>(by cases e;rfl),cs,hcsf,hp,?_⟩
    rw [show ((0:Int) != 0)=false from rfl,cF]
    exact hrun
   ·rw [show (x != 0)=true by rw [bne_iff_ne];exact hx,cT]
    exact .inl ⟨rfl,fun h=>hx (h.2 x xs rfl)⟩
theorem BR {k:Nat}{t:List aT}{a:Int}(hk:1700000≤k){is:Bool}{cs:List Col}(hm:∀d∈cs,cj t a d=true)(hh:∀d∈cs,∃xs,d.reps=0 :: xs)(hcs:cs.length≤100000)(hl:((cs.map Col.reps).flatten).length≤4096):
  ∀(d i n:Nat),i+d=cs.length→d+1≤n→
  bm.l0 aG k n a is (cs.map fun d=>(dy t a d).1) (cs.length:Int) (i:Int) t (((cs.take i).map Col.reps).flatten) (((cs.take i).map Col.defs).flatten) (((cs.take i).map Col.values).flatten)=
   some (if is then ((((cs.map Col.reps).flatten),((cs.map Col.defs).flatten),((cs.map Col.values).flatten)),0) else (q9,2300)):=by
 intro d
 induction d with
 |zero=>
  intro i n hi hn
  obtain ⟨n,rfl⟩:∃q,n=q+1:=⟨n - 1,by omega⟩
  rw [bm.l0_eq,dF (by omega),cF,List.take_of_length_le (by omega)]
  cases is<;>rfl
 |succ d ih=>
  intro i n hi hn
  obtain ⟨n,rfl⟩:∃q,n=q+1:=⟨n - 1,by omega⟩
  have hic:i<cs.length:=by omega
  have hmi:=hm _ (List.getElem_mem hic)
  obtain ⟨xs,hx⟩:=hh _ (List.getElem_mem hic)
  obtain ⟨_,_,_,_,_,_,h1,h2,_⟩:=bR hmi
  have hvl:=fg hmi
  have e:cs.take (i+1)=cs.take i++[cs[i]]:=List.take_succ_eq_append_getElem hic
  have ihr:=ih (i+1) n (by omega) (by omega)
  have hsum:(((cs.take i).map Col.reps).flatten).length+cs[i].reps.length≤4096:=by
   have h3:(((cs.take (i+1)).map Col.reps).flatten).length≤((cs.map Col.reps).flatten).length:=by
    conv=>rhs;rw [←List.take_append_drop (i+1) cs]
    rw [List.map_append,List.flatten_append,List.length_append];omega
   rw [e,List.map_append,List.flatten_append,List.length_append] at h3
   simp only [List.map_cons,List.map_nil,List.flatten_cons,List.flatten_nil,List.append_nil] at h3
   omega
  have hdl:(((cs.take i).map Col.defs).flatten).length=(((cs.take i).map Col.reps).flatten).length∧(((cs.take i).map Col.values).flatten).length≤(((cs.take i).map Col.reps).flatten).length:=by
   have:∀l:List Col,(∀d∈l,cj t a d=true)→((l.map Col.defs).flatten).length=((l.map Col.reps).flatten).length∧((l.map Col.values).flatten).length≤((l.map Col.reps).flatten).length:=by
    intro l
    induction l with
    |nil=>intro _;simp
    |cons x l ih2=>
     intro h
     have h3:=ih2 fun d hd=>h d (List.mem_cons_of_mem _ hd)
     obtain ⟨_,_,_,_,_,_,q1,_,_,_,_,q6⟩:=bR (h x List.mem_cons_self)
     have q7:=jW (bg t a).2.1 x.defs
     simp only [List.map_cons,List.flatten_cons,List.length_append]
     omega
   exact this _ fun d hd=>hm d (List.mem_of_mem_take hd)
  rw [e] at ihr
  simp only [List.map_append,List.flatten_append,List.map_cons,List.map_nil,List.flatten_cons,List.flatten_nil,List.append_nil] at ihr
  have hrd:rd (cs.map fun d=>(dy t a d).1) (i:Int)=some (dy t a cs[i]).1:=by
   rw [aL (by rw [List.length_map];exact hic),List.getElem_map]
  have hg:b6.f aG k t a (dy t a cs[i]).1=some ((cs[i].reps,cs[i].defs,cs[i].values),0):=Aj (by omega) hmi
  rw [bm.l0_eq,dT (by omega),cT,hrd,bS,hg,bS]
  simp only
  rw [show ((0:Int) != 0)=false from rfl,Bool.not_false,cT,show (((cs[i].reps.length:Nat):Int)==0)=false by rw [beq_eq_false_iff_ne,hx];simp;omega,Bool.not_false,cT,show (decide (0≤0)&&decide (0<((cs[i].reps.length:Nat):Int)))=true by rw [hx];simp,cT,
   show cs[i].reps[0]?=some 0 by rw [hx];rfl,bS,show ((0:Int) != 0)=false from rfl,Bool.not_false,cT,aP _ (by omega),dF (by omega),cF,dT (by omega),cT,dT (by omega),cT,dT (by omega),cT,bb (by omega)]
  exact ihr
theorem IA {k:Nat}{t:List aT}{a:Int}{K:Nat}{c:Col}{cs:List Col}(hk:1800000≤k)(hm:cj t a c=true)(hp:rT t a K c cs)(hcs:cs.length≤100000):bm.f aG k t a (cs.map fun d=>(dy t a d).1)=some (iE c,0):=by
 obtain ⟨k,rfl⟩:∃q,k=q+1:=⟨k - 1,by omega⟩
 obtain ⟨i,rfl,_,_,hn,hin,h1,h2,_⟩:=bR hm
 have:=BR (k:=k) (t:=t) (a:=(i:Int)) (by omega) (is:=true) hp.may hp.hd hcs (by rw [hp.reps];exact h2) cs.length 0 k (by omega) (by omega)
 rw [bm.f_eq,jB (by omega),bS,Int.toNat_natCast,hn,hin,Bool.not_false,Bool.and_self,List.length_map]
 rw [hp.reps,hp.defs,hp.values] at this
 exact this
end Go.Proofs.YtjkokaockhecnaaGreatDoorP

namespace Go.Proofs.YtjkokaockhecnaaGreatDoorP
open Go Go.Proofs.YtjkokaockhecnaaGreatDoorA
def mz:List aT:=[aT.mk 0 (-1) true]
def qz:Col:=Col.mk [0,0,0] [1,0,1] [[105,53,59],[105,54,59]]
theorem LL:cj mz 0 qz=true:=by
 have h:eg.f aG 200000 mz 0 qz=some true:=by kernel_rfl
 rw [kw (by decide) (by decide) (by decide)] at h
 exact Option.some.inj h
theorem NF {k:Nat}(hk:1≤k):cz.f aG k=some mz:=by
 obtain ⟨k,rfl⟩:∃q,k=q+1:=⟨k - 1,by omega⟩
 rw [cz.f_eq];rfl
theorem va {k:Nat}{t:List aT}{a:Int}{c:Col}{lim:Int}(hk:1400000+c.values.length≤k)(hl:c.values.length≤20000000000000)(hd:c.reps.length≤20000000000000∧c.defs.length≤20000000000000)(hlim:lim<1):bC.f aG k t a c lim=some ([],2300):=by
 obtain ⟨k,rfl⟩:∃q,k=q+1:=⟨k - 1,by omega⟩
 rw [bC.f_eq,kw (by omega) hl hd,bS]
 cases cj t a c with
 |false=>rfl
 |true=>rw [Bool.not_true,Bool.not_false,cT,dT hlim];rfl
theorem F3 {k:Nat}(hk:32≤k):f7.f aG k mz 0=some true:=by rw [jB hk];rfl
theorem Is {k:Nat}(hk:2000000≤k):eE.f aG k=some true:=by
 obtain ⟨k,rfl⟩:∃q,k=q+1:=⟨k - 1,by omega⟩
 have e1:∃cs,rT mz 0 2 qz cs∧bC.f aG k mz 0 (Col.mk ([0,0,0]:List Int) ([1,0,1]:List Int) ([([105,53,59]:List UInt8),([105,54,59]:List UInt8)]:List (List UInt8))) 2=some (cs.map (fun d=>(dy mz 0 d).1),0):=by
  rcases AD (k:=k) (t:=mz) (a:=0) (c:=qz) (K:=2) (by show 1400000+2≤k;omega) (by decide) (by decide) (by omega) with ⟨_,h⟩|⟨_,_,cs,_,hp,h⟩
  ·exact absurd ⟨LL,fun x xs e=>by cases e;rfl⟩ h
  ·exact ⟨cs,hp,h⟩
 obtain ⟨cs,hp,e1⟩:=e1
 have hn:cs.length=2:=by rw [hp.num];rfl
 have e2:=IA (k:=k) (by omega) LL hp (by omega)
 have e3:bC.f aG k mz 0 (Col.mk ([0,0,0]:List Int) ([1,0,1]:List Int) ([([105,53,59]:List UInt8),([105,54,59]:List UInt8)]:List (List UInt8))) 0=some ([],2300):=
  va (c:=qz) (by show 1400000+2≤k;omega) (by decide) (by decide) (by omega)
 have e4:bm.f aG k mz 0 [[]]=some (q9,2300):=by
  obtain ⟨q,rfl⟩:∃q,k=q+2:=⟨k - 2,by omega⟩
  rw [bm.f_eq,F3 (by omega),bS,bm.l0_eq,dT (by simp),cT,show rd ([[]]:List (List UInt8)) 0=some [] from rfl,bS,zD (by omega) (by simp),bS]
  rfl
 have e5:bm.f aG k mz 0 []=some (([],[],[]),0):=by
  obtain ⟨q,rfl⟩:∃q,k=q+2:=⟨k - 2,by omega⟩
  rw [bm.f_eq,F3 (by omega),bS,bm.l0_eq,dF (by simp),cF]
  rfl
 have hi:=NF (show 1≤k by omega)
 rw [eE.f_eq,hi,bS,e1,bS]
 simp only [hi,bS,e2,e3,e4,e5,BS (show 1≤k by omega)]
 rw [show ((((cs.map fun d=>(dy mz 0 d).1).length:Nat):Int)==2)=true by rw [List.length_map,hn];rfl,cT,show ((0:Int)==0)=true from rfl,cT,
  show bF.f aG k (Col.mk ([0,0,0]:List Int) ([1,0,1]:List Int) ([([105,53,59]:List UInt8),([105,54,59]:List UInt8)]:List (List UInt8))) (Col.mk (iE qz).1 (iE qz).2.1 (iE qz).2.2)=some true from oh (c:=qz) (by show 3+3+2+5≤k;omega) (by decide),bS]
 simp only [show ((2300:Int)==2300)=true from rfl,cT]
 rw [oh (by show 0+0+0+5≤k;omega) (by decide),bS]
 rfl
end Go.Proofs.YtjkokaockhecnaaGreatDoorP
