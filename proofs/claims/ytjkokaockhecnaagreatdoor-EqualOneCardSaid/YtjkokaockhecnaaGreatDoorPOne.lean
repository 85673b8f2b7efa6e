/- What the functions below the laws answer, in plain lists and numbers; no condition but the sizes that a machine has. The law EqualOne; no condition. -/
import Derived.Test.YtjkokaockhecnaaGreatDoorPPg0
import Derived.Laws.BitsLemmas
import Derived.KernelRfl
namespace Go.Proofs.YtjkokaockhecnaaGreatDoorP
open Go Go.Proofs.YtjkokaockhecnaaGreatDoorA
def uH (s:List UInt8):Bool:=s != [110]
def de (ts:List (List UInt8)):List UInt8:=if ts.all uH then [] else ia (ts.map uH)
theorem Aj {k:Nat}{ts:List (List UInt8)}(hk:ts.length+5≤k)(hl:ts.length≤10000000000000):aQ.f aV k ts=some (de ts):=by
 obtain ⟨k,rfl⟩:∃q,k=q+1:=⟨k - 1,by omega⟩
 rw [aQ.f_eq]
 refine ck (F:=fun n i=>aQ.l0 aV k n ts ((ts.take i).all uH) (i:Int) ((ts.take i).map uH)) (N:=ts.length) ?_ ?_ k 0 (by omega) (by omega)
 ·intro n i hi
  have e1:(ts.take (i+1)).all uH=((ts.take i).all uH&&uH ts[i]):=by rw [List.take_succ_eq_append_getElem hi,List.all_append];simp
  have e2:(ts.take (i+1)).map uH=(ts.take i).map uH++[uH ts[i]]:=by rw [List.take_succ_eq_append_getElem hi,List.map_append];rfl
  rw [aQ.l0_eq,dT (by omega),cT,aE hi]
  simp only [bS]
  rw [dT (by rw [List.length_map,List.length_take];simp only [List.length_cons,List.length_nil];omega),cT,bM (by omega),e1,e2]
  cases (ts.take i).all uH<;>rfl
 ·intro n
  rw [aQ.l0_eq,dF (by omega),cF,List.take_length]
  unfold de
  cases ts.all uH with
  |true=>rfl
  |false=>
   rw [cF,sZ (by rw [List.length_map];omega) (by rw [List.length_map];omega),bS]
   rfl
theorem wC (ts:List (List UInt8)):(de ts).length≤(ts.length+7) / 8:=by
 unfold de
 split
 ·exact Nat.zero_le _
 ·rw [jz,List.length_map];exact Nat.le_refl _
theorem uq (ts:List (List UInt8)){i:Nat}(h:i<ts.length):eu (de ts) i=uH ts[i]:=by
 unfold de eu
 split
 ·rename_i ha
  have:=List.all_eq_true.1 ha ts[i] (List.getElem_mem h)
  rw [this];rfl
 ·rename_i ha
  have hne:(ia (ts.map uH)==[])=false:=by
   rw [beq_eq_false_iff_ne]
   intro e
   have:=congrArg List.length e
   rw [jz,List.length_map] at this
   simp only [List.length_nil] at this
   omega
  rw [hne,Bool.false_or,vO _ (by rw [List.length_map];exact h),List.getElem_map]
theorem kc (v:Vl):uH v.txt=(match v with|.n=>false|_=>true):=by
 cases v with
 |n=>rw [Vl.txt];rfl
 |i x=>rw [Vl.txt];rfl
 |b b=>rw [Vl.txt];cases b<;>rfl
 |s l=>rw [Vl.txt];rfl
 |l vs=>rw [Vl.txt];rfl
 |r vs=>rw [Vl.txt];rfl
def fy:Nat→List aI→Int→Vl
 |0,_,_=>.n
 |f+1,t,a=>if yj t a.toNat then .n else if bK t a.toNat=0 then .i 0 else if bK t a.toNat=1 then .b false else if bK t a.toNat=2 then .s [] else if bK t a.toNat=3 then .l [] else
   .r ((List.range (ag t a).length).map fun j=>fy f t (c9 t a j))
theorem jO:∀(f:Nat) {t:List aI}{a:Int},b9 t a=true→t.length - a.toNat<f→cz f t a (fy f t a)
 |0,_,_,_,h=>by omega
 |f+1,t,a,hn,hf=>by
  obtain ⟨hm,i,hi,rfl⟩:=bC hn
  rw [Int.toNat_natCast] at hf
  refine ⟨hn,?_⟩
  rw [Int.toNat_natCast]
  unfold fy
  rw [Int.toNat_natCast]
  cases hnul:yj t i with
  |true=>rw [if_pos rfl]
  |false=>
   rw [if_neg (by simp)]
   have hkb:=(((cZ t).1 hm).2.1 i hi).1
   unfold gI at hkb
   simp only [Bool.and_eq_true,decide_eq_true_eq] at hkb
   by_cases h0:bK t i=0
   ·rw [if_pos h0];exact ⟨h0,by unfold qh;omega⟩
   rw [if_neg h0]
   by_cases h1:bK t i=1
   ·rw [if_pos h1];exact h1
   rw [if_neg h1]
   by_cases h2:bK t i=2
   ·rw [if_pos h2];exact ⟨h2,by simp⟩
   rw [if_neg h2]
   by_cases h3:bK t i=3
   ·rw [if_pos h3];exact ⟨h3,by simp,fun w hw=>by cases hw⟩
   rw [if_neg h3]
   refine ⟨by omega,by rw [List.length_map,List.length_range],fun j hj=>?_⟩
   rw [List.getElem_map,List.getElem_range]
   rw [List.length_map,List.length_range] at hj
   obtain ⟨q,hq1,hq2,hq3⟩:=ij hm hj
   exact jO f (by rw [hq1];exact eR hm hq3) (by rw [hq1,Int.toNat_natCast];omega)
theorem sq:∀(f:Nat) (t:List aI) (a:Int),(fy f t a).txt.length≤4*wt t f a
 |0,t,a=>by unfold fy;rw [Vl.txt];simp [wt]
 |f+1,t,a=>by
  have hp:=Ap t (f+1) a
  unfold fy
  split
  ·rw [Vl.txt];simp only [List.length_cons,List.length_nil];omega
  split
  ·rw [Vl.txt,show (eI 0).length=3 from by decide+kernel];omega
  split
  ·rw [Vl.txt,show (ku false).length=1 from rfl];omega
  split
  ·rw [Vl.txt,show (dd []).length=3 from by decide+kernel];omega
  split
  ·rw [sQ,show (eo (([]:List Vl).map Vl.txt)).length=2 from rfl];omega
  ·rw [o9,List.map_map]
   unfold bH
   simp only [List.length_append,List.length_cons,List.length_nil]
   have h1:=ff (fun j=>(fy f t (c9 t a j)).txt) (List.range (ag t a).length)
   have h2:((List.range (ag t a).length).map fun j=>(fy f t (c9 t a j)).txt.length).sum≤((List.range (ag t a).length).map fun j=>4*wt t f (c9 t a j)).sum:=uk _ fun j _=>sq f t (c9 t a j)
   have h3:=qG (h:=fun b=>4*wt t f b) (ag t a)
   have h4:=tV (wt t f) 4 (ag t a)
   have h5:((List.range (ag t a).length).map fun j=>4*wt t f (c9 t a j)).sum=4*((ag t a).map (wt t f)).sum:=by rw [←h4,←h3];rfl
   have h6:(List.map (Vl.txt ∘ fun j=>fy f t (c9 t a j)) (List.range (ag t a).length)).flatten.length=((List.range (ag t a).length).map fun j=>(fy f t (c9 t a j)).txt.length).sum:=h1
   rw [h6]
   simp only [wt]
   omega
theorem wY {f:Nat}{t:List aI}{a:Int}(hn:b9 t a=true):(fy f t a).txt.length≤32:=by
 obtain ⟨hm,i,hi,rfl⟩:=bC hn
 have h1:=sq f t (i:Int)
 have h2:=Bi hm f hi
 omega
theorem yc:∀(f:Nat) {t:List aI}{a:Int},b9 t a=true→t.length - a.toNat<f→∀k,100+20*f≤k→aS.f aV k t a=some (fy f t a).txt
 |0,_,_,_,h,_,_=>by omega
 |f+1,t,a,hn,hf,k,hk=>by
  obtain ⟨hm,i,hi,rfl⟩:=bC hn
  rw [Int.toNat_natCast] at hf
  obtain ⟨k,rfl⟩:∃q,k=q+1:=⟨k - 1,by omega⟩
  unfold fy
  rw [aS.f_eq,aE hi]
  simp only [bS]
  rw [kt hi,bY hi,Int.toNat_natCast]
  cases hnul:yj t i with
  |true=>rw [if_pos rfl,Vl.txt,cT]
  |false=>
   rw [if_neg (by simp),cF]
   have hkb:=(((cZ t).1 hm).2.1 i hi).1
   unfold gI at hkb
   simp only [Bool.and_eq_true,decide_eq_true_eq] at hkb
   by_cases h0:bK t i=0
   ·rw [if_pos h0,h0,Vl.txt];rfl
   rw [if_neg h0,show (bK t i==0)=false by rw [beq_eq_false_iff_ne];exact h0,cF]
   by_cases h1:bK t i=1
   ·rw [if_pos h1,h1,Vl.txt];rfl
   rw [if_neg h1,show (bK t i==1)=false by rw [beq_eq_false_iff_ne];exact h1,cF]
   by_cases h2:bK t i=2
   ·rw [if_pos h2,h2,Vl.txt];rfl
   rw [if_neg h2,show (bK t i==2)=false by rw [beq_eq_false_iff_ne];exact h2,cF]
   by_cases h3:bK t i=3
   ·rw [if_pos h3,h3,Vl.txt];rfl
   rw [if_neg h3,show (bK t i==3)=false by rw [beq_eq_false_iff_ne];exact h3,cF,fg (by omega),bS]
   unfold kA
   rw [if_pos hn]
   have hkk:=cu t (i:Int) t.length
   have htl:=cw hm
   have hkl:(ag t (i:Int)).length≤8:=by unfold ag;omega
   have htxt:=sq (f+1) t (i:Int)
   have hw8:=Bi hm (f+1) hi
   unfold fy at htxt
   rw [Int.toNat_natCast,hnul,if_neg (by simp),if_neg h0,if_neg h1,if_neg h2,if_neg h3,o9,List.map_map] at htxt
   unfold bH at htxt
   simp only [List.length_append,List.length_cons,List.length_nil] at htxt
   have goal:aS.l1 aV k k 0 t (ag t (i:Int)) []=some (bH ((List.range (ag t (i:Int)).length).map fun j=>(fy f t (c9 t (i:Int) j)).txt)):=by
    refine ck (F:=fun n j=>aS.l1 aV k n (j:Int) t (ag t (i:Int)) ((List.range j).map fun j=>(fy f t (c9 t (i:Int) j)).txt)) (N:=(ag t (i:Int)).length) ?_ ?_ k 0 (by omega) (by omega)
    ·intro n j hj
     have hksj:=gm (t:=t) (a:=(i:Int)) hj
     obtain ⟨q,hq1,hq2,hq3⟩:=ij hm hj
     rw [aS.l1_eq,dT (by omega),cT,dT (by omega)]
     simp only [Bool.and_self,cT,Int.toNat_natCast]
     rw [hksj,bS,yc f (by rw [hq1];exact eR hm hq3) (by rw [hq1,Int.toNat_natCast];omega) k (by omega),bS,dT (by simp only [List.length_map,List.length_range,List.length_cons,List.length_nil];omega),cT,bM (by omega),List.range_succ,List.map_append]
     rfl
    ·intro n
     rw [aS.l1_eq,dF (by omega),cF,zc (by simp only [List.length_map,List.length_range];omega) (by
      have:(List.map (Vl.txt ∘ fun j=>fy f t (c9 t (i:Int) j)) (List.range (ag t (i:Int)).length)).flatten.length≤32:=by omega
      exact Nat.le_trans this (by decide)) (by simp only [List.length_map,List.length_range];omega),bS]
   simp only
   rw [goal,o9,List.map_map]
   rfl
def bj (L:List (List (List UInt8))):List aj:=L.map fun xs=>aj.sl .str true xs
theorem yr (L:List (List (List UInt8))):(bj L).length=L.length:=by unfold bj;rw [List.length_map]
theorem sO {L:List (List (List UInt8))}{j:Nat}(h:j<L.length):(bj L)[j]?=some (aj.sl .str true L[j]):=by unfold bj;rw [List.getElem?_map,List.getElem?_eq_getElem h];rfl
theorem nJ (b:Bool)(xs:List (List UInt8)):kD .str (aj.sl .str b xs)=some (b,xs):=by simp [kD]
theorem ba (d:Nat):∀L,killC d (bj L)=bj L
 |[]=>rfl
 |x :: L=>by
  have:=ba d L
  unfold bj at this ⊢
  rw [List.map_cons,killC,this];rfl
theorem k6 (d:Nat):∀L,bz d (bj L)=bj L
 |[]=>rfl
 |x :: L=>by
  have:=k6 d L
  unfold bj at this ⊢
  rw [List.map_cons,bz,this];rfl
theorem iE (s j:Nat):∀L,killCC s j (bj L)=bj L
 |[]=>rfl
 |x :: L=>by
  have:=iE s j L
  unfold bj at this ⊢
  rw [List.map_cons,killCC,this];rfl
theorem cP (L:List (List (List UInt8))):∀ds,bZ ds (bj L)=bj L
 |[]=>rfl
 |d :: ds=>by rw [bZ,ba,cP L ds]
theorem ti (b:Bool):∀L,fY b (bj L)=bj L
 |[]=>rfl
 |x :: L=>by
  have:=ti b L
  unfold bj at this ⊢
  rw [List.map_cons,fY,this,Bool.or_true]
theorem za (n:Nat):List.replicate n (aj.sl .str true ([]:List (List UInt8)))=bj (List.replicate n []):=by unfold bj;rw [List.map_replicate]
theorem mM (d:Nat)(c:aj):∀(l:List aj) (i:Nat),killC d (l.set i c)=(killC d l).set i (c.kill d)
 |[],_=>rfl
 |x :: l,0=>rfl
 |x :: l,i+1=>by rw [List.set_cons_succ,killC,killC,List.set_cons_succ,mM d c l i]
theorem tB (d:Nat)(L:List (List (List UInt8)))(i:Nat)(xs:List (List UInt8)):(killC d ((bj L).set i (.av .und))).set i (aj.sl .str true xs)=bj (L.set i xs):=by
 rw [mM,ba,List.set_set]
 unfold bj
 rw [List.map_set]
def wI:Vl→Int
 |.i x=>x
 |_=>0
def sP:Vl→Bool
 |.b c=>c
 |_=>false
def gK:Vl→List UInt8
 |.s y=>y
 |_=>[]
def cC:Vl→List Vl
 |.l vs=>vs
 |_=>[]
def ib (f:Nat)(t:List aI)(a:Int)(j:Nat):Vl→Vl
 |.r vs=>vs.getD j .n
 |_=>fy f t (c9 t a j)
def mR (g:Vl→Nat)(vs:List Vl)(j:Nat):Nat:=((vs.take j).map g).sum
theorem lm (g:Vl→Nat){vs:List Vl}{j:Nat}(h:j<vs.length):mR g vs (j+1)=mR g vs j+g vs[j]:=by
 unfold mR
 rw [List.take_succ_eq_append_getElem h,List.map_append,List.sum_append];simp
def fV (g:Vl→Nat)(vs:List Vl)(m:Nat):List UInt8:=((List.range m).map fun j=>w4 (mR g vs j:Int)).flatten
theorem ir (g:Vl→Nat)(vs:List Vl)(m:Nat):fV g vs (m+1)=fV g vs m++w4 (mR g vs m:Int):=by
 unfold fV;rw [List.range_succ,List.map_append,List.flatten_append];simp
theorem jI (g:Vl→Nat)(vs:List Vl):∀m,(fV g vs m).length=4*m
 |0=>rfl
 |m+1=>by rw [ir,List.length_append,jI g vs m,gR];omega
def jF (vs:List Vl):List UInt8:=(vs.map fun v=>w8 (wI v)).flatten
theorem su (l:List Vl)(v:Vl):jF (l++[v])=jF l++w8 (wI v):=by unfold jF;rw [List.map_append,List.flatten_append];simp
theorem lU:∀l:List Vl,(jF l).length=8*l.length
 |[]=>rfl
 |v :: l=>by
  have:=lU l
  unfold jF at this ⊢
  rw [List.map_cons,List.flatten_cons,List.length_append,this,lP,List.length_cons];omega
def kQ (vs:List Vl):List UInt8:=(vs.map gK).flatten
theorem wM (l:List Vl)(v:Vl):kQ (l++[v])=kQ l++gK v:=by unfold kQ;rw [List.map_append,List.flatten_append];simp
theorem lV (vs:List Vl)(j:Nat):(kQ (vs.take j)).length=mR (fun v=>(gK v).length) vs j:=by
 unfold kQ mR;rw [ff]
theorem gU (vs:List Vl)(j:Nat):((vs.take j).flatMap cC).length=mR (fun v=>(cC v).length) vs j:=by
 unfold mR;rw [List.length_flatMap]
def qj (B:Nat→Option aO):Nat→Option (List aO)
 |0=>some []
 |m+1=>(qj B m).bind fun l=>(B m).map fun x=>l++[x]
theorem sX {B:Nat→Option aO}{j:Nat}(h:B j=none):∀m,j<m→qj B m=none
 |0,hm=>by omega
 |m+1,hm=>by
  rw [qj]
  by_cases e:j=m
  ·subst e;rw [h];cases qj B j<;>rfl
  ·rw [sX h m (by omega)];rfl
theorem jm {B:Nat→Option aO}:∀(m:Nat) {l:List aO},qj B m=some l→l.length=m∧∀j (h:j<l.length),B j=some l[j]
 |0,l,h=>by cases h;exact ⟨rfl,fun j h=>by simp at h⟩
 |m+1,l,h=>by
  rw [qj] at h
  cases h1:qj B m with
  |none=>rw [h1] at h;cases h
  |some l0=>
   rw [h1,Option.bind_some] at h
   cases h2:B m with
   |none=>rw [h2] at h;cases h
   |some x=>
    rw [h2,Option.map_some] at h
    cases h
    obtain ⟨e1,e2⟩:=jm m h1
    refine ⟨by simp [e1],fun j hj=>?_⟩
    by_cases e:j<l0.length
    ·rw [List.getElem_append_left e];exact e2 j e
    ·simp only [List.length_append,List.length_singleton] at hj
     have:j=m:=by omega
     subst this
     rw [h2,List.getElem_append_right (by omega)];simp [e1]
def jx (n:Nat)(valid ends data:List UInt8)(ks:List aO):Option aO:=if data.length≤4096∧ends.length≤4096 then some (.mk 0 0 (n:Int) valid ends data ks) else none
def bV:Nat→List aI→Int→List Vl→Option aO
 |0,_,_,_=>none
 |f+1,t,a,vs=>if 64<vs.length then none else
  let v:=de (vs.map Vl.txt)
  if bK t a.toNat=0 then jx vs.length v [] (jF vs) []
  else if bK t a.toNat=1 then jx vs.length v [] (ia (vs.map sP)) []
  else if bK t a.toNat=2 then jx vs.length v (fV (fun v=>(gK v).length) vs (vs.length+1)) (kQ vs) []
  else if bK t a.toNat=3 then (qj (fun j=>bV f t (c9 t a j) (vs.flatMap cC)) (ag t a).length).bind fun ks=>jx vs.length v (fV (fun v=>(cC v).length) vs (vs.length+1)) [] ks
  else (qj (fun j=>bV f t (c9 t a j) (vs.map (ib f t a j))) (ag t a).length).bind fun ks=>jx vs.length v [] [] ks
def Fa (o:Option (aO×Bool))(B:Option aO):Prop:=∃A ok,o=some (A,ok)∧(match B with|some C=>A=C∧ok=true|none=>ok=false)
theorem Fa.shut {n:Nat}{v e d:List UInt8}{ks:List aO}:
  Fa (bif decide (((d.length:Nat):Int)≤4096) then some (aO.mk 0 0 (n:Int) v e d ks,decide (((e.length:Nat):Int)≤4096)) else some (aO.mk 0 0 (n:Int) v e d ks,false)) (jx n v e d ks):=by
 unfold jx
 by_cases hd:d.length≤4096
 ·rw [dT (by omega),cT]
  by_cases he:e.length≤4096
  ·rw [dT (by omega),if_pos ⟨hd,he⟩];exact ⟨_,_,rfl,rfl,rfl⟩
  ·rw [dF (by omega),if_neg (fun h=>he h.2)];exact ⟨_,_,rfl,rfl⟩
 ·rw [dF (by omega),cF,if_neg (fun h=>hd h.1)];exact ⟨_,_,rfl,rfl⟩
theorem yb {k:Nat}{t:List aI}{ks:List Int}{L:List (List (List UInt8))}(hL:L.length=ks.length)(hks:ks.length≤8){B:Nat→Option aO}(n0:Nat)(v e d:List UInt8)
  (hB:∀j (h:j<ks.length) (h':j<L.length),Fa (ab.f aV k t ks[j] L[j]) (B j)):
  ∀(c j n:Nat) (kids:List aO),j+c=ks.length→c+1≤n→qj B j=some kids→
   Fa (ab.l6 aV k n ks.length (j:Int) t (n0:Int) v e d kids (bj L) ks) ((qj B ks.length).bind fun ks=>jx n0 v e d ks)
 |0,j,n,kids,hj,hn,hs=>by
  obtain ⟨n,rfl⟩:∃q,n=q+1:=⟨n - 1,by omega⟩
  rw [ab.l6_eq,dF (by omega),cF,show ks.length=j by omega,hs,Option.bind_some]
  exact Fa.shut
 |c+1,j,n,kids,hj,hn,hs=>by
  obtain ⟨n,rfl⟩:∃q,n=q+1:=⟨n - 1,by omega⟩
  have hjk:j<ks.length:=by omega
  have hjL:j<L.length:=by omega
  obtain ⟨A,ok,hA,hA'⟩:=hB j hjk hjL
  have hlen:=(jm j hs).1
  rw [ab.l6_eq,dT (by omega),cT,dT (by omega)]
  simp only [Bool.and_self,cT,Int.toNat_natCast]
  rw [List.getElem?_eq_getElem hjk,bS,cP,sO hjL,bS,nJ,bS,cT,hA,bS]
  cases hBj:B j with
  |none=>
   rw [hBj] at hA'
   simp only at hA'
   rw [hA',Bool.not_false,cT,sX hBj ks.length hjk,Option.bind_none]
   exact ⟨_,_,rfl,rfl⟩
  |some C=>
   rw [hBj] at hA'
   obtain ⟨rfl,rfl⟩:=hA'
   rw [Bool.not_true,cF,aO.eta,dT (by simp only [List.length_cons,List.length_nil];omega),cT,bM (by omega),ba,ba,iE]
   exact yb hL hks n0 v e d hB c (j+1) n (kids++[A]) (by omega) (by omega) (by rw [qj,hs,Option.bind_some,hBj];rfl)
theorem CE {k:Nat}(hk:12≤k)(x:Int):bJ.f aV k x 4=some (w4 x):=by
 obtain ⟨m,rfl⟩:∃m,k=m+12:=⟨k - 12,by omega⟩
 exact HS m x
theorem Gp {k:Nat}(hk:12≤k)(x:Int):bJ.f aV k x 8=some (w8 x):=by
 obtain ⟨m,rfl⟩:∃m,k=m+12:=⟨k - 12,by omega⟩
 exact Hw m x
section
variable {f:Nat}{t:List aI}{i:Nat}{v:Vl}
theorem cz.k0 (h:cz (f+1) t (i:Int) v)(hk:bK t i=0):v=.n∨∃x,qh x∧v=.i x:=by
 have h:=h.2
 rw [Int.toNat_natCast] at h
 cases v with
 |n=>exact .inl rfl
 |i x=>exact .inr ⟨x,h.2,rfl⟩
 |b c=>simp only [hk] at h;cases h
 |s l=>simp only [hk] at h;cases h.1
 |l us=>simp only [hk] at h;cases h.1
 |r us=>simp only [hk] at h;cases h.1
theorem cz.k1 (h:cz (f+1) t (i:Int) v)(hk:bK t i=1):v=.n∨∃c,v=.b c:=by
 have h:=h.2
 rw [Int.toNat_natCast] at h
 cases v with
 |n=>exact .inl rfl
 |i x=>simp only [hk] at h;cases h.1
 |b c=>exact .inr ⟨c,rfl⟩
 |s l=>simp only [hk] at h;cases h.1
 |l us=>simp only [hk] at h;cases h.1
 |r us=>simp only [hk] at h;cases h.1
theorem cz.k2 (h:cz (f+1) t (i:Int) v)(hk:bK t i=2):v=.n∨∃y,y.length≤16∧v=.s y:=by
 have h:=h.2
 rw [Int.toNat_natCast] at h
 cases v with
 |n=>exact .inl rfl
 |i x=>simp only [hk] at h;cases h.1
 |b c=>simp only [hk] at h;cases h
 |s l=>exact .inr ⟨l,h.2,rfl⟩
 |l us=>simp only [hk] at h;cases h.1
 |r us=>simp only [hk] at h;cases h.1
theorem cz.k3 (h:cz (f+1) t (i:Int) v)(hk:bK t i=3):v=.n∨∃us,us.length≤64∧(∀w∈us,cz f t (c9 t (i:Int) 0) w)∧v=.l us:=by
 have h:=h.2
 rw [Int.toNat_natCast] at h
 cases v with
 |n=>exact .inl rfl
 |i x=>simp only [hk] at h;cases h.1
 |b c=>simp only [hk] at h;cases h
 |s l=>simp only [hk] at h;cases h.1
 |l us=>exact .inr ⟨us,h.2.1,h.2.2,rfl⟩
 |r us=>simp only [hk] at h;cases h.1
theorem cz.k4 (h:cz (f+1) t (i:Int) v)(hk:bK t i=4):v=.n∨∃us,us.length=(ag t (i:Int)).length∧(∀j (hj:j<us.length),cz f t (c9 t (i:Int) j) us[j])∧v=.r us:=by
 have h:=h.2
 rw [Int.toNat_natCast] at h
 cases v with
 |n=>exact .inl rfl
 |i x=>simp only [hk] at h;cases h.1
 |b c=>simp only [hk] at h;cases h
 |s l=>simp only [hk] at h;cases h.1
 |l us=>simp only [hk] at h;cases h.1
 |r us=>exact .inr ⟨us,h.2.1,h.2.2,rfl⟩
end
theorem gZ {α:Type}{l:List α}{i:Nat}(h:i<l.length):l.take (i+1)=l.take i++[l[i]]:=List.take_succ_eq_append_getElem h
theorem GP {f k:Nat}(hk:101000≤k){t:List aI}{i:Nat}(hi:i<t.length){vs:List Vl}(hvs:∀v∈vs,cz (f+1) t (i:Int) v∧v.txt.length≤65536)(hlen:vs.length≤64)(va:List UInt8)(L:List (List (List UInt8)))(ks:List Int)(hkd:bK t i=0):ab.l0 aV k k (i:Int) (vs.map Vl.txt) ks.length 0 t (vs.length:Int) va [] [] (bj L) ks []=
  ab.l6 aV k k ks.length 0 t (vs.length:Int) va [] (jF vs) [] (bj L) ks:=by
 refine ck (F:=fun n j=>ab.l0 aV k n (i:Int) (vs.map Vl.txt) ks.length (j:Int) t (vs.length:Int) va [] (jF (vs.take j)) (bj L) ks []) (N:=vs.length) ?_ ?_ k 0 (by omega) (by omega)
 ·intro n j hj
  obtain ⟨hT,hl⟩:=hvs vs[j] (List.getElem_mem hj)
  have hp:=hT.parts (k:=k) (by omega) hl
  have hil:(jF (vs.take j)).length=8*j:=by rw [lU,List.length_take,Nat.min_eq_left (by omega)]
  rcases hT.k0 hkd with e|⟨x,hx,e⟩
  ·have hp':ae.f aV k vs[j].txt=some (-1,[],0):=by rw [hp,e];rfl
   have en:wI vs[j]=0:=by rw [e];rfl
   rw [ab.l0_eq,dT (by rw [List.length_map];omega),cT,aE (by rw [List.length_map];exact hj),bS,List.getElem_map,hp',bS,aE hi,bS,bY hi,hkd,show ((0:Int)==0)=true from rfl,cT,gZ hj,su,bM (by omega),ba,cP,en]
   simp only
   rw [dF (by omega),cF,Gp (by omega),bS,dT (by rw [hil,lP];omega),cT]
  ·have hp':ae.f aV k vs[j].txt=some (0,[dw x],0):=by rw [hp,e];rfl
   have en:wI vs[j]=x:=by rw [e];rfl
   rw [ab.l0_eq,dT (by rw [List.length_map];omega),cT,aE (by rw [List.length_map];exact hj),bS,List.getElem_map,hp',bS,aE hi,bS,bY hi,hkd,show ((0:Int)==0)=true from rfl,cT,gZ hj,su,bM (by omega),ba,cP,en]
   simp only
   rw [dT (show (0:Int)≥0 by omega),cT,show (decide ((0:Nat)≤0)&&decide ((0:Int)<(([dw x]:List (List UInt8)).length:Int)))=true from rfl,cT,show ([dw x]:List (List UInt8))[0]?=some (dw x) from rfl,bS,lF (by omega) hx.1 hx.2,bS,Gp (by omega),bS,dT (by rw [hil,lP];omega),cT]
 ·intro n
  rw [ab.l0_eq,dF (by rw [List.length_map];omega),cF,aE hi,bS,bY hi,hkd,List.take_length]
  simp only [show ((0:Int)==1)=false from rfl,show ((0:Int)==2)=false from rfl,show ((0:Int)==3)=false from rfl,cF]
  show ab.j39 aV k _ _ _ _ _ _ _ _=_
  rw [ab.j39_eq]
theorem F5 {f k:Nat}(hk:101000≤k){t:List aI}{i:Nat}(hi:i<t.length){vs:List Vl}(hvs:∀v∈vs,cz (f+1) t (i:Int) v∧v.txt.length≤65536)(hlen:vs.length≤64)(va:List UInt8)(L:List (List (List UInt8)))(ks:List Int)(hkd:bK t i=1):ab.l0 aV k k (i:Int) (vs.map Vl.txt) ks.length 0 t (vs.length:Int) va [] [] (bj L) ks []=
  ab.l6 aV k k ks.length 0 t (vs.length:Int) va [] (ia (vs.map sP)) [] (bj L) ks:=by
 refine ck (F:=fun n j=>ab.l0 aV k n (i:Int) (vs.map Vl.txt) ks.length (j:Int) t (vs.length:Int) va [] [] (bj L) ks ((vs.take j).map sP)) (N:=vs.length) ?_ ?_ k 0 (by omega) (by omega)
 ·intro n j hj
  obtain ⟨hT,hl⟩:=hvs vs[j] (List.getElem_mem hj)
  have hp:=hT.parts (k:=k) (by omega) hl
  have ht:(vs[j].txt==[116])=sP vs[j]:=by
   rcases hT.k1 hkd with e|⟨c,e⟩
   ·rw [e,Vl.txt];rfl
   ·rw [e,Vl.txt];cases c<;>rfl
  rw [ab.l0_eq,dT (by rw [List.length_map];omega),cT,aE (by rw [List.length_map];exact hj)]
  simp only [bS]
  rw [List.getElem_map,hp,bS,aE hi,bS,bY hi,hkd,show ((1:Int)==0)=false from rfl,cF,show ((1:Int)==1)=true from rfl,cT,ht,dT (by simp only [List.length_map,List.length_take,List.length_cons,List.length_nil];omega),cT,gZ hj,List.map_append,bM (by omega),ba,ba,ba,ba]
  rfl
 ·intro n
  rw [ab.l0_eq,dF (by rw [List.length_map];omega),cF,aE hi,bS,bY hi,hkd,List.take_length,show ((1:Int)==1)=true from rfl,cT,sZ (by rw [List.length_map];omega) (by rw [List.length_map];omega),bS]
  show ab.j39 aV k _ _ _ _ _ _ _ _=_
  rw [ab.j39_eq]
theorem tu {f:Nat}{t:List aI}{i:Nat}{vs:List Vl}(hvs:∀v∈vs,cz (f+1) t (i:Int) v∧v.txt.length≤65536)(hkd:bK t i=2):∀j,j≤vs.length→mR (fun v=>(gK v).length) vs j≤16*j
 |0,_=>by simp [mR]
 |j+1,hj=>by
  have ih:=tu hvs hkd j (by omega)
  have hj':j<vs.length:=by omega
  rw [lm _ hj']
  have:(gK vs[j]).length≤16:=by
   rcases (hvs vs[j] (List.getElem_mem hj')).1.k2 hkd with e|⟨y,hy,e⟩
   ·rw [e];simp [gK]
   ·rw [e];exact hy
  omega
theorem GX {f k:Nat}(hk:101000≤k){t:List aI}{i:Nat}(hi:i<t.length){vs:List Vl}(hvs:∀v∈vs,cz (f+1) t (i:Int) v∧v.txt.length≤65536)(hlen:vs.length≤64)(va:List UInt8)(L:List (List (List UInt8)))(ks:List Int)(hkd:bK t i=2):ab.l0 aV k k (i:Int) (vs.map Vl.txt) ks.length 0 t (vs.length:Int) va [] [] (bj L) ks []=
  ab.l6 aV k k ks.length 0 t (vs.length:Int) va (fV (fun v=>(gK v).length) vs (vs.length+1)) (kQ vs) [] (bj L) ks:=by
 refine ck (F:=fun n j=>ab.l0 aV k n (i:Int) (vs.map Vl.txt) ks.length (j:Int) t (vs.length:Int) va (fV (fun v=>(gK v).length) vs j) (kQ (vs.take j)) (bj L) ks []) (N:=vs.length) ?_ ?_ k 0 (by omega) (by omega)
 ·intro n j hj
  obtain ⟨hT,hl⟩:=hvs vs[j] (List.getElem_mem hj)
  have hp:=hT.parts (k:=k) (by omega) hl
  have hc:=tu hvs hkd j (by omega)
  have hbl:=lV vs j
  have hel:=jI (fun v=>(gK v).length) vs j
  have hps:vs[j].ps.flatten=gK vs[j]∧vs[j].ps.length≤1∧(gK vs[j]).length≤16:=by
   rcases hT.k2 hkd with e|⟨y,hy,e⟩
   ·rw [e];exact ⟨rfl,by simp [Vl.ps],by simp [gK]⟩
   ·rw [e];exact ⟨by simp [Vl.ps,gK],by simp [Vl.ps],hy⟩
  obtain ⟨p1,p2,p3⟩:=hps
  rw [ab.l0_eq,dT (by rw [List.length_map];omega),cT,aE (by rw [List.length_map];exact hj),bS,List.getElem_map,hp,bS,aE hi,bS,bY hi,hkd,show ((2:Int)==0)=false from rfl,cF,show ((2:Int)==1)=false from rfl,cF,show ((2:Int)==2)=true from rfl,cT,
   CE (by omega),bS,dT (by rw [hel,gR];omega),cT,Bo (vs:=vs[j].ps) (by omega) (by rw [p1];omega) (by omega),bS,p1,dT (by rw [hbl];omega),cT,gZ hj,wM,ir,hbl,bM (by omega),ba,cP,cP]
 ·intro n
  have hel:=jI (fun v=>(gK v).length) vs vs.length
  have hbl:=lV vs vs.length
  rw [List.take_length] at hbl
  rw [ab.l0_eq,dF (by rw [List.length_map];omega),cF,aE hi,bS,bY hi,hkd,List.take_length,show ((2:Int)==1)=false from rfl,cF,show ((2:Int)==2)=true from rfl,cT,CE (by omega),bS,dT (by rw [hel,gR];omega),cT,ir,hbl,cP]
  show ab.j39 aV k _ _ _ _ _ _ _ _=_
  rw [ab.j39_eq]
theorem oq {f:Nat}{t:List aI}{i:Nat}{vs:List Vl}(hvs:∀v∈vs,cz (f+1) t (i:Int) v∧v.txt.length≤65536)(hkd:bK t i=3):∀j,j≤vs.length→mR (fun v=>(cC v).length) vs j≤64*j
 |0,_=>by simp [mR]
 |j+1,hj=>by
  have ih:=oq hvs hkd j (by omega)
  have hj':j<vs.length:=by omega
  rw [lm _ hj']
  have:(cC vs[j]).length≤64:=by
   rcases (hvs vs[j] (List.getElem_mem hj')).1.k3 hkd with e|⟨y,hy,_,e⟩
   ·rw [e];simp [cC]
   ·rw [e];exact hy
  omega
theorem GM {f k:Nat}(hk:101000≤k){t:List aI}{i:Nat}(hi:i<t.length){vs:List Vl}(hvs:∀v∈vs,cz (f+1) t (i:Int) v∧v.txt.length≤65536)(hlen:vs.length≤64)(va:List UInt8)(ks:List Int)(hkd:bK t i=3):ab.l0 aV k k (i:Int) (vs.map Vl.txt) 1 0 t (vs.length:Int) va [] [] (bj [[]]) ks []=
  ab.l6 aV k k 1 0 t (vs.length:Int) va (fV (fun v=>(cC v).length) vs (vs.length+1)) [] [] (bj [(vs.flatMap cC).map Vl.txt]) ks:=by
 refine ck (F:=fun n j=>ab.l0 aV k n (i:Int) (vs.map Vl.txt) 1 (j:Int) t (vs.length:Int) va (fV (fun v=>(cC v).length) vs j) [] (bj [((vs.take j).flatMap cC).map Vl.txt]) ks []) (N:=vs.length) ?_ ?_ k 0 (by omega) (by omega)
 ·intro n j hj
  obtain ⟨hT,hl⟩:=hvs vs[j] (List.getElem_mem hj)
  have hp:=hT.parts (k:=k) (by omega) hl
  have hc:=oq hvs hkd j (by omega)
  have hbl:=gU vs j
  have hel:=jI (fun v=>(cC v).length) vs j
  have hps:vs[j].ps=(cC vs[j]).map Vl.txt∧(cC vs[j]).length≤64:=by
   rcases hT.k3 hkd with e|⟨y,hy,_,e⟩
   ·rw [e];exact ⟨rfl,by simp [cC]⟩
   ·rw [e];exact ⟨rfl,hy⟩
  obtain ⟨p1,p2⟩:=hps
  have hg:∀M:List (List UInt8),(bj [M])[0]?=some (aj.sl .str true M):=fun M=>rfl
  rw [ab.l0_eq,dT (by rw [List.length_map];omega),cT,aE (by rw [List.length_map];exact hj),bS,List.getElem_map,hp,bS,aE hi,bS,bY hi,hkd,show ((3:Int)==0)=false from rfl,cF,show ((3:Int)==1)=false from rfl,cF,show ((3:Int)==2)=false from rfl,cF,show ((3:Int)==3)=true from rfl,cT,
   show (decide ((0:Nat)≤0)&&decide ((0:Int)<((1:Nat):Int)))=true from rfl]
  simp only [cT]
  rw [ba,cP,hg]
  simp only [bS]
  rw [nJ]
  simp only [bS,cT]
  rw [CE (by omega),bS,dT (by rw [hel,gR];omega),cT,p1,dT (by simp only [List.length_map];rw [hbl];omega),cT,tB,k6,gZ hj,ir,bM (by omega),List.flatMap_append,List.map_append]
  simp only [List.length_map]
  rw [hbl]
  have:Nat.blt 0 (killC 149 ((bj [((vs.take j).flatMap cC).map Vl.txt]).set 0 (.av .und))).length=true:=rfl
  rw [this,cT,List.flatMap_singleton]
  rfl
 ·intro n
  have hel:=jI (fun v=>(cC v).length) vs vs.length
  have hbl:=gU vs vs.length
  rw [List.take_length] at hbl
  have hg:∀M:List (List UInt8),(bj [M])[0]?=some (aj.sl .str true M):=fun M=>rfl
  rw [ab.l0_eq,dF (by rw [List.length_map];omega),cF,aE hi,bS,bY hi,hkd,List.take_length,show ((3:Int)==1)=false from rfl,cF,show ((3:Int)==2)=false from rfl,cF,show ((3:Int)==3)=true from rfl,cT,show (decide ((0:Nat)≤0)&&decide ((0:Int)<((1:Nat):Int)))=true from rfl,cT,cP,hg,bS,nJ,bS,cT,CE (by omega),bS,dT (by rw [hel,gR];omega),cT,ir]
  simp only [List.length_map]
  rw [hbl]
  show ab.j39 aV k _ _ _ _ _ _ _ _=_
  rw [ab.j39_eq]
def iD (f:Nat)(t:List aI)(a:Int)(vs:List Vl)(i j m:Nat):List (List (List UInt8)):=(List.range m).map fun q=>((vs.take (if q<j then i+1 else i)).map (ib f t a q)).map Vl.txt
theorem kY (f:Nat)(t:List aI)(a:Int)(vs:List Vl)(i j m:Nat):(iD f t a vs i j m).length=m:=by unfold iD;rw [List.length_map,List.length_range]
theorem nz {f : Nat} {t : List aI} {a : Int} {vs : List Vl} {i j m q : Nat} (h : q < m) : (iD f t a vs i j m)[q]'(by rw [kY]; exact h) = ((vs.take (if q < j then i + 1 else i)).map (ib f t a q)).map Vl.txt := by simp [iD]
theorem yy (f:Nat)(t:List aI)(a:Int)(vs:List Vl)(i m:Nat):iD f t a vs i m m=iD f t a vs (i+1) 0 m:=by
 unfold iD
 refine List.map_congr_left fun q hq=>?_
 rw [if_pos (List.mem_range.1 hq),if_neg (by omega)]
theorem zu {f:Nat}{t:List aI}{a:Int}{vs:List Vl}{i j m:Nat}(hj:j<m)(hi:i<vs.length):
  (iD f t a vs i j m).set j (((vs.take i).map (ib f t a j)).map Vl.txt++[(ib f t a j vs[i]).txt])=iD f t a vs i (j+1) m:=by
 refine List.ext_getElem (by rw [List.length_set,kY,kY]) fun q h1 h2=>?_
 rw [kY] at h2
 rw [List.getElem_set]
 by_cases e:j=q
 ·subst e
  rw [if_pos rfl,nz h2,if_pos (by omega),gZ hi,List.map_append,List.map_append]
  rfl
 ·rw [if_neg e,nz h2,nz h2]
  by_cases h:q<j
  ·rw [if_pos h,if_pos (by omega)]
  ·rw [if_neg h,if_neg (by omega)]
theorem Gx {f k:Nat}(hk:101000+20*f≤k){t:List aI}{i:Nat}(hi:i<t.length)(hm:gQ t=true)(hf:t.length - i<f+1){vs:List Vl}(hvs:∀v∈vs,cz (f+1) t (i:Int) v∧v.txt.length≤65536)(hlen:vs.length≤64)(va:List UInt8)(hkd:bK t i=4):ab.l0 aV k k (i:Int) (vs.map Vl.txt) (ag t (i:Int)).length 0 t (vs.length:Int) va [] [] (bj (List.replicate (ag t (i:Int)).length [])) (ag t (i:Int)) []=
  ab.l6 aV k k (ag t (i:Int)).length 0 t (vs.length:Int) va [] [] [] (bj ((List.range (ag t (i:Int)).length).map fun j=>(vs.map (ib f t (i:Int) j)).map Vl.txt)) (ag t (i:Int)):=by
 have hkk:=cu t (i:Int) t.length
 have htl:=cw hm
 have hkl:(ag t (i:Int)).length≤8:=by unfold ag;omega
 have e0:List.replicate (ag t (i:Int)).length []=iD f t (i:Int) vs 0 0 (ag t (i:Int)).length:=by
  unfold iD
  refine List.ext_getElem (by simp) fun q h1 h2=>?_
  simp
 have e1:((List.range (ag t (i:Int)).length).map fun j=>(vs.map (ib f t (i:Int) j)).map Vl.txt)=iD f t (i:Int) vs vs.length 0 (ag t (i:Int)).length:=by
  unfold iD
  refine List.map_congr_left fun q _=>?_
  rw [if_neg (by omega),List.take_length]
 rw [e0,e1]
 refine ck (F:=fun n j=>ab.l0 aV k n (i:Int) (vs.map Vl.txt) (ag t (i:Int)).length (j:Int) t (vs.length:Int) va [] [] (bj (iD f t (i:Int) vs j 0 (ag t (i:Int)).length)) (ag t (i:Int)) []) (N:=vs.length) ?_ ?_ k 0 (by omega) (by omega)
 ·intro n r hr
  obtain ⟨hT,hl⟩:=hvs vs[r] (List.getElem_mem hr)
  have hp:=hT.parts (k:=k) (by omega) hl
  rw [ab.l0_eq,dT (by rw [List.length_map];omega),cT,aE (by rw [List.length_map];exact hr),bS,List.getElem_map,hp,bS,aE hi,bS,bY hi,hkd]
  simp only [show ((4:Int)==0)=false from rfl,show ((4:Int)==1)=false from rfl,show ((4:Int)==2)=false from rfl,show ((4:Int)==3)=false from rfl,cF]
  rw [ba,ba]
  refine ck (F:=fun n' j=>ab.l3 aV k n n' (i:Int) (vs.map Vl.txt) (ag t (i:Int)).length (r:Int) vs[r].kd (j:Int) t (vs.length:Int) va [] [] (bj (iD f t (i:Int) vs r j (ag t (i:Int)).length)) (ag t (i:Int)) [] vs[r].ps) (N:=(ag t (i:Int)).length) ?_ ?_ k 0 (by omega) (by omega)
  ·intro n' j hj
   have hksj:=gm (t:=t) (a:=(i:Int)) hj
   obtain ⟨q,hq1,hq2,hq3⟩:=ij hm hj
   have hz:=yc f (t:=t) (a:=c9 t (i:Int) j) (by rw [hq1];exact eR hm hq3) (by rw [hq1,Int.toNat_natCast];omega) k (by omega)
   have hL:=kY f t (i:Int) vs r j (ag t (i:Int)).length
   have hg:=sO (L:=iD f t (i:Int) vs r j (ag t (i:Int)).length) (j:=j) (by rw [hL];exact hj)
   rw [nz hj,if_neg (by omega)] at hg
   have hbl:Nat.blt j (killC 88 ((bj (iD f t (i:Int) vs r j (ag t (i:Int)).length)).set j (.av .und))).length=true:=by
    rw [mM,ba,List.length_set,yr,hL]
    exact Nat.ble_eq_true_of_le hj
   have fin:∀x:List UInt8,(ib f t (i:Int) j vs[r]).txt=x→
     (bif decide (0≤(j:Int))&&decide ((j:Int)<(((ag t (i:Int)).length:Nat):Int)) then
      (bj (iD f t (i:Int) vs r j (ag t (i:Int)).length))[((j:Int)).toNat]?.bind fun c_4=>
       (kD .str c_4).bind fun p_5=>
        bif p_5.1 then
         (killC 87 (bj (iD f t (i:Int) vs r j (ag t (i:Int)).length)))[((j:Int)).toNat]?.bind fun c_6=>
          (kD .str c_6).bind fun p_7=>
           bif decide (((p_7.2).length+(([x]:List (List UInt8))).length)*16≤140737488355328) then
            bif decide (0≤(j:Int))&&decide ((j:Int)<(((ag t (i:Int)).length:Nat):Int)) then
             bif Nat.blt (((j:Int)).toNat) (killC 88 ((killC 87 (bj (iD f t (i:Int) vs r j (ag t (i:Int)).length))).set (((j:Int)).toNat) (.av .und))).length then
              ab.l3 aV k n n' (i:Int) (vs.map Vl.txt) (ag t (i:Int)).length (r:Int) vs[r].kd (IntKind.i64.wrap ((j:Int)+1)) t (vs.length:Int) va [] [] (bz 40 ((killC 88 ((killC 87 (bj (iD f t (i:Int) vs r j (ag t (i:Int)).length))).set (((j:Int)).toNat) (.av .und))).set (((j:Int)).toNat) (aj.sl .str true (p_7.2++([x]:List (List UInt8)))))) (ag t (i:Int)) [] vs[r].ps
             else none
            else none
           else none
        else none
     else none)=ab.l3 aV k n n' (i:Int) (vs.map Vl.txt) (ag t (i:Int)).length (r:Int) vs[r].kd ((j+1:Nat):Int) t (vs.length:Int) va [] [] (bj (iD f t (i:Int) vs r (j+1) (ag t (i:Int)).length)) (ag t (i:Int)) [] vs[r].ps:=by
    intro x hx
    rw [dT (by omega),dT (by omega)]
    simp only [Bool.and_self,cT,Int.toNat_natCast]
    rw [ba,hg]
    simp only [bS]
    rw [nJ]
    simp only [bS,cT]
    rw [dT (by simp only [List.length_map,List.length_take,List.length_cons,List.length_nil];omega),cT,hbl,cT,tB,k6,←hx,zu hj hr,bM (by omega)]
   rw [ab.l3_eq,dT (by omega),cT,dT (by omega)]
   simp only [Bool.and_self,cT]
   rw [Int.toNat_natCast,hksj,bS,hz,bS,cP]
   rcases hT.k4 hkd with e|⟨us,hul,hus,e⟩
   ·have hkdv:vs[r].kd=-1:=by rw [e];rfl
    have hx:(ib f t (i:Int) j vs[r]).txt=(fy f t (c9 t (i:Int) j)).txt:=by rw [e];rfl
    rw [dF (by rw [hkdv];omega),cF]
    have:=fin _ hx
    rw [dT (show (0:Int)≤(j:Int) by omega),dT (show (j:Int)<(((ag t (i:Int)).length:Nat):Int) by omega)] at this
    simp only [Bool.and_self,cT,Int.toNat_natCast] at this
    exact this
   ·have hkdv:vs[r].kd=4:=by rw [e];rfl
    have hps:vs[r].ps=us.map Vl.txt:=by rw [e];rfl
    have hju:j<us.length:=by omega
    have hx:(ib f t (i:Int) j vs[r]).txt=us[j].txt:=by rw [e];simp [ib,hju]
    have hpj:vs[r].ps[j]?=some us[j].txt:=by rw [hps,List.getElem?_map,List.getElem?_eq_getElem hju];rfl
    rw [dT (by rw [hkdv];omega),cT,dT (show (j:Int)<(vs[r].ps.length:Int) by rw [hps,List.length_map];omega),hpj]
    simp only [bS,cT]
    have:=fin _ hx
    rw [dT (show (0:Int)≤(j:Int) by omega),dT (show (j:Int)<(((ag t (i:Int)).length:Nat):Int) by omega)] at this
    simp only [Bool.and_self,cT,Int.toNat_natCast] at this
    exact this
  ·intro n'
   rw [ab.l3_eq,dF (by omega),cF,bM (by omega),yy]
 ·intro n
  rw [ab.l0_eq,dF (by rw [List.length_map];omega),cF,aE hi,bS,bY hi,hkd]
  simp only [show ((4:Int)==1)=false from rfl,show ((4:Int)==2)=false from rfl,show ((4:Int)==3)=false from rfl,cF]
  show ab.j39 aV k _ _ _ _ _ _ _ _=_
  rw [ab.j39_eq]
def Kf:Nat→Nat
 |0=>101000
 |f+1=>Kf f+6000
theorem Ee:∀f,101000+20*f≤Kf f
 |0=>Nat.le_refl _
 |f+1=>by
  have:=Ee f
  rw [Kf];omega
theorem sc:∀(f:Nat) {t:List aI}{a:Int}{vs:List Vl},b9 t a=true→t.length - a.toNat<f→(∀v∈vs,cz f t a v∧v.txt.length≤65536)→vs.length≤9000000000000→
  ∀k,Kf f+vs.length≤k→Fa (ab.f aV k t a (vs.map Vl.txt)) (bV f t a vs)
 |0,_,_,_,_,h,_,_,_,_=>by omega
 |f+1,t,a,vs,hn,hf,hvs,hl,k,hk=>by
  obtain ⟨hm,i,hi,rfl⟩:=bC hn
  rw [Int.toNat_natCast] at hf
  rw [Kf] at hk
  have hkg:=Ee f
  obtain ⟨k,rfl⟩:∃q,k=q+1:=⟨k - 1,by omega⟩
  have hkf:101000+20*f≤k:=by omega
  unfold bV
  rw [ab.f_eq,Aj (by rw [List.length_map];omega) (by rw [List.length_map];omega),bS]
  simp only [List.length_map]
  by_cases h64:64<vs.length
  ·rw [dT (show ((vs.length:Nat):Int)>64 by omega),cT,if_pos h64]
   exact ⟨_,_,rfl,rfl⟩
  rw [dF (show¬((vs.length:Nat):Int)>64 by omega),cF,if_neg h64,fg (by omega),bS,Int.toNat_natCast]
  unfold kA
  rw [if_pos hn]
  have hkk:=cu t (i:Int) t.length
  have htl:=cw hm
  have hkl:(ag t (i:Int)).length≤8:=by unfold ag;omega
  simp only
  rw [BEq.rfl,dT (by omega),dT (by omega)]
  simp only [Bool.and_self,cT,Int.toNat_natCast]
  rw [za,ti,ba,ba,ba,iE,iE]
  have hkb:=(((cZ t).1 hm).2.1 i hi).1
  unfold gI at hkb
  simp only [Bool.and_eq_true,decide_eq_true_eq] at hkb
  have leaf:∀{e d:List UInt8},cS (bK t i)=false→Fa (ab.l6 aV k k (ag t (i:Int)).length 0 t (vs.length:Int) (de (vs.map Vl.txt)) e d [] (bj (List.replicate (ag t (i:Int)).length [])) (ag t (i:Int))) (jx vs.length (de (vs.map Vl.txt)) e d []):=by
   intro e d hin
   have hnil:=lO hm hi hin
   have:=yb (k:=k) (t:=t) (ks:=ag t (i:Int)) (L:=List.replicate (ag t (i:Int)).length []) (by simp) hkl (B:=fun _=>none) vs.length (de (vs.map Vl.txt)) e d (fun j h=>by rw [hnil] at h;simp at h) (ag t (i:Int)).length 0 k [] (by omega) (by omega) rfl
   rw [hnil] at this ⊢
   exact this
  by_cases h0:bK t i=0
  ·rw [if_pos h0,GP (by omega) hi hvs (by omega) _ _ _ h0]
   exact leaf (by rw [h0];rfl)
  rw [if_neg h0]
  by_cases h1:bK t i=1
  ·rw [if_pos h1,F5 (by omega) hi hvs (by omega) _ _ _ h1]
   exact leaf (by rw [h1];rfl)
  rw [if_neg h1]
  by_cases h2:bK t i=2
  ·rw [if_pos h2,GX (by omega) hi hvs (by omega) _ _ _ h2]
   exact leaf (by rw [h2];rfl)
  rw [if_neg h2]
  by_cases h3:bK t i=3
  ·rw [if_pos h3]
   have hk1:=yI hm hi h3
   rw [hk1,show List.replicate 1 ([]:List (List UInt8))=[[]] from rfl,GM (by omega) hi hvs (by omega) _ _ h3]
   have hc:=oq hvs h3 vs.length (Nat.le_refl _)
   have hcl:=gU vs vs.length
   rw [List.take_length] at hcl
   have:=yb (k:=k) (t:=t) (ks:=ag t (i:Int)) (L:=[(vs.flatMap cC).map Vl.txt]) (by rw [hk1];rfl) hkl (B:=fun j=>bV f t (c9 t (i:Int) j) (vs.flatMap cC)) vs.length (de (vs.map Vl.txt)) (fV (fun v=>(cC v).length) vs (vs.length+1)) [] (fun j hj hj'=>by
    have hj0:j=0:=by simp only [List.length_singleton] at hj';omega
    subst hj0
    have hks0:=gm (t:=t) (a:=(i:Int)) hj
    rw [List.getElem?_eq_getElem hj,Option.some.injEq] at hks0
    obtain ⟨q,hq1,hq2,hq3⟩:=ij hm hj
    rw [hks0]
    refine sc f (by rw [hq1];exact eR hm hq3) (by rw [hq1,Int.toNat_natCast];omega) (fun w hw=>?_) (by omega) k (by omega)
    obtain ⟨u,hu,hw⟩:=List.mem_flatMap.1 hw
    obtain ⟨hT,hul⟩:=hvs u hu
    rcases hT.k3 h3 with e|⟨y,hy,hyt,e⟩
    ·rw [e] at hw;simp [cC] at hw
    ·rw [e] at hw hul
     refine ⟨hyt w hw,?_⟩
     obtain ⟨r,hr,rfl⟩:=List.mem_iff_getElem.1 hw
     rw [sQ] at hul
     simp only [cC] at hr
     have:=dW (vs:=y.map Vl.txt) (r+1)
     rw [il (by rw [List.length_map];exact hr),List.getElem_map] at this
     unfold eo at hul
     simp only [List.length_append,List.length_cons,List.length_nil] at hul
     show y[r].txt.length≤65536
     omega) 1 0 k [] (by rw [hk1]) (by omega) rfl
   rw [hk1] at this
   exact this
  rw [if_neg h3]
  have h4:bK t i=4:=by omega
  rw [Gx (f:=f) (k:=k) hkf hi hm hf hvs (Nat.le_of_not_lt h64) (de (vs.map Vl.txt)) h4]
  have:=yb (k:=k) (t:=t) (ks:=ag t (i:Int)) (L:=(List.range (ag t (i:Int)).length).map fun j=>(vs.map (ib f t (i:Int) j)).map Vl.txt) (by simp) hkl (B:=fun j=>bV f t (c9 t (i:Int) j) (vs.map (ib f t (i:Int) j))) vs.length (de (vs.map Vl.txt)) [] [] (fun j hj _=>by
    have hks0:=gm (t:=t) (a:=(i:Int)) hj
    rw [List.getElem?_eq_getElem hj,Option.some.injEq] at hks0
    obtain ⟨q,hq1,hq2,hq3⟩:=ij hm hj
    rw [hks0,List.getElem_map,List.getElem_range]
    have hnq:b9 t (c9 t (i:Int) j)=true:=by rw [hq1];exact eR hm hq3
    refine sc f hnq (by rw [hq1,Int.toNat_natCast];omega) (fun w hw=>?_) (by rw [List.length_map];omega) k (by rw [List.length_map];omega)
    obtain ⟨u,hu,rfl⟩:=List.mem_map.1 hw
    obtain ⟨hT,hul⟩:=hvs u hu
    rcases hT.k4 h4 with e|⟨y,hy,hyt,e⟩
    ·rw [e]
     simp only [ib]
     exact ⟨jO f hnq (by rw [hq1,Int.toNat_natCast];omega),by have:=wY (f:=f) hnq;omega⟩
    ·rw [e] at hul ⊢
     have hjy:j<y.length:=by omega
     have hg:ib f t (i:Int) j (.r y)=y[j]:=by simp [ib,hjy]
     rw [hg]
     refine ⟨hyt j hjy,?_⟩
     rw [o9] at hul
     have:=dW (vs:=y.map Vl.txt) (j+1)
     rw [il (by rw [List.length_map];exact hjy),List.getElem_map] at this
     unfold bH at hul
     simp only [List.length_append,List.length_cons,List.length_nil] at hul
     omega) (ag t (i:Int)).length 0 k [] (by omega) (by omega) rfl
  exact this
theorem At.flat {α:Type}(g:α→List UInt8):∀(l:List α) (j:Nat) (h:j<l.length),At (l.map g).flatten (((l.take j).map fun x=>(g x).length).sum) (g l[j])
 |[],j,h=>by simp at h
 |x :: l,0,h=>⟨[],(l.map g).flatten,by simp,rfl⟩
 |x :: l,j+1,h=>by
  obtain ⟨pre,post,e,hl⟩:=At.flat g l j (by simpa using h)
  refine ⟨g x++pre,post,?_,?_⟩
  ·rw [List.map_cons,List.flatten_cons,e];simp [List.append_assoc]
  ·rw [List.length_append,hl,List.take_succ_cons,List.map_cons,List.sum_cons]
theorem oC {α:Type}(g:α→Nat)(c:Nat):∀l:List α,(∀x∈l,g x=c)→(l.map g).sum=c*l.length
 |[],_=>by simp
 |x :: l,h=>by
  rw [List.map_cons,List.sum_cons,oC g c l fun y hy=>h y (List.mem_cons_of_mem _ hy),h x List.mem_cons_self,List.length_cons,Nat.mul_add];omega
theorem BN {vs:List Vl}{j:Nat}(h:j<vs.length):At (jF vs) (8*j) (w8 (wI vs[j])):=by
 have:=At.flat (fun v=>w8 (wI v)) vs j h
 rw [oC (fun v=>(w8 (wI v)).length) 8 _ (fun _ _=>rfl),List.length_take,Nat.min_eq_left (by omega)] at this
 exact this
theorem zX {vs:List Vl}{j:Nat}(h:j<vs.length):At (kQ vs) (mR (fun v=>(gK v).length) vs j) (gK vs[j]):=At.flat gK vs j h
theorem Ab (g:Vl→Nat)(vs:List Vl){m j:Nat}(h:j<m):At (fV g vs m) (4*j) (w4 (mR g vs j:Int)):=by
 have:=At.flat (fun j=>w4 (mR g vs j:Int)) (List.range m) j (by rw [List.length_range];exact h)
 rw [oC (fun j=>(w4 (mR g vs j:Int)).length) 4 _ (fun _ _=>rfl),List.length_take,List.getElem_range,List.length_range,Nat.min_eq_left (by omega)] at this
 exact this
theorem Dl {s:List UInt8}{j:Nat}{x:Int}(h:At s (4*j) (w4 x))(hx:may x=true):sN s j=(x,0):=by
 obtain ⟨pre,post,rfl,hl⟩:=h
 have:=EY pre post x hx
 rw [hl] at this
 unfold sN
 rw [←this];congr 1
theorem gW (g:Vl→Nat)(vs:List Vl){m j:Nat}(h:j<m)(hc:mR g vs j≤2147483647):sw (fV g vs m) j=true∧eN (fV g vs m) j=(mR g vs j:Int):=by
 have:=Dl (Ab g vs h) (t7.2 ⟨by omega,by omega⟩)
 unfold sw eN
 rw [this]
 exact ⟨rfl,rfl⟩
theorem jE (g:Vl→Nat)(vs:List Vl){i j:Nat}(h:i≤j):mR g vs i≤mR g vs j:=by
 unfold mR
 obtain ⟨d,rfl⟩:∃d,j=i+d:=⟨j - i,by omega⟩
 rw [List.take_add,List.map_append,List.sum_append];omega
theorem sR (g:Vl→Nat)(vs:List Vl){c:Nat}(hg:∀v∈vs,g v≤c)(hc:mR g vs vs.length≤2147483647){most from_:Int}(hm:(mR g vs vs.length:Int)≤most):pW (fV g vs (vs.length+1)) vs.length most from_ (c:Int)=true:=by
 unfold pW
 rw [bA]
 intro i hi
 have hci:=jE g vs (show i≤vs.length by omega)
 obtain ⟨h1,h2⟩:=gW g vs hi (by omega)
 unfold nI
 rw [h1,h2,dT (by omega)]
 simp only [Bool.true_and]
 by_cases h0:i=0
 ·rw [dT h0];rfl
 ·obtain ⟨i,rfl⟩:∃q,i=q+1:=⟨i - 1,by omega⟩
  have hlt:i<vs.length:=by omega
  have hci':=jE g vs (show i≤vs.length by omega)
  obtain ⟨_,h3⟩:=gW g vs (m:=vs.length+1) (j:=i) (by omega) (by omega)
  have hs:=lm g hlt
  have hgv:=hg vs[i] (List.getElem_mem hlt)
  rw [Nat.add_sub_cancel,h3,dF h0,dT (by omega),dT (show ((mR g vs (i+1):Nat):Int) - (mR g vs i:Int)≤(c:Int) by omega),Bool.or_true];rfl
theorem lD:∀(d:Nat) {t:List aI}{a:Int}{x:aO},ef t a x=true→uv d x
 |0,_,_,_,_=>trivial
 |d+1,t,a,x,h=>by
  obtain ⟨hn,hb⟩:=g9 h
  obtain ⟨hm,i,hi,rfl⟩:=bC hn
  have hkk:=cu t (i:Int) t.length
  have htl:=cw hm
  have hkl:(ag t (i:Int)).length≤8:=by unfold ag;omega
  have e1:=hb.off;have e2:=hb.len;have e3:=hb.rows;have e4:=hb.valid;have e5:=hb.ends;have e6:=hb.data
  have hks:x.kids.length≤8∧∀k∈x.kids,uv d k:=by
   by_cases hl:x.layout=0
   ·have hP:=jX h hl
    refine ⟨by rw [hP.kids];exact hkl,fun k hk=>?_⟩
    obtain ⟨j,hj,rfl⟩:=List.mem_iff_getElem.1 hk
    rw [fL hj]
    exact lD d (hP.may j hj)
   ·obtain ⟨hO,_⟩:=kZ h hl
    refine ⟨by rw [hO.kids];decide,fun k hk=>?_⟩
    obtain ⟨j,hj,rfl⟩:=List.mem_iff_getElem.1 hk
    have:j=0:=by have:=hO.kids;omega
    subst this
    rw [fL hj]
    exact lD d hO.may
  exact ⟨by omega,by omega,by omega,by omega,by omega,by omega,hks.2⟩
theorem rl {t:List aI}{a:Int}{x:aO}(h:ef t a x=true):RoomyA x:=fun d=>lD d h
structure Ce (x:aO)(n:Nat):Prop where
 layout:x.layout=0
 offset:x.offset=0
 length:x.length=(n:Int)
 small:n≤64
theorem cX {n:Nat}{v e d:List UInt8}{ks:List aO}{A:aO}(h:jx n v e d ks=some A):A=.mk 0 0 (n:Int) v e d ks∧d.length≤4096∧e.length≤4096:=by
 unfold jx at h
 split at h
 ·rename_i hh;cases h;exact ⟨rfl,hh⟩
 ·cases h
theorem jY:∀(f:Nat) {t:List aI}{a:Int}{vs:List Vl}{A:aO},bV f t a vs=some A→Ce A vs.length
 |0,_,_,_,_,h=>by cases h
 |f+1,t,a,vs,A,h=>by
  unfold bV at h
  split at h
  ·cases h
  rename_i h64
  have fin:∀{v e d:List UInt8}{ks:List aO},jx vs.length v e d ks=some A→Ce A vs.length:=by
   intro v e d ks h
   obtain ⟨rfl,_⟩:=cX h
   exact ⟨rfl,rfl,rfl,by omega⟩
  split at h
  ·exact fin h
  split at h
  ·exact fin h
  split at h
  ·exact fin h
  split at h
  ·obtain ⟨ks,_,h⟩:=Option.bind_eq_some_iff.1 h;exact fin h
  ·obtain ⟨ks,_,h⟩:=Option.bind_eq_some_iff.1 h;exact fin h
theorem xm:∀(f:Nat) {t:List aI}{a:Int}{vs:List Vl}{A:aO},b9 t a=true→t.length - a.toNat<f→(∀v∈vs,cz f t a v)→bV f t a vs=some A→ef t a A=true
 |0,_,_,_,_,_,_,_,h=>by cases h
 |f+1,t,a,vs,A,hn,hf,hvs,h=>by
  have hF:=jY (f+1) h
  obtain ⟨hm,i,hi,rfl⟩:=bC hn
  rw [Int.toNat_natCast] at hf
  unfold bV at h
  rw [Int.toNat_natCast] at h
  split at h
  ·cases h
  rename_i h64
  -- what all kinds have
  have gen:∀{e d:List UInt8}{ks:List aO},A=.mk 0 0 (vs.length:Int) (de (vs.map Vl.txt)) e d ks→d.length≤4096→e.length≤4096→ks.length=(ag t (i:Int)).length→
    (∀j (hj:j<ks.length),ef t (c9 t (i:Int) j) ks[j]=true)→hY t i A=true→ef t (i:Int) A=true:=by
   intro e d ks hA hd he hk hks hkM
   have hvl:=wC (vs.map Vl.txt)
   rw [List.length_map] at hvl
   rw [nR,if_pos hF.layout,hn,Int.toNat_natCast]
   have hB:u9 (yj t i) A=true:=by
    rw [np]
    subst hA
    refine ⟨Int.le_refl _,by show (0:Int)≤(vs.length:Int);omega,by show (0:Int)+(vs.length:Int)≤64;omega,by show (de _).length≤4096;omega,he,hd,?_⟩
    show de (vs.map Vl.txt)=[]∨yj t i=true∧j6 (0+(vs.length:Int))≤((de (vs.map Vl.txt)).length:Int)
    unfold de
    split
    ·exact .inl rfl
    ·rename_i hall
     right
     refine ⟨?_,by rw [jz,List.length_map,List.length_map];unfold j6;omega⟩
     obtain ⟨y,hy,hy'⟩:=List.all_eq_false.1 ((Bool.not_eq_true _).mp hall)
     obtain ⟨v,hv,rfl⟩:=List.mem_map.1 hy
     have hT:=(hvs v hv).2
     rw [Int.toNat_natCast] at hT
     rw [kc] at hy'
     cases v with
     |n=>exact hT
     |i x=>simp at hy'
     |b c=>simp at hy'
     |s l=>simp at hy'
     |l us=>simp at hy'
     |r us=>simp at hy'
   rw [hB,hkM]
   subst hA
   show (true&&(true&&(decide (ks.length=(ag t (i:Int)).length)&&((List.range ks.length).all (fun j=>ef t (c9 t (i:Int) j) (ks.getD j _))&&true))))=true
   rw [dT hk]
   simp only [Bool.true_and,Bool.and_true]
   rw [bA]
   intro j hj
   have:=hks j hj
   rw [List.getD,List.getElem?_eq_getElem hj]
   exact this
  have hrows:cB A=vs.length:=by unfold cB;rw [hF.offset,hF.length];omega
  have hkb:=(((cZ t).1 hm).2.1 i hi).1
  unfold gI at hkb
  simp only [Bool.and_eq_true,decide_eq_true_eq] at hkb
  split at h
  ·rename_i h0
   obtain ⟨hA,hd,he⟩:=cX h
   have hnil:=lO hm hi (by rw [h0];rfl)
   refine gen hA hd he (by rw [hnil];rfl) (fun j hj=>by simp at hj) ?_
   unfold hY
   rw [if_pos h0,hrows,hA]
   show (([]:List UInt8)==[]&&decide (8*vs.length≤(jF vs).length))=true
   rw [lU,dT (Nat.le_refl _)];rfl
  split at h
  ·rename_i h0 h1
   obtain ⟨hA,hd,he⟩:=cX h
   have hnil:=lO hm hi (by rw [h1];rfl)
   refine gen hA hd he (by rw [hnil];rfl) (fun j hj=>by simp at hj) ?_
   unfold hY
   rw [if_neg h0,if_pos h1,hF.offset,hF.length,hA]
   show (([]:List UInt8)==[]&&decide (j6 (0+(vs.length:Int))≤((ia (vs.map sP)).length:Int)))=true
   rw [jz,List.length_map,dT (by unfold j6;omega)];rfl
  split at h
  ·rename_i h0 h1 h2
   obtain ⟨hA,hd,he⟩:=cX h
   have hnil:=lO hm hi (by rw [h2];rfl)
   refine gen hA hd he (by rw [hnil];rfl) (fun j hj=>by simp at hj) ?_
   have hbl:=lV vs vs.length
   rw [List.take_length] at hbl
   unfold hY
   rw [if_neg h0,if_neg h1,if_pos h2,hrows,hA]
   refine sR (fun v=>(gK v).length) vs (c:=16) (fun v hv=>?_) (by omega) (by show _≤((kQ vs).length:Int);omega)
   rcases (hvs v hv).k2 h2 with e|⟨y,hy,e⟩
   ·rw [e];exact Nat.zero_le _
   ·rw [e];exact hy
  split at h
  ·rename_i h0 h1 h2 h3
   obtain ⟨ks,hs,h⟩:=Option.bind_eq_some_iff.1 h
   obtain ⟨hA,hd,he⟩:=cX h
   obtain ⟨hkl,hkj⟩:=jm _ hs
   have hk1:=yI hm hi h3
   obtain ⟨q,hq1,hq2,hq3⟩:=ij hm (i:=i) (j:=0) (by omega)
   have hT:∀w∈vs.flatMap cC,cz f t (c9 t (i:Int) 0) w:=by
    intro w hw
    obtain ⟨u,hu,hw⟩:=List.mem_flatMap.1 hw
    rcases (hvs u hu).k3 h3 with e|⟨y,_,hyt,e⟩
    ·rw [e] at hw;simp [cC] at hw
    ·rw [e] at hw;exact hyt w hw
   have hB0:=hkj 0 (by omega)
   have hK:=jY f hB0
   refine gen hA hd he hkl (fun j hj=>?_) ?_
   ·have:j=0:=by omega
    subst this
    exact xm f (by rw [hq1];exact eR hm hq3) (by rw [hq1,Int.toNat_natCast];omega) hT hB0
   ·unfold hY
    rw [if_neg h0,if_neg h1,if_neg h2,if_pos h3,hrows]
    have hkA : az A 0 = ks[0]'(by omega) := by
     rw [hA];unfold az
     show ks.getD 0 _=_
     rw [List.getD,List.getElem?_eq_getElem (by omega)];rfl
    have hlen:=hK.length
    have hcl:=gU vs vs.length
    rw [List.take_length] at hcl
    have hsm:=hK.small
    rw [hkA,hlen,hA]
    show (([]:List UInt8)==[]&&pW (fV (fun v=>(cC v).length) vs (vs.length+1)) vs.length ((vs.flatMap cC).length:Int) 0 64)=true
    rw [show (64:Int)=((64:Nat):Int) from rfl,sR (fun v=>(cC v).length) vs (c:=64) (fun v hv=>?_) (by omega) (by omega)]
    ·rfl
    ·rcases (hvs v hv).k3 h3 with e|⟨y,hy,_,e⟩
     ·rw [e];exact Nat.zero_le _
     ·rw [e];exact hy
  ·rename_i h0 h1 h2 h3
   have h4:bK t i=4:=by omega
   obtain ⟨ks,hs,h⟩:=Option.bind_eq_some_iff.1 h
   obtain ⟨hA,hd,he⟩:=cX h
   obtain ⟨hkl,hkj⟩:=jm _ hs
   have kid:∀j (hj:j<ks.length),ef t (c9 t (i:Int) j) ks[j]=true∧Ce ks[j] vs.length:=by
    intro j hj
    obtain ⟨q,hq1,hq2,hq3⟩:=ij hm (i:=i) (j:=j) (by omega)
    have hnq:b9 t (c9 t (i:Int) j)=true:=by rw [hq1];exact eR hm hq3
    have hBj:=hkj j hj
    have hFj:=jY f hBj
    rw [List.length_map] at hFj
    refine ⟨xm f hnq (by rw [hq1,Int.toNat_natCast];omega) (fun w hw=>?_) hBj,hFj⟩
    obtain ⟨u,hu,rfl⟩:=List.mem_map.1 hw
    rcases (hvs u hu).k4 h4 with e|⟨y,hy,hyt,e⟩
    ·rw [e]
     simp only [ib]
     exact jO f hnq (by rw [hq1,Int.toNat_natCast];omega)
    ·rw [e]
     have hjy:j<y.length:=by omega
     have hg:ib f t (i:Int) j (.r y)=y[j]:=by simp [ib,hjy]
     rw [hg]
     exact hyt j hjy
   refine gen hA hd he hkl (fun j hj=>(kid j hj).1) ?_
   unfold hY
   rw [if_neg h0,if_neg h1,if_neg h2,if_neg h3,hF.offset,hF.length,hA]
   show (([]:List UInt8)==[]&&(([]:List UInt8)==[]&&!ks.any fun c=>decide (c.length<0+(vs.length:Int))))=true
   have:ks.any (fun c=>decide (c.length<0+(vs.length:Int)))=false:=by
    rw [List.any_eq_false]
    intro c hc
    obtain ⟨j,hj,rfl⟩:=List.mem_iff_getElem.1 hc
    rw [(kid j hj).2.length]
    simp
   rw [this];rfl
theorem uD (g:Nat→List UInt8)(a n:Nat):(List.range' a n).map g=(List.range n).map fun j=>g (a+j):=by
 rw [List.range_eq_range']
 induction n generalizing a with
 |zero=>rfl
 |succ n ih=>
  rw [List.range'_succ,List.range'_succ,List.map_cons,List.map_cons,ih]
  refine congrArg _ ?_
  refine List.ext_getElem (by simp) fun j h1 h2=>?_
  simp only [List.getElem_map,List.getElem_range']
  congr 1;omega
theorem sx {vs:List Vl}{r:Nat}(h:r<vs.length){j:Nat}(hj:j<(cC vs[r]).length):
  (vs.flatMap cC)[mR (fun v=>(cC v).length) vs r+j]?=some (cC vs[r])[j]:=by
 have e:vs=vs.take r++vs[r] :: vs.drop (r+1):=by rw [←List.drop_eq_getElem_cons h,List.take_append_drop]
 have e2:vs.flatMap cC=(vs.take r).flatMap cC++(cC vs[r]++(vs.drop (r+1)).flatMap cC):=by
  have:=congrArg (List.flatMap cC) e
  rw [List.flatMap_append,List.flatMap_cons] at this
  exact this
 have hl:=gU vs r
 rw [e2,List.getElem?_append_right (by omega),hl,Nat.add_sub_cancel_left,List.getElem?_append_left hj,List.getElem?_eq_getElem hj]
theorem uy:∀(f:Nat) {t:List aI}{a:Int}{vs:List Vl}{A:aO},b9 t a=true→t.length - a.toNat<f→(∀v∈vs,cz f t a v)→bV f t a vs=some A→
  ∀g,t.length - a.toNat<g→∀r (hr:r<vs.length),cJ g t a A r=vs[r].txt
 |0,_,_,_,_,_,h,_,_,_,_,_,_=>by omega
 |f+1,t,a,vs,A,hn,hf,hvs,h,g,hg,r,hr=>by
  have hF:=jY (f+1) h
  obtain ⟨hm,i,hi,rfl⟩:=bC hn
  rw [Int.toNat_natCast] at hf hg
  obtain ⟨g,rfl⟩:∃q,g=q+1:=⟨g - 1,by omega⟩
  unfold bV at h
  rw [Int.toNat_natCast] at h
  split at h
  ·cases h
  rename_i h64
  have hT:=hvs vs[r] (List.getElem_mem hr)
  -- is it there?
  have hv:∀{e d:List UInt8}{ks:List aO},A=.mk 0 0 (vs.length:Int) (de (vs.map Vl.txt)) e d ks→eu A.valid r=uH vs[r].txt:=by
   intro e d ks hA
   rw [hA]
   have:=uq (vs.map Vl.txt) (i:=r) (by rw [List.length_map];exact hr)
   rw [List.getElem_map] at this
   exact this
  have there:∀{e d:List UInt8}{ks:List aO},A=.mk 0 0 (vs.length:Int) (de (vs.map Vl.txt)) e d ks→(uH vs[r].txt=true→cJ (g+1) t (i:Int) A r=
    if bK t i=0 then eI (fp ((A.data.take (8*r+8)).drop (8*r)))
    else if bK t i=1 then ku (CL A.data r)
    else if bK t i=2 then dd ((A.data.take (eN A.ends (r+1)).toNat).drop (eN A.ends r).toNat)
    else if bK t i=3 then eo ((List.range' (eN A.ends r).toNat ((eN A.ends (r+1)).toNat - (eN A.ends r).toNat)).map fun j=>cJ g t (c9 t (i:Int) 0) (az A 0) ((az A 0).offset.toNat+j))
    else bH ((List.range (ag t (i:Int)).length).map fun j=>cJ g t (c9 t (i:Int) j) (az A j) ((az A j).offset.toNat+r))):=by
   intro e d ks hA hb
   rw [jq,hv hA,hb,if_neg (by simp),if_neg (by rw [hF.layout];omega),if_neg (by rw [hF.layout];omega),Int.toNat_natCast]
  have gone:∀{e d:List UInt8}{ks:List aO},A=.mk 0 0 (vs.length:Int) (de (vs.map Vl.txt)) e d ks→vs[r]=.n→cJ (g+1) t (i:Int) A r=vs[r].txt:=by
   intro e d ks hA hnv
   have hi0:uH vs[r].txt=false:=by rw [hnv,kc]
   rw [jq,hv hA,hi0,if_pos rfl,hnv,Vl.txt]
  have hkb:=(((cZ t).1 hm).2.1 i hi).1
  unfold gI at hkb
  simp only [Bool.and_eq_true,decide_eq_true_eq] at hkb
  split at h
  ·rename_i h0
   obtain ⟨hA,hd,he⟩:=cX h
   rcases hT.k0 h0 with e|⟨x,hx,e⟩
   ·exact gone hA e
   ·rw [there hA (by rw [e,kc]),if_pos h0]
    have hs:=(BN hr).slice
    rw [lP] at hs
    have hAd:A.data=jF vs:=by rw [hA];rfl
    rw [hAd,hs,e,Vl.txt]
    show eI (fp (w8 x))=eI x
    rw [Bf x hx]
  split at h
  ·rename_i h0 h1
   obtain ⟨hA,hd,he⟩:=cX h
   rcases hT.k1 h1 with e|⟨c,e⟩
   ·exact gone hA e
   ·rw [there hA (by rw [e,kc]),if_neg h0,if_pos h1]
    have hAd:A.data=ia (vs.map sP):=by rw [hA];rfl
    rw [hAd,vO _ (by rw [List.length_map];exact hr),List.getElem_map,e,Vl.txt]
    rfl
  split at h
  ·rename_i h0 h1 h2
   obtain ⟨hA,hd,he⟩:=cX h
   rcases hT.k2 h2 with e|⟨y,hy,e⟩
   ·exact gone hA e
   ·rw [there hA (by rw [e,kc]),if_neg h0,if_neg h1,if_pos h2]
    have hAd:A.data=kQ vs:=by rw [hA];rfl
    have hAe:A.ends=fV (fun v=>(gK v).length) vs (vs.length+1):=by rw [hA];rfl
    have hbl:=lV vs vs.length
    rw [List.take_length] at hbl
    have hc1:=jE (fun v=>(gK v).length) vs (show r+1≤vs.length by omega)
    have hc2:=jE (fun v=>(gK v).length) vs (show r≤vs.length by omega)
    obtain ⟨_,q1⟩:=gW (fun v=>(gK v).length) vs (m:=vs.length+1) (j:=r) (by omega) (by omega)
    obtain ⟨_,q2⟩:=gW (fun v=>(gK v).length) vs (m:=vs.length+1) (j:=r+1) (by omega) (by omega)
    have hs:=(zX hr).slice
    rw [hAd,hAe,q1,q2,Int.toNat_natCast,Int.toNat_natCast,lm _ hr,hs,e,Vl.txt]
    rfl
  split at h
  ·rename_i h0 h1 h2 h3
   obtain ⟨ks,hs,h⟩:=Option.bind_eq_some_iff.1 h
   obtain ⟨hA,hd,he⟩:=cX h
   obtain ⟨hkl,hkj⟩:=jm _ hs
   rcases hT.k3 h3 with e|⟨y,hy,hyt,e⟩
   ·exact gone hA e
   ·rw [there hA (by rw [e,kc]),if_neg h0,if_neg h1,if_neg h2,if_pos h3]
    have hk1:=yI hm hi h3
    obtain ⟨q,hq1,hq2,hq3⟩:=ij hm (i:=i) (j:=0) (by omega)
    have hTs:∀w∈vs.flatMap cC,cz f t (c9 t (i:Int) 0) w:=by
     intro w hw
     obtain ⟨u,hu,hw⟩:=List.mem_flatMap.1 hw
     rcases (hvs u hu).k3 h3 with e|⟨y,_,hyt,e⟩
     ·rw [e] at hw;simp [cC] at hw
     ·rw [e] at hw;exact hyt w hw
    have hB0:=hkj 0 (by omega)
    have hK:=jY f hB0
    have hkA : az A 0 = ks[0]'(by omega) := by
     rw [hA];unfold az
     show ks.getD 0 _=_
     rw [List.getD,List.getElem?_eq_getElem (by omega)];rfl
    have hAe:A.ends=fV (fun v=>(cC v).length) vs (vs.length+1):=by rw [hA];rfl
    have hcl:=gU vs vs.length
    rw [List.take_length] at hcl
    have hsm:=hK.small
    have hc1:=jE (fun v=>(cC v).length) vs (show r+1≤vs.length by omega)
    have hc2:=jE (fun v=>(cC v).length) vs (show r≤vs.length by omega)
    obtain ⟨_,q1⟩:=gW (fun v=>(cC v).length) vs (m:=vs.length+1) (j:=r) (by omega) (by omega)
    obtain ⟨_,q2⟩:=gW (fun v=>(cC v).length) vs (m:=vs.length+1) (j:=r+1) (by omega) (by omega)
    have hcs:=lm (fun v=>(cC v).length) hr
    rw [hAe,q1,q2,Int.toNat_natCast,Int.toNat_natCast,hkA,hK.offset,show mR (fun v=>(cC v).length) vs (r+1) - mR (fun v=>(cC v).length) vs r=(cC vs[r]).length by omega,e,sQ,uD]
    congr 1
    refine List.ext_getElem (by rw [List.length_map,List.length_range,List.length_map];rfl) fun j h1' h2'=>?_
    rw [List.getElem_map,List.getElem_range,List.getElem_map]
    have hj:j<(cC vs[r]).length:=by rw [e];simpa [cC] using h2'
    have hfl:=sx hr hj
    obtain ⟨hlt,hget⟩:=List.getElem?_eq_some_iff.1 hfl
    rw [show (0:Int).toNat+(mR (fun v=>(cC v).length) vs r+j)=mR (fun v=>(cC v).length) vs r+j by simp,uy f (by rw [hq1];exact eR hm hq3) (by rw [hq1,Int.toNat_natCast];omega) hTs hB0 g (by rw [hq1,Int.toNat_natCast];omega) _ hlt,hget]
    simp only [e,cC]
  ·rename_i h0 h1 h2 h3
   have h4:bK t i=4:=by omega
   obtain ⟨ks,hs,h⟩:=Option.bind_eq_some_iff.1 h
   obtain ⟨hA,hd,he⟩:=cX h
   obtain ⟨hkl,hkj⟩:=jm _ hs
   rcases hT.k4 h4 with e|⟨y,hy,hyt,e⟩
   ·exact gone hA e
   ·rw [there hA (by rw [e,kc]),if_neg h0,if_neg h1,if_neg h2,if_neg h3,e,o9]
    congr 1
    refine List.ext_getElem (by rw [List.length_map,List.length_range,List.length_map,hy]) fun j h1' h2'=>?_
    rw [List.getElem_map,List.getElem_range,List.getElem_map]
    have hjy:j<y.length:=by simpa using h2'
    obtain ⟨q,hq1,hq2,hq3⟩:=ij hm (i:=i) (j:=j) (by omega)
    have hnq:b9 t (c9 t (i:Int) j)=true:=by rw [hq1];exact eR hm hq3
    have hBj:=hkj j (by omega)
    have hFj:=jY f hBj
    have hkA : az A j = ks[j]'(by omega) := by
     rw [hA];unfold az
     show ks.getD j _=_
     rw [List.getD,List.getElem?_eq_getElem (by omega)];rfl
    rw [hkA,hFj.offset,show (0:Int).toNat+r=r by simp,uy f hnq (by rw [hq1,Int.toNat_natCast];omega) (fun w hw=>by
     obtain ⟨u,hu,rfl⟩:=List.mem_map.1 hw
     rcases (hvs u hu).k4 h4 with e|⟨y,hy,hyt,e⟩
     ·rw [e];exact jO f hnq (by rw [hq1,Int.toNat_natCast];omega)
     ·rw [e]
      have hjy:j<y.length:=by omega
      have hg:ib f t (i:Int) j (.r y)=y[j]:=by simp [ib,hjy]
      rw [hg]
      exact hyt j hjy) hBj g (by rw [hq1,Int.toNat_natCast];omega) r (by rw [List.length_map];exact hr),List.getElem_map,e]
    have hg:ib f t (i:Int) j (.r y)=y[j]:=by simp [ib,hjy]
    rw [hg]
def Ia:aO:=.mk 0 0 0 [] [] [] []
def xE (t:List aI)(a:Int)(Vs:List Vl):Prop:=b9 t a=true∧∀v∈Vs,cz 20 t a v∧v.txt.length≤65536
theorem iG {t:List aI}{a:Int}(h:b9 t a=true):t.length - a.toNat<20:=by
 have:=oZ h;omega
def oW (t:List aI)(a:Int)(Vs:List Vl):aO×Int:=match bV 20 t a Vs with|some A=>(A,0)|none=>(Ia,1001)
theorem HG:Kf 20=221000:=by decide+kernel
theorem wx {t:List aI}{a:Int}{Vs:List Vl}(h:xE t a Vs)(hl:Vs.length≤9000000000000){k:Nat}(hk:230000+Vs.length≤k):aJ.f aV k t a (Vs.map Vl.txt)=some (oW t a Vs):=by
 obtain ⟨hn,hv⟩:=h
 obtain ⟨k,rfl⟩:∃q,k=q+1:=⟨k - 1,by omega⟩
 rw [aJ.f_eq,c6 (by omega),bS,hn,Bool.not_true,cF]
 refine ck (F:=fun n j=>aJ.l0 aV k n a (Vs.map Vl.txt) (j:Int) t) (N:=Vs.length) ?_ ?_ k 0 (by omega) (by omega)
 ·intro n j hj
  obtain ⟨hT,hl⟩:=hv Vs[j] (List.getElem_mem hj)
  rw [aJ.l0_eq,dT (by rw [List.length_map];omega),cT,aE (by rw [List.length_map];exact hj),bS,List.getElem_map,oV 20 hT hl k (by omega),bS,Bool.not_true,cF,bM (by omega)]
 ·intro n
  obtain ⟨A,ok,h1,h2⟩:=sc 20 hn (iG hn) hv hl k (by rw [HG];omega)
  rw [aJ.l0_eq,dF (by rw [List.length_map];omega),cF,h1,bS]
  unfold oW
  cases hB:bV 20 t a Vs with
  |none=>
   rw [hB] at h2
   simp only at h2
   rw [h2];rfl
  |some C=>
   rw [hB] at h2
   obtain ⟨rfl,rfl⟩:=h2
   simp only [Bool.not_true,cF]
   rw [aO.eta]
theorem wo {t:List aI}{a:Int}{Vs:List Vl}(h:xE t a Vs){A:aO}(hA:oW t a Vs=(A,0)):ef t a A=true∧Ce A Vs.length∧kO t a A=Vs.map Vl.txt:=by
 obtain ⟨hn,hv⟩:=h
 unfold oW at hA
 cases hB:bV 20 t a Vs with
 |none=>rw [hB] at hA;cases hA
 |some C=>
  rw [hB] at hA
  cases hA
  have hF:=jY 20 hB
  refine ⟨xm 20 hn (iG hn) (fun v hv'=>(hv v hv').1) hB,hF,?_⟩
  unfold kO
  rw [hF.length,hF.offset,Int.toNat_natCast]
  refine List.ext_getElem (by simp) fun r h1 h2=>?_
  rw [List.getElem_map,List.getElem_range,List.getElem_map,show (0:Int).toNat+r=r by simp]
  exact uy 20 hn (iG hn) (fun v hv'=>(hv v hv').1) hB 20 (iG hn) r (by simpa using h2)
theorem s7 {xs:List (List UInt8)}{j:Nat}(h:j<xs.length):xs.drop j=xs[j] :: xs.drop (j+1):=List.drop_eq_getElem_cons h
theorem zJ (a b:List UInt8)(l m:List (List UInt8)):((a :: l)==(b :: m))=((a==b)&&(l==m)):=rfl
theorem tA {k:Nat}(xs ys:List (List UInt8))(hl:xs.length=ys.length)(hx:xs.length≤1000):∀(d j n:Nat),j+d=xs.length→d+1≤n→ax.l0 aV k n xs ys (xs.length:Int) (j:Int)=some (xs.drop j==ys.drop j)
 |0,j,n,h,hn=>by
  obtain ⟨n,rfl⟩:∃q,n=q+1:=⟨n - 1,by omega⟩
  rw [ax.l0_eq,dF (by omega),cF,List.drop_eq_nil_of_le (by omega),List.drop_eq_nil_of_le (by omega)]
  rfl
 |d+1,j,n,h,hn=>by
  obtain ⟨n,rfl⟩:∃q,n=q+1:=⟨n - 1,by omega⟩
  have h1:j<xs.length:=by omega
  have h2:j<ys.length:=by omega
  rw [ax.l0_eq,dT (by omega),cT,aE h1,bS,aE h2,bS,s7 h1,s7 h2,zJ,bM (by omega),tA xs ys hl hx d (j+1) n (by omega) (by omega)]
  unfold bne
  cases (xs[j]==ys[j])<;>rfl
theorem yF {k:Nat}{xs ys:List (List UInt8)}(hx:xs.length≤64)(hk:70≤k):ax.f aV k xs ys=some (xs==ys):=by
 obtain ⟨k,rfl⟩:∃q,k=q+1:=⟨k - 1,by omega⟩
 rw [ax.f_eq]
 by_cases hl:xs.length=ys.length
 ·rw [show ((xs.length:Int) != (ys.length:Int))=false by rw [hl];simp,cF]
  exact tA xs ys hl (by omega) xs.length 0 k (by omega) (by omega)
 ·rw [show ((xs.length:Int) != (ys.length:Int))=true by rw [bne_iff_ne];omega,cT]
  have:(xs==ys)=false:=by rw [beq_eq_false_iff_ne];intro e;exact hl (by rw [e])
  rw [this]
def xa (t:List aI)(a:Int)(x y:aO):Bool×Int:=if ef t a x&&ef t a y then (kO t a x==kO t a y,0) else (false,1500)
theorem zo {t:List aI}{a:Int}{x:aO}(hb:ef t a x=true):(kO t a x).length≤64:=by
 have:=fu hb
 unfold kO
 rw [List.length_map,List.length_range];omega
theorem Bd {t:List aI}{a:Int}{x y:aO}(hx:RoomyA x)(hy:RoomyA y){k:Nat}(hk:1002≤k):eq.f aV k t a x y=some (xa t a x y):=by
 obtain ⟨k,rfl⟩:∃q,k=q+1:=⟨k - 1,by omega⟩
 rw [eq.f_eq,kM hx (by omega),bS,kM hy (by omega),bS]
 unfold Br xa
 cases h1:ef t a x with
 |false=>rfl
 |true=>
  cases h2:ef t a y with
  |false=>rfl
  |true=>
   have:=zo h1
   simp only [if_true,Bool.and_self]
   rw [show (!((0:Int) != 0))=true from rfl,cT,show ((0:Int) != 0)=false from rfl,cF,yF this (by omega),bS]
theorem Cd (m:Nat):fN.f aV (m+200)=some true:=by kernel_rfl
theorem A6 {k:Nat}(hk:200≤k):fN.f aV k=some true:=by
 obtain ⟨k,rfl⟩:∃m,k=m+200:=⟨k - 200,by omega⟩
 exact Cd k
theorem ED (x:Int)(m:Nat)(hm:m≤12)(q:Int)(hq:q=2 ^ m - 1):∃K:Nat,IntKind.i64.wrap (1+cM .and .i64 x q)=(K:Int)∧1≤K∧K≤2 ^ m:=by
 have:=vC x m (by omega)
 rw [hq,this]
 have hp:(0:Int)<2 ^ m:=Int.pow_pos (by omega)
 have h0:=Int.emod_nonneg x (show (2 ^ m:Int)≠0 by omega)
 have h1:=Int.emod_lt_of_pos x hp
 have h2:(2 ^ m:Int)≤4096:=by
  have:(2:Nat) ^ m≤2 ^ 12:=Nat.pow_le_pow_right (by omega) hm
  have h3:((2 ^ m:Nat):Int)≤((2 ^ 12:Nat):Int):=by omega
  simpa using h3
 refine ⟨(1+x % 2 ^ m).toNat,?_,by omega,?_⟩
 ·rw [bR _ (by omega)];omega
 ·have:(((2:Nat) ^ m:Nat):Int)=2 ^ m:=by simp
  omega
end Go.Proofs.YtjkokaockhecnaaGreatDoorP

namespace Go.Proofs.YtjkokaockhecnaaGreatDoorP
open Go Go.Proofs.YtjkokaockhecnaaGreatDoorA
def o7:List aI:=[aI.mk 0 (-1) true]
theorem BR {k:Nat}(hk:1≤k):bB.f aV k=some o7:=by
 obtain ⟨k,rfl⟩:∃q,k=q+1:=⟨k - 1,by omega⟩
 rw [bB.f_eq];rfl
theorem Bl {x y:Int}(hx:qh x)(hy:qh y)(h:dw x=dw y):x=y:=by
 have h1:=lF (k:=200) (by omega) hx.1 hx.2
 have h2:=lF (k:=200) (by omega) hy.1 hy.2
 rw [h,h2] at h1
 exact (Prod.mk.inj (Option.some.inj h1)).1.symm
theorem BL {x y:Int}(hx:qh x)(hy:qh y)(h:eI x=eI y):x=y:=by
 unfold eI at h
 refine Bl hx hy ?_
 have h1:=List.append_cancel_right h
 simpa using h1
def HW (v:Vl):Prop:=v=.n∨∃x,v=.i x∧0≤x∧x≤1000
theorem oU {k:Nat}{Vs:List Vl}(hk:240000≤k)(hl:Vs.length≤64)(hV:∀v∈Vs,HW v):∃A,aJ.f aV k o7 0 (Vs.map Vl.txt)=some (A,0)∧ef o7 0 A=true∧kO o7 0 A=Vs.map Vl.txt:=by
 have hn:b9 o7 0=true:=by decide+kernel
 have hkd:bK o7 (0:Int).toNat=0:=rfl
 have h:xE o7 0 Vs:=by
  refine ⟨hn,fun v hv=>?_⟩
  rcases hV v hv with rfl|⟨x,rfl,h0,h1⟩
  ·exact ⟨⟨hn,rfl⟩,by simp [Vl.txt]⟩
  ·refine ⟨⟨hn,hkd,by unfold qh;omega⟩,?_⟩
   have:=oe x
   simp only [Vl.txt,eI,List.length_append,List.length_cons,List.length_nil]
   omega
 have hB:oW o7 0 Vs=(aO.mk 0 0 (Vs.length:Int) (de (Vs.map Vl.txt)) [] (jF Vs) [],0):=by
  have hi:=lU Vs
  unfold oW bV
  simp only [hkd,if_true]
  rw [if_neg (by omega)]
  unfold jx
  rw [if_pos ⟨by omega,by simp⟩]
 obtain ⟨q1,_,q3⟩:=wo h hB
 exact ⟨_,by rw [wx h (by omega) (by omega),hB],q1,q3⟩
def dL (n:Nat):List Vl:=(List.range n).map fun (i:Nat)=>Vl.i (i:Int)
theorem jy (n:Nat):(dL n).map Vl.txt=(List.range n).map fun (i:Nat)=>eI (i:Int):=by
 unfold dL;rw [List.map_map];rfl
theorem qU {n:Nat}(hn:n≤1000):∀v∈dL n,HW v:=by
 intro v hv
 unfold dL at hv
 obtain ⟨i,hi,rfl⟩:=List.mem_map.1 hv
 have:=List.mem_range.1 hi
 exact .inr ⟨_,rfl,by omega,by omega⟩
theorem tn {k:Nat}{A B:aO}{xs ys:List (List UInt8)}(hk:1002≤k)(ha:ef o7 0 A=true)(hb:ef o7 0 B=true)(va:kO o7 0 A=xs)(vb:kO o7 0 B=ys)(h:xs≠ys):eq.f aV k o7 0 A B=some (false,0):=by
 rw [Bd (rl ha) (rl hb) hk]
 unfold xa
 rw [ha,hb,va,vb,show (xs==ys)=false by rw [beq_eq_false_iff_ne];exact h]
 rfl
theorem AB {α:Type}{xs:List α}{i:Nat}{x y:α}(hi:xs[i]?=some x)(h:x≠y):xs≠xs.set i y:=by
 intro e
 have h1:=congrArg (·[i]?) e
 obtain ⟨hl,_⟩:=List.getElem?_eq_some_iff.1 hi
 simp only [hi,List.getElem?_set_self hl,Option.some.injEq] at h1
 exact h h1
theorem Gw {k:Nat}{at_ by_:Int}{K:Nat}(hK:1≤K∧K≤32)(hk:300000≤k):∀(d i n:Nat),i+d=K→d+1≤n→
  aL.l0 aV k n at_ by_ (K:Int) (i:Int) ((dL i).map Vl.txt)=some true:=by
 intro d
 induction d with
 |succ d ih=>
  intro i n hi hn
  obtain ⟨n,rfl⟩:∃q,n=q+1:=⟨n - 1,by omega⟩
  have ihr:=ih (i+1) n (by omega) (by omega)
  have e:(dL (i+1)).map Vl.txt=(dL i).map Vl.txt++[eI (i:Int)]:=by
   rw [jy,jy,List.range_succ,List.map_append];rfl
  rw [e] at ihr
  have hl:((dL i).map Vl.txt).length=i:=by rw [jy];simp
  rw [aL.l0_eq,dT (by omega),cT,zF (by omega) (by omega) (by omega),bS,dT (by rw [hl];simp only [List.length_cons,List.length_nil];omega),cT,bM (by omega)]
  exact ihr
 |zero=>
  intro i n hi hn
  obtain ⟨n,rfl⟩:∃q,n=q+1:=⟨n - 1,by omega⟩
  have hiK:i=K:=by omega
  subst hiK
  obtain ⟨u1,u2,u3,u4⟩:=HH (a:=at_) (m:=(i:Int)) (by omega)
  obtain ⟨m,hm⟩:∃m:Nat,(at_ % 18446744073709551616) % (i:Int)=(m:Int):=⟨((at_ % 18446744073709551616) % (i:Int)).toNat,by omega⟩
  rw [hm] at u2 u3 u4
  have hml:m<i:=by omega
  have hb:=vC by_ 8 (by omega)
  have e8:(2:Int) ^ 8=256:=by decide
  rw [e8] at hb
  have hb':cM .and .i64 by_ 255=by_ % 256:=hb
  have b0:=Int.emod_nonneg by_ (show (256:Int)≠0 by omega)
  have b1:=Int.emod_lt_of_pos by_ (show (0:Int)<256 by omega)
  generalize by_ % 256=c at hb' b0 b1
  have hl:((dL i).map Vl.txt).length=i:=by rw [jy];simp
  have hfl:(dL i).length=i:=by unfold dL;simp
  have hget:((dL i).map Vl.txt)[m]?=some (eI (m:Int)):=by
   rw [jy,List.getElem?_map,List.getElem?_range hml];rfl
  -- the three
  obtain ⟨A,a1,a2,a3⟩:=oU (k:=k) (Vs:=dL i) (by omega) (by omega) (qU (by omega))
  obtain ⟨B,p1,p2,p3⟩:=oU (k:=k) (Vs:=(dL i).set m (.i ((m:Int)+1+c))) (by omega) (by rw [List.length_set];omega) (fun v hv=>by
   rcases List.mem_or_eq_of_mem_set hv with h|rfl
   ·exact qU (by omega) v h
   ·exact .inr ⟨_,rfl,by omega,by omega⟩)
  obtain ⟨C,c1,c2,c3⟩:=oU (k:=k) (Vs:=((dL i).set m (.i ((m:Int)+1+c))).set m .n) (by omega) (by rw [List.length_set,List.length_set];omega) (fun v hv=>by
   rcases List.mem_or_eq_of_mem_set hv with h|rfl
   ·rcases List.mem_or_eq_of_mem_set h with h|rfl
    ·exact qU (by omega) v h
    ·exact .inr ⟨_,rfl,by omega,by omega⟩
   ·exact .inl rfl)
  have t1:((dL i).set m (.i ((m:Int)+1+c))).map Vl.txt=((dL i).map Vl.txt).set m (eI ((m:Int)+1+c)):=by rw [List.map_set];rfl
  have t2:(((dL i).set m (.i ((m:Int)+1+c))).set m .n).map Vl.txt=(((dL i).map Vl.txt).set m (eI ((m:Int)+1+c))).set m [110]:=by rw [List.map_set,t1];rfl
  rw [t1] at p1 p3
  rw [t2] at c1 c3
  have x1:=tn (k:=k) (by omega) a2 p2 a3 p3 (AB hget fun e=>by
   have:=BL (by unfold qh;omega) (by unfold qh;omega) e
   omega)
  have x2:=tn (k:=k) (by omega) a2 c2 a3 c3 (by
   rw [List.set_set]
   exact AB hget fun e=>by simp [eI] at e)
  generalize hws:(dL i).map Vl.txt=ws at*
  have hwl:(ws.set m (eI ((m:Int)+1+c))).length=i:=by rw [List.length_set];exact hl
  have hg2:∃s,(ws.set m (eI ((m:Int)+1+c)))[m]?=some s:=⟨_,List.getElem?_set_self (by omega)⟩
  obtain ⟨s2,hg2⟩:=hg2
  rw [aL.l0_eq,dF (by omega),cF,BR (by omega),bS,a1,bS,show (IntKind.u64.wrap (i:Int)==0)=false by simpa using u1,cF,List.nil_append,dT (by rw [hl];simp only [List.length_nil];omega),cT]
  simp only [u2]
  rw [bR ((m:Int)+1) (by omega),hb',bR ((m:Int)+1+c) (by omega),zF (by omega) (by omega) (by omega),bS,Int.toNat_natCast,hl,hwl,dT (show (0:Int)≤(m:Int) by omega),dT (show (m:Int)<((i:Nat):Int) by omega),Bool.and_self,cT,hget,bS,bS,p1,bS,cT,hg2,bS,bS,c1,bS,bS,x1,bS,bS,x2,bS]
  simp only [EX (show 1≤k by omega),bS]
  rfl
theorem pure_EqualOne (a b c:Int):∃k,aL.f aV k a b c=some true:=by
 refine ⟨400000+1,?_⟩
 generalize hk:400000=k
 obtain ⟨K,e,hK1,hK2⟩:=ED a 5 (by omega) 31 rfl
 rw [aL.f_eq,A6 (by omega),bS,Bool.not_true,cF,e]
 exact Gw (k:=k) ⟨hK1,by omega⟩ (by omega) K 0 k (by omega) (by omega)
end Go.Proofs.YtjkokaockhecnaaGreatDoorP
