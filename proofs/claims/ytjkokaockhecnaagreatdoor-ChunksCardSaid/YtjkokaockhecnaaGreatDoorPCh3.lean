/- Chunks: the document cuts a column in the same pages; no condition but the sizes that a machine has. -/
import Derived.Test.YtjkokaockhecnaaGreatDoorPCh2
import Derived.Test.YtjkokaockhecnaaGreatDoorPPgV
namespace Go.Proofs.YtjkokaockhecnaaGreatDoorP
open Go Go.Proofs.YtjkokaockhecnaaGreatDoorA
def kX (one:Int)(P:Col)(N:Nat)(xs ys:List Int)(zs:List (List UInt8)):Col:=⟨P.reps++xs.take N,P.defs++ys.take N,P.values++zs.take (fw one (ys.take N))⟩
def lb (one:Int)(N:Nat)(xs ys:List Int)(zs:List (List UInt8)):Col:=⟨xs.drop N,ys.drop N,zs.drop (fw one (ys.take N))⟩
def Gl (one y:Int):Nat:=if y=one then 1 else 0
theorem zN (one:Int)(P:Col)(N:Nat)(x y:Int)(xs ys:List Int)(zs:List (List UInt8)):
  kX one P (N+1) (x :: xs) (y :: ys) zs=kX one ⟨P.reps++[x],P.defs++[y],P.values++zs.take (Gl one y)⟩ N xs ys (zs.drop (Gl one y)):=by
 unfold kX
 simp only [List.take_succ_cons,jN,List.append_assoc,List.singleton_append]
 congr 2
 rw [Nat.add_comm,List.take_add];rfl
theorem Bj (one:Int)(N:Nat)(x y:Int)(xs ys:List Int)(zs:List (List UInt8)):
  lb one (N+1) (x :: xs) (y :: ys) zs=lb one N xs ys (zs.drop (Gl one y)):=by
 unfold lb
 simp only [List.take_succ_cons,List.drop_succ_cons,jN,List.drop_drop]
 congr 2
 rw [Nat.add_comm];rfl
theorem jz (one:Int)(K f:Nat)(x:Int)(xs ys:List Int)(zs:List (List UInt8)):
  ej one K (f+1) ⟨x :: xs,ys,zs⟩=kX one ⟨[],[],[]⟩ (dx K 0 (x :: xs)) (x :: xs) ys zs :: ej one K f (lb one (dx K 0 (x :: xs)) (x :: xs) ys zs):=by
 rw [ej,if_neg (by simp)]
 unfold kX lb
 simp only [List.nil_append]
theorem m9 (one:Int)(K f:Nat)(ys:List Int)(zs:List (List UInt8)):ej one K f ⟨[],ys,zs⟩=[]:=by
 cases f with
 |zero=>rfl
 |succ f=>rw [ej,if_pos rfl]
theorem qI (one:Int)(K:Nat)(hK:1≤K):∀(f:Nat) (c:Col),c.reps.length≤f→ej one K (f+1) c=ej one K f c
 |_,⟨[],D,V⟩,_=>by rw [m9,m9]
 |0,⟨x :: xs,D,V⟩,h=>by simp at h
 |f+1,⟨x :: xs,D,V⟩,h=>by
  have h1:1≤dx K 0 (x :: xs):=by
   simp only [dx]
   split
   ·rw [if_neg (by omega)];omega
   ·omega
  rw [jz one K (f+1),jz one K f]
  congr 1
  refine qI one K hK f _ ?_
  unfold lb
  simp only [List.length_drop,List.length_cons] at h ⊢
  omega
theorem zX {k:Nat}{t:List aT}{a:Int}{c:Col}{K:Nat}(hm:cj t a c=true)(hK:1≤K)(hKb:K≤9223372036854775807)(hk:1500000≤k):∀(d i n rec f:Nat) (P:Col) (out:List (List UInt8)),i+d=c.reps.length→d+1≤n→d≤f→
  P.reps.length≤i→P.defs.length≤i→P.values.length≤i→(1≤rec∨∃xs,c.reps.drop i=0 :: xs)→rec≤K→rec≤i→out.length≤i→
  aB.l0 aG k n a (K:Int) (bg t a).2.1 (rec:Int) ((fw (bg t a).2.1 (c.defs.take i):Nat):Int) (i:Int) t c.reps c.defs c.values P.reps P.defs P.values out=
   some (out++(kX (bg t a).2.1 P (dx K rec (c.reps.drop i)) (c.reps.drop i) (c.defs.drop i) (c.values.drop (fw (bg t a).2.1 (c.defs.take i))) ::
    ej (bg t a).2.1 K f (lb (bg t a).2.1 (dx K rec (c.reps.drop i)) (c.reps.drop i) (c.defs.drop i) (c.values.drop (fw (bg t a).2.1 (c.defs.take i))))).map (fun d=>(dy t a d).1),0):=by
 obtain ⟨_,_,_,_,_,_,h1,h2,_,_,_,h6⟩:=bR hm
 generalize hone:(bg t a).2.1=one at*
 intro d
 induction d with
 |zero=>
  intro i n rec f P out hi hn _ p1 p2 p3 hr _ _ ho
  obtain ⟨n,rfl⟩:∃q,n=q+1:=⟨n - 1,by omega⟩
  have e1:c.reps.drop i=[]:=List.drop_eq_nil_of_le (by omega)
  have e2:c.defs.drop i=[]:=List.drop_eq_nil_of_le (by omega)
  have hr:1≤rec:=by
   rcases hr with h|⟨xs,h⟩
   ·exact h
   ·rw [e1] at h;cases h
  rw [aB.l0_eq,dF (by omega),cF,dT (by omega),cT,kJ (by simp only;omega) (by simp only;omega),bS,dT (by simp only [List.length_cons,List.length_nil];omega),cT,e1,e2]
  unfold kX lb
  simp only [dx,List.take_nil,List.drop_nil,List.append_nil,m9,show fw one ([]:List Int)=0 from rfl,List.take_zero,List.map_cons,List.map_nil]
 |succ d ih=>
  intro i n rec f P out hi hn hf p1 p2 p3 hr hrK hri ho
  obtain ⟨n,rfl⟩:∃q,n=q+1:=⟨n - 1,by omega⟩
  obtain ⟨f,rfl⟩:∃q,f=q+1:=⟨f - 1,by omega⟩
  have hiR:i<c.reps.length:=by omega
  have hiD:i<c.defs.length:=by omega
  have hc:=jW one (c.defs.take i)
  rw [List.length_take] at hc
  have eR:=List.drop_eq_getElem_cons hiR
  have eD:=List.drop_eq_getElem_cons hiD
  have hsucc:=nc one hiD
  have hbo:Gl one c.defs[i]=if c.defs[i]==one then 1 else 0:=by unfold Gl;by_cases h:c.defs[i]=one<;>simp [h]
  have hall:=rJ one c.defs (i+1)
  -- the rest of a round
  have hj:∀(rec' f':Nat) (P:Col) (out:List (List UInt8)),d≤f'→P.reps.length≤i→P.defs.length≤i→P.values.length≤i→1≤rec'→rec'≤K→rec'≤i+1→out.length≤i+1→
    aB.j17 aG k n a (K:Int) one (rec':Int) ((fw one (c.defs.take i):Nat):Int) (i:Int) t c.reps c.defs c.values P.reps P.defs P.values out=
    some (out++(kX one P (dx K rec' (c.reps.drop (i+1))+1) (c.reps.drop i) (c.defs.drop i) (c.values.drop (fw one (c.defs.take i))) ::
     ej one K f' (lb one (dx K rec' (c.reps.drop (i+1))+1) (c.reps.drop i) (c.defs.drop i) (c.values.drop (fw one (c.defs.take i))))).map (fun d=>(dy t a d).1),0):=by
   intro rec' f' P out hf' p1 p2 p3 hr' hrK' hri' ho'
   rw [aB.j17_eq,aL hiR,bS,dT (by simp only [List.length_cons,List.length_nil];omega),cT,aL hiD,bS,dT (by simp only [List.length_cons,List.length_nil];omega),cT,bS,eR,eD,zN,Bj,hbo]
   cases hy:(c.defs[i]==one) with
   |true=>
    rw [hy] at hsucc
    simp only [if_true] at hsucc ⊢
    have hv:fw one (c.defs.take i)<c.values.length:=by omega
    rw [cT,aL hv,bS,dT (by simp only [List.length_cons,List.length_nil];omega),cT,bb (by omega),bb (by omega),←hsucc]
    have:=ih (i+1) n rec' f' ⟨P.reps++[c.reps[i]],P.defs++[c.defs[i]],P.values++[c.values[fw one (c.defs.take i)]]⟩ out (by omega) (by omega) hf' (by simp;omega) (by simp;omega) (by simp;omega) (.inl hr') hrK' hri' ho'
    refine this.trans ?_
    rw [hsucc,List.drop_eq_getElem_cons hv]
    simp only [List.take_succ_cons,List.take_zero,List.drop_succ_cons,List.drop_zero]
   |false=>
    rw [hy] at hsucc
    simp only [Bool.false_eq_true,if_false,Nat.add_zero] at hsucc ⊢
    rw [cF,bb (by omega),←hsucc]
    have:=ih (i+1) n rec' f' ⟨P.reps++[c.reps[i]],P.defs++[c.defs[i]],P.values⟩ out (by omega) (by omega) hf' (by simp;omega) (by simp;omega) (by simp only;omega) (.inl hr') hrK' hri' ho'
    refine this.trans ?_
    simp only [List.take_zero,List.append_nil,List.drop_zero]
  rw [aB.l0_eq,dT (by omega),cT,aL hiR,bS]
  by_cases hx:c.reps[i]=0
  ·rw [show (c.reps[i]==0)=true by rw [hx];rfl,cT]
   by_cases hs:rec=K
   ·subst hs
    have e0:dx rec rec (c.reps.drop i)=0:=by rw [eR,hx];simp only [dx,if_true]
    have e1:dx rec 0 (c.reps.drop i)=dx rec 1 (c.reps.drop (i+1))+1:=by
     rw [eR,hx];simp only [dx,if_true];rw [if_neg (by omega)]
    rw [show (((rec:Nat):Int)==((rec:Nat):Int))=true by simp,cT,kJ (by simp only;omega) (by simp only;omega),bS,dT (by simp only [List.length_cons,List.length_nil];omega),cT,fH,show IntKind.i64.wrap (0+1)=((1:Nat):Int) from rfl]
    refine (hj 1 f ⟨[],[],[]⟩ (out++[(dy t a P).1]) (by omega) (by simp) (by simp) (by simp) (by omega) hK (by omega) (by simp;omega)).trans ?_
    rw [e0,←e1]
    have e2:kX one P 0 (c.reps.drop i) (c.defs.drop i) (c.values.drop (fw one (c.defs.take i)))=P:=by
     unfold kX;simp only [List.take_zero,List.append_nil,show fw one ([]:List Int)=0 from rfl]
    have e3:lb one 0 (c.reps.drop i) (c.defs.drop i) (c.values.drop (fw one (c.defs.take i)))=⟨c.reps.drop i,c.defs.drop i,c.values.drop (fw one (c.defs.take i))⟩:=by
     unfold lb;simp only [List.take_zero,List.drop_zero,show fw one ([]:List Int)=0 from rfl]
    rw [e2,e3]
    have e4:=jz one rec f c.reps[i] (c.reps.drop (i+1)) (c.defs.drop i) (c.values.drop (fw one (c.defs.take i)))
    rw [←eR] at e4
    rw [e4,List.map_cons,List.append_assoc];rfl
   ·have e1:dx K rec (c.reps.drop i)=dx K (rec+1) (c.reps.drop (i+1))+1:=by
     rw [eR,hx];simp only [dx,if_true];rw [if_neg hs]
    rw [show (((rec:Nat):Int)==((K:Nat):Int))=false by rw [beq_eq_false_iff_ne];omega,cF,fH,bb (by omega),e1]
    exact hj (rec+1) (f+1) P out (by omega) p1 p2 p3 (by omega) (by omega) (by omega) (by omega)
  ·have e1:dx K rec (c.reps.drop i)=dx K rec (c.reps.drop (i+1))+1:=by
    rw [eR];simp only [dx];rw [if_neg hx]
   rw [show (c.reps[i]==0)=false by rw [beq_eq_false_iff_ne];exact hx,cF,fH,e1]
   have hr:1≤rec:=by
    rcases hr with h|⟨xs,h⟩
    ·exact h
    ·rw [eR] at h;exact absurd (List.cons.inj h).1 hx
   exact hj rec (f+1) P out (by omega) p1 p2 p3 hr hrK (by omega) (by omega)
theorem oy {k:Nat}{t:List aT}{a:Int}{c:Col}{lim:Int}(hk:1600000+c.values.length≤k)(hl:c.values.length≤20000000000000)(h:lim<1∨¬(cj t a c=true∧∀x xs,c.reps=x :: xs→x=0)):aB.f aG k t a c lim=some ([],2300):=by
 obtain ⟨k,rfl⟩:∃q,k=q+1:=⟨k - 1,by omega⟩
 rw [aB.f_eq,rN (by omega) hl,bS]
 cases hm:cj t a c with
 |false=>rfl
 |true=>
  rw [Bool.not_true,Bool.not_false,cT]
  by_cases hlim:lim<1
  ·rw [dT hlim];rfl
  ·rw [dF hlim,Bool.not_false,cT]
   have hno:¬∀x xs,c.reps=x :: xs→x=0:=fun h0=>by
    rcases h with h|h
    ·exact hlim h
    ·exact h ⟨hm,h0⟩
   cases hR:c.reps with
   |nil=>exact absurd (fun x xs e=>by rw [hR] at e;cases e) hno
   |cons x xs=>
    rw [dT (by simp),cT,show rd (x :: xs) 0=some x from rfl,bS]
    have hx:x≠0:=fun hx=>hno fun y ys e=>by rw [hR] at e;cases e;exact hx
    rw [show (x != 0)=true by rw [bne_iff_ne];exact hx,cT]
theorem Ab {k:Nat}{t:List aT}{a:Int}{c:Col}{K:Nat}(hk:1600000+c.values.length≤k)(hK:1≤K)(hKb:K≤9223372036854775807)(hm:cj t a c=true)(h0:∀x xs,c.reps=x :: xs→x=0):
  aB.f aG k t a c (K:Int)=some ((ej (bg t a).2.1 K c.reps.length c).map (fun d=>(dy t a d).1),0):=by
 have hvl:=fg hm
 obtain ⟨_,_,_,_,_,_,h1,h2,_,_,_,h6⟩:=bR hm
 obtain ⟨k,rfl⟩:∃q,k=q+1:=⟨k - 1,by omega⟩
 rw [aB.f_eq,rN (by omega) (by omega),bS,hm,Bool.not_true,Bool.not_false,cT,dF (show¬((K:Int)<1) by omega),Bool.not_false,cT]
 cases hR:c.reps with
 |nil=>
  have e2:c.defs=[]:=List.length_eq_zero_iff.1 (by rw [←h1,hR];rfl)
  rw [dF (by simp),cF,fE (by omega),bS]
  obtain ⟨q,rfl⟩:∃q,k=q+1:=⟨k - 1,by omega⟩
  rw [aB.l0_eq,dF (by simp),cF]
  rfl
 |cons x xs=>
  have hx:=h0 x xs hR
  subst hx
  rw [dT (by simp),cT,show rd ((0:Int) :: xs) 0=some 0 from rfl,bS,show ((0:Int) != 0)=false from rfl,cF,fE (by omega),bS]
  have:=zX (k:=k) hm hK hKb (by omega) c.reps.length 0 k 0 c.reps.length ⟨[],[],[]⟩ [] (by omega) (by omega) (by omega) (by simp) (by simp) (by simp) (.inr ⟨xs,by rw [List.drop_zero,hR]⟩) (by omega) (by omega) (by simp)
  rw [←hR]
  refine this.trans ?_
  simp only [List.take_zero,List.drop_zero,show fw (bg t a).2.1 ([]:List Int)=0 from rfl,List.nil_append]
  congr 2
  cases hf:c.reps.length with
  |zero=>rw [hR] at hf;simp at hf
  |succ f=>
   have e4:=jz (bg t a).2.1 K f 0 xs c.defs c.values
   have hc:(⟨(0:Int) :: xs,c.defs,c.values⟩:Col)=c:=by cases c;simp only at hR;rw [hR]
   rw [hc,←hR] at e4
   rw [e4]
   have h1':1≤dx K 0 ((0:Int) :: xs):=by
    simp only [dx,if_true];rw [if_neg (by omega)];omega
   rw [←hR] at h1'
   have hfu:=qI (bg t a).2.1 K hK f (lb (bg t a).2.1 (dx K 0 c.reps) c.reps c.defs c.values) (by unfold lb;simp only [List.length_drop];omega)
   rw [hfu]
end Go.Proofs.YtjkokaockhecnaaGreatDoorP
