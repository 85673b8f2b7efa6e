/- The document's pages: values got back; no condition but the sizes that a machine has. -/
import Derived.Test.YtjkokaockhecnaaGreatDoorPPgR
namespace Go.Proofs.YtjkokaockhecnaaGreatDoorP
open Go Go.Proofs.YtjkokaockhecnaaGreatDoorA
theorem kO (s:List UInt8)(p:Nat):get s (p:Int) 4=(0,300)∨∃x:Nat,get s (p:Int) 4=((x:Int),0)∧p+4≤s.length∧x≤2147483647:=by
 unfold get
 split
 ·rename_i hc
  generalize dG ((s.take ((p:Int)+4).toNat).drop (p:Int).toNat)=z
  split
  ·exact .inl rfl
  ·rename_i hm
   right
   have hm':may z=true:=by
    cases h:may z with
    |true=>rfl
    |false=>exact absurd ⟨rfl,h⟩ hm
   obtain ⟨h1,h2⟩:=dO.1 hm'
   exact ⟨z.toNat,by rw [Int.toNat_of_nonneg h1],by omega,by omega⟩
 ·exact .inl rfl
theorem sU {s:List UInt8}{p n:Nat}(h:At s p (w4 (n:Int)))(hn:n≤2147483647):get s (p:Int) 4=((n:Int),0):=by
 obtain ⟨pre,post,rfl,rfl⟩:=h
 exact Az pre post (n:Int) (dO.2 ⟨by omega,by omega⟩)
theorem Lc {k:Nat}{kd:Int}{s:List UInt8}(hk:500≤k)(hs:s.length≤140737488351232){m:Nat}(hm:m≤5000):∀(d i n p:Nat) (xs:List (List UInt8)),i+d=m→d+1≤n→p≤s.length→xs.length≤i→
  ∃vs ok,ac.l0 aF k n kd s (m:Int) (p:Int) (i:Int) xs=some (vs,ok)∧vs.length≤5000:=by
 intro d
 induction d with
 |zero=>
  intro i n p xs hi hn hp hx
  obtain ⟨n,rfl⟩:∃q,n=q+1:=⟨n - 1,by omega⟩
  rw [ac.l0_eq,dF (by omega),cF]
  exact ⟨_,_,rfl,by omega⟩
 |succ d ih=>
  intro i n p xs hi hn hp hx
  obtain ⟨n,rfl⟩:∃q,n=q+1:=⟨n - 1,by omega⟩
  have key:∀(p size:Nat),p≤s.length→size≤2147483647→(kd=0→size=8)→∃vs ok,ac.j15 aF k n kd s (m:Int) (p:Int) (i:Int) (size:Int) xs=some (vs,ok)∧vs.length≤5000:=by
   intro p size hp hz h0
   rw [ac.j15_eq,aK ((s.length:Int) - (p:Int)) (by omega)]
   by_cases hgt:(size:Int)>(s.length:Int) - (p:Int)
   ·rw [dT hgt,cT];exact ⟨[],false,rfl,by simp⟩
   ·rw [dF hgt,cF,aK ((p:Int)+(size:Int)) (by omega),dT (show (0:Int)≤(p:Int)+(size:Int) by omega),dT (show (p:Int)+(size:Int)≤((s.length:Nat):Int) by omega),dT (show (0:Int)≤(p:Int) by omega),dT (show (p:Int)≤((((p:Int)+(size:Int)).toNat:Nat):Int) by omega)]
    simp only [Bool.and_self,cT]
    have hsl:((s.take ((p:Int)+(size:Int)).toNat).drop (p:Int).toNat).length=size:=by simp only [List.length_drop,List.length_take];omega
    generalize ((s.take ((p:Int)+(size:Int)).toNat).drop (p:Int).toNat)=sl at hsl
    have fin:∀v:List UInt8,∃vs ok,(bif decide ((xs.length+([v]:List (List UInt8)).length)*16≤140737488355328) then ac.l0 aF k n kd s (m:Int) ((p:Int)+(size:Int)) (IntKind.i64.wrap ((i:Int)+1)) (xs++[v]) else none)=some (vs,ok)∧vs.length≤5000:=by
     intro v
     rw [dT (by simp only [List.length_cons,List.length_nil];omega),cT,bu (by omega),show (p:Int)+(size:Int)=((p+size:Nat):Int) by omega]
     exact ih (i+1) n (p+size) (xs++[v]) (by omega) (by omega) (by omega) (by simp only [List.length_append,List.length_cons,List.length_nil];omega)
    cases h0':(kd==0) with
    |true=>
     have hk0:kd=0:=by simpa using h0'
     obtain ⟨q1,q2⟩:=show fe (dG sl) from fe.wrap _
     rw [cT,lx (by omega) sl (by have:=h0 hk0;omega),bS,D9 (by omega) q1 q2,bS]
     exact fin _
    |false=>
     rw [cF]
     cases h1':(kd==1) with
     |true=>rw [cT,BH (by omega),bS];exact fin _
     |false=>rw [cF,za (by omega) (by omega),bS];exact fin _
  rw [ac.l0_eq,dT (by omega),cT]
  have j9:∀size:Nat,size≤2147483647→(kd=0→size=8)→∃vs ok,ac.j9 aF k n kd s (m:Int) (p:Int) (i:Int) (size:Int) xs=some (vs,ok)∧vs.length≤5000:=by
   intro size hz h0
   rw [ac.j9_eq]
   cases h2:(kd==2) with
   |false=>rw [cF,ir];exact key p size hp hz h0
   |true=>
    have hk2:kd=2:=by simpa using h2
    rw [cT,fy (by omega) s (by omega) _ _ (by omega),bS]
    rcases kO s p with e|⟨x,e,h4,hx'⟩
    ·rw [e];exact ⟨[],false,rfl,by simp⟩
    ·rw [e]
     simp only [show ((0:Int) != 0)=false from rfl,cF]
     rw [ir,aK ((p:Int)+4) (by omega),show (p:Int)+4=((p+4:Nat):Int) by omega]
     exact key (p+4) x h4 hx' (fun h=>by omega)
  cases h0:(kd==0) with
  |true=>rw [cT,ir];exact j9 8 (by omega) (fun _=>rfl)
  |false=>rw [cF,ir];exact j9 1 (by omega) (fun h=>by rw [h] at h0;cases h0)
theorem Iq {k:Nat}{t:List bc}{q:Nat}{vs:List (List UInt8)}(hk:500≤k)(hv:∀v∈vs,wm t (q:Int) v=true)(hm:vs.length≤4096):∀(d i n:Nat),i+d=vs.length→d+1≤n→
  ac.l0 aF k n (dy t q) ((vs.map jI).flatten) (vs.length:Int) (((((vs.take i).map jI).flatten).length:Nat):Int) (i:Int) (vs.take i)=some (vs,true):=by
 intro d
 induction d with
 |zero=>
  intro i n hi hn
  obtain ⟨n,rfl⟩:∃q,n=q+1:=⟨n - 1,by omega⟩
  rw [ac.l0_eq,dF (by omega),cF,List.take_of_length_le (by omega)]
  simp
 |succ d ih=>
  intro i n hi hn
  obtain ⟨n,rfl⟩:∃q,n=q+1:=⟨n - 1,by omega⟩
  have hiv:i<vs.length:=by omega
  have ih':=ih (i+1) n (by omega) (by omega)
  have hfl:=f7 fun v h=>qE (hv v h)
  have hat:At ((vs.map jI).flatten) (((vs.take i).map jI).flatten).length (jI vs[i]):=by
   refine ⟨((vs.take i).map jI).flatten,((vs.drop (i+1)).map jI).flatten,?_,rfl⟩
   conv=>lhs;rw [←List.take_append_drop i vs,List.drop_eq_getElem_cons hiv]
   simp only [List.map_append,List.flatten_append,List.map_cons,List.flatten_cons,List.append_assoc]
  have et:((vs.take (i+1)).map jI).flatten.length=(((vs.take i).map jI).flatten).length+(jI vs[i]).length:=by
   rw [List.take_succ_eq_append_getElem hiv,List.map_append,List.flatten_append,List.length_append];simp
  rw [et,List.take_succ_eq_append_getElem hiv] at ih'
  have hle:=hat.le
  generalize (((vs.take i).map jI).flatten).length=p at*
  generalize hF:(vs.map jI).flatten=s at*
  have hxl:(vs.take i).length=i:=by rw [List.length_take];omega
  generalize vs.take i=xs at*
  rw [ac.l0_eq,dT (by omega),cT]
  have fin:(bif decide ((xs.length+([vs[i]]:List (List UInt8)).length)*16≤140737488355328) then ac.l0 aF k n (dy t q) s (vs.length:Int) (((p+(jI vs[i]).length:Nat)):Int) (IntKind.i64.wrap ((i:Int)+1)) (xs++[vs[i]]) else none)=some (vs,true):=by
   rw [dT (by simp only [List.length_cons,List.length_nil];omega),cT,bu (by omega)]
   exact ih'
  rcases PB.kind (hv _ (List.getElem_mem hiv)) with ⟨e,x,hx,ev,eb⟩|⟨e,b,ev,eb⟩|⟨e,l,h16,ev,eb⟩
  ·rw [e] at fin ⊢
   simp only [show ((0:Int)==0)=true from rfl,cT]
   have e8:(jI vs[i]).length=8:=by rw [eb];exact kM x
   have hsl:=hat.slice
   rw [e8] at hsl hle fin
   rw [ir,ac.j9_eq]
   simp only [show ((0:Int)==2)=false from rfl,cF]
   rw [ir,ac.j15_eq,aK ((s.length:Int) - (p:Int)) (by omega),dF (by omega),cF,aK ((p:Int)+8) (by omega),dT (show (0:Int)≤(p:Int)+8 by omega),dT (show (p:Int)+8≤((s.length:Nat):Int) by omega),dT (show (0:Int)≤(p:Int) by omega),dT (show (p:Int)≤((((p:Int)+8).toNat:Nat):Int) by omega)]
   simp only [Bool.and_self,cT,show ((0:Int)==0)=true from rfl]
   rw [show ((p:Int)+8).toNat=p+8 by omega,Int.toNat_natCast,hsl,eb,lx (by omega) _ (by rw [kM];omega),bS,yi x hx,D9 (by omega) hx.1 hx.2,bS,←ev]
   exact fin
  ·rw [e] at fin ⊢
   simp only [show ((1:Int)==0)=false from rfl,cF]
   have e8:(jI vs[i]).length=1:=by rw [eb];rfl
   have hsl:=hat.slice
   rw [e8] at hsl hle fin
   rw [ir,ac.j9_eq]
   simp only [show ((1:Int)==2)=false from rfl,cF]
   rw [ir,ac.j15_eq,aK ((s.length:Int) - (p:Int)) (by omega),dF (by omega),cF,aK ((p:Int)+1) (by omega),dT (show (0:Int)≤(p:Int)+1 by omega),dT (show (p:Int)+1≤((s.length:Nat):Int) by omega),dT (show (0:Int)≤(p:Int) by omega),dT (show (p:Int)≤((((p:Int)+1).toNat:Nat):Int) by omega)]
   simp only [Bool.and_self,cT,show ((1:Int)==0)=false from rfl,cF,show ((1:Int)==1)=true from rfl]
   rw [show ((p:Int)+1).toNat=p+1 by omega,Int.toNat_natCast,hsl,eb,BH (by omega),bS,show (Gx (if b then 1 else 0) != ([0]:List UInt8))=b by cases b<;>rfl,←ev]
   exact fin
  ·rw [e] at fin ⊢
   simp only [show ((2:Int)==0)=false from rfl,cF]
   rw [eb] at hat hle
   rw [eb,List.length_append,bm] at fin
   rw [List.length_append,bm] at hle
   have hg:=sU hat.left (by omega)
   have hr:=hat.right
   rw [bm] at hr
   have hsl:=hr.slice
   rw [ir,ac.j9_eq]
   simp only [show ((2:Int)==2)=true from rfl,cT]
   rw [fy (by omega) s (by omega) _ _ (by omega),bS,hg]
   simp only [show ((0:Int) != 0)=false from rfl,cF]
   rw [ir,aK ((p:Int)+4) (by omega),show (p:Int)+4=((p+4:Nat):Int) by omega,ac.j15_eq,aK ((s.length:Int) - ((p+4:Nat):Int)) (by omega),dF (by omega),cF,aK (((p+4:Nat):Int)+(l.length:Int)) (by omega),dT (show (0:Int)≤((p+4:Nat):Int)+(l.length:Int) by omega),dT (show ((p+4:Nat):Int)+(l.length:Int)≤((s.length:Nat):Int) by omega),dT (show (0:Int)≤((p+4:Nat):Int) by omega),dT (show ((p+4:Nat):Int)≤(((((p+4:Nat):Int)+(l.length:Int)).toNat:Nat):Int) by omega)]
   simp only [Bool.and_self,cT,show ((2:Int)==0)=false from rfl,cF,show ((2:Int)==1)=false from rfl]
   rw [show (((p+4:Nat):Int)+(l.length:Int)).toNat=p+4+l.length by omega,Int.toNat_natCast,hsl,za (by omega) (by omega),bS,←ev,show ((p+4:Nat):Int)+(l.length:Int)=((p+(4+l.length):Nat):Int) by omega]
   exact fin
end Go.Proofs.YtjkokaockhecnaaGreatDoorP
