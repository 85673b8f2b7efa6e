/- Loops, as the machine answers them: what a step keeps, the whole keeps; no condition. -/
import Derived.Test.YtjkokaockhecnaaGreatDoorPBase
namespace Go.Proofs.YtjkokaockhecnaaGreatDoorP
open Go Go.Proofs.YtjkokaockhecnaaGreatDoorA
theorem dT {p:Prop}[Decidable p](h:p):decide p=true:=decide_eq_true h
theorem dF {p:Prop}[Decidable p](h:¬p):decide p=false:=decide_eq_false h
theorem fX {R:Type}{F:Nat→Nat→Option R}{N:Nat}{r:Option R}(hs:∀n i,i<N→F (n+1) i=F n (i+1))(he:∀n,F (n+1) N=r):
  ∀(n i:Nat),i≤N→N<n+i→F n i=r
 |0,i,h,hn=>by omega
 |n+1,i,h,hn=>by
  by_cases e:i=N
  ·subst e;exact he n
  ·rw [hs n i (by omega)];exact fX hs he n (i+1) (by omega) (by omega)
theorem tM {R:Type}{F:Nat→Nat→Option R}{G:Nat→Option R}{N:Nat}
  (hs:∀n i,i<N→(F (n+1) i=F n (i+1)∧G i=G (i+1))∨F (n+1) i=G i) (he:∀n,F (n+1) N=G N):
  ∀(n i:Nat),i≤N→N<n+i→F n i=G i
 |0,i,h,hn=>by omega
 |n+1,i,h,hn=>by
  by_cases e:i=N
  ·subst e;exact he n
  ·rcases hs n i (by omega) with ⟨h1,h2⟩|h1
   ·rw [h1,h2];exact tM hs he n (i+1) (by omega) (by omega)
   ·exact h1
theorem k9 (p:Nat→Bool)(i:Nat):(List.range i).all p=true↔∀j,j<i→p j=true:=by simp
theorem lT {R:Type}{F:Nat→Nat→Option R}{p:Nat→Bool}{N:Nat}{E Z:Option R}
  (hs:∀n i,i<N→(∀j,j<i→p j=true)→F (n+1) i=bif p i then F n (i+1) else Z)
  (he:(∀j,j<N→p j=true)→∀n,F (n+1) N=E):∀n,N<n→F n 0=bif (List.range N).all p then E else Z:=by
 have key:∀(d i n:Nat),i+d=N→(∀j,j<i→p j=true)→N<n+i→F n i=bif (List.range N).all p then E else Z:=by
  intro d
  induction d with
  |zero=>
   intro i n h1 h2 h3
   have e:i=N:=by omega
   subst e
   obtain ⟨n,rfl⟩:∃m,n=m+1:=⟨n - 1,by omega⟩
   rw [he h2 n,(k9 p i).2 h2];rfl
  |succ d ih=>
   intro i n h1 h2 h3
   obtain ⟨n,rfl⟩:∃m,n=m+1:=⟨n - 1,by omega⟩
   rw [hs n i (by omega) h2]
   cases hp:p i with
   |true=>
    simp only [cond]
    exact ih (i+1) n (by omega) (fun j hj=>by
     by_cases e:j=i
     ·subst e;exact hp
     ·exact h2 j (by omega)) (by omega)
   |false=>
    have:(List.range N).all p=false:=by
     cases h:(List.range N).all p with
     |false=>rfl
     |true=>rw [(k9 p N).1 h i (by omega)] at hp;cases hp
    rw [this];rfl
 intro n hn
 exact key N 0 n (by omega) (fun j hj=>by omega) (by omega)
end Go.Proofs.YtjkokaockhecnaaGreatDoorP
