/- What the machine answers of a law, the program answers. -/
import Derived.Test.YtjkokaockhecnaaGreatDoorFact
namespace Go.Proofs.YtjkokaockhecnaaGreatDoorA
open Go
def gAll:Gh:=⟨fun _ _=>.imm,fun _ _=>.slice none 0 0,fun _=>(0,0)⟩
theorem vf {aa:aM}{w:World}{g:Gh}{s:bg}{r:s.den}{v:Value}(hs:s=⟨[.one .bool],[]⟩)(hr:HEq r true)(h:li aa w g s r v):v=.bool true:=by
 subst hs
 have e:r=true:=eq_of_heq hr
 subst e
 have hv:RepA w g (.bool true) v:=h.val
 cases hv
 rfl
theorem ef.plain {aa:aM}{w:World}{g:Gh}{us:List AV}{vals:List Value}(hT:gR aa w g)(h:RepL w g us vals):ef aa w g (us.map .v) vals:=by
 have key:∀(us:List AV) (vals:List Value) (i0:Nat),RepL w g us vals→(∀k b,look k (cm i0 (us.map .v))=some b→∃q v,k=i0+q∧vals[q]?=some v∧RepA w g b v)∧cU i0 (us.map .v)=[]:=by
  intro us
  induction us with
  |nil=>intro vals i0 h;exact ⟨fun k b hk=>by simp [cm,look] at hk,rfl⟩
  |cons a us ih=>
   intro vals i0 h
   obtain ⟨v,vs,rfl,h1,h2⟩:=h.cons_inv
   obtain ⟨e1,e2⟩:=ih vs (i0+1) h2
   refine ⟨fun k b hk=>?_,by simp [cU,e2]⟩
   simp only [List.map_cons,cm,look] at hk
   cases e:Nat.beq i0 k with
   |true=>
    rw [e] at hk;cases hk
    exact ⟨0,v,by have:=Nat.eq_of_beq_eq_true e;omega,by simp,h1⟩
   |false=>
    rw [e] at hk
    obtain ⟨q,v',q1,q2,q3⟩:=e1 _ _ hk
    exact ⟨q+1,v',by omega,by simpa using q2,q3⟩
 obtain ⟨e1,e2⟩:=key us vals 0 h
 refine ⟨by simp [h.1],hT,fun k b hk=>?_,fun s r hr=>by rw [e2] at hr;simp [look] at hr⟩
 obtain ⟨q,v,h1,h2,h3⟩:=e1 k b hk
 rw [Nat.zero_add] at h1
 subst h1
 exact ⟨v,h2,h3⟩
theorem ir.law {P:Program}{aa:aM}{sig:FuncId→bg}{lv:Lv sig}(hlv:ir P aa sig lv){f:FuncId}{us:List AV}{r:(sig f).den}(h:lv f (us.map .v)=some r)(hs:sig f=⟨[.one .bool],[]⟩)(hr:HEq r true)
  {W:World}{vals:List Value} (hT:gR aa W gAll) (hv:RepL W gAll us vals):Calls P f vals.toArray W fun e w'=>e=.returned (.bool true)∧RowKit.Below W.heap.size W w':=by
 refine ((hlv f _ r h).2 W gAll vals (.plain hT hv)).mono ?_
 rintro e w' ⟨v,g',rfl,hi,hres⟩
 rw [vf hs hr hres]
 refine ⟨rfl,(hi.chg.mono fun b o _ h=>?_).below⟩
 obtain ⟨s,x,h⟩:=h
 cases h
end Go.Proofs.YtjkokaockhecnaaGreatDoorA
