/- Loads, stores, new variables. -/
import Derived.Test.YtjkokaockhecnaaGreatDoorOps
import Derived.Laws.Cells
import Derived.Laws.IdiomCopy
namespace Go.Proofs.YtjkokaockhecnaaGreatDoorA
open Go
def RepL (w:World)(g:Gh)(l:List AV)(vs:List Value):Prop:=
 vs.length=l.length∧∀j (h:j<l.length) (h':j<vs.length),RepA w g (l[j]) (vs[j])
theorem aP (t:El)(x:t.den):(t.cells x).length=t.size:=by
 cases t<;>rfl
theorem eK (t:El):0<t.size:=by cases t<;>simp [El.size]
theorem aw (t:El)(xs:List t.den):(ap t xs).length=xs.length*t.size:=by
 induction xs with
 |nil=>simp [ap]
 |cons x xs ih=>
  have:ap t (x :: xs)=t.cells x++ap t xs:=rfl
  rw [this,List.length_append,aP,ih,List.length_cons,Nat.add_mul,Nat.one_mul,Nat.add_comm]
theorem fD (t:El)(xs:List t.den):∀(i:Nat) (x:t.den) (j:Nat),xs[i]?=some x→j<t.size→(ap t xs)[i*t.size+j]?=(t.cells x)[j]?:=by
 induction xs with
 |nil=>intro i x j h;simp at h
 |cons y xs ih=>
  intro i x j h hj
  have e:ap t (y :: xs)=t.cells y++ap t xs:=rfl
  cases i with
  |zero=>
   simp at h;subst h
   rw [e,List.getElem?_append_left (by rw [aP];omega)]
   simp
  |succ i=>
   simp at h
   rw [e,List.getElem?_append_right (by rw [aP,Nat.add_mul];omega),aP]
   have:=ih i x j h hj
   rw [←this];congr 1
   rw [Nat.add_mul];omega
theorem cP {α:Type}{l m:List α}{off n:Nat}(h:bD l off n=some m):
  m.length=n∧off+n≤l.length∧∀j,j<n→m[j]?=l[off+j]?:=by
 unfold bD at h
 cases e:Nat.ble (off+n) l.length with
 |false=>rw [e] at h;cases h
 |true=>
  rw [e] at h
  have hle:=Nat.le_of_ble_eq_true e
  simp only [cond,Option.some.injEq] at h
  subst h
  refine ⟨by simp;omega,hle,fun j hj=>?_⟩
  rw [List.getElem?_take];simp [hj]
theorem bO (s:Nat):∀(cs:List ah) (i:Nat),(a8 s i cs).length=cs.length
 |[],_=>rfl
 |_ :: cs,i=>by simp [a8,bO s cs (i+1)]
theorem fA (s:Nat):∀(cs:List ah) (i j:Nat),(a8 s i cs)[j]?=(cs[j]?).map (cellAV s (i+j))
 |[],_,_=>by simp [a8]
 |c :: cs,i,0=>by simp [a8]
 |c :: cs,i,j+1=>by
  simp only [a8,List.getElem?_cons_succ]
  rw [fA s cs (i+1) j,show i+1+j=i+(j+1) by omega]
section
variable {aa:aM}{n:Nat}{w:World}{g:Gh}{S:St}{a:Act}{P:Program}
theorem bZ.slice {s j:Nat}{t:El}{fz:Bool}{xs:List t.den}(h:bZ aa w g s j t fz xs):∃a m c,g.hs s j=.slice a m c:=by
 rcases h.c with ⟨⟨vals,h1,_,_⟩,_⟩|⟨_,_,a,e⟩
 rotate_left
 ·exact ⟨_,_,_,e⟩
 rcases h1.2 with ⟨r,_⟩|⟨b,cap,cur,r,_⟩
 ·exact ⟨_,_,_,r⟩
 ·exact ⟨_,_,_,r⟩
theorem cw.cellAV {s j:Nat}{c:ah}{v:Value}(h:cw aa w g s j c v):RepA w g (cellAV s j c) v:=by
 cases h with
 |av _ _ h=>exact h
 |sl t fz xs h=>
  obtain ⟨a,m,c,e⟩:=h.slice
  rw [e];exact .al s j a m c e
theorem bZ.cells {s j:Nat}{t:El}{fz:Bool}{xs:List t.den}(h:bZ aa w g s j t fz xs){b k cap:Nat}(e:g.hs s j=.slice (some ⟨b,0,none⟩) k cap):
  ∃vals:Nat→Value,k=xs.length∧∀i (hi:i<(ap t xs).length),w.cell? ⟨b,i,none⟩=some (vals i)∧RepA w g ((ap t xs)[i]) (vals i):=by
 rcases h.c with ⟨⟨vals,h1,h2,h3⟩,_⟩|⟨_,rfl,a,e'⟩
 rotate_left
 ·rw [e'] at e;cases e;exact ⟨fun _=>undef,rfl,fun i hi=>by simp [ap] at hi⟩
 obtain ⟨r1,r2⟩:=h1
 rcases r2 with ⟨r2,_⟩|⟨b',cap',cur,e',hb,hh,r⟩
 ·rw [r2] at e;cases e
 ·rw [e'] at e
  cases e
  refine ⟨fun i=>vals.getD i undef,rfl,fun i hi=>?_⟩
  have hi':i<vals.length:=by rw [h2];exact hi
  have hv:vals.getD i undef=vals[i]:=by simp [List.getD,hi']
  show w.cell? _=some (vals.getD i undef)∧RepA w g _ (vals.getD i undef)
  rw [hv]
  refine ⟨?_,h3 i hi hi'⟩
  have hx:vals[i]?=some vals[i]:=List.getElem?_eq_getElem hi'
  have ht:cur.toList.take (xs.length*t.size)=vals:=r.2.2.2
  have hx:(cur.toList.take (xs.length*t.size))[i]?=some vals[i]:=by rw [ht];exact hx
  rw [List.getElem?_take] at hx
  obtain ⟨mk,hh,_⟩:=hh
  simp only [World.cell?,hh]
  split at hx
  ·simpa using hx
  ·cases hx
theorem pO {t:El}{c:ah}{p:Bool×List t.den}(h:Ac t c=some p):c=.sl t p.1 p.2:=by
 unfold Ac at h
 split at h
 ·rename_i u b xs
  split at h
  ·rename_i hu;subst hu;cases h;rfl
  ·cases h
 ·cases h
theorem bZ.L_own {s j:Nat}{t:El}{xs:List t.den}(h:bZ aa w g s j t true xs):RepA w g (.L t xs) (g.hs s j):=by
 rcases h.c with ⟨⟨vs,hrow,h2,h3⟩,hown⟩|⟨_,rfl,a,e⟩
 rotate_left
 ·rw [e];exact .lnil _ _ _
 rcases hrow.2 with ⟨e,hz⟩|⟨b,cap,cur,e,_,_,hcap,_⟩
 ·have:xs=[]:=List.eq_nil_of_length_eq_zero hz
  subst this
  rw [e];exact .lnil _ _ _
 ·obtain ⟨vals,_,hc⟩:=h.cells e
  obtain ⟨_,hwho⟩:=hown b _ _ e
  rw [e]
  refine .list t xs b 0 cap vals hcap (fun i hi=>?_) (fun i hi=>(hc i hi).2)
  rw [Nat.zero_add]
  refine ⟨?_,(hc i hi).1⟩
  have:=hwho i
  rw [aw] at hi
  rw [if_pos hi] at this
  simpa using this
theorem nE {R:Type}{el:Option El}{ad:AV}{k:Nat}{κ:List AV→Option R}{r:R}{v:Value}(h:g8 S el ad k κ=some r)(hS:aV aa n w g S a)(hv:RepA w g ad v):
  ∃b o l vs,v=.pointer (some ⟨b,o,none⟩)∧κ l=some r∧RepL w g l vs∧vs.length=k∧∀j (hj:j<vs.length),w.cell? ⟨b,o+j,none⟩=some vs[j]:=by
 -- cells at an address, known one by one
 have fin:∀(l:List AV) (b o:Nat) (vals:Nat→Value),l.length=k→κ l=some r→v=.pointer (some ⟨b,o,none⟩)→
   (∀j (hj:j<l.length),w.cell? ⟨b,o+j,none⟩=some (vals j)∧RepA w g (l[j]) (vals j))→
   ∃b o l vs,v=.pointer (some ⟨b,o,none⟩)∧κ l=some r∧RepL w g l vs∧vs.length=k∧∀j (hj:j<vs.length),w.cell? ⟨b,o+j,none⟩=some vs[j]:=by
  intro l b o vals hl hκ he hc
  refine ⟨b,o,l,(List.range k).map vals,he,hκ,⟨by simp [hl],fun j hj hj'=>?_⟩,by simp,fun j hj=>?_⟩
  ·simp only [List.getElem_map,List.getElem_range];exact (hc j hj).2
  ·simp only [List.getElem_map,List.getElem_range];exact (hc j (by simp at hj;omega)).1
 cases ad<;>simp only [g8] at h<;>first|(cases h;done)|skip
 case ref s off=>
  split at h
  ·rename_i cs hr
   split at h
   ·rename_i l hl
    obtain ⟨h1,h2,h3⟩:=cP hl
    obtain ⟨vals,hb⟩:=(hS.root hr).box rfl
    refine fin l _ _ (fun j=>vals (off+j)) h1 h hv.ref_inv fun j hj=>?_
    rw [bO] at h2
    have hj':off+j<cs.length:=by omega
    have:=hb (off+j) hj'
    refine ⟨by rw [Nat.add_assoc];exact this.2.2.1,?_⟩
    have e:=h3 j (by omega)
    rw [fA] at e
    simp only [hj,hj',List.getElem?_eq_getElem,Option.map_some,Nat.zero_add,Option.some.injEq] at e
    rw [e]
    exact this.2.2.2.2.cellAV
   ·cases h
  ·cases h
 case bref s i=>
  split at h
  ·rename_i cs hr
   split at h
   ·rename_i t
    cases hk:Nat.beq k 1 with
    |false=>rw [hk] at h;cases h
    |true=>
     rw [hk] at h
     have hk1:=Nat.eq_of_beq_eq_true hk
     simp only [cond] at h
     obtain ⟨c,hc,h1⟩:=Option.bind_eq_some_iff.1 h
     obtain ⟨⟨pf,ps⟩,hp,h2⟩:=Option.bind_eq_some_iff.1 h1
     clear h h1
     have hcs:c=.sl t pf ps:=pO hp
     clear hp
     cases pf with
     |false=>cases h2
     |true=>
      simp only [cond] at h2
      subst hcs
      obtain ⟨vals,hb⟩:=(hS.root hr).box rfl
      obtain ⟨hlt,he⟩:=List.getElem?_eq_some_iff.mp hc
      have hi:=hb i hlt
      have hv':v=.pointer (some ⟨(g.hb s).1,(g.hb s).2+i,none⟩):=by cases hv;rfl
      refine fin [.bal s i t ps] _ _ (fun j=>vals (i+j)) hk1.symm h2 hv' fun j hj=>?_
      have hj0:j=0:=by simp at hj;omega
      subst hj0
      refine ⟨hi.2.2.1,?_⟩
      have hcell:=hi.2.2.2.2
      simp only at hcell
      rw [he] at hcell
      obtain ⟨q1,q2⟩:=hcell.sl_inv
      obtain ⟨a,m,cc,e⟩:=q1.slice
      have hL:=q1.L_own
      show RepA w g (.bal s i t ps) (vals i)
      rw [q2]
      rw [e] at hL ⊢
      exact .bal s i t ps a m cc e hL
   ·cases h
  ·cases h
 case eref s j sz i off=>
  split at h
  ·rename_i t fz xs hc
   cases hz:Nat.beq sz t.size with
   |false=>rw [hz] at h;cases h
   |true=>
    rw [hz] at h
    have hz':=Nat.eq_of_beq_eq_true hz
    simp only [cond] at h
    cases hx:xs[i]? with
    |none=>rw [hx] at h;cases h
    |some x=>
     rw [hx] at h
     simp only [Option.bind_some] at h
     split at h
     ·rename_i l hl
      obtain ⟨h1,h2,h3⟩:=cP hl
      rw [aP] at h2
      cases hv with
      |eref _ _ _ _ _ b m cap he=>
       obtain ⟨vals,_,hcells⟩:=(hS.cell hc).cells he
       refine fin l b (i*sz+off) (fun j=>vals (i*t.size+(off+j))) h1 h rfl fun j' hj'=>?_
       have hlt:i<xs.length:=by
        rcases Nat.lt_or_ge i xs.length with h|h
        ·exact h
        ·rw [List.getElem?_eq_none h] at hx;cases hx
       have hin:i*t.size+(off+j')<(ap t xs).length:=by
        rw [aw]
        have:(i+1)*t.size≤xs.length*t.size:=Nat.mul_le_mul_right _ hlt
        rw [Nat.add_mul] at this;omega
       have:=hcells _ hin
       rw [hz',show i*t.size+off+j'=i*t.size+(off+j') by omega]
       refine ⟨this.1,?_⟩
       have e:=h3 j' (by omega)
       have e2:=fD t xs i x (off+j') hx (by omega)
       rw [←e2] at e
       simp only [hj',hin,List.getElem?_eq_getElem,Option.some.injEq] at e
       rw [e];exact this.2
     ·cases h
  ·cases h
 case vp cs=>
  split at h
  ·rename_i l hl
   obtain ⟨h1,h2,h3⟩:=cP hl
   cases hv with
   |vp _ b o vals hc hr=>
    refine fin l b o vals h1 h rfl fun j hj=>?_
    have hj':j<cs.length:=by omega
    refine ⟨(hc j hj').2,?_⟩
    have e:=h3 j (by omega)
    simp only [Nat.zero_add,hj,hj',List.getElem?_eq_getElem,Option.some.injEq] at e
    rw [e];exact hr j hj'
  ·cases h
 case vi cs=>
  split at h
  ·rename_i l hl
   obtain ⟨h1,h2,h3⟩:=cP hl
   cases hv with
   |vi _ b o vals hc hr=>
    refine fin l b o vals h1 h rfl fun j hj=>?_
    have hj':j<cs.length:=by omega
    refine ⟨(hc j hj').2,?_⟩
    have e:=h3 j (by omega)
    simp only [Nat.zero_add,hj,hj',List.getElem?_eq_getElem,Option.some.injEq] at e
    rw [e];exact hr j hj'
  ·cases h
end
end Go.Proofs.YtjkokaockhecnaaGreatDoorA
