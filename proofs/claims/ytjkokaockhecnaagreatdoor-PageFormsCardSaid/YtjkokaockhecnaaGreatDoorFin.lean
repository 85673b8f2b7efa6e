/- What a call answers. -/
import Derived.Test.YtjkokaockhecnaaGreatDoorExec
import Derived.Laws.Sem
namespace Go.Proofs.YtjkokaockhecnaaGreatDoorA
open Go
section
variable {aa:aK}{n:Nat}{w w' w'':World}{g g' g'':Gh}{S S':St}{a:Act}{P:Program}
open Classical in
noncomputable def eh (g:Gh)(ps:List (Option (Nat×Nat)))(nl:Nat→Nat→Prop):Gh where
 who b o:=match g.who b o with
  |.obj s (some j)=>if h:∃p:Nat,ps[p]?=some (some (s,j)) then .obj 0 (some h.choose) else .obj s (some j)
  |q=>q
 hs q i:=if q=0 then (match ps[i]? with|some (some x)=>g.hs x.1 x.2|_=>.slice none 0 0) else if nl q i then .slice none 0 0 else g.hs q i
 hb:=g.hb
section
variable {ps:List (Option (Nat×Nat))}{nl:Nat→Nat→Prop}
theorem ee {b o:Nat}{q:xr}(h:g.who b o=q)(hq:∀s j,q=.obj s (some j)→∀p:Nat,ps[p]?≠some (some (s,j))):(eh g ps nl).who b o=q:=by
 simp only [eh]
 rw [h]
 cases q with
 |obj s x=>
  cases x with
  |none=>rfl
  |some j=>simp only;rw [dif_neg fun ⟨p,hp⟩=>hq s j rfl p hp]
 |_=>rfl
theorem tN (hn:(ps.filterMap id).Nodup){b o p s j:Nat}(hp:ps[p]?=some (some (s,j)))(h:g.who b o=.obj s (some j)):(eh g ps nl).who b o=.obj 0 (some p):=by
 simp only [eh]
 rw [h]
 have hex:∃p:Nat,ps[p]?=some (some (s,j)):=⟨p,hp⟩
 simp only
 rw [dif_pos hex,rf hn hex.choose_spec hp]
theorem yI:en w g w (eh g ps nl):=
 ⟨.refl _ _,fun b o _ h=>ee h (fun s j e=>by cases e),fun b o _ h=>ee h (fun s j e=>by cases e),fun b o _ h=>ee h (fun s j e=>by cases e),fun _ _=>rfl⟩
theorem ab.fin {b:AV}{v:Value}(h:ab w g b v)(hb:eo b):ab w (eh g ps nl) b v:=
 h.plain (fun b o _ _ h=>ee h (fun s j e=>by cases e)) hb
theorem wa {p s j:Nat}(hp:ps[p]?=some (some (s,j))):(eh g ps nl).hs 0 p=g.hs s j:=by simp [eh,hp]
theorem yF {p:Nat}(hp:ps[p]?=some none):(eh g ps nl).hs 0 p=.slice none 0 0:=by simp [eh,hp]
theorem vf (hn:(ps.filterMap id).Nodup){p s j:Nat}(hp:ps[p]?=some (some (s,j))){t:El}{fz:Bool}{xs:List t.den}(h:bL aa w g s j t fz xs):bL aa w (eh g ps nl) 0 p t fz xs:=by
 have e:=wa (g:=g) (nl:=nl) hp
 rcases h.c with ⟨⟨vs,h1,h2,h3⟩,hown⟩|⟨h1,h2,a,h3⟩
 rotate_left
 ·exact ⟨.inr ⟨h1,h2,a,e.trans h3⟩⟩
 refine ⟨.inl ⟨⟨vs,by rw [e];exact h1,h2,fun i h h'=>(h3 i h h').fin (fo t xs _ (List.getElem_mem h))⟩,fun b m cap e'=>?_⟩⟩
 rw [e] at e'
 obtain ⟨hlt,hw⟩:=hown b m cap e'
 refine ⟨hlt,fun o=>?_⟩
 have:=hw o
 split at this
 ·rename_i ho
  rw [if_pos ho]
  cases fz with
  |true=>exact ee (by simpa using this) (fun s j e=>by simp at e)
  |false=>exact tN hn hp (by simpa using this)
 ·rename_i ho
  rw [if_neg ho]
  exact tN hn hp this
theorem vd {q i:Nat}(hq:q≠0)(hnp:∀p:Nat,ps[p]?≠some (some (q,i)))(hnl:¬nl q i){t:El}{fz:Bool}{xs:List t.den}(h:bL aa w g q i t fz xs):
  bL aa w (eh g ps nl) q i t fz xs∧(eh g ps nl).hs q i=g.hs q i:=by
 have e:(eh g ps nl).hs q i=g.hs q i:=by simp only [eh];rw [if_neg hq,if_neg hnl]
 rcases h.c with ⟨⟨vs,h1,h2,h3⟩,hown⟩|⟨h1,h2,a,h3⟩
 rotate_left
 ·exact ⟨⟨.inr ⟨h1,h2,a,e.trans h3⟩⟩,e⟩
 refine ⟨⟨.inl ⟨⟨vs,by rw [e];exact h1,h2,fun i h h'=>(h3 i h h').fin (fo t xs _ (List.getElem_mem h))⟩,fun b m cap e'=>?_⟩⟩,e⟩
 rw [e] at e'
 obtain ⟨hlt,hw⟩:=hown b m cap e'
 refine ⟨hlt,fun o=>?_⟩
 have:=hw o
 split at this
 ·rename_i ho
  rw [if_pos ho]
  cases fz with
  |true=>exact ee (by simpa using this) (fun s j e=>by simp at e)
  |false=>exact ee (by simpa using this) (fun s j e=>by simp only [Bool.false_eq_true,if_false,xr.obj.injEq,Option.some.injEq] at e;obtain ⟨rfl,rfl⟩:=e;exact hnp)
 ·rename_i ho
  rw [if_neg ho]
  exact ee this (fun s j e=>by cases e;exact hnp)
theorem jv (hn:(ps.filterMap id).Nodup)(hS:aQ aa n w g S a){k:LK}{b:AV}{x:k.den}{v:Value}(h:cv S k b=some x)(hv:ab w g b v){p:Nat}(hp:ps[p]?=some (tB k b)):
  cf aa w (eh g ps nl) 0 p (k.cell x) v:=by
 cases k with
 |bool=>
  cases b<;>simp [cv,LK.ofCell] at h
  subst h
  exact .av _ _ (hv.fin (.bool _))
 |int k=>
  cases b<;>simp [cv,LK.ofCell] at h
  obtain ⟨rfl,h⟩:=h
  subst h
  exact .av _ _ (hv.fin (.int _ _))
 |str=>
  cases b<;>simp [cv,LK.ofCell] at h
  subst h
  exact .av _ _ (hv.fin (.str _))
 |err=>
  cases b<;>simp [cv,LK.ofCell] at h
  subst h
  exact .av _ _ (hv.fin (.err _))
 |list t=>
  have fin:∀{b:AV},pT t b=some x→ab w g b v→cf aa w (eh g ps nl) 0 p (LK.cell (.list t) x) v:=fun hb hv=>.av _ _ ((fa hb hv).fin (.L _ _))
  cases b with
  |al s j=>
   simp only [cv] at h
   split at h
   ·rename_i u xs hc
    split at h
    ·rename_i hu
     subst hu
     cases h
     rw [hv.al_inv.1]
     exact .av _ _ ((hS.cell hc).L_own.fin (.L _ _))
    ·cases h
   ·cases h
  |_=>exact fin (by simpa [cv,LK.ofCell] using h) hv
 |own t fz=>
  cases b with
  |nils=>
   simp only [cv,Option.some.injEq] at h
   subst h
   have e:=yF (g:=g) (nl:=nl) hp
   have ev:v=.slice none 0 0:=by cases hv;rfl
   rw [ev,←e]
   exact .sl _ _ _ (.empty e)
  |al s j=>
   simp only [cv] at h
   split at h
   ·rename_i u fz' xs hc
    split at h
    ·rename_i hu
     subst hu
     cases hf:fz==fz' with
     |false=>rw [hf] at h;cases h
     |true=>
      rw [hf] at h
      have hf':fz=fz':=by simpa using hf
      subst hf'
      simp only [cond,Option.some.injEq] at h
      subst h
      rw [hv.al_inv.1,←wa (g:=g) (nl:=nl) hp]
      exact .sl _ _ _ (vf hn hp (hS.cell hc))
    ·cases h
   ·cases h
  |_=>simp [cv,LK.ofCell] at h
 |room t=>
  cases b with
  |rm u xs ys=>
   simp only [cv,LK.ofCell] at h
   split at h
   ·rename_i hu;subst hu;cases h;exact .av _ _ (hv.fin (.rm _ _ _))
   ·cases h
  |_=>simp [cv,LK.ofCell] at h
theorem ke (hn:(ps.filterMap id).Nodup)(hS:aQ aa n w g S a):∀{ks:List LK}{l:List AV}{x:dn.den ks}{vs:List Value} (p:Nat),di S ks l=some x→aH w g l vs→
  (∀q,q<(dj ks l).length→ps[p+q]?=(dj ks l)[q]?)→
  (dn.cells ks x).length=vs.length∧(dj ks l).length=(dn.cells ks x).length∧∀q (hq:q<(dn.cells ks x).length) (hq':q<vs.length),cf aa w (eh g ps nl) 0 (p+q) ((dn.cells ks x)[q]) (vs[q])
 |[],[],x,vs,p,h,hr,_=>by
  rw [hr.nil_inv]
  exact ⟨rfl,rfl,fun q hq=>by simp [dn.cells] at hq⟩
 |[k],[b],x,vs,p,h,hr,hp=>by
  obtain ⟨v,vs',rfl,h1,h2⟩:=hr.cons_inv
  rw [h2.nil_inv]
  have hp0:=hp 0 (by simp [dj])
  have:=jv (nl:=nl) hn hS h h1 (p:=p) (by simpa [dj] using hp0)
  refine ⟨rfl,rfl,fun q hq hq'=>?_⟩
  have:q=0:=by simp [dn.cells] at hq;omega
  subst this
  simpa [dn.cells] using this
 |k :: k' :: ks,b :: l,x,vs,p,h,hr,hp=>by
  obtain ⟨v,vs',rfl,h1,h2⟩:=hr.cons_inv
  simp only [di] at h
  cases hb:cv S k b with
  |none=>rw [hb] at h;cases h
  |some y=>
   rw [hb] at h
   simp only [Option.bind_some] at h
   cases hm:di S (k' :: ks) l with
   |none=>rw [hm] at h;cases h
   |some z=>
    rw [hm] at h
    simp only [Option.map_some,Option.some.injEq] at h
    subst h
    have hp0:=hp 0 (by simp [dj])
    have hc:=jv (nl:=nl) hn hS hb h1 (p:=p) (by simpa [dj] using hp0)
    obtain ⟨e1,e2,e3⟩:=ke hn hS (p+1) hm h2 (fun q hq=>by
     have:=hp (q+1) (by rw [dj];simp;exact hq)
     rw [show p+(q+1)=p+1+q by omega] at this
     simpa [dj] using this)
    refine ⟨by simp [dn.cells,e1],by rw [dj];simp [dn.cells,e2],fun q hq hq'=>?_⟩
    cases q with
    |zero=>exact hc
    |succ q=>
     have:=e3 q (by simpa [dn.cells] using hq) (by simpa using hq')
     rw [show p+1+q=p+(q+1) by omega] at this
     simpa [dn.cells] using this
 |[],_ :: _,_,_,_,h,_,_=>by simp [di] at h
 |[_],[],_,_,_,h,_,_=>by simp [di] at h
 |[_],_ :: _ :: _,_,_,_,h,_,_=>by simp [di] at h
 |_ :: _ :: _,[],_,_,_,h,_,_=>by simp [di] at h
theorem eU (hS:aQ aa n w g S a):∀{l m:List AV}{vs:List Value},cZ S l=some m→aH w g l vs→aH w g m vs
 |[],m,vs,h,hr=>by
  simp only [cZ,Option.some.injEq] at h;subst h
  exact hr
 |b :: l,m,vs,h,hr=>by
  obtain ⟨v,vs',rfl,h1,h2⟩:=hr.cons_inv
  simp only [cZ] at h
  cases hb:lO S b with
  |none=>rw [hb] at h;cases h
  |some c=>
   rw [hb] at h
   simp only [Option.bind_some] at h
   cases hm:cZ S l with
   |none=>rw [hm] at h;cases h
   |some m'=>
    rw [hm] at h
    simp only [Option.map_some,Option.some.injEq] at h
    subst h
    refine .cons ?_ (eU hS hm h2)
    unfold lO at hb
    split at hb
    ·rename_i s j
     split at hb
     ·rename_i t xs hc
      cases hb
      rw [h1.al_inv.1]
      exact (hS.cell hc).L_own
     ·cases hb
    ·cases hb;exact h1
theorem pE (hn:(ps.filterMap id).Nodup)(hS:aQ aa n w g S a){k:RK}{b:AV}{x:k.den}{v:Value}(p:Nat)(h:lr S k b=some x)(hv:ab w g b v)
  (hp:∀q,q<(aY [k] [b]).length→ps[p+q]?=(aY [k] [b])[q]?):
  ab w (eh g ps nl) (k.inj 0 p x).1 v∧(aY [k] [b]).length=(k.inj 0 p x).2.length∧∀q t fz xs,(k.inj 0 p x).2[q]?=some (.sl t fz xs)→bL aa w (eh g ps nl) 0 (p+q) t fz xs:=by
 cases k with
 |one k=>
  have hp0:=hp 0 (by simp [aY])
  have hc:=jv (nl:=nl) hn hS (k:=k) h hv (p:=p) (by simpa [aY] using hp0)
  refine ⟨hc.cellAV,rfl,fun q t fz xs hq=>?_⟩
  cases q with
  |succ q=>simp [RK.inj] at hq
  |zero=>
   simp only [RK.inj,List.getElem?_cons_zero,Option.some.injEq] at hq
   rw [hq] at hc
   exact hc.sl_inv.1
 |agg ks=>
  cases b with
  |agg cs=>
   obtain ⟨vs,rfl,e1,e2⟩:=hv.agg_inv
   have hp':aY [RK.agg ks] [AV.agg cs]=dj ks cs:=by simp [aY]
   rw [hp'] at hp ⊢
   obtain ⟨f1,f2,f3⟩:=ke (nl:=nl) hn hS (ks:=ks) p h ⟨e1,e2⟩ hp
   refine ⟨(ja p f1 f3).agg,f2,fun q t fz xs hq=>?_⟩
   have hq2:(dn.cells ks x)[q]?=some (.sl t fz xs):=hq
   have hql:=(List.getElem?_eq_some_iff.mp hq2).1
   have:=f3 q hql (by rw [←f1];exact hql)
   rw [(List.getElem?_eq_some_iff.mp hq2).2] at this
   exact this.sl_inv.1
  |_=>simp [lr] at h
 |el t=>
  refine ⟨?_,rfl,fun q t fz xs hq=>by simp [RK.inj] at hq⟩
  simp only [lr] at h
  cases hc:b.isVal&&(t.isAgg==b.isAgg) with
  |false=>rw [hc] at h;cases h
  |true=>
   rw [hc] at h
   rw [Bool.and_eq_true] at hc
   simp only [cond] at h
   have hag:t.isAgg=b.isAgg:=by simpa using hc.2
   cases hm:cZ S b.leaves with
   |none=>rw [hm] at h;cases h
   |some m=>
    rw [hm] at h
    simp only [Option.bind_some] at h
    have pl:∀{l:List AV}{vs:List Value},aH w g l vs→(∀c∈l,eo c)→aH w (eh g ps nl) l vs:=fun hl hp=>⟨hl.1,fun i h1 h2=>(hl.2 i h1 h2).fin (hp _ (List.getElem_mem h1))⟩
    have hcells:=fH t x
    by_cases hb:∃cs,b=.agg cs
    ·obtain ⟨cs,rfl⟩:=hb
     obtain ⟨vs,rfl,e1,e2⟩:=hv.agg_inv
     have h2:=pl (dK h (eU hS hm ⟨e1,e2⟩)) hcells
     cases t<;>simp [El.isAgg,AV.isAgg] at hag<;>exact h2.agg
    ·have hl:b.leaves=[b]:=by
      unfold AV.leaves
      split
      ·exact absurd ⟨_,rfl⟩ hb
      ·rfl
     rw [hl] at hm
     have h1:aH w g [b] [v]:=.cons hv .nil
     have h2:=pl (dK h (eU hS hm h1)) hcells
     have hna:b.isAgg=false:=by
      unfold AV.isAgg
      split
      ·exact absurd ⟨_,rfl⟩ hb
      ·rfl
     rw [hna] at hag
     obtain ⟨v',vs',e,h3,_⟩:∃v' vs',[v]=v' :: vs'∧ab w (eh g ps nl) (AY t x) v'∧True:=by
      cases t<;>simp [El.isAgg] at hag<;>(obtain ⟨v',vs',e,h3,_⟩:=h2.cons_inv;exact ⟨v',vs',e,h3,trivial⟩)
     cases e
     exact h3
 |ptr t=>
  have e0:aY [RK.ptr t] [b]=[]:=by simp [aY]
  rw [e0]
  refine ⟨?_,rfl,fun q t fz xs hq=>by simp [RK.inj] at hq⟩
  have key:ab w g (.optp t x) v:=by
   cases b with
   |nilp=>
    simp only [lr,Option.some.injEq] at h
    subst h
    cases hv;exact .opt0 _
   |vi cs=>
    simp only [lr] at h
    cases hm:t.ofCells cs with
    |none=>rw [hm] at h;cases h
    |some z=>
     rw [hm] at h
     simp only [Option.map_some,Option.some.injEq] at h
     subst h
     cases hv with
     |vi _ b o vals hc hr=>
      have hl:aH w g cs (List.ofFn fun i:Fin cs.length=>vals i):=⟨by simp,fun j h1 h2=>by simpa using hr j h1⟩
      have h2:=dK hm hl
      have hlen:(t.cells z).length=cs.length:=by simpa using h2.1.symm
      refine .opt1 t z _ (.vi _ b o vals (fun j hj=>hc j (by omega)) fun j hj=>?_)
      have:=h2.2 j hj (by simp;omega)
      simpa using this
   |_=>simp [lr] at h
  exact key.fin (.optp t x)
theorem qc (k:RK)(b:AV)(ks:List RK)(l:List AV):aY (k :: ks) (b :: l)=aY [k] [b]++aY ks l:=by
 cases k with
 |one k=>simp [aY]
 |agg ks'=>cases b<;>simp [aY]
 |el t=>simp [aY]
 |ptr t=>simp [aY]
theorem nh (hn:(ps.filterMap id).Nodup)(hS:aQ aa n w g S a):∀{ks:List RK}{l:List AV}{x:eg.den ks}{vs:List Value} (p:Nat),gf S ks l=some x→aH w g l vs→
  (∀q,q<(aY ks l).length→ps[p+q]?=(aY ks l)[q]?)→
  aH w (eh g ps nl) (eg.inj 0 p ks x).1 vs∧(aY ks l).length=(eg.inj 0 p ks x).2.length∧∀q t fz xs,(eg.inj 0 p ks x).2[q]?=some (.sl t fz xs)→bL aa w (eh g ps nl) 0 (p+q) t fz xs
 |[],[],x,vs,p,h,hr,_=>by
  rw [hr.nil_inv]
  exact ⟨.nil,rfl,fun q t fz xs hq=>by simp [eg.inj] at hq⟩
 |[k],[b],x,vs,p,h,hr,hp=>by
  obtain ⟨v,vs',rfl,h1,h2⟩:=hr.cons_inv
  rw [h2.nil_inv]
  obtain ⟨e1,e2,e3⟩:=pE (nl:=nl) hn hS (k:=k) p h h1 hp
  exact ⟨.cons e1 .nil,e2,e3⟩
 |k :: k' :: ks,b :: l,x,vs,p,h,hr,hp=>by
  obtain ⟨v,vs',rfl,h1,h2⟩:=hr.cons_inv
  simp only [gf] at h
  cases hb:lr S k b with
  |none=>rw [hb] at h;cases h
  |some y=>
   rw [hb] at h
   simp only [Option.bind_some] at h
   cases hm:gf S (k' :: ks) l with
   |none=>rw [hm] at h;cases h
   |some z=>
    rw [hm] at h
    simp only [Option.map_some,Option.some.injEq] at h
    subst h
    rw [qc] at hp ⊢
    obtain ⟨e1,e2,e3⟩:=pE (nl:=nl) hn hS p hb h1 (fun q hq=>by
     have:=hp q (by rw [List.length_append];omega)
     rw [this,List.getElem?_append_left hq])
    obtain ⟨f1,f2,f3⟩:=nh hn hS (p+(k.inj 0 p y).2.length) hm h2 (fun q hq=>by
     have:=hp ((aY [k] [b]).length+q) (by rw [List.length_append];omega)
     rw [←Nat.add_assoc,e2,List.getElem?_append_right (by omega)] at this
     rw [this]
     congr 1;omega)
    refine ⟨.cons e1 f1,?_,fun q t fz xs hq=>?_⟩
    ·simp only [eg.inj,List.length_append,e2,f2]
    ·simp only [eg.inj] at hq
     by_cases hlt:q<(k.inj 0 p y).2.length
     ·rw [List.getElem?_append_left hlt] at hq
      exact e3 q t fz xs hq
     ·rw [List.getElem?_append_right (by omega)] at hq
      have:=f3 _ t fz xs hq
      rwa [show p+(k.inj 0 p y).2.length+(q - (k.inj 0 p y).2.length)=p+q by omega] at this
 |[],_ :: _,_,_,_,h,_,_=>by simp [gf] at h
 |[_],[],_,_,_,h,_,_=>by simp [gf] at h
 |[_],_ :: _ :: _,_,_,_,h,_,_=>by simp [gf] at h
 |_ :: _ :: _,[],_,_,_,h,_,_=>by simp [gf] at h
theorem tD {q j:Nat}(hq:q≠0)(hnp:∀p:Nat,ps[p]?≠some (some (q,j))){k:LK}{c:af}{x:k.den}{v:Value}(h:k.ofCell c=some x)(hv:cf aa w g q j c v)
  (hnl:nl q j↔c=.av .nils):cf aa w (eh g ps nl) q j (k.cell x) v:=by
 cases k with
 |bool=>
  cases c with
  |av b=>
   cases b<;>simp [LK.ofCell] at h
   subst h
   exact .av _ _ (hv.av_inv.fin (.bool _))
  |sl t fz xs=>simp [LK.ofCell] at h
 |int k=>
  cases c with
  |av b=>
   cases b<;>simp [LK.ofCell] at h
   obtain ⟨rfl,h⟩:=h
   subst h
   exact .av _ _ (hv.av_inv.fin (.int _ _))
  |sl t fz xs=>simp [LK.ofCell] at h
 |str=>
  cases c with
  |av b=>
   cases b<;>simp [LK.ofCell] at h
   subst h
   exact .av _ _ (hv.av_inv.fin (.str _))
  |sl t fz xs=>simp [LK.ofCell] at h
 |err=>
  cases c with
  |av b=>
   cases b<;>simp [LK.ofCell] at h
   subst h
   exact .av _ _ (hv.av_inv.fin (.err _))
  |sl t fz xs=>simp [LK.ofCell] at h
 |list t=>
  cases c with
  |av b=>exact .av _ _ ((fa (by simpa [LK.ofCell] using h) hv.av_inv).fin (.L _ _))
  |sl u fz xs=>
   cases fz with
   |false=>simp [LK.ofCell] at h
   |true=>
    simp only [LK.ofCell] at h
    split at h
    ·rename_i hu
     subst hu
     cases h
     rw [hv.sl_inv.2]
     exact .av _ _ (hv.sl_inv.1.L_own.fin (.L _ _))
    ·cases h
 |room t=>
  cases c with
  |av b=>
   cases b with
   |rm u xs ys=>
    simp only [LK.ofCell] at h
    split at h
    ·rename_i hu;subst hu;cases h;exact .av _ _ (hv.av_inv.fin (.rm _ _ _))
    ·cases h
   |_=>simp [LK.ofCell] at h
  |sl t fz xs=>simp [LK.ofCell] at h
 |own t fz=>
  cases c with
  |av b=>
   cases b<;>simp [LK.ofCell] at h
   subst h
   have e:(eh g ps nl).hs q j=.slice none 0 0:=by simp only [eh];rw [if_neg hq,if_pos (hnl.2 rfl)]
   have ev:v=.slice none 0 0:=by have:=hv.av_inv;cases this;rfl
   rw [ev,←e]
   exact .sl _ _ _ (.empty e)
  |sl u fz' xs=>
   simp only [LK.ofCell] at h
   split at h
   ·rename_i hu
    subst hu
    cases hf:fz==fz' with
    |false=>rw [hf] at h;cases h
    |true=>
     rw [hf] at h
     have hf':fz=fz':=by simpa using hf
     subst hf'
     simp only [cond,Option.some.injEq] at h
     subst h
     obtain ⟨q1,q2⟩:=vd (nl:=nl) hq hnp (fun h=>by have:=hnl.1 h;cases this) hv.sl_inv.1
     rw [hv.sl_inv.2,←q2]
     exact .sl _ _ _ q1
   ·cases h
theorem mE:∀{ks:List LK}{cs:List af}{x:dn.den ks},dn.ofCells ks cs=some x→(dn.cells ks x).length=cs.length∧
  ∀j (hj:j<(dn.cells ks x).length) (hj':j<cs.length),∃(k:LK) (y:k.den),(dn.cells ks x)[j]=k.cell y∧k.ofCell cs[j]=some y
 |[],[],x,_=>⟨rfl,fun j hj=>by simp [dn.cells] at hj⟩
 |[k],[c],x,h=>by
  refine ⟨rfl,fun j hj hj'=>?_⟩
  have:j=0:=by simp at hj';omega
  subst this
  exact ⟨k,x,rfl,h⟩
 |k :: k' :: ks,c :: cs,x,h=>by
  simp only [dn.ofCells] at h
  cases hb:k.ofCell c with
  |none=>rw [hb] at h;cases h
  |some y=>
   rw [hb] at h
   simp only [Option.bind_some] at h
   cases hm:dn.ofCells (k' :: ks) cs with
   |none=>rw [hm] at h;cases h
   |some z=>
    rw [hm] at h
    simp only [Option.map_some,Option.some.injEq] at h
    subst h
    obtain ⟨e1,e2⟩:=mE hm
    refine ⟨by simp [dn.cells,e1],fun j hj hj'=>?_⟩
    cases j with
    |zero=>exact ⟨k,y,rfl,hb⟩
    |succ j=>
     obtain ⟨k2,y2,q1,q2⟩:=e2 j (by simpa [dn.cells] using hj) (by simpa using hj')
     exact ⟨k2,y2,by simpa [dn.cells] using q1,by simpa using q2⟩
 |[],_ :: _,_,h=>by simp [dn.ofCells] at h
 |[_],[],_,h=>by simp [dn.ofCells] at h
 |[_],_ :: _ :: _,_,h=>by simp [dn.ofCells] at h
 |_ :: _ :: _,[],_,h=>by simp [dn.ofCells] at h
theorem mr:∀{bs:List (Nat×List LK)}{y:cu.den bs},gQ S bs=some y→∀i cs,(i,cs)∈cu.cells bs y→∃ks cs0 x,(i,ks)∈bs∧S.root (1000+i)=some ⟨true,cs0⟩∧dn.ofCells ks cs0=some x∧cs=dn.cells ks x
 |[],_,_,i,cs,h=>by simp [cu.cells] at h
 |[(j,ks)],y,h,i,cs,hm=>by
  simp only [cu.cells,List.mem_singleton,Prod.mk.injEq] at hm
  obtain ⟨rfl,rfl⟩:=hm
  simp only [gQ,iY] at h
  split at h
  ·rename_i cs0 hr
   exact ⟨ks,cs0,y,by simp,hr,h,rfl⟩
  ·cases h
 |(j,ks) :: b :: bs,y,h,i,cs,hm=>by
  simp only [gQ] at h
  cases hx:iY S j ks with
  |none=>rw [hx] at h;cases h
  |some x=>
   rw [hx] at h
   simp only [Option.bind_some] at h
   cases hz:gQ S (b :: bs) with
   |none=>rw [hz] at h;cases h
   |some z=>
    rw [hz] at h
    simp only [Option.map_some,Option.some.injEq] at h
    subst h
    simp only [cu.cells,List.mem_cons,Prod.mk.injEq] at hm
    rcases hm with ⟨rfl,rfl⟩|hm
    ·unfold iY at hx
     split at hx
     ·rename_i cs0 hr
      exact ⟨ks,cs0,x,by simp,hr,hx,rfl⟩
     ·cases hx
    ·obtain ⟨ks',cs0,x',q1,q2,q3,q4⟩:=mr hz i cs (by simpa using hm)
     exact ⟨ks',cs0,x',List.mem_cons_of_mem _ q1,q2,q3,q4⟩
theorem nN:∀{bs:List (Nat×List LK)}{l:List (Nat×Nat)},oc bs l=true→∀i ks,(i,ks)∈bs→∀j,(1000+i,j) ∉ l
 |[],_,_,_,_,h=>by simp at h
 |(i',ks') :: bs,l,h,i,ks,hm=>by
  simp only [oc,Bool.and_eq_true] at h
  rcases List.mem_cons.mp hm with e|hm
  ·cases e
   intro j hj
   have:=List.all_eq_true.1 h.1.2 _ hj
   simp at this
  ·exact nN h.2 i ks hm
end
theorem bc.mk1_res (s:bc)(x:eg.den s.res)(y:cu.den s.back):s.res1 (s.mk1 x y)=x:=by
 obtain ⟨rs,bs⟩:=s
 cases bs with
 |nil=>rfl
 |cons b bs=>cases rs<;>rfl
theorem bc.mk1_back (s:bc)(x:eg.den s.res)(y:cu.den s.back):s.back1 (s.mk1 x y)=y:=by
 obtain ⟨rs,bs⟩:=s
 cases bs with
 |nil=>rfl
 |cons b bs=>cases rs<;>rfl
def lP (tmps:Array Value):ResultVar→Sem Value
 |.tmp t=>pure (tmps.getD t undef)
 |.cell a t=>do loadVar t (←asAddr (tmps.getD a undef))
theorem nE {E:db}(hE:py P aa E)(hS:aQ aa n w g S a):∀{rs:List ResultVar}{as:List AV},lD E S rs=some as→∃vs:List Value,(rs.mapM (lP a.tmps)).run P w=.ok vs w∧aH w g as vs
 |[],as,h=>by
  simp only [lD,Option.some.injEq] at h;subst h
  exact ⟨[],by simp,.nil⟩
 |r :: rs,as,h=>by
  simp only [lD] at h
  cases hr:ua E S r with
  |none=>rw [hr] at h;cases h
  |some b=>
   rw [hr] at h
   simp only [Option.bind_some] at h
   cases hm:lD E S rs with
   |none=>rw [hm] at h;cases h
   |some m=>
    rw [hm] at h
    simp only [Option.map_some,Option.some.injEq] at h
    subst h
    obtain ⟨vs,h1,h2⟩:=nE hE hS hm
    obtain ⟨v,h3,h4⟩:∃v,(lP a.tmps r).run P w=.ok v w∧ab w g b v:=by
     cases r with
     |tmp t=>
      simp only [ua,Option.some.injEq] at hr
      subst hr
      exact ⟨_,by simp [lP],hS.tm t⟩
     |cell x T=>
      simp only [ua] at hr
      split at hr
      ·rename_i i hi
       have hT:=hE.ty T i hi
       obtain ⟨b',off,l,vs',e,hκ,hl,hnn,hc⟩:=mH hr hS (hS.tm x)
       have hrun:=mG hT hnn hc
       refine ⟨_,?_,lM hκ hl⟩
       simp only [lP,Sem.run_bind,e,asAddr]
       simpa using hrun
      ·cases hr
    refine ⟨v :: vs,?_,.cons h4 h2⟩
    simp [List.mapM_cons,h3,h1]
theorem qt {E:db}(hE:py P aa E){fi:bT}{fn:Func}(hres:fn.results.toList=fi.results){s:bc}{r:s.den}(h:gV E fi s S=some r)(hS:aQ aa n w g S a):
  ∃v g',(results fn a.tmps).run P w=.ok v w∧en w g w g'∧jP aa w g' s r v:=by
 unfold gV at h
 split at h
 ·rename_i as has
  obtain ⟨vs,hrun,hvs⟩:=nE hE hS has
  simp only at h
  cases hc:i7 ((aY s.res as).filterMap id)&&oc s.back ((aY s.res as).filterMap id) with
  |false=>rw [hc] at h;cases h
  |true=>
   rw [hc] at h
   rw [Bool.and_eq_true] at hc
   simp only [cond] at h
   have hnd:=ol.1 hc.1
   obtain ⟨g1,hS1,i1,r1⟩:=hS.frzAll (ku s.res as++kQ S s.back)
   generalize hSe:frzAll S (ku s.res as++kQ S s.back)=S1 at h hS1
   cases hx:gf S1 s.res as with
   |none=>rw [hx] at h;cases h
   |some x=>
    rw [hx] at h
    simp only [Option.bind_some] at h
    cases hy:gQ S1 s.back with
    |none=>rw [hy] at h;cases h
    |some y=>
     rw [hy] at h
     simp only [Option.bind_some,Option.some.injEq] at h
     subst h
     generalize hps:aY s.res as=ps at hnd hc
     obtain ⟨f1,f2,f3⟩:=nh (ps:=ps) (nl:=fun q i=>∃r,S1.root q=some r∧r.cs[i]?=some (.av .nils)) hnd hS1 0 hx (hvs.mono r1) (fun q _=>by rw [Nat.zero_add,hps])
     refine ⟨if h:vs.length=1 then vs[0] else .tuple vs.toArray,eh g1 ps (fun q i=>∃r,S1.root q=some r∧r.cs[i]?=some (.av .nils)),?_,i1.trans yI,⟨?_,?_,?_⟩⟩
     ·unfold results
      have hm:(fn.results.mapM (lP a.tmps)).run P w=.ok vs.toArray w:=by
       rw [Array.mapM_eq_mapM_toList,hres]
       simp [hrun]
      show Sem.run P (do let vs←fn.results.mapM (lP a.tmps);pure (if h:vs.size=1 then vs[0] else .tuple vs)) w=_
      simp only [Sem.run_bind,hm,Result.andThen_ok]
      by_cases h1:vs.length=1
      ·simp [h1]
      ·simp [h1]
     ·rw [bc.mk1_res]
      have hlen:=f1.1
      generalize (eg.inj 0 0 s.res x).1=l at f1 hlen
      match l,vs,f1,hlen with
      |[],[],_,_=>exact .tup [] [] rfl fun j h=>by simp at h
      |[b],[v],f1,_=>exact f1.2 0 (by simp) (by simp)
      |b :: c :: l,u :: v :: vs,f1,_=>
       rw [dif_neg (by simp)]
       exact .tup _ _ f1.1 f1.2
      |[],_ :: _,_,h=>simp at h
      |_ :: _,[],_,h=>simp at h
      |[_],_ :: _ :: _,_,h=>simp at h
      |_ :: _ :: _,[_],_,h=>simp at h
     ·rw [bc.mk1_res]
      refine ⟨fun _ j t fz xs hj=>?_,fun h=>by cases h⟩
      have:=f3 j t fz xs hj
      rwa [Nat.zero_add] at this
     ·rw [bc.mk1_back]
      intro i cs hm
      obtain ⟨ks,cs0,z,q1,q2,q3,rfl⟩:=mr hy i cs hm
      obtain ⟨e1,e2⟩:=mE q3
      have hR:=hS1.rt _ _ q2
      obtain ⟨vals,hv⟩:=hR.box rfl
      refine ⟨fun h=>(by cases h),fun _=>⟨vals,fun j hj=>?_⟩⟩
      have hj':j<cs0.length:=by rw [←e1];exact hj
      obtain ⟨h1,h2,h3,h4,h5⟩:=hv j hj'
      refine ⟨h1,ee h2 (fun s j e=>by cases e),h3,h4,?_⟩
      obtain ⟨k,u,e3,e4⟩:=e2 j hj hj'
      simp only [e3]
      refine tD (by omega) (fun p hp=>?_) e4 h5 ⟨fun ⟨r,hr,hrc⟩=>?_,fun hcell=>⟨_,q2,?_⟩⟩
      ·refine nN hc.2 i ks q1 j (List.mem_filterMap.2 ⟨_,List.mem_of_getElem? hp,rfl⟩)
      ·rw [q2] at hr
       cases hr
       exact (List.getElem?_eq_some_iff.mp hrc).2
      ·rw [←hcell]
       exact List.getElem?_eq_getElem hj'
 ·cases h
end
end Go.Proofs.YtjkokaockhecnaaGreatDoorA
