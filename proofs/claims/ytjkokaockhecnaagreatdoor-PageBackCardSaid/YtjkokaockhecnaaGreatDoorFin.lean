/- What a call answers. -/
import Derived.Test.YtjkokaockhecnaaGreatDoorExec
import Derived.Laws.Sem
namespace Go.Proofs.YtjkokaockhecnaaGreatDoorA
open Go
section
variable {aa:aM}{n:Nat}{w w' w'':World}{g g' g'':Gh}{S S':St}{a:Act}{P:Program}
open Classical in
noncomputable def eT (g:Gh)(ps:List (Option (Nat×Nat)))(nl:Nat→Nat→Prop):Gh where
 who b o:=match g.who b o with
  |.obj s (some j)=>if h:∃p:Nat,ps[p]?=some (some (s,j)) then .obj 0 (some h.choose) else .obj s (some j)
  |q=>q
 hs q i:=if q=0 then (match ps[i]? with|some (some x)=>g.hs x.1 x.2|_=>.slice none 0 0) else if nl q i then .slice none 0 0 else g.hs q i
 hb:=g.hb
section
variable {ps:List (Option (Nat×Nat))}{nl:Nat→Nat→Prop}
theorem eL {b o:Nat}{q:Af}(h:g.who b o=q)(hq:∀s j,q=.obj s (some j)→∀p:Nat,ps[p]?≠some (some (s,j))):(eT g ps nl).who b o=q:=by
 simp only [eT]
 rw [h]
 cases q with
 |obj s x=>
  cases x with
  |none=>rfl
  |some j=>simp only;rw [dif_neg fun ⟨p,hp⟩=>hq s j rfl p hp]
 |_=>rfl
theorem wj (hn:(ps.filterMap id).Nodup){b o p s j:Nat}(hp:ps[p]?=some (some (s,j)))(h:g.who b o=.obj s (some j)):(eT g ps nl).who b o=.obj 0 (some p):=by
 simp only [eT]
 rw [h]
 have hex:∃p:Nat,ps[p]?=some (some (s,j)):=⟨p,hp⟩
 simp only
 rw [dif_pos hex,tH hn hex.choose_spec hp]
theorem A6:eS w g w (eT g ps nl):=
 ⟨.refl _ _,fun b o _ h=>eL h (fun s j e=>by cases e),fun b o _ h=>eL h (fun s j e=>by cases e),fun b o _ h=>eL h (fun s j e=>by cases e),fun _ _=>rfl⟩
theorem RepA.fin {b:AV}{v:Value}(h:RepA w g b v)(hb:eV b):RepA w (eT g ps nl) b v:=
 h.plain (fun b o _ _ h=>eL h (fun s j e=>by cases e)) hb
theorem y5 {p s j:Nat}(hp:ps[p]?=some (some (s,j))):(eT g ps nl).hs 0 p=g.hs s j:=by simp [eT,hp]
theorem A5 {p:Nat}(hp:ps[p]?=some none):(eT g ps nl).hs 0 p=.slice none 0 0:=by simp [eT,hp]
theorem xq (hn:(ps.filterMap id).Nodup){p s j:Nat}(hp:ps[p]?=some (some (s,j))){t:El}{fz:Bool}{xs:List t.den}(h:bZ aa w g s j t fz xs):bZ aa w (eT g ps nl) 0 p t fz xs:=by
 have e:=y5 (g:=g) (nl:=nl) hp
 rcases h.c with ⟨⟨vs,h1,h2,h3⟩,hown⟩|⟨h1,h2,a,h3⟩
 rotate_left
 ·exact ⟨.inr ⟨h1,h2,a,e.trans h3⟩⟩
 refine ⟨.inl ⟨⟨vs,by rw [e];exact h1,h2,fun i h h'=>(h3 i h h').fin (gp t xs _ (List.getElem_mem h))⟩,fun b m cap e'=>?_⟩⟩
 rw [e] at e'
 obtain ⟨hlt,hw⟩:=hown b m cap e'
 refine ⟨hlt,fun o=>?_⟩
 have:=hw o
 split at this
 ·rename_i ho
  rw [if_pos ho]
  cases fz with
  |true=>exact eL (by simpa using this) (fun s j e=>by simp at e)
  |false=>exact wj hn hp (by simpa using this)
 ·rename_i ho
  rw [if_neg ho]
  exact wj hn hp this
theorem xH {q i:Nat}(hq:q≠0)(hnp:∀p:Nat,ps[p]?≠some (some (q,i)))(hnl:¬nl q i){t:El}{fz:Bool}{xs:List t.den}(h:bZ aa w g q i t fz xs):
  bZ aa w (eT g ps nl) q i t fz xs∧(eT g ps nl).hs q i=g.hs q i:=by
 have e:(eT g ps nl).hs q i=g.hs q i:=by simp only [eT];rw [if_neg hq,if_neg hnl]
 rcases h.c with ⟨⟨vs,h1,h2,h3⟩,hown⟩|⟨h1,h2,a,h3⟩
 rotate_left
 ·exact ⟨⟨.inr ⟨h1,h2,a,e.trans h3⟩⟩,e⟩
 refine ⟨⟨.inl ⟨⟨vs,by rw [e];exact h1,h2,fun i h h'=>(h3 i h h').fin (gp t xs _ (List.getElem_mem h))⟩,fun b m cap e'=>?_⟩⟩,e⟩
 rw [e] at e'
 obtain ⟨hlt,hw⟩:=hown b m cap e'
 refine ⟨hlt,fun o=>?_⟩
 have:=hw o
 split at this
 ·rename_i ho
  rw [if_pos ho]
  cases fz with
  |true=>exact eL (by simpa using this) (fun s j e=>by simp at e)
  |false=>exact eL (by simpa using this) (fun s j e=>by simp only [Bool.false_eq_true,if_false,Af.obj.injEq,Option.some.injEq] at e;obtain ⟨rfl,rfl⟩:=e;exact hnp)
 ·rename_i ho
  rw [if_neg ho]
  exact eL this (fun s j e=>by cases e;exact hnp)
theorem kg (hn:(ps.filterMap id).Nodup)(hS:aV aa n w g S a){k:LK}{b:AV}{x:k.den}{v:Value}(h:cN S k b=some x)(hv:RepA w g b v){p:Nat}(hp:ps[p]?=some (u0 k b)):
  cw aa w (eT g ps nl) 0 p (k.cell x) v:=by
 cases k with
 |bool=>
  cases b<;>simp [cN,LK.ofCell] at h
  subst h
  exact .av _ _ (hv.fin (.bool _))
 |int k=>
  cases b<;>simp [cN,LK.ofCell] at h
  obtain ⟨rfl,h⟩:=h
  subst h
  exact .av _ _ (hv.fin (.int _ _))
 |str=>
  cases b<;>simp [cN,LK.ofCell] at h
  subst h
  exact .av _ _ (hv.fin (.str _))
 |err=>
  cases b<;>simp [cN,LK.ofCell] at h
  subst h
  exact .av _ _ (hv.fin (.err _))
 |list t=>
  have fin:∀{b:AV},rS t b=some x→RepA w g b v→cw aa w (eT g ps nl) 0 p (LK.cell (.list t) x) v:=fun hb hv=>.av _ _ ((fU hb hv).fin (.L _ _))
  cases b with
  |al s j=>
   simp only [cN] at h
   split at h
   ·rename_i u xs hc
    split at h
    ·rename_i hu
     subst hu
     cases h
     rw [hv.al_inv.1]
     exact .av _ _ ((hS.cell hc).L_own.fin (.L _ _))
    ·cases h
   ·cases h
  |_=>exact fin (by simpa [cN,LK.ofCell] using h) hv
 |own t fz=>
  cases b with
  |nils=>
   simp only [cN,Option.some.injEq] at h
   subst h
   have e:=A5 (g:=g) (nl:=nl) hp
   have ev:v=.slice none 0 0:=by cases hv;rfl
   rw [ev,←e]
   exact .sl _ _ _ (.empty e)
  |al s j=>
   simp only [cN] at h
   split at h
   ·rename_i u fz' xs hc
    split at h
    ·rename_i hu
     subst hu
     cases hf:fz==fz' with
     |false=>rw [hf] at h;cases h
     |true=>
      rw [hf] at h
      have hf':fz=fz':=by simpa using hf
      subst hf'
      simp only [cond,Option.some.injEq] at h
      subst h
      rw [hv.al_inv.1,←y5 (g:=g) (nl:=nl) hp]
      exact .sl _ _ _ (xq hn hp (hS.cell hc))
    ·cases h
   ·cases h
  |_=>simp [cN,LK.ofCell] at h
 |room t=>
  cases b with
  |rm u xs ys=>
   simp only [cN,LK.ofCell] at h
   split at h
   ·rename_i hu;subst hu;cases h;exact .av _ _ (hv.fin (.rm _ _ _))
   ·cases h
  |_=>simp [cN,LK.ofCell] at h
theorem kV (hn:(ps.filterMap id).Nodup)(hS:aV aa n w g S a):∀{ks:List LK}{l:List AV}{x:dQ.den ks}{vs:List Value} (p:Nat),dL S ks l=some x→RepL w g l vs→
  (∀q,q<(dK ks l).length→ps[p+q]?=(dK ks l)[q]?)→
  (dQ.cells ks x).length=vs.length∧(dK ks l).length=(dQ.cells ks x).length∧∀q (hq:q<(dQ.cells ks x).length) (hq':q<vs.length),cw aa w (eT g ps nl) 0 (p+q) ((dQ.cells ks x)[q]) (vs[q])
 |[],[],x,vs,p,h,hr,_=>by
  rw [hr.nil_inv]
  exact ⟨rfl,rfl,fun q hq=>by simp [dQ.cells] at hq⟩
 |[k],[b],x,vs,p,h,hr,hp=>by
  obtain ⟨v,vs',rfl,h1,h2⟩:=hr.cons_inv
  rw [h2.nil_inv]
  have hp0:=hp 0 (by simp [dK])
  have:=kg (nl:=nl) hn hS h h1 (p:=p) (by simpa [dK] using hp0)
  refine ⟨rfl,rfl,fun q hq hq'=>?_⟩
  have:q=0:=by simp [dQ.cells] at hq;omega
  subst this
  simpa [dQ.cells] using this
 |k :: k' :: ks,b :: l,x,vs,p,h,hr,hp=>by
  obtain ⟨v,vs',rfl,h1,h2⟩:=hr.cons_inv
  simp only [dL] at h
  cases hb:cN S k b with
  |none=>rw [hb] at h;cases h
  |some y=>
   rw [hb] at h
   simp only [Option.bind_some] at h
   cases hm:dL S (k' :: ks) l with
   |none=>rw [hm] at h;cases h
   |some z=>
    rw [hm] at h
    simp only [Option.map_some,Option.some.injEq] at h
    subst h
    have hp0:=hp 0 (by simp [dK])
    have hc:=kg (nl:=nl) hn hS hb h1 (p:=p) (by simpa [dK] using hp0)
    obtain ⟨e1,e2,e3⟩:=kV hn hS (p+1) hm h2 (fun q hq=>by
     have:=hp (q+1) (by rw [dK];simp;exact hq)
     rw [show p+(q+1)=p+1+q by omega] at this
     simpa [dK] using this)
    refine ⟨by simp [dQ.cells,e1],by rw [dK];simp [dQ.cells,e2],fun q hq hq'=>?_⟩
    cases q with
    |zero=>exact hc
    |succ q=>
     have:=e3 q (by simpa [dQ.cells] using hq) (by simpa using hq')
     rw [show p+1+q=p+(q+1) by omega] at this
     simpa [dQ.cells] using this
 |[],_ :: _,_,_,_,h,_,_=>by simp [dL] at h
 |[_],[],_,_,_,h,_,_=>by simp [dL] at h
 |[_],_ :: _ :: _,_,_,_,h,_,_=>by simp [dL] at h
 |_ :: _ :: _,[],_,_,_,h,_,_=>by simp [dL] at h
theorem fQ (hS:aV aa n w g S a):∀{l m:List AV}{vs:List Value},dD S l=some m→RepL w g l vs→RepL w g m vs
 |[],m,vs,h,hr=>by
  simp only [dD,Option.some.injEq] at h;subst h
  exact hr
 |b :: l,m,vs,h,hr=>by
  obtain ⟨v,vs',rfl,h1,h2⟩:=hr.cons_inv
  simp only [dD] at h
  cases hb:mP S b with
  |none=>rw [hb] at h;cases h
  |some c=>
   rw [hb] at h
   simp only [Option.bind_some] at h
   cases hm:dD S l with
   |none=>rw [hm] at h;cases h
   |some m'=>
    rw [hm] at h
    simp only [Option.map_some,Option.some.injEq] at h
    subst h
    refine .cons ?_ (fQ hS hm h2)
    unfold mP at hb
    split at hb
    ·rename_i s j
     split at hb
     ·rename_i t xs hc
      cases hb
      rw [h1.al_inv.1]
      exact (hS.cell hc).L_own
     ·cases hb
    ·cases hb;exact h1
theorem ra (hn:(ps.filterMap id).Nodup)(hS:aV aa n w g S a){k:RK}{b:AV}{x:k.den}{v:Value}(p:Nat)(h:mb S k b=some x)(hv:RepA w g b v)
  (hp:∀q,q<(bc [k] [b]).length→ps[p+q]?=(bc [k] [b])[q]?):
  RepA w (eT g ps nl) (k.inj 0 p x).1 v∧(bc [k] [b]).length=(k.inj 0 p x).2.length∧∀q t fz xs,(k.inj 0 p x).2[q]?=some (.sl t fz xs)→bZ aa w (eT g ps nl) 0 (p+q) t fz xs:=by
 cases k with
 |one k=>
  have hp0:=hp 0 (by simp [bc])
  have hc:=kg (nl:=nl) hn hS (k:=k) h hv (p:=p) (by simpa [bc] using hp0)
  refine ⟨hc.cellAV,rfl,fun q t fz xs hq=>?_⟩
  cases q with
  |succ q=>simp [RK.inj] at hq
  |zero=>
   simp only [RK.inj,List.getElem?_cons_zero,Option.some.injEq] at hq
   rw [hq] at hc
   exact hc.sl_inv.1
 |agg ks=>
  cases b with
  |agg cs=>
   obtain ⟨vs,rfl,e1,e2⟩:=hv.agg_inv
   have hp':bc [RK.agg ks] [AV.agg cs]=dK ks cs:=by simp [bc]
   rw [hp'] at hp ⊢
   obtain ⟨f1,f2,f3⟩:=kV (nl:=nl) hn hS (ks:=ks) p h ⟨e1,e2⟩ hp
   refine ⟨(j1 p f1 f3).agg,f2,fun q t fz xs hq=>?_⟩
   have hq2:(dQ.cells ks x)[q]?=some (.sl t fz xs):=hq
   have hql:=(List.getElem?_eq_some_iff.mp hq2).1
   have:=f3 q hql (by rw [←f1];exact hql)
   rw [(List.getElem?_eq_some_iff.mp hq2).2] at this
   exact this.sl_inv.1
  |_=>simp [mb] at h
 |el t=>
  refine ⟨?_,rfl,fun q t fz xs hq=>by simp [RK.inj] at hq⟩
  simp only [mb] at h
  cases hc:b.isVal&&(t.isAgg==b.isAgg) with
  |false=>rw [hc] at h;cases h
  |true=>
   rw [hc] at h
   rw [Bool.and_eq_true] at hc
   simp only [cond] at h
   have hag:t.isAgg=b.isAgg:=by simpa using hc.2
   cases hm:dD S b.leaves with
   |none=>rw [hm] at h;cases h
   |some m=>
    rw [hm] at h
    simp only [Option.bind_some] at h
    have pl:∀{l:List AV}{vs:List Value},RepL w g l vs→(∀c∈l,eV c)→RepL w (eT g ps nl) l vs:=fun hl hp=>⟨hl.1,fun i h1 h2=>(hl.2 i h1 h2).fin (hp _ (List.getElem_mem h1))⟩
    have hcells:=hJ t x
    by_cases hb:∃cs,b=.agg cs
    ·obtain ⟨cs,rfl⟩:=hb
     obtain ⟨vs,rfl,e1,e2⟩:=hv.agg_inv
     have h2:=pl (ez h (fQ hS hm ⟨e1,e2⟩)) hcells
     cases t<;>simp [El.isAgg,AV.isAgg] at hag<;>exact h2.agg
    ·have hl:b.leaves=[b]:=by
      unfold AV.leaves
      split
      ·exact absurd ⟨_,rfl⟩ hb
      ·rfl
     rw [hl] at hm
     have h1:RepL w g [b] [v]:=.cons hv .nil
     have h2:=pl (ez h (fQ hS hm h1)) hcells
     have hna:b.isAgg=false:=by
      unfold AV.isAgg
      split
      ·exact absurd ⟨_,rfl⟩ hb
      ·rfl
     rw [hna] at hag
     obtain ⟨v',vs',e,h3,_⟩:∃v' vs',[v]=v' :: vs'∧RepA w (eT g ps nl) (FR t x) v'∧True:=by
      cases t<;>simp [El.isAgg] at hag<;>(obtain ⟨v',vs',e,h3,_⟩:=h2.cons_inv;exact ⟨v',vs',e,h3,trivial⟩)
     cases e
     exact h3
 |ptr t=>
  have e0:bc [RK.ptr t] [b]=[]:=by simp [bc]
  rw [e0]
  refine ⟨?_,rfl,fun q t fz xs hq=>by simp [RK.inj] at hq⟩
  have key:RepA w g (.optp t x) v:=by
   cases b with
   |nilp=>
    simp only [mb,Option.some.injEq] at h
    subst h
    cases hv;exact .opt0 _
   |vi cs=>
    simp only [mb] at h
    cases hm:t.ofCells cs with
    |none=>rw [hm] at h;cases h
    |some z=>
     rw [hm] at h
     simp only [Option.map_some,Option.some.injEq] at h
     subst h
     cases hv with
     |vi _ b o vals hc hr=>
      have hl:RepL w g cs (List.ofFn fun i:Fin cs.length=>vals i):=⟨by simp,fun j h1 h2=>by simpa using hr j h1⟩
      have h2:=ez hm hl
      have hlen:(t.cells z).length=cs.length:=by simpa using h2.1.symm
      refine .opt1 t z _ (.vi _ b o vals (fun j hj=>hc j (by omega)) fun j hj=>?_)
      have:=h2.2 j hj (by simp;omega)
      simpa using this
   |_=>simp [mb] at h
  exact key.fin (.optp t x)
theorem rT (k:RK)(b:AV)(ks:List RK)(l:List AV):bc (k :: ks) (b :: l)=bc [k] [b]++bc ks l:=by
 cases k with
 |one k=>simp [bc]
 |agg ks'=>cases b<;>simp [bc]
 |el t=>simp [bc]
 |ptr t=>simp [bc]
theorem qF (hn:(ps.filterMap id).Nodup)(hS:aV aa n w g S a):∀{ks:List RK}{l:List AV}{x:dy.den ks}{vs:List Value} (p:Nat),il S ks l=some x→RepL w g l vs→
  (∀q,q<(bc ks l).length→ps[p+q]?=(bc ks l)[q]?)→
  RepL w (eT g ps nl) (dy.inj 0 p ks x).1 vs∧(bc ks l).length=(dy.inj 0 p ks x).2.length∧∀q t fz xs,(dy.inj 0 p ks x).2[q]?=some (.sl t fz xs)→bZ aa w (eT g ps nl) 0 (p+q) t fz xs
 |[],[],x,vs,p,h,hr,_=>by
  rw [hr.nil_inv]
  exact ⟨.nil,rfl,fun q t fz xs hq=>by simp [dy.inj] at hq⟩
 |[k],[b],x,vs,p,h,hr,hp=>by
  obtain ⟨v,vs',rfl,h1,h2⟩:=hr.cons_inv
  rw [h2.nil_inv]
  obtain ⟨e1,e2,e3⟩:=ra (nl:=nl) hn hS (k:=k) p h h1 hp
  exact ⟨.cons e1 .nil,e2,e3⟩
 |k :: k' :: ks,b :: l,x,vs,p,h,hr,hp=>by
  obtain ⟨v,vs',rfl,h1,h2⟩:=hr.cons_inv
  simp only [il] at h
  cases hb:mb S k b with
  |none=>rw [hb] at h;cases h
  |some y=>
   rw [hb] at h
   simp only [Option.bind_some] at h
   cases hm:il S (k' :: ks) l with
   |none=>rw [hm] at h;cases h
   |some z=>
    rw [hm] at h
    simp only [Option.map_some,Option.some.injEq] at h
    subst h
    rw [rT] at hp ⊢
    obtain ⟨e1,e2,e3⟩:=ra (nl:=nl) hn hS p hb h1 (fun q hq=>by
     have:=hp q (by rw [List.length_append];omega)
     rw [this,List.getElem?_append_left hq])
    obtain ⟨f1,f2,f3⟩:=qF hn hS (p+(k.inj 0 p y).2.length) hm h2 (fun q hq=>by
     have:=hp ((bc [k] [b]).length+q) (by rw [List.length_append];omega)
     rw [←Nat.add_assoc,e2,List.getElem?_append_right (by omega)] at this
     rw [this]
     congr 1;omega)
    refine ⟨.cons e1 f1,?_,fun q t fz xs hq=>?_⟩
    ·simp only [dy.inj,List.length_append,e2,f2]
    ·simp only [dy.inj] at hq
     by_cases hlt:q<(k.inj 0 p y).2.length
     ·rw [List.getElem?_append_left hlt] at hq
      exact e3 q t fz xs hq
     ·rw [List.getElem?_append_right (by omega)] at hq
      have:=f3 _ t fz xs hq
      rwa [show p+(k.inj 0 p y).2.length+(q - (k.inj 0 p y).2.length)=p+q by omega] at this
 |[],_ :: _,_,_,_,h,_,_=>by simp [il] at h
 |[_],[],_,_,_,h,_,_=>by simp [il] at h
 |[_],_ :: _ :: _,_,_,_,h,_,_=>by simp [il] at h
 |_ :: _ :: _,[],_,_,_,h,_,_=>by simp [il] at h
theorem vK {q j:Nat}(hq:q≠0)(hnp:∀p:Nat,ps[p]?≠some (some (q,j))){k:LK}{c:ah}{x:k.den}{v:Value}(h:k.ofCell c=some x)(hv:cw aa w g q j c v)
  (hnl:nl q j↔c=.av .nils):cw aa w (eT g ps nl) q j (k.cell x) v:=by
 cases k with
 |bool=>
  cases c with
  |av b=>
   cases b<;>simp [LK.ofCell] at h
   subst h
   exact .av _ _ (hv.av_inv.fin (.bool _))
  |sl t fz xs=>simp [LK.ofCell] at h
 |int k=>
  cases c with
  |av b=>
   cases b<;>simp [LK.ofCell] at h
   obtain ⟨rfl,h⟩:=h
   subst h
   exact .av _ _ (hv.av_inv.fin (.int _ _))
  |sl t fz xs=>simp [LK.ofCell] at h
 |str=>
  cases c with
  |av b=>
   cases b<;>simp [LK.ofCell] at h
   subst h
   exact .av _ _ (hv.av_inv.fin (.str _))
  |sl t fz xs=>simp [LK.ofCell] at h
 |err=>
  cases c with
  |av b=>
   cases b<;>simp [LK.ofCell] at h
   subst h
   exact .av _ _ (hv.av_inv.fin (.err _))
  |sl t fz xs=>simp [LK.ofCell] at h
 |list t=>
  cases c with
  |av b=>exact .av _ _ ((fU (by simpa [LK.ofCell] using h) hv.av_inv).fin (.L _ _))
  |sl u fz xs=>
   cases fz with
   |false=>simp [LK.ofCell] at h
   |true=>
    simp only [LK.ofCell] at h
    split at h
    ·rename_i hu
     subst hu
     cases h
     rw [hv.sl_inv.2]
     exact .av _ _ (hv.sl_inv.1.L_own.fin (.L _ _))
    ·cases h
 |room t=>
  cases c with
  |av b=>
   cases b with
   |rm u xs ys=>
    simp only [LK.ofCell] at h
    split at h
    ·rename_i hu;subst hu;cases h;exact .av _ _ (hv.av_inv.fin (.rm _ _ _))
    ·cases h
   |_=>simp [LK.ofCell] at h
  |sl t fz xs=>simp [LK.ofCell] at h
 |own t fz=>
  cases c with
  |av b=>
   cases b<;>simp [LK.ofCell] at h
   subst h
   have e:(eT g ps nl).hs q j=.slice none 0 0:=by simp only [eT];rw [if_neg hq,if_pos (hnl.2 rfl)]
   have ev:v=.slice none 0 0:=by have:=hv.av_inv;cases this;rfl
   rw [ev,←e]
   exact .sl _ _ _ (.empty e)
  |sl u fz' xs=>
   simp only [LK.ofCell] at h
   split at h
   ·rename_i hu
    subst hu
    cases hf:fz==fz' with
    |false=>rw [hf] at h;cases h
    |true=>
     rw [hf] at h
     have hf':fz=fz':=by simpa using hf
     subst hf'
     simp only [cond,Option.some.injEq] at h
     subst h
     obtain ⟨q1,q2⟩:=xH (nl:=nl) hq hnp (fun h=>by have:=hnl.1 h;cases this) hv.sl_inv.1
     rw [hv.sl_inv.2,←q2]
     exact .sl _ _ _ q1
   ·cases h
theorem nY:∀{ks:List LK}{cs:List ah}{x:dQ.den ks},dQ.ofCells ks cs=some x→(dQ.cells ks x).length=cs.length∧
  ∀j (hj:j<(dQ.cells ks x).length) (hj':j<cs.length),∃(k:LK) (y:k.den),(dQ.cells ks x)[j]=k.cell y∧k.ofCell cs[j]=some y
 |[],[],x,_=>⟨rfl,fun j hj=>by simp [dQ.cells] at hj⟩
 |[k],[c],x,h=>by
  refine ⟨rfl,fun j hj hj'=>?_⟩
  have:j=0:=by simp at hj';omega
  subst this
  exact ⟨k,x,rfl,h⟩
 |k :: k' :: ks,c :: cs,x,h=>by
  simp only [dQ.ofCells] at h
  cases hb:k.ofCell c with
  |none=>rw [hb] at h;cases h
  |some y=>
   rw [hb] at h
   simp only [Option.bind_some] at h
   cases hm:dQ.ofCells (k' :: ks) cs with
   |none=>rw [hm] at h;cases h
   |some z=>
    rw [hm] at h
    simp only [Option.map_some,Option.some.injEq] at h
    subst h
    obtain ⟨e1,e2⟩:=nY hm
    refine ⟨by simp [dQ.cells,e1],fun j hj hj'=>?_⟩
    cases j with
    |zero=>exact ⟨k,y,rfl,hb⟩
    |succ j=>
     obtain ⟨k2,y2,q1,q2⟩:=e2 j (by simpa [dQ.cells] using hj) (by simpa using hj')
     exact ⟨k2,y2,by simpa [dQ.cells] using q1,by simpa using q2⟩
 |[],_ :: _,_,h=>by simp [dQ.ofCells] at h
 |[_],[],_,h=>by simp [dQ.ofCells] at h
 |[_],_ :: _ :: _,_,h=>by simp [dQ.ofCells] at h
 |_ :: _ :: _,[],_,h=>by simp [dQ.ofCells] at h
theorem nK:∀{bs:List (Nat×List LK)}{y:cM.den bs},jo S bs=some y→∀i cs,(i,cs)∈cM.cells bs y→∃ks cs0 x,(i,ks)∈bs∧S.root (1000+i)=some ⟨true,cs0⟩∧dQ.ofCells ks cs0=some x∧cs=dQ.cells ks x
 |[],_,_,i,cs,h=>by simp [cM.cells] at h
 |[(j,ks)],y,h,i,cs,hm=>by
  simp only [cM.cells,List.mem_singleton,Prod.mk.injEq] at hm
  obtain ⟨rfl,rfl⟩:=hm
  simp only [jo,kj] at h
  split at h
  ·rename_i cs0 hr
   exact ⟨ks,cs0,y,by simp,hr,h,rfl⟩
  ·cases h
 |(j,ks) :: b :: bs,y,h,i,cs,hm=>by
  simp only [jo] at h
  cases hx:kj S j ks with
  |none=>rw [hx] at h;cases h
  |some x=>
   rw [hx] at h
   simp only [Option.bind_some] at h
   cases hz:jo S (b :: bs) with
   |none=>rw [hz] at h;cases h
   |some z=>
    rw [hz] at h
    simp only [Option.map_some,Option.some.injEq] at h
    subst h
    simp only [cM.cells,List.mem_cons,Prod.mk.injEq] at hm
    rcases hm with ⟨rfl,rfl⟩|hm
    ·unfold kj at hx
     split at hx
     ·rename_i cs0 hr
      exact ⟨ks,cs0,x,by simp,hr,hx,rfl⟩
     ·cases hx
    ·obtain ⟨ks',cs0,x',q1,q2,q3,q4⟩:=nK hz i cs (by simpa using hm)
     exact ⟨ks',cs0,x',List.mem_cons_of_mem _ q1,q2,q3,q4⟩
theorem pV:∀{bs:List (Nat×List LK)}{l:List (Nat×Nat)},pG bs l=true→∀i ks,(i,ks)∈bs→∀j,(1000+i,j) ∉ l
 |[],_,_,_,_,h=>by simp at h
 |(i',ks') :: bs,l,h,i,ks,hm=>by
  simp only [pG,Bool.and_eq_true] at h
  rcases List.mem_cons.mp hm with e|hm
  ·cases e
   intro j hj
   have:=List.all_eq_true.1 h.1.2 _ hj
   simp at this
  ·exact pV h.2 i ks hm
end
theorem bg.mk1_res (s:bg)(x:dy.den s.res)(y:cM.den s.back):s.res1 (s.mk1 x y)=x:=by
 obtain ⟨rs,bs⟩:=s
 cases bs with
 |nil=>rfl
 |cons b bs=>cases rs<;>rfl
theorem bg.mk1_back (s:bg)(x:dy.den s.res)(y:cM.den s.back):s.back1 (s.mk1 x y)=y:=by
 obtain ⟨rs,bs⟩:=s
 cases bs with
 |nil=>rfl
 |cons b bs=>cases rs<;>rfl
def mT (tmps:Array Value):ResultVar→Sem Value
 |.tmp t=>pure (tmps.getD t undef)
 |.cell a t=>do loadVar t (←asAddr (tmps.getD a undef))
theorem pK {E:dE}(hE:rz P aa E)(hS:aV aa n w g S a):∀{rs:List ResultVar}{as:List AV},m6 E S rs=some as→∃vs:List Value,(rs.mapM (mT a.tmps)).run P w=.ok vs w∧RepL w g as vs
 |[],as,h=>by
  simp only [m6,Option.some.injEq] at h;subst h
  exact ⟨[],by simp,.nil⟩
 |r :: rs,as,h=>by
  simp only [m6] at h
  cases hr:wu E S r with
  |none=>rw [hr] at h;cases h
  |some b=>
   rw [hr] at h
   simp only [Option.bind_some] at h
   cases hm:m6 E S rs with
   |none=>rw [hm] at h;cases h
   |some m=>
    rw [hm] at h
    simp only [Option.map_some,Option.some.injEq] at h
    subst h
    obtain ⟨vs,h1,h2⟩:=pK hE hS hm
    obtain ⟨v,h3,h4⟩:∃v,(mT a.tmps r).run P w=.ok v w∧RepA w g b v:=by
     cases r with
     |tmp t=>
      simp only [wu,Option.some.injEq] at hr
      subst hr
      exact ⟨_,by simp [mT],hS.tm t⟩
     |cell x T=>
      simp only [wu] at hr
      split at hr
      ·rename_i i hi
       have hT:=hE.ty T i hi
       obtain ⟨b',off,l,vs',e,hκ,hl,hnn,hc⟩:=nE hr hS (hS.tm x)
       have hrun:=nW hT hnn hc
       refine ⟨_,?_,mV hκ hl⟩
       simp only [mT,Sem.run_bind,e,asAddr]
       simpa using hrun
      ·cases hr
    refine ⟨v :: vs,?_,.cons h4 h2⟩
    simp [List.mapM_cons,h3,h1]
theorem sA {E:dE}(hE:rz P aa E){fi:ce}{fn:Func}(hres:fn.results.toList=fi.results){s:bg}{r:s.den}(h:iO E fi s S=some r)(hS:aV aa n w g S a):
  ∃v g',(results fn a.tmps).run P w=.ok v w∧eS w g w g'∧li aa w g' s r v:=by
 unfold iO at h
 split at h
 ·rename_i as has
  obtain ⟨vs,hrun,hvs⟩:=pK hE hS has
  simp only at h
  cases hc:jT ((bc s.res as).filterMap id)&&pG s.back ((bc s.res as).filterMap id) with
  |false=>rw [hc] at h;cases h
  |true=>
   rw [hc] at h
   rw [Bool.and_eq_true] at hc
   simp only [cond] at h
   have hnd:=o9.1 hc.1
   obtain ⟨g1,hS1,i1,r1⟩:=hS.frzAll (lN s.res as++mA S s.back)
   generalize hSe:frzAll S (lN s.res as++mA S s.back)=S1 at h hS1
   cases hx:il S1 s.res as with
   |none=>rw [hx] at h;cases h
   |some x=>
    rw [hx] at h
    simp only [Option.bind_some] at h
    cases hy:jo S1 s.back with
    |none=>rw [hy] at h;cases h
    |some y=>
     rw [hy] at h
     simp only [Option.bind_some,Option.some.injEq] at h
     subst h
     generalize hps:bc s.res as=ps at hnd hc
     obtain ⟨f1,f2,f3⟩:=qF (ps:=ps) (nl:=fun q i=>∃r,S1.root q=some r∧r.cs[i]?=some (.av .nils)) hnd hS1 0 hx (hvs.mono r1) (fun q _=>by rw [Nat.zero_add,hps])
     refine ⟨if h:vs.length=1 then vs[0] else .tuple vs.toArray,eT g1 ps (fun q i=>∃r,S1.root q=some r∧r.cs[i]?=some (.av .nils)),?_,i1.trans A6,⟨?_,?_,?_⟩⟩
     ·unfold results
      have hm:(fn.results.mapM (mT a.tmps)).run P w=.ok vs.toArray w:=by
       rw [Array.mapM_eq_mapM_toList,hres]
       simp [hrun]
      show Sem.run P (do let vs←fn.results.mapM (mT a.tmps);pure (if h:vs.size=1 then vs[0] else .tuple vs)) w=_
      simp only [Sem.run_bind,hm,Result.andThen_ok]
      by_cases h1:vs.length=1
      ·simp [h1]
      ·simp [h1]
     ·rw [bg.mk1_res]
      have hlen:=f1.1
      generalize (dy.inj 0 0 s.res x).1=l at f1 hlen
      match l,vs,f1,hlen with
      |[],[],_,_=>exact .tup [] [] rfl fun j h=>by simp at h
      |[b],[v],f1,_=>exact f1.2 0 (by simp) (by simp)
      |b :: c :: l,u :: v :: vs,f1,_=>
       rw [dif_neg (by simp)]
       exact .tup _ _ f1.1 f1.2
      |[],_ :: _,_,h=>simp at h
      |_ :: _,[],_,h=>simp at h
      |[_],_ :: _ :: _,_,h=>simp at h
      |_ :: _ :: _,[_],_,h=>simp at h
     ·rw [bg.mk1_res]
      refine ⟨fun _ j t fz xs hj=>?_,fun h=>by cases h⟩
      have:=f3 j t fz xs hj
      rwa [Nat.zero_add] at this
     ·rw [bg.mk1_back]
      intro i cs hm
      obtain ⟨ks,cs0,z,q1,q2,q3,rfl⟩:=nK hy i cs hm
      obtain ⟨e1,e2⟩:=nY q3
      have hR:=hS1.rt _ _ q2
      obtain ⟨vals,hv⟩:=hR.box rfl
      refine ⟨fun h=>(by cases h),fun _=>⟨vals,fun j hj=>?_⟩⟩
      have hj':j<cs0.length:=by rw [←e1];exact hj
      obtain ⟨h1,h2,h3,h4,h5⟩:=hv j hj'
      refine ⟨h1,eL h2 (fun s j e=>by cases e),h3,h4,?_⟩
      obtain ⟨k,u,e3,e4⟩:=e2 j hj hj'
      simp only [e3]
      refine vK (by omega) (fun p hp=>?_) e4 h5 ⟨fun ⟨r,hr,hrc⟩=>?_,fun hcell=>⟨_,q2,?_⟩⟩
      ·refine pV hc.2 i ks q1 j (List.mem_filterMap.2 ⟨_,List.mem_of_getElem? hp,rfl⟩)
      ·rw [q2] at hr
       cases hr
       exact (List.getElem?_eq_some_iff.mp hrc).2
      ·rw [←hcell]
       exact List.getElem?_eq_getElem hj'
 ·cases h
end
end Go.Proofs.YtjkokaockhecnaaGreatDoorA
