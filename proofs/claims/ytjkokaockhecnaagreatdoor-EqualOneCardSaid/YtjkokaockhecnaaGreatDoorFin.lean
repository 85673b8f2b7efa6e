/- What a call answers. -/
import Derived.Test.YtjkokaockhecnaaGreatDoorExec
import Derived.Laws.Sem
namespace Go.Proofs.YtjkokaockhecnaaGreatDoorA
open Go
section
variable {aa:bb}{n:Nat}{w w' w'':World}{g g' g'':Gh}{S S':St}{a:Act}{P:Program}
open Classical in
noncomputable def fS (g:Gh)(ps:List (Option (Nat×Nat)))(nl:Nat→Nat→Prop):Gh where
 who b o:=match g.who b o with
  |.obj s (some j)=>if h:∃p:Nat,ps[p]?=some (some (s,j)) then .obj 0 (some h.choose) else .obj s (some j)
  |q=>q
 hs q i:=if q=0 then (match ps[i]? with|some (some x)=>g.hs x.1 x.2|_=>.slice none 0 0) else if nl q i then .slice none 0 0 else g.hs q i
 hb:=g.hb
section
variable {ps:List (Option (Nat×Nat))}{nl:Nat→Nat→Prop}
theorem fw {b o:Nat}{q:A8}(h:g.who b o=q)(hq:∀s j,q=.obj s (some j)→∀p:Nat,ps[p]?≠some (some (s,j))):(fS g ps nl).who b o=q:=by
 simp only [fS]
 rw [h]
 cases q with
 |obj s x=>
  cases x with
  |none=>rfl
  |some j=>simp only;rw [dif_neg fun ⟨p,hp⟩=>hq s j rfl p hp]
 |_=>rfl
theorem ye (hn:(ps.filterMap id).Nodup){b o p s j:Nat}(hp:ps[p]?=some (some (s,j)))(h:g.who b o=.obj s (some j)):(fS g ps nl).who b o=.obj 0 (some p):=by
 simp only [fS]
 rw [h]
 have hex:∃p:Nat,ps[p]?=some (some (s,j)):=⟨p,hp⟩
 simp only
 rw [dif_pos hex,wi hn hex.choose_spec hp]
theorem C0:fR w g w (fS g ps nl):=
 ⟨.refl _ _,fun b o _ h=>fw h (fun s j e=>by cases e),fun b o _ h=>fw h (fun s j e=>by cases e),fun b o _ h=>fw h (fun s j e=>by cases e),fun _ _=>rfl⟩
theorem af.fin {b:AV}{v:Value}(h:af w g b v)(hb:fk b):af w (fS g ps nl) b v:=
 h.plain (fun b o _ _ h=>fw h (fun s j e=>by cases e)) hb
theorem Bw {p s j:Nat}(hp:ps[p]?=some (some (s,j))):(fS g ps nl).hs 0 p=g.hs s j:=by simp [fS,hp]
theorem Dj {p:Nat}(hp:ps[p]?=some none):(fS g ps nl).hs 0 p=.slice none 0 0:=by simp [fS,hp]
theorem zf (hn:(ps.filterMap id).Nodup){p s j:Nat}(hp:ps[p]?=some (some (s,j))){t:El}{fz:Bool}{xs:List t.den}(h:cv aa w g s j t fz xs):cv aa w (fS g ps nl) 0 p t fz xs:=by
 have e:=Bw (g:=g) (nl:=nl) hp
 rcases h.c with ⟨⟨vs,h1,h2,h3⟩,hown⟩|⟨h1,h2,a,h3⟩
 rotate_left
 ·exact ⟨.inr ⟨h1,h2,a,e.trans h3⟩⟩
 refine ⟨.inl ⟨⟨vs,by rw [e];exact h1,h2,fun i h h'=>(h3 i h h').fin (ie t xs _ (List.getElem_mem h))⟩,fun b m cap e'=>?_⟩⟩
 rw [e] at e'
 obtain ⟨hlt,hw⟩:=hown b m cap e'
 refine ⟨hlt,fun o=>?_⟩
 have:=hw o
 split at this
 ·rename_i ho
  rw [if_pos ho]
  cases fz with
  |true=>exact fw (by simpa using this) (fun s j e=>by simp at e)
  |false=>exact ye hn hp (by simpa using this)
 ·rename_i ho
  rw [if_neg ho]
  exact ye hn hp this
theorem yT {q i:Nat}(hq:q≠0)(hnp:∀p:Nat,ps[p]?≠some (some (q,i)))(hnl:¬nl q i){t:El}{fz:Bool}{xs:List t.den}(h:cv aa w g q i t fz xs):
  cv aa w (fS g ps nl) q i t fz xs∧(fS g ps nl).hs q i=g.hs q i:=by
 have e:(fS g ps nl).hs q i=g.hs q i:=by simp only [fS];rw [if_neg hq,if_neg hnl]
 rcases h.c with ⟨⟨vs,h1,h2,h3⟩,hown⟩|⟨h1,h2,a,h3⟩
 rotate_left
 ·exact ⟨⟨.inr ⟨h1,h2,a,e.trans h3⟩⟩,e⟩
 refine ⟨⟨.inl ⟨⟨vs,by rw [e];exact h1,h2,fun i h h'=>(h3 i h h').fin (ie t xs _ (List.getElem_mem h))⟩,fun b m cap e'=>?_⟩⟩,e⟩
 rw [e] at e'
 obtain ⟨hlt,hw⟩:=hown b m cap e'
 refine ⟨hlt,fun o=>?_⟩
 have:=hw o
 split at this
 ·rename_i ho
  rw [if_pos ho]
  cases fz with
  |true=>exact fw (by simpa using this) (fun s j e=>by simp at e)
  |false=>exact fw (by simpa using this) (fun s j e=>by simp only [Bool.false_eq_true,if_false,A8.obj.injEq,Option.some.injEq] at e;obtain ⟨rfl,rfl⟩:=e;exact hnp)
 ·rename_i ho
  rw [if_neg ho]
  exact fw this (fun s j e=>by cases e;exact hnp)
theorem lx (hn:(ps.filterMap id).Nodup)(hS:bi aa n w g S a){k:LK}{b:AV}{x:k.den}{v:Value}(h:dA S k b=some x)(hv:af w g b v){p:Nat}(hp:ps[p]?=some (xq k b)):
  dk aa w (fS g ps nl) 0 p (k.cell x) v:=by
 cases k with
 |bool=>
  cases b<;>simp [dA,LK.ofCell] at h
  subst h
  exact .av _ _ (hv.fin (.bool _))
 |int k=>
  cases b<;>simp [dA,LK.ofCell] at h
  obtain ⟨rfl,h⟩:=h
  subst h
  exact .av _ _ (hv.fin (.int _ _))
 |str=>
  cases b<;>simp [dA,LK.ofCell] at h
  subst h
  exact .av _ _ (hv.fin (.str _))
 |err=>
  cases b<;>simp [dA,LK.ofCell] at h
  subst h
  exact .av _ _ (hv.fin (.err _))
 |list t=>
  have fin:∀{b:AV},tQ t b=some x→af w g b v→dk aa w (fS g ps nl) 0 p (LK.cell (.list t) x) v:=fun hb hv=>.av _ _ ((gP hb hv).fin (.L _ _))
  cases b with
  |al s j=>
   simp only [dA] at h
   split at h
   ·rename_i u xs hc
    split at h
    ·rename_i hu
     subst hu
     cases h
     rw [hv.al_inv.1]
     exact .av _ _ ((hS.cell hc).L_own.fin (.L _ _))
    ·cases h
   ·cases h
  |_=>exact fin (by simpa [dA,LK.ofCell] using h) hv
 |own t fz=>
  cases b with
  |nils=>
   simp only [dA,Option.some.injEq] at h
   subst h
   have e:=Dj (g:=g) (nl:=nl) hp
   have ev:v=.slice none 0 0:=by cases hv;rfl
   rw [ev,←e]
   exact .sl _ _ _ (.empty e)
  |al s j=>
   simp only [dA] at h
   split at h
   ·rename_i u fz' xs hc
    split at h
    ·rename_i hu
     subst hu
     cases hf:fz==fz' with
     |false=>rw [hf] at h;cases h
     |true=>
      rw [hf] at h
      have hf':fz=fz':=by simpa using hf
      subst hf'
      simp only [cond,Option.some.injEq] at h
      subst h
      rw [hv.al_inv.1,←Bw (g:=g) (nl:=nl) hp]
      exact .sl _ _ _ (zf hn hp (hS.cell hc))
    ·cases h
   ·cases h
  |_=>simp [dA,LK.ofCell] at h
 |room t=>
  cases b with
  |rm u xs ys=>
   simp only [dA,LK.ofCell] at h
   split at h
   ·rename_i hu;subst hu;cases h;exact .av _ _ (hv.fin (.rm _ _ _))
   ·cases h
  |_=>simp [dA,LK.ofCell] at h
theorem ml (hn:(ps.filterMap id).Nodup)(hS:bi aa n w g S a):∀{ks:List LK}{l:List AV}{x:eO.den ks}{vs:List Value} (p:Nat),eB S ks l=some x→aX w g l vs→
  (∀q,q<(eA ks l).length→ps[p+q]?=(eA ks l)[q]?)→
  (eO.cells ks x).length=vs.length∧(eA ks l).length=(eO.cells ks x).length∧∀q (hq:q<(eO.cells ks x).length) (hq':q<vs.length),dk aa w (fS g ps nl) 0 (p+q) ((eO.cells ks x)[q]) (vs[q])
 |[],[],x,vs,p,h,hr,_=>by
  rw [hr.nil_inv]
  exact ⟨rfl,rfl,fun q hq=>by simp [eO.cells] at hq⟩
 |[k],[b],x,vs,p,h,hr,hp=>by
  obtain ⟨v,vs',rfl,h1,h2⟩:=hr.cons_inv
  rw [h2.nil_inv]
  have hp0:=hp 0 (by simp [eA])
  have:=lx (nl:=nl) hn hS h h1 (p:=p) (by simpa [eA] using hp0)
  refine ⟨rfl,rfl,fun q hq hq'=>?_⟩
  have:q=0:=by simp [eO.cells] at hq;omega
  subst this
  simpa [eO.cells] using this
 |k :: k' :: ks,b :: l,x,vs,p,h,hr,hp=>by
  obtain ⟨v,vs',rfl,h1,h2⟩:=hr.cons_inv
  simp only [eB] at h
  cases hb:dA S k b with
  |none=>rw [hb] at h;cases h
  |some y=>
   rw [hb] at h
   simp only [Option.bind_some] at h
   cases hm:eB S (k' :: ks) l with
   |none=>rw [hm] at h;cases h
   |some z=>
    rw [hm] at h
    simp only [Option.map_some,Option.some.injEq] at h
    subst h
    have hp0:=hp 0 (by simp [eA])
    have hc:=lx (nl:=nl) hn hS hb h1 (p:=p) (by simpa [eA] using hp0)
    obtain ⟨e1,e2,e3⟩:=ml hn hS (p+1) hm h2 (fun q hq=>by
     have:=hp (q+1) (by rw [eA];simp;exact hq)
     rw [show p+(q+1)=p+1+q by omega] at this
     simpa [eA] using this)
    refine ⟨by simp [eO.cells,e1],by rw [eA];simp [eO.cells,e2],fun q hq hq'=>?_⟩
    cases q with
    |zero=>exact hc
    |succ q=>
     have:=e3 q (by simpa [eO.cells] using hq) (by simpa using hq')
     rw [show p+1+q=p+(q+1) by omega] at this
     simpa [eO.cells] using this
 |[],_ :: _,_,_,_,h,_,_=>by simp [eB] at h
 |[_],[],_,_,_,h,_,_=>by simp [eB] at h
 |[_],_ :: _ :: _,_,_,_,h,_,_=>by simp [eB] at h
 |_ :: _ :: _,[],_,_,_,h,_,_=>by simp [eB] at h
theorem gA (hS:bi aa n w g S a):∀{l m:List AV}{vs:List Value},er S l=some m→aX w g l vs→aX w g m vs
 |[],m,vs,h,hr=>by
  simp only [er,Option.some.injEq] at h;subst h
  exact hr
 |b :: l,m,vs,h,hr=>by
  obtain ⟨v,vs',rfl,h1,h2⟩:=hr.cons_inv
  simp only [er] at h
  cases hb:ov S b with
  |none=>rw [hb] at h;cases h
  |some c=>
   rw [hb] at h
   simp only [Option.bind_some] at h
   cases hm:er S l with
   |none=>rw [hm] at h;cases h
   |some m'=>
    rw [hm] at h
    simp only [Option.map_some,Option.some.injEq] at h
    subst h
    refine .cons ?_ (gA hS hm h2)
    unfold ov at hb
    split at hb
    ·rename_i s j
     split at hb
     ·rename_i t xs hc
      cases hb
      rw [h1.al_inv.1]
      exact (hS.cell hc).L_own
     ·cases hb
    ·cases hb;exact h1
theorem s8 (hn:(ps.filterMap id).Nodup)(hS:bi aa n w g S a){k:RK}{b:AV}{x:k.den}{v:Value}(p:Nat)(h:nC S k b=some x)(hv:af w g b v)
  (hp:∀q,q<(bD [k] [b]).length→ps[p+q]?=(bD [k] [b])[q]?):
  af w (fS g ps nl) (k.inj 0 p x).1 v∧(bD [k] [b]).length=(k.inj 0 p x).2.length∧∀q t fz xs,(k.inj 0 p x).2[q]?=some (.sl t fz xs)→cv aa w (fS g ps nl) 0 (p+q) t fz xs:=by
 cases k with
 |one k=>
  have hp0:=hp 0 (by simp [bD])
  have hc:=lx (nl:=nl) hn hS (k:=k) h hv (p:=p) (by simpa [bD] using hp0)
  refine ⟨hc.cellAV,rfl,fun q t fz xs hq=>?_⟩
  cases q with
  |succ q=>simp [RK.inj] at hq
  |zero=>
   simp only [RK.inj,List.getElem?_cons_zero,Option.some.injEq] at hq
   rw [hq] at hc
   exact hc.sl_inv.1
 |agg ks=>
  cases b with
  |agg cs=>
   obtain ⟨vs,rfl,e1,e2⟩:=hv.agg_inv
   have hp':bD [RK.agg ks] [AV.agg cs]=eA ks cs:=by simp [bD]
   rw [hp'] at hp ⊢
   obtain ⟨f1,f2,f3⟩:=ml (nl:=nl) hn hS (ks:=ks) p h ⟨e1,e2⟩ hp
   refine ⟨(kT p f1 f3).agg,f2,fun q t fz xs hq=>?_⟩
   have hq2:(eO.cells ks x)[q]?=some (.sl t fz xs):=hq
   have hql:=(List.getElem?_eq_some_iff.mp hq2).1
   have:=f3 q hql (by rw [←f1];exact hql)
   rw [(List.getElem?_eq_some_iff.mp hq2).2] at this
   exact this.sl_inv.1
  |_=>simp [nC] at h
 |el t=>
  refine ⟨?_,rfl,fun q t fz xs hq=>by simp [RK.inj] at hq⟩
  simp only [nC] at h
  cases hc:b.isVal&&(t.isAgg==b.isAgg) with
  |false=>rw [hc] at h;cases h
  |true=>
   rw [hc] at h
   rw [Bool.and_eq_true] at hc
   simp only [cond] at h
   have hag:t.isAgg=b.isAgg:=by simpa using hc.2
   cases hm:er S b.leaves with
   |none=>rw [hm] at h;cases h
   |some m=>
    rw [hm] at h
    simp only [Option.bind_some] at h
    have pl:∀{l:List AV}{vs:List Value},aX w g l vs→(∀c∈l,fk c)→aX w (fS g ps nl) l vs:=fun hl hp=>⟨hl.1,fun i h1 h2=>(hl.2 i h1 h2).fin (hp _ (List.getElem_mem h1))⟩
    have hcells:=iS t x
    by_cases hb:∃cs,b=.agg cs
    ·obtain ⟨cs,rfl⟩:=hb
     obtain ⟨vs,rfl,e1,e2⟩:=hv.agg_inv
     have h2:=pl (fe h (gA hS hm ⟨e1,e2⟩)) hcells
     cases t<;>simp [El.isAgg,AV.isAgg] at hag<;>exact h2.agg
    ·have hl:b.leaves=[b]:=by
      unfold AV.leaves
      split
      ·exact absurd ⟨_,rfl⟩ hb
      ·rfl
     rw [hl] at hm
     have h1:aX w g [b] [v]:=.cons hv .nil
     have h2:=pl (fe h (gA hS hm h1)) hcells
     have hna:b.isAgg=false:=by
      unfold AV.isAgg
      split
      ·exact absurd ⟨_,rfl⟩ hb
      ·rfl
     rw [hna] at hag
     obtain ⟨v',vs',e,h3,_⟩:∃v' vs',[v]=v' :: vs'∧af w (fS g ps nl) (Gn t x) v'∧True:=by
      cases t<;>simp [El.isAgg] at hag<;>(obtain ⟨v',vs',e,h3,_⟩:=h2.cons_inv;exact ⟨v',vs',e,h3,trivial⟩)
     cases e
     exact h3
 |ptr t=>
  have e0:bD [RK.ptr t] [b]=[]:=by simp [bD]
  rw [e0]
  refine ⟨?_,rfl,fun q t fz xs hq=>by simp [RK.inj] at hq⟩
  have key:af w g (.optp t x) v:=by
   cases b with
   |nilp=>
    simp only [nC,Option.some.injEq] at h
    subst h
    cases hv;exact .opt0 _
   |vi cs=>
    simp only [nC] at h
    cases hm:t.ofCells cs with
    |none=>rw [hm] at h;cases h
    |some z=>
     rw [hm] at h
     simp only [Option.map_some,Option.some.injEq] at h
     subst h
     cases hv with
     |vi _ b o vals hc hr=>
      have hl:aX w g cs (List.ofFn fun i:Fin cs.length=>vals i):=⟨by simp,fun j h1 h2=>by simpa using hr j h1⟩
      have h2:=fe hm hl
      have hlen:(t.cells z).length=cs.length:=by simpa using h2.1.symm
      refine .opt1 t z _ (.vi _ b o vals (fun j hj=>hc j (by omega)) fun j hj=>?_)
      have:=h2.2 j hj (by simp;omega)
      simpa using this
   |_=>simp [nC] at h
  exact key.fin (.optp t x)
theorem ue (k:RK)(b:AV)(ks:List RK)(l:List AV):bD (k :: ks) (b :: l)=bD [k] [b]++bD ks l:=by
 cases k with
 |one k=>simp [bD]
 |agg ks'=>cases b<;>simp [bD]
 |el t=>simp [bD]
 |ptr t=>simp [bD]
theorem rW (hn:(ps.filterMap id).Nodup)(hS:bi aa n w g S a):∀{ks:List RK}{l:List AV}{x:ek.den ks}{vs:List Value} (p:Nat),jk S ks l=some x→aX w g l vs→
  (∀q,q<(bD ks l).length→ps[p+q]?=(bD ks l)[q]?)→
  aX w (fS g ps nl) (ek.inj 0 p ks x).1 vs∧(bD ks l).length=(ek.inj 0 p ks x).2.length∧∀q t fz xs,(ek.inj 0 p ks x).2[q]?=some (.sl t fz xs)→cv aa w (fS g ps nl) 0 (p+q) t fz xs
 |[],[],x,vs,p,h,hr,_=>by
  rw [hr.nil_inv]
  exact ⟨.nil,rfl,fun q t fz xs hq=>by simp [ek.inj] at hq⟩
 |[k],[b],x,vs,p,h,hr,hp=>by
  obtain ⟨v,vs',rfl,h1,h2⟩:=hr.cons_inv
  rw [h2.nil_inv]
  obtain ⟨e1,e2,e3⟩:=s8 (nl:=nl) hn hS (k:=k) p h h1 hp
  exact ⟨.cons e1 .nil,e2,e3⟩
 |k :: k' :: ks,b :: l,x,vs,p,h,hr,hp=>by
  obtain ⟨v,vs',rfl,h1,h2⟩:=hr.cons_inv
  simp only [jk] at h
  cases hb:nC S k b with
  |none=>rw [hb] at h;cases h
  |some y=>
   rw [hb] at h
   simp only [Option.bind_some] at h
   cases hm:jk S (k' :: ks) l with
   |none=>rw [hm] at h;cases h
   |some z=>
    rw [hm] at h
    simp only [Option.map_some,Option.some.injEq] at h
    subst h
    rw [ue] at hp ⊢
    obtain ⟨e1,e2,e3⟩:=s8 (nl:=nl) hn hS p hb h1 (fun q hq=>by
     have:=hp q (by rw [List.length_append];omega)
     rw [this,List.getElem?_append_left hq])
    obtain ⟨f1,f2,f3⟩:=rW hn hS (p+(k.inj 0 p y).2.length) hm h2 (fun q hq=>by
     have:=hp ((bD [k] [b]).length+q) (by rw [List.length_append];omega)
     rw [←Nat.add_assoc,e2,List.getElem?_append_right (by omega)] at this
     rw [this]
     congr 1;omega)
    refine ⟨.cons e1 f1,?_,fun q t fz xs hq=>?_⟩
    ·simp only [ek.inj,List.length_append,e2,f2]
    ·simp only [ek.inj] at hq
     by_cases hlt:q<(k.inj 0 p y).2.length
     ·rw [List.getElem?_append_left hlt] at hq
      exact e3 q t fz xs hq
     ·rw [List.getElem?_append_right (by omega)] at hq
      have:=f3 _ t fz xs hq
      rwa [show p+(k.inj 0 p y).2.length+(q - (k.inj 0 p y).2.length)=p+q by omega] at this
 |[],_ :: _,_,_,_,h,_,_=>by simp [jk] at h
 |[_],[],_,_,_,h,_,_=>by simp [jk] at h
 |[_],_ :: _ :: _,_,_,_,h,_,_=>by simp [jk] at h
 |_ :: _ :: _,[],_,_,_,h,_,_=>by simp [jk] at h
theorem xA {q j:Nat}(hq:q≠0)(hnp:∀p:Nat,ps[p]?≠some (some (q,j))){k:LK}{c:aj}{x:k.den}{v:Value}(h:k.ofCell c=some x)(hv:dk aa w g q j c v)
  (hnl:nl q j↔c=.av .nils):dk aa w (fS g ps nl) q j (k.cell x) v:=by
 cases k with
 |bool=>
  cases c with
  |av b=>
   cases b<;>simp [LK.ofCell] at h
   subst h
   exact .av _ _ (hv.av_inv.fin (.bool _))
  |sl t fz xs=>simp [LK.ofCell] at h
 |int k=>
  cases c with
  |av b=>
   cases b<;>simp [LK.ofCell] at h
   obtain ⟨rfl,h⟩:=h
   subst h
   exact .av _ _ (hv.av_inv.fin (.int _ _))
  |sl t fz xs=>simp [LK.ofCell] at h
 |str=>
  cases c with
  |av b=>
   cases b<;>simp [LK.ofCell] at h
   subst h
   exact .av _ _ (hv.av_inv.fin (.str _))
  |sl t fz xs=>simp [LK.ofCell] at h
 |err=>
  cases c with
  |av b=>
   cases b<;>simp [LK.ofCell] at h
   subst h
   exact .av _ _ (hv.av_inv.fin (.err _))
  |sl t fz xs=>simp [LK.ofCell] at h
 |list t=>
  cases c with
  |av b=>exact .av _ _ ((gP (by simpa [LK.ofCell] using h) hv.av_inv).fin (.L _ _))
  |sl u fz xs=>
   cases fz with
   |false=>simp [LK.ofCell] at h
   |true=>
    simp only [LK.ofCell] at h
    split at h
    ·rename_i hu
     subst hu
     cases h
     rw [hv.sl_inv.2]
     exact .av _ _ (hv.sl_inv.1.L_own.fin (.L _ _))
    ·cases h
 |room t=>
  cases c with
  |av b=>
   cases b with
   |rm u xs ys=>
    simp only [LK.ofCell] at h
    split at h
    ·rename_i hu;subst hu;cases h;exact .av _ _ (hv.av_inv.fin (.rm _ _ _))
    ·cases h
   |_=>simp [LK.ofCell] at h
  |sl t fz xs=>simp [LK.ofCell] at h
 |own t fz=>
  cases c with
  |av b=>
   cases b<;>simp [LK.ofCell] at h
   subst h
   have e:(fS g ps nl).hs q j=.slice none 0 0:=by simp only [fS];rw [if_neg hq,if_pos (hnl.2 rfl)]
   have ev:v=.slice none 0 0:=by have:=hv.av_inv;cases this;rfl
   rw [ev,←e]
   exact .sl _ _ _ (.empty e)
  |sl u fz' xs=>
   simp only [LK.ofCell] at h
   split at h
   ·rename_i hu
    subst hu
    cases hf:fz==fz' with
    |false=>rw [hf] at h;cases h
    |true=>
     rw [hf] at h
     have hf':fz=fz':=by simpa using hf
     subst hf'
     simp only [cond,Option.some.injEq] at h
     subst h
     obtain ⟨q1,q2⟩:=yT (nl:=nl) hq hnp (fun h=>by have:=hnl.1 h;cases this) hv.sl_inv.1
     rw [hv.sl_inv.2,←q2]
     exact .sl _ _ _ q1
   ·cases h
theorem pj:∀{ks:List LK}{cs:List aj}{x:eO.den ks},eO.ofCells ks cs=some x→(eO.cells ks x).length=cs.length∧
  ∀j (hj:j<(eO.cells ks x).length) (hj':j<cs.length),∃(k:LK) (y:k.den),(eO.cells ks x)[j]=k.cell y∧k.ofCell cs[j]=some y
 |[],[],x,_=>⟨rfl,fun j hj=>by simp [eO.cells] at hj⟩
 |[k],[c],x,h=>by
  refine ⟨rfl,fun j hj hj'=>?_⟩
  have:j=0:=by simp at hj';omega
  subst this
  exact ⟨k,x,rfl,h⟩
 |k :: k' :: ks,c :: cs,x,h=>by
  simp only [eO.ofCells] at h
  cases hb:k.ofCell c with
  |none=>rw [hb] at h;cases h
  |some y=>
   rw [hb] at h
   simp only [Option.bind_some] at h
   cases hm:eO.ofCells (k' :: ks) cs with
   |none=>rw [hm] at h;cases h
   |some z=>
    rw [hm] at h
    simp only [Option.map_some,Option.some.injEq] at h
    subst h
    obtain ⟨e1,e2⟩:=pj hm
    refine ⟨by simp [eO.cells,e1],fun j hj hj'=>?_⟩
    cases j with
    |zero=>exact ⟨k,y,rfl,hb⟩
    |succ j=>
     obtain ⟨k2,y2,q1,q2⟩:=e2 j (by simpa [eO.cells] using hj) (by simpa using hj')
     exact ⟨k2,y2,by simpa [eO.cells] using q1,by simpa using q2⟩
 |[],_ :: _,_,h=>by simp [eO.ofCells] at h
 |[_],[],_,h=>by simp [eO.ofCells] at h
 |[_],_ :: _ :: _,_,h=>by simp [eO.ofCells] at h
 |_ :: _ :: _,[],_,h=>by simp [eO.ofCells] at h
theorem po:∀{bs:List (Nat×List LK)}{y:dz.den bs},kk S bs=some y→∀i cs,(i,cs)∈dz.cells bs y→∃ks cs0 x,(i,ks)∈bs∧S.root (1000+i)=some ⟨true,cs0⟩∧eO.ofCells ks cs0=some x∧cs=eO.cells ks x
 |[],_,_,i,cs,h=>by simp [dz.cells] at h
 |[(j,ks)],y,h,i,cs,hm=>by
  simp only [dz.cells,List.mem_singleton,Prod.mk.injEq] at hm
  obtain ⟨rfl,rfl⟩:=hm
  simp only [kk,lk] at h
  split at h
  ·rename_i cs0 hr
   exact ⟨ks,cs0,y,by simp,hr,h,rfl⟩
  ·cases h
 |(j,ks) :: b :: bs,y,h,i,cs,hm=>by
  simp only [kk] at h
  cases hx:lk S j ks with
  |none=>rw [hx] at h;cases h
  |some x=>
   rw [hx] at h
   simp only [Option.bind_some] at h
   cases hz:kk S (b :: bs) with
   |none=>rw [hz] at h;cases h
   |some z=>
    rw [hz] at h
    simp only [Option.map_some,Option.some.injEq] at h
    subst h
    simp only [dz.cells,List.mem_cons,Prod.mk.injEq] at hm
    rcases hm with ⟨rfl,rfl⟩|hm
    ·unfold lk at hx
     split at hx
     ·rename_i cs0 hr
      exact ⟨ks,cs0,x,by simp,hr,hx,rfl⟩
     ·cases hx
    ·obtain ⟨ks',cs0,x',q1,q2,q3,q4⟩:=po hz i cs (by simpa using hm)
     exact ⟨ks',cs0,x',List.mem_cons_of_mem _ q1,q2,q3,q4⟩
theorem rk:∀{bs:List (Nat×List LK)}{l:List (Nat×Nat)},rM bs l=true→∀i ks,(i,ks)∈bs→∀j,(1000+i,j) ∉ l
 |[],_,_,_,_,h=>by simp at h
 |(i',ks') :: bs,l,h,i,ks,hm=>by
  simp only [rM,Bool.and_eq_true] at h
  rcases List.mem_cons.mp hm with e|hm
  ·cases e
   intro j hj
   have:=List.all_eq_true.1 h.1.2 _ hj
   simp at this
  ·exact rk h.2 i ks hm
end
theorem bq.mk1_res (s:bq)(x:ek.den s.res)(y:dz.den s.back):s.res1 (s.mk1 x y)=x:=by
 obtain ⟨rs,bs⟩:=s
 cases bs with
 |nil=>rfl
 |cons b bs=>cases rs<;>rfl
theorem bq.mk1_back (s:bq)(x:ek.den s.res)(y:dz.den s.back):s.back1 (s.mk1 x y)=y:=by
 obtain ⟨rs,bs⟩:=s
 cases bs with
 |nil=>rfl
 |cons b bs=>cases rs<;>rfl
def oR (tmps:Array Value):ResultVar→Sem Value
 |.tmp t=>pure (tmps.getD t undef)
 |.cell a t=>do loadVar t (←asAddr (tmps.getD a undef))
theorem rE {E:ew}(hE:sU P aa E)(hS:bi aa n w g S a):∀{rs:List ResultVar}{as:List AV},o4 E S rs=some as→∃vs:List Value,(rs.mapM (oR a.tmps)).run P w=.ok vs w∧aX w g as vs
 |[],as,h=>by
  simp only [o4,Option.some.injEq] at h;subst h
  exact ⟨[],by simp,.nil⟩
 |r :: rs,as,h=>by
  simp only [o4] at h
  cases hr:xY E S r with
  |none=>rw [hr] at h;cases h
  |some b=>
   rw [hr] at h
   simp only [Option.bind_some] at h
   cases hm:o4 E S rs with
   |none=>rw [hm] at h;cases h
   |some m=>
    rw [hm] at h
    simp only [Option.map_some,Option.some.injEq] at h
    subst h
    obtain ⟨vs,h1,h2⟩:=rE hE hS hm
    obtain ⟨v,h3,h4⟩:∃v,(oR a.tmps r).run P w=.ok v w∧af w g b v:=by
     cases r with
     |tmp t=>
      simp only [xY,Option.some.injEq] at hr
      subst hr
      exact ⟨_,by simp [oR],hS.tm t⟩
     |cell x T=>
      simp only [xY] at hr
      split at hr
      ·rename_i i hi
       have hT:=hE.ty T i hi
       obtain ⟨b',off,l,vs',e,hκ,hl,hnn,hc⟩:=pR hr hS (hS.tm x)
       have hrun:=pg hT hnn hc
       refine ⟨_,?_,om hκ hl⟩
       simp only [oR,Sem.run_bind,e,asAddr]
       simpa using hrun
      ·cases hr
    refine ⟨v :: vs,?_,.cons h4 h2⟩
    simp [List.mapM_cons,h3,h1]
theorem ug {E:ew}(hE:sU P aa E){fi:ct}{fn:Func}(hres:fn.results.toList=fi.results){s:bq}{r:s.den}(h:jV E fi s S=some r)(hS:bi aa n w g S a):
  ∃v g',(results fn a.tmps).run P w=.ok v w∧fR w g w g'∧rQ aa w g' s r v:=by
 unfold jV at h
 split at h
 ·rename_i as has
  obtain ⟨vs,hrun,hvs⟩:=rE hE hS has
  simp only at h
  cases hc:ll ((bD s.res as).filterMap id)&&rM s.back ((bD s.res as).filterMap id) with
  |false=>rw [hc] at h;cases h
  |true=>
   rw [hc] at h
   rw [Bool.and_eq_true] at hc
   simp only [cond] at h
   have hnd:=qz.1 hc.1
   obtain ⟨g1,hS1,i1,r1⟩:=hS.frzAll (mS s.res as++nW S s.back)
   generalize hSe:frzAll S (mS s.res as++nW S s.back)=S1 at h hS1
   cases hx:jk S1 s.res as with
   |none=>rw [hx] at h;cases h
   |some x=>
    rw [hx] at h
    simp only [Option.bind_some] at h
    cases hy:kk S1 s.back with
    |none=>rw [hy] at h;cases h
    |some y=>
     rw [hy] at h
     simp only [Option.bind_some,Option.some.injEq] at h
     subst h
     generalize hps:bD s.res as=ps at hnd hc
     obtain ⟨f1,f2,f3⟩:=rW (ps:=ps) (nl:=fun q i=>∃r,S1.root q=some r∧r.cs[i]?=some (.av .nils)) hnd hS1 0 hx (hvs.mono r1) (fun q _=>by rw [Nat.zero_add,hps])
     refine ⟨if h:vs.length=1 then vs[0] else .tuple vs.toArray,fS g1 ps (fun q i=>∃r,S1.root q=some r∧r.cs[i]?=some (.av .nils)),?_,i1.trans C0,⟨?_,?_,?_⟩⟩
     ·unfold results
      have hm:(fn.results.mapM (oR a.tmps)).run P w=.ok vs.toArray w:=by
       rw [Array.mapM_eq_mapM_toList,hres]
       simp [hrun]
      show Sem.run P (do let vs←fn.results.mapM (oR a.tmps);pure (if h:vs.size=1 then vs[0] else .tuple vs)) w=_
      simp only [Sem.run_bind,hm,Result.andThen_ok]
      by_cases h1:vs.length=1
      ·simp [h1]
      ·simp [h1]
     ·rw [bq.mk1_res]
      have hlen:=f1.1
      generalize (ek.inj 0 0 s.res x).1=l at f1 hlen
      match l,vs,f1,hlen with
      |[],[],_,_=>exact .tup [] [] rfl fun j h=>by simp at h
      |[b],[v],f1,_=>exact f1.2 0 (by simp) (by simp)
      |b :: c :: l,u :: v :: vs,f1,_=>
       rw [dif_neg (by simp)]
       exact .tup _ _ f1.1 f1.2
      |[],_ :: _,_,h=>simp at h
      |_ :: _,[],_,h=>simp at h
      |[_],_ :: _ :: _,_,h=>simp at h
      |_ :: _ :: _,[_],_,h=>simp at h
     ·rw [bq.mk1_res]
      refine ⟨fun _ j t fz xs hj=>?_,fun h=>by cases h⟩
      have:=f3 j t fz xs hj
      rwa [Nat.zero_add] at this
     ·rw [bq.mk1_back]
      intro i cs hm
      obtain ⟨ks,cs0,z,q1,q2,q3,rfl⟩:=po hy i cs hm
      obtain ⟨e1,e2⟩:=pj q3
      have hR:=hS1.rt _ _ q2
      obtain ⟨vals,hv⟩:=hR.box rfl
      refine ⟨fun h=>(by cases h),fun _=>⟨vals,fun j hj=>?_⟩⟩
      have hj':j<cs0.length:=by rw [←e1];exact hj
      obtain ⟨h1,h2,h3,h4,h5⟩:=hv j hj'
      refine ⟨h1,fw h2 (fun s j e=>by cases e),h3,h4,?_⟩
      obtain ⟨k,u,e3,e4⟩:=e2 j hj hj'
      simp only [e3]
      refine xA (by omega) (fun p hp=>?_) e4 h5 ⟨fun ⟨r,hr,hrc⟩=>?_,fun hcell=>⟨_,q2,?_⟩⟩
      ·refine rk hc.2 i ks q1 j (List.mem_filterMap.2 ⟨_,List.mem_of_getElem? hp,rfl⟩)
      ·rw [q2] at hr
       cases hr
       exact (List.getElem?_eq_some_iff.mp hrc).2
      ·rw [←hcell]
       exact List.getElem?_eq_getElem hj'
 ·cases h
end
end Go.Proofs.YtjkokaockhecnaaGreatDoorA
