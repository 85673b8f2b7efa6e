/- What is done to a state between two regions. -/
import Derived.Test.YtjkokaockhecnaaGreatDoorRun
namespace Go.Proofs.YtjkokaockhecnaaGreatDoorA
open Go
section
variable {aa:aM}{n:Nat}{w w' w'':World}{g g' g'':Gh}{S S':St}{a:Act}{P:Program}
theorem tZ (s j i:Nat)(l:List (Nat×AV)):look i (rQ s j l)=(look i l).map (AV.killC s j):=by
 induction l with
 |nil=>rfl
 |cons p l ih=>
  obtain ⟨k,a⟩:=p
  simp only [rQ,look]
  cases h:Nat.beq k i with
  |true=>simp
  |false=>simpa using ih
theorem ux (s j i:Nat)(l:List (Nat×ae)):look i (rO s j l)=(look i l).map fun r=>⟨r.box,killCC s j r.cs⟩:=by
 induction l with
 |nil=>rfl
 |cons p l ih=>
  obtain ⟨k,a⟩:=p
  simp only [rO,look]
  cases h:Nat.beq k i with
  |true=>simp
  |false=>simpa using ih
theorem qp (S:St)(s j i:Nat):(S.clearC s j).tmp i=(S.tmp i).killC s j:=by
 unfold St.tmp St.clearC
 simp only [tZ]
 cases look i S.tmps<;>simp [AV.killC,AV.namesC]
theorem gX (S:St)(s j i:Nat):(S.clearC s j).root i=(S.root i).map fun r=>⟨r.box,killCC s j r.cs⟩:=by
 unfold St.root St.clearC
 simp only [ux]
theorem kO (s j:Nat):∀cs:List ah,(killCC s j cs).length=cs.length
 |[]=>rfl
 |c :: cs=>by simp [killCC,kO s j cs]
theorem lm (s j:Nat):∀(cs:List ah) (i:Nat),(killCC s j cs)[i]?=(cs[i]?).map (ah.killC s j)
 |[],_=>by simp [killCC]
 |c :: cs,0=>by simp [killCC]
 |c :: cs,i+1=>by simp only [killCC,List.getElem?_cons_succ];exact lm s j cs i
theorem m9 {s j:Nat}{cs:List ah}{i:Nat}{t:El}{fz:Bool}{xs:List t.den}:(killCC s j cs)[i]?=some (.sl t fz xs)↔cs[i]?=some (.sl t fz xs):=by
 rw [lm]
 cases cs[i]? with
 |none=>simp
 |some c=>cases c<;>simp [ah.killC]
theorem qV {s j:Nat}:∀b:AV,b.namesC s j=false→aj (fun s' x=>s'=s∧x=some j) b:=by
 intro b
 refine AV.rec (motive_1:=fun b=>b.namesC s j=false→aj (fun s' x=>s'=s∧x=some j) b) (motive_2:=fun l=>AV.namesC.namesCL s j l=false→∀b,b∈l→aj (fun s' x=>s'=s∧x=some j) b) ?_ ?_ ?_ ?_ ?_ ?_ ?_ ?_ ?_ ?_ ?_ ?_ ?_ ?_ ?_ ?_ ?_ ?_ ?_ ?_ ?_ ?_ ?_ ?_ ?_ ?_ ?_ ?_ ?_ b
 ·intro _;exact .und
 ·intro _ _;constructor
 ·intro _ _ _;constructor
 ·intro _ _;constructor
 ·intro _ _;constructor
 ·intro _;exact .nils
 ·intro _;exact .emp
 ·intro _ _ _;constructor
 ·intro s' j' h
  refine .al _ _ ?_
  rintro ⟨rfl,e⟩
  cases e
  simp [AV.namesC] at h
 ·intro s' j' h
  refine .ref _ _ ?_
  rintro ⟨_,h⟩
  cases h
 ·intro s' j' sz i o h
  refine .eref _ _ _ _ _ ?_
  rintro ⟨rfl,e⟩
  cases e
  simp [AV.namesC] at h
 ·intro s' m h
  refine .bs _ _ ?_
  rintro ⟨_,h⟩
  cases h
 ·intro s' m h
  refine .bref _ _ ?_
  rintro ⟨_,h⟩
  cases h
 ·intro s' m t xs h
  refine .bal _ _ _ _ fun _=>?_
  rintro ⟨rfl,_⟩
  simp [AV.namesC] at h
 ·intro t xs ys _;exact .rm t xs ys
 ·intro s' j' sz lo m h
  refine .als _ _ _ _ _ ?_
  rintro ⟨rfl,e⟩
  cases e
  simp [AV.namesC] at h
 ·intro s' h
  refine .bad _ ?_
  rintro ⟨_,h⟩
  cases h
 ·intro s' T h
  refine .refT _ _ ?_
  rintro ⟨_,h⟩
  cases h
 ·intro e l _;exact .fzs e l
 ·intro cs ih h;exact .vp _ (ih (by simpa [AV.namesC] using h))
 ·intro cs ih h;exact .vi _ (ih (by simpa [AV.namesC] using h))
 ·intro _;exact .nilp
 ·intro t x _;exact .optp t x
 ·intro q t xs _;exact .nq q t xs
 ·intro cs ih h;exact .agg _ (ih (by simpa [AV.namesC] using h))
 ·intro cs ih h;exact .tup _ (ih (by simpa [AV.namesC] using h))
 ·intro f cs ih h;exact .fn _ _ (ih (by simpa [AV.namesC] using h))
 ·intro _ b hb;simp at hb
 ·intro a l ih iht h b hb
  simp only [AV.namesC.namesCL,Bool.or_eq_false_iff] at h
  rcases List.mem_cons.mp hb with rfl|hb
  ·exact ih h.1
  ·exact iht h.2 b hb
theorem jj (s j:Nat)(b:AV):aj (fun s' x=>s'=s∧x=some j) (b.killC s j):=by
 unfold AV.killC
 cases h:b.namesC s j with
 |true=>exact .und
 |false=>exact qV b h
theorem RepA.killC {b:AV}{v:Value}(h:RepA w g b v)(s j:Nat):RepA w g (b.killC s j) v:=by
 unfold AV.killC
 cases b.namesC s j with
 |true=>exact .und _
 |false=>exact h
theorem oR {s j:Nat}{cs:List ah}{b:AV}(h:ah.av b∈killCC s j cs):aj (fun s' x=>s'=s∧x=some j) b:=by
 induction cs with
 |nil=>simp [killCC] at h
 |cons c cs ih=>
  simp only [killCC,List.mem_cons] at h
  rcases h with h|h
  ·cases c with
   |av a=>simp only [ah.killC,ah.av.injEq] at h;subst h;exact jj s j a
   |sl t fz xs=>simp [ah.killC] at h
  ·exact ih h
theorem aB.killCC {q:Nat}{b:Bool}{cs:List ah}(s j:Nat)(h:aB aa w g q ⟨b,cs⟩):aB aa w g q ⟨b,killCC s j cs⟩:=by
 refine h.weaken rfl (kO s j cs) fun i c c' h1 h2=>?_
 simp only [lm] at h2
 simp only at h1
 rw [h1] at h2
 cases h2
 cases c with
 |av a=>exact .inr ⟨a,_,rfl,rfl,fun v h=>h.killC s j⟩
 |sl t fz xs=>exact .inl rfl
theorem aV.ext (hS:aV aa n w g S a)(ht:∀t,S'.tmp t=S.tmp t)(hr:∀s,S'.root s=S.root s):aV aa n w g S' a:=
 ⟨hS.size,hS.df,hS.tb,fun t=>by rw [ht];exact hS.tm t,fun s r h=>hS.rt s r (by rw [←hr];exact h)⟩
theorem iT {α:Type}(l:List (Nat×α)):∀(ss:List Nat) {i:Nat}{a:α},look i (jB ss l)=some a→look i l=some a
 |[],i,a,h=>by simp [jB,look] at h
 |s :: ss,i,a,h=>by
  simp only [jB] at h
  split at h
  ·rename_i b hb
   simp only [look] at h
   cases e:Nat.beq s i with
   |true=>rw [e] at h;cases h;rw [←Nat.eq_of_beq_eq_true e];exact hb
   |false=>rw [e] at h;exact iT l ss h
  ·exact iT l ss h
theorem yi (S:St)(ss:List Nat)(i:Nat):(St.tmp ⟨jB ss S.tmps,S.roots⟩ i)=S.tmp i∨(St.tmp ⟨jB ss S.tmps,S.roots⟩ i)=.und:=by
 unfold St.tmp
 cases h:look i (jB ss S.tmps) with
 |none=>exact .inr rfl
 |some a=>rw [iT S.tmps ss h];exact .inl rfl
theorem aV.raiseTo (hS:aV aa n w g S a){s j:Nat}{t:El}{fz fz':Bool}{xs:List t.den}(hc:S.cell s j=some (.sl t fz' xs))(hf:(fz||!fz')=true):
  ∃g',aV aa n w g' (S.setCell s j (.sl t fz xs)) a∧eS w g w g'∧(∀b v,RepA w g b v→RepA w g' b v)∧g'.hs=g.hs∧g'.hb=g.hb:=by
 obtain ⟨r,hr,hj⟩:=bW hc
 have same:fz=fz'→∃g',aV aa n w g' (S.setCell s j (.sl t fz xs)) a∧eS w g w g'∧(∀b v,RepA w g b v→RepA w g' b v)∧g'.hs=g.hs∧g'.hb=g.hb:=by
  rintro rfl
  refine ⟨g,hS.ext (fun t=>by rw [db]) (fun q=>?_),.refl _ _,fun _ _ h=>h,rfl,rfl⟩
  rw [aZ hr]
  by_cases e:q=s
  ·subst e
   rw [if_pos rfl,hr]
   congr 1
   obtain ⟨hlt,hget⟩:=List.getElem?_eq_some_iff.mp hj
   have:r.cs.set j (.sl t fz xs)=r.cs:=by rw [←hget];exact List.set_getElem_self hlt
   rw [this]
  ·rw [if_neg e]
 cases fz' with
 |true=>
  cases fz with
  |true=>exact same rfl
  |false=>simp at hf
 |false=>
  cases fz with
  |false=>exact same rfl
  |true=>
   obtain ⟨g',hf,hR⟩:=(hS.root hr).raise hj
   refine ⟨g',⟨hS.size,hS.df,hS.tb.inv (hf.inv w),fun t=>?_,fun s' r' hr'=>?_⟩,hf.inv w,fun b v h=>h.frz hf,hf.hs,hf.hb⟩
   ·rw [db];exact (hS.tm t).frz hf
   ·rw [aZ hr] at hr'
    by_cases hss:s'=s
    ·subst hss
     rw [if_pos rfl] at hr'
     cases hr'
     exact hR
    ·rw [if_neg hss] at hr'
     exact (hS.rt s' r' hr').frz hf hss
theorem eD {s j:Nat}{c c':ah}(h:S.cell s j=some c):(S.setCell s j c').cell s j=some c':=by
 obtain ⟨r,hr,hj⟩:=bW h
 unfold St.cell
 rw [aZ hr,if_pos rfl]
 simp only [Option.bind_some]
 rw [List.getElem?_set_self]
 exact (List.getElem?_eq_some_iff.mp hj).1
theorem aV.setAv (hS:aV aa n w g S a){s j:Nat}{c:ah}{b:AV}(hc:S.cell s j=some c)(hb:∀u,cw aa w g s j c u→RepA w g b u):aV aa n w g (S.setCell s j (.av b)) a:=by
 obtain ⟨r,hr,hj⟩:=bW hc
 refine ⟨hS.size,hS.df,hS.tb,fun t=>by rw [db];exact hS.tm t,fun q r' hr'=>?_⟩
 rw [aZ hr] at hr'
 by_cases e:q=s
 ·subst e
  rw [if_pos rfl] at hr'
  cases hr'
  have hR:=hS.rt q r hr
  refine ⟨fun hbx i t fz xs hi=>?_,fun hbx=>?_⟩
  ·simp only [List.getElem?_set] at hi
   by_cases hij:j=i
   ·subst hij
    simp only [if_true] at hi
    split at hi<;>cases hi
   ·rw [if_neg hij] at hi
    exact hR.apart hbx i t fz xs hi
  ·obtain ⟨vals,hv⟩:=hR.box hbx
   refine ⟨vals,fun i hi=>?_⟩
   have hi':i<r.cs.length:=by simpa using hi
   obtain ⟨h1,h2,h3,h4,h5⟩:=hv i hi'
   refine ⟨h1,h2,h3,h4,?_⟩
   simp only [List.getElem_set]
   by_cases hij:j=i
   ·subst hij
    rw [if_pos rfl]
    have:r.cs[j]=c:=by
     have:=List.getElem?_eq_getElem hi'
     rw [this] at hj
     exact Option.some.inj hj
    rw [this] at h5
    exact .av _ _ (hb _ h5)
   ·rw [if_neg hij];exact h5
 ·rw [if_neg e] at hr'
  exact hS.rt q r' hr'
theorem ua {c:xZ}(h:ll n S c=some S')(hn:n≤1000)(hS:aV aa n w g S a):∃g',aV aa n w g' S' a∧eS w g w g':=by
 cases c with
 |keep ss=>
  simp only [ll,Option.some.injEq] at h;subst h
  refine ⟨g,⟨hS.size,hS.df,hS.tb,fun t=>?_,hS.rt⟩,.refl _ _⟩
  rcases yi S ss t with e|e
  ·rw [show St.tmp { S with tmps:=jB ss S.tmps } t=S.tmp t from e];exact hS.tm t
  ·rw [show St.tmp { S with tmps:=jB ss S.tmps } t=.und from e];exact .und _
 |keepR ss=>
  simp only [ll,Option.some.injEq] at h;subst h
  exact ⟨g,⟨hS.size,hS.df,hS.tb,hS.tm,fun s r hr=>hS.rt s r (iT S.roots ss hr)⟩,.refl _ _⟩
 |bself s=>
  simp only [ll] at h
  split at h
  ·rename_i a0 cs hroot
   cases hb:qy s a0 with
   |false=>rw [hb] at h;cases h
   |true=>
    rw [hb] at h
    cases h
    refine ⟨g,⟨hS.size,hS.df,hS.tb,fun i=>by rw [en];exact hS.tm i,fun q r hr=>?_⟩,.refl _ _⟩
    rw [bQ] at hr
    by_cases e:q=s
    ·subst e
     rw [if_pos rfl] at hr
     cases hr
     have hR:=hS.root hroot
     refine ⟨fun e=>(by cases e),fun _=>?_⟩
     obtain ⟨vals,hv⟩:=hR.box rfl
     refine ⟨vals,fun j hj=>?_⟩
     obtain ⟨q1,q2,q3,q4,q5⟩:=hv j (by simpa using hj)
     refine ⟨q1,q2,q3,q4,?_⟩
     cases j with
     |succ j=>exact q5
     |zero=>
      simp only [List.getElem_cons_zero] at q5 ⊢
      cases q5 with
      |av _ _ h=>
       refine .av _ _ ?_
       generalize vals 0=u at h
       unfold qy at hb
       split at hb
       ·cases h;exact .bad0 q
       ·have e:=Nat.eq_of_beq_eq_true hb
        subst e;exact h
       ·simp only [Bool.and_eq_true] at hb
        have e:=Nat.eq_of_beq_eq_true hb.1
        have e2:=Nat.eq_of_beq_eq_true hb.2
        subst e;subst e2
        cases h
        exact .bad1 _
       ·cases hb
    ·rw [if_neg e] at hr
     exact hS.rt q r hr
  ·cases h
 |froze s j=>
  simp only [ll] at h
  split at h
  ·rename_i t fz xs hc
   cases h
   obtain ⟨g',h1,h2,_⟩:=hS.raiseTo (fz:=true) hc (by simp)
   exact ⟨g',h1,h2⟩
  ·cases h
 |cellv s j t=>
  simp only [ll] at h
  split at h
  ·rename_i u fz xs hc
   cases h
   obtain ⟨g',h1,h2,_⟩:=hS.raiseTo (fz:=true) hc (by simp)
   have hc':=eD (c':=.sl u true xs) hc
   refine ⟨g',h1.setAv hc' fun v hv=>?_,h2⟩
   obtain ⟨q1,rfl⟩:=hv.sl_inv
   exact q1.L_own
  ·cases h
   exact ⟨g,hS,.refl _ _⟩
  ·rename_i u xs ys hc
   cases h
   exact ⟨g,hS.setAv hc fun v hv=>hv.av_inv.rm_L,.refl _ _⟩
  ·rename_i hc
   cases h
   refine ⟨g,hS.setAv hc fun v hv=>?_,.refl _ _⟩
   have:=hv.av_inv
   cases this
   exact .lnil _ _ _
  ·rename_i s' j' hc
   split at h
   ·rename_i u fz xs hc2
    cases h
    obtain ⟨g',h1,h2,h3,h4,_⟩:=hS.raiseTo (fz:=true) hc2 (by simp)
    have hs1:=h1.cell (eD (c':=.sl u true xs) hc2)
    obtain ⟨r0,hr0,hj0⟩:=bW hc2
    obtain ⟨r2,hr2,hj2⟩:=bW hc
    have hcc:(S.setCell s' j' (.sl u true xs)).cell s j=some (.av (.al s' j')):=by
     unfold St.cell
     rw [aZ hr0]
     by_cases e:s=s'
     ·subst e
      rw [hr0] at hr2
      cases hr2
      rw [if_pos rfl]
      simp only [Option.bind_some,List.getElem?_set]
      by_cases e2:j'=j
      ·subst e2
       rw [hj0] at hj2
       cases hj2
      ·rw [if_neg e2];exact hj2
     ·rw [if_neg e,hr2];exact hj2
    refine ⟨g',h1.setAv hcc fun v hv=>?_,h2⟩
    rw [hv.av_inv.al_inv.1]
    exact hs1.L_own
   ·cases h
  ·cases h
 |view v t=>
  simp only [ll] at h
  have put:∀{S:St}{g:Gh}{b:AV},aV aa n w g S a→RepA w g b (a.tmps.getD v undef)→aV aa n w g (S.put v b) a:=by
   intro S g b hS hb
   refine ⟨hS.size,hS.df,hS.tb,fun i=>?_,hS.rt⟩
   rw [gK]
   by_cases e:i=v
   ·subst e;rw [if_pos rfl];exact hb
   ·rw [if_neg e];exact hS.tm i
  have hv:=hS.tm v
  split at h
  ·rename_i hb
   cases h
   rw [hb] at hv
   refine ⟨g,put hS ?_,.refl _ _⟩
   generalize a.tmps.getD v undef=u at hv
   cases hv
   exact .lnil _ _ _
  ·rename_i u xs hb
   cases h
   rw [hb] at hv
   exact ⟨g,put hS hv,.refl _ _⟩
  ·rename_i u xs ys hb
   cases h
   rw [hb] at hv
   exact ⟨g,put hS hv.rm_L,.refl _ _⟩
  ·rename_i s j hb
   rw [hb] at hv
   split at h
   ·rename_i u fz xs hc
    cases h
    obtain ⟨g',h1,h2,h3,h4,_⟩:=hS.raiseTo (fz:=true) hc (by simp)
    refine ⟨g',put h1 ?_,h2⟩
    rw [hv.al_inv.1,←h4]
    exact (h1.cell (eD hc)).L_own
   ·cases h
  ·cases h
 |own v t fz=>
  simp only [ll] at h
  cases hvn:Nat.blt v n with
  |false=>rw [hvn] at h;cases h
  |true=>
   rw [hvn] at h
   simp only [Bool.not_true,cond] at h
   have hv:=hS.tm v
   split at h
   ·-- nil
    rename_i hb
    cases h
    rw [hb] at hv
    have hvu:a.tmps.getD v undef=.slice none 0 0:=by
     generalize a.tmps.getD v undef=u at hv
     cases hv;rfl
    let g':Gh:=⟨g.who,fun q i=>if q=2000+v then .slice none 0 0 else g.hs q i,g.hb⟩
    have hga:GA w g g' fun q _=>q=2000+v:=⟨fun _ _ _ h=>h,fun _ _ _ h=>h,fun q i h=>by show (if q=2000+v then _ else _)=_;rw [if_neg h],fun _ _=>rfl⟩
    have e0:g'.hs (2000+v) 0=.slice none 0 0:=by show (if 2000+v=2000+v then _ else _)=_;rw [if_pos rfl]
    refine ⟨g',⟨hS.size,hS.df,hS.tb.who fun _ _ h=>h,fun i=>?_,fun q r hr=>?_⟩,⟨.refl _ _,fun _ _ _ h=>h,fun _ _ _ h=>h,fun _ _ _ h=>h,fun _ _=>rfl⟩⟩
    ·rw [gK,en,iK]
     by_cases e:i=v
     ·subst e;rw [if_pos rfl,hvu];exact .al _ _ _ _ _ e0
     ·rw [if_neg e]
      exact ((hS.tm i).kill (d:=2000+v)).pres (.refl w fun _ _=>False) (fun _ _ _ h=>h.elim) hga (ei (2000+v) _)
    ·rw [fE,bQ] at hr
     by_cases e:q=2000+v
     ·subst e
      rw [if_pos rfl] at hr
      cases hr
      refine ⟨fun _ i u f ys hi=>?_,fun h=>by cases h⟩
      cases i with
      |succ i=>simp at hi
      |zero=>simp at hi;obtain ⟨rfl,h⟩:=hi;obtain ⟨rfl,h⟩:=h;cases h;exact .empty e0
     ·rw [if_neg e,dh,if_neg e] at hr
      cases hl:S.root q with
      |none=>rw [hl] at hr;cases hr
      |some r0=>
       rw [hl] at hr
       simp only [Option.map_some,Option.some.injEq] at hr
       subst hr
       exact ((hS.rt q r0 hl).kill (2000+v)).pres (M:=fun _ _=>False) (.refl w _) hga (fun _ _ _ h=>h.elim) (fun _ _ _ _ h=>h) (fun _=>e) (fun b hb=>fg hb)
   ·-- a part
    rename_i s j hb
    rw [hb] at hv
    split at h
    ·rename_i u fz' xs hc
     split at h
     ·rename_i hut
      subst hut
      cases hf:fz||!fz' with
      |false=>rw [hf] at h;cases h
      |true=>
       rw [hf] at h
       simp only [cond] at h
       obtain ⟨g1,hS1,i1,r1,e1,e2⟩:=hS.raiseTo hc hf
       obtain ⟨r0,hr0,hj0⟩:=bW hc
       have hc1:=eD (c':=.sl u fz xs) hc
       have hs1:=hS1.cell hc1
       have hroot1:=aZ (c:=.sl u fz xs) (j:=j) hr0
       cases hsv:Nat.beq s (2000+v) with
       |true=>
        rw [hsv] at h
        have hsv':=Nat.eq_of_beq_eq_true hsv
        subst hsv'
        simp only at h
        cases hj:Nat.beq j 0 with
        |false=>rw [hj] at h;cases h
        |true=>
         rw [hj] at h
         cases h
         have hj':=Nat.eq_of_beq_eq_true hj
         subst hj'
         refine ⟨g1,⟨hS.size,hS.df,hS.tb.inv i1,fun i=>?_,fun q r hr=>?_⟩,i1⟩
         ·rw [gK,en]
          by_cases e:i=v
          ·subst e;rw [if_pos rfl];exact r1 _ _ hv
          ·rw [if_neg e];exact r1 _ _ (hS.tm i)
         ·rw [fE,bQ] at hr
          by_cases e:q=2000+v
          ·subst e
           rw [if_pos rfl] at hr
           cases hr
           refine ⟨fun _ i u' f ys hi=>?_,fun h=>by cases h⟩
           cases i with
           |succ i=>simp at hi
           |zero=>simp only [List.getElem?_cons_zero,Option.some.injEq] at hi;cases hi;exact hs1
          ·rw [if_neg e] at hr
           refine hS1.rt q r ?_
           rw [hroot1,if_neg e];exact hr
       |false=>
        rw [hsv] at h
        cases h
        have hsv':s≠2000+v:=fun e=>by subst e;simp at hsv
        refine ⟨cv g1 s j (2000+v) 0 (g1.hs s j),⟨hS.size,hS.df,hS.tb.inv (i1.trans kq),fun i=>?_,fun q r hr=>?_⟩,i1.trans kq⟩
        ·rw [gK,en,iK,db]
         by_cases e:i=v
         ·subst e
          rw [if_pos rfl]
          obtain ⟨q1,ad,m,c,q2⟩:=hv.al_inv
          rw [q2]
          refine .al _ _ _ _ _ ?_
          simp only [cv,and_self,if_true]
          rw [e1,←q1,q2]
         ·rw [if_neg e]
          exact (r1 _ _ ((hS.tm i).kill (d:=2000+v))).move ((ei (2000+v) _).mono fun q x h=>h.1)
        ·rw [fE,bQ] at hr
         by_cases e:q=2000+v
         ·subst e
          rw [if_pos rfl] at hr
          cases hr
          refine ⟨fun _ i u' f ys hi=>?_,fun h=>by cases h⟩
          cases i with
          |succ i=>simp at hi
          |zero=>simp only [List.getElem?_cons_zero,Option.some.injEq] at hi;cases hi;exact hs1.moved rfl
         ·rw [if_neg e,dh,if_neg e,aZ hr0] at hr
          by_cases es:q=s
          ·subst es
           rw [if_pos rfl] at hr
           simp only [Option.map_some,Option.some.injEq] at hr
           subst hr
           have hR:=hS1.rt q _ (by rw [hroot1,if_pos rfl])
           have hR2:=hR.forget j
           simp only [List.set_set] at hR2
           refine (aB.kill (2000+v) hR2).move (fun i t fz ys hi=>⟨fun ⟨_,h2⟩=>?_,fun ⟨h1,_⟩=>e h1⟩) (fun b hb=>(fg hb).mono fun q x h=>h.1)
           subst h2
           have:=uH.1 hi
           simp only [List.getElem?_set_self'] at this
           rw [hj0] at this
           cases this
          ·rw [if_neg es] at hr
           cases hl:S.root q with
           |none=>rw [hl] at hr;cases hr
           |some r2=>
            rw [hl] at hr
            simp only [Option.map_some,Option.some.injEq] at hr
            subst hr
            have hR:=hS1.rt q r2 (by rw [hroot1,if_neg es];exact hl)
            exact (aB.kill (2000+v) hR).move (fun i t fz ys hi=>⟨fun ⟨h1,_⟩=>es h1,fun ⟨h1,_⟩=>e h1⟩) (fun b hb=>(fg hb).mono fun q x h=>h.1)
     ·cases h
    ·cases h
   ·cases h
 |cell s j t fz=>
  simp only [ll] at h
  split at h
  ·rename_i u fz' xs hc
   split at h
   ·rename_i hut
    subst hut
    cases hf:fz||!fz' with
    |false=>rw [hf] at h;cases h
    |true=>
     rw [hf] at h
     cases h
     obtain ⟨g1,h1,h2,_⟩:=hS.raiseTo hc hf
     exact ⟨g1,h1,h2⟩
   ·cases h
  ·-- nil
   rename_i hc
   cases h
   obtain ⟨r0,hr0,hj0⟩:=bW hc
   let g':Gh:=⟨g.who,fun q i=>if q=s∧i=j then .slice none 0 0 else g.hs q i,g.hb⟩
   have hga:GA w g g' fun q x=>q=s∧x=some j:=⟨fun _ _ _ h=>h,fun _ _ _ h=>h,fun q i h=>by show (if q=s∧i=j then _ else _)=_;rw [if_neg fun ⟨h1,h2⟩=>h ⟨h1,by rw [h2]⟩],fun _ _=>rfl⟩
   have e0:g'.hs s j=.slice none 0 0:=by show (if s=s∧j=j then _ else _)=_;rw [if_pos ⟨rfl,rfl⟩]
   have hsame:∀q i,¬(q=s∧i=j)→g'.hs q i=g.hs q i:=fun q i h=>by show (if q=s∧i=j then _ else _)=_;rw [if_neg h]
   -- roots with names killed
   have hkeep:∀q r,S.root q=some r→(q=s→∀t fz xs,r.cs[j]?≠some (.sl t fz xs))→aB aa w g' q ⟨r.box,killCC s j r.cs⟩:=by
    intro q r hr hns
    have hR:=aB.killCC s j (hS.rt q r hr)
    have hsj:∀{i:Nat}{t:El}{fz:Bool}{xs:List t.den},(killCC s j r.cs)[i]?=some (ah.sl t fz xs)→¬(q=s∧i=j):=by
     rintro i t fz xs hi ⟨h1,rfl⟩
     exact hns h1 _ _ _ (m9.1 hi)
    refine ⟨fun hb i t fz xs hi=>?_,fun hb=>?_⟩
    ·exact (hR.apart hb i t fz xs hi).pres (M:=fun _ _=>False) (.refl w _) hga (fun _ _ _ h=>h) (fun _ _ _ h=>h.elim) (fun ⟨h1,h2⟩=>hsj hi ⟨h1,by cases h2;rfl⟩)
    ·obtain ⟨vals,hv⟩:=hR.box hb
     refine ⟨vals,fun i hi=>?_⟩
     obtain ⟨h1,h2,h3,h4,h5⟩:=hv i hi
     refine ⟨h1,h2,h3,h4,?_⟩
     have key:∀c u,(killCC s j r.cs)[i]=c→cw aa w g q i c u→cw aa w g' q i c u:=by
      intro c u hc h
      cases h with
      |av b u h=>exact .av b u (h.pres (.refl w fun _ _=>False) (fun _ _ _ h=>h.elim) hga (oR (by rw [←hc];exact List.getElem_mem hi)))
      |sl t fz xs h=>
       have hi':(killCC s j r.cs)[i]?=some (.sl t fz xs):=by rw [List.getElem?_eq_getElem hi,hc]
       rw [←hsame q i (hsj hi')]
       exact .sl t fz xs (h.pres (M:=fun _ _=>False) (.refl w _) hga (fun _ _ _ h=>h) (fun _ _ _ h=>h.elim) (fun ⟨h1,h2⟩=>hsj hi' ⟨h1,by cases h2;rfl⟩))
     exact key _ _ rfl h5
   have hrc:(S.clearC s j).root s=some ⟨r0.box,killCC s j r0.cs⟩:=by rw [gX,hr0];rfl
   refine ⟨g',⟨hS.size,hS.df,hS.tb.who fun _ _ h=>h,fun i=>?_,fun q r hr=>?_⟩,⟨.refl _ _,fun _ _ _ h=>h,fun _ _ _ h=>h,fun _ _ _ h=>h,fun _ _=>rfl⟩⟩
   ·rw [db,qp]
    exact ((hS.tm i).killC s j).pres (.refl w fun _ _=>False) (fun _ _ _ h=>h.elim) hga (jj s j _)
   ·rw [aZ hrc] at hr
    by_cases e:q=s
    ·subst e
     rw [if_pos rfl] at hr
     cases hr
     refine (hkeep q r0 hr0 (fun _ t fz xs e=>by rw [hj0] at e;cases e)).setSl (.empty e0) (fun hb u hu=>?_)
     obtain ⟨vals,hv⟩:=(hS.rt q r0 hr0).box hb
     obtain ⟨hlt,hget⟩:=List.getElem?_eq_some_iff.mp hj0
     obtain ⟨_,_,h3,_,h5⟩:=hv j hlt
     rw [hget] at h5
     have h6:=h5.av_inv
     have hu':w.cell? ⟨(g.hb q).1,(g.hb q).2+j,none⟩=some u:=hu
     rw [h3] at hu'
     cases hu'
     rw [e0]
     generalize vals j=x at h6
     cases h6;rfl
    ·rw [if_neg e,gX] at hr
     cases hl:S.root q with
     |none=>rw [hl] at hr;cases hr
     |some r2=>
      rw [hl] at hr
      cases hr
      exact hkeep q r2 hl (fun h=>absurd h e)
  ·-- a part of another
   rename_i s' j' hc
   split at h
   ·rename_i u fz' xs hc'
    split at h
    ·rename_i hut
     subst hut
     cases hf:fz||!fz' with
     |false=>rw [hf] at h;cases h
     |true=>
      rw [hf] at h
      cases h
      obtain ⟨g1,hS1,i1,r1,e1,e2⟩:=hS.raiseTo hc' hf
      obtain ⟨r0,hr0,hj0⟩:=bW hc'
      obtain ⟨r2,hr2,hj2⟩:=bW hc
      have hne:¬(s=s'∧j=j'):=by
       rintro ⟨rfl,rfl⟩
       rw [hc] at hc';cases hc'
      have hs1:=hS1.cell (eD (c':=.sl u fz xs) hc')
      have hroot1:=aZ (c:=.sl u fz xs) (j:=j') hr0
      have hrootU:=aZ (c:=.av .und) (j:=j') hr0
      -- a root with the part forgotten
      have hforget:∀q r,(S.setCell s' j' (.av .und)).root q=some r→aB aa w g1 q r∧(q=s'→∀t fz xs,r.cs[j']?≠some (.sl t fz xs))∧(q=s→∀t fz xs,r.cs[j]?≠some (.sl t fz xs)):=by
       intro q r hr
       have hnj:∀r',S.root q=some r'→q=s→∀t fz xs,r'.cs[j]?≠some (.sl t fz xs):=by
        rintro r' hr' rfl t fz xs e
        rw [hr2] at hr';cases hr'
        rw [hj2] at e;cases e
       rw [hrootU] at hr
       by_cases e:q=s'
       ·subst e
        rw [if_pos rfl] at hr
        cases hr
        have hR:=(hS1.rt q _ (by rw [hroot1,if_pos rfl])).forget j'
        simp only [List.set_set] at hR
        refine ⟨hR,fun _ t fz xs e=>?_,fun hqs t fz xs e=>?_⟩
        ·simp only [List.getElem?_set_self'] at e
         rw [hj0] at e
         cases e
        ·simp only [List.getElem?_set] at e
         have:j'≠j:=fun h=>hne ⟨hqs.symm,h.symm⟩
         rw [if_neg this] at e
         exact hnj r0 hr0 hqs t fz xs e
       ·rw [if_neg e] at hr
        exact ⟨hS1.rt q r (by rw [hroot1,if_neg e];exact hr),fun h=>absurd h e,fun h=>hnj r hr h⟩
      have hmove:∀q r,(S.setCell s' j' (.av .und)).root q=some r→aB aa w (cv g1 s' j' s j (g1.hs s' j')) q ⟨r.box,killCC s j r.cs⟩:=by
       intro q r hr
       obtain ⟨q1,q2,q3⟩:=hforget q r hr
       refine (aB.killCC s j q1).move (fun i t fz xs hi=>⟨fun ⟨h1,h2⟩=>?_,fun ⟨h1,h2⟩=>?_⟩) (fun b hb=>oR hb)
       ·subst h2;exact q2 h1 _ _ _ (m9.1 hi)
       ·subst h2;exact q3 h1 _ _ _ (m9.1 hi)
      obtain ⟨r3,hr3⟩:∃r3,(S.setCell s' j' (.av .und)).root s=some r3∧r3.box=r2.box:=by
       rw [hrootU]
       by_cases e:s=s'
       ·subst e;rw [hr0] at hr2;cases hr2;exact ⟨⟨r0.box,r0.cs.set j' (.av .und)⟩,by rw [if_pos rfl],rfl⟩
       ·exact ⟨r2,by rw [if_neg e];exact hr2,rfl⟩
      have hrc:((S.setCell s' j' (.av .und)).clearC s j).root s=some ⟨r3.box,killCC s j r3.cs⟩:=by rw [gX,hr3.1];rfl
      refine ⟨cv g1 s' j' s j (g1.hs s' j'),⟨hS.size,hS.df,hS.tb.inv (i1.trans kq),fun i=>?_,fun q r hr=>?_⟩,i1.trans kq⟩
      ·rw [db,qp,db]
       exact (r1 _ _ ((hS.tm i).killC s j)).move (jj s j _)
      ·rw [aZ hrc] at hr
       by_cases e:q=s
       ·subst e
        rw [if_pos rfl] at hr
        cases hr
        refine (hmove q r3 hr3.1).setSl (hs1.moved rfl) (fun hb v hv=>?_)
        have hb':r2.box=true:=hr3.2 ▸ hb
        obtain ⟨vals,hvv⟩:=(hS.rt q r2 hr2).box hb'
        obtain ⟨hlt,hget⟩:=List.getElem?_eq_some_iff.mp hj2
        obtain ⟨_,_,h3,_,h5⟩:=hvv j hlt
        rw [hget] at h5
        have h6:=h5.av_inv
        have hv':w.cell? ⟨(g.hb q).1,(g.hb q).2+j,none⟩=some v:=by rw [←e2];exact hv
        rw [h3] at hv'
        cases hv'
        simp only [cv,and_self,if_true]
        rw [h6.al_inv.1,e1]
       ·rw [if_neg e,gX] at hr
        cases hl:(S.setCell s' j' (.av .und)).root q with
        |none=>rw [hl] at hr;cases hr
        |some r4=>
         rw [hl] at hr
         cases hr
         exact hmove q r4 hl
    ·cases h
   ·cases h
  ·cases h
theorem dI (hn:n≤1000):∀{l:List xZ}{S S':St}{g:Gh},iZ n S l=some S'→aV aa n w g S a→∃g',aV aa n w g' S' a∧eS w g w g'
 |[],S,S',g,h,hS=>by simp only [iZ,Option.some.injEq] at h;subst h;exact ⟨g,hS,.refl _ _⟩
 |c :: l,S,S',g,h,hS=>by
  simp only [iZ] at h
  split at h
  ·rename_i S1 h1
   obtain ⟨g1,hS1,i1⟩:=ua h1 hn hS
   obtain ⟨g2,hS2,i2⟩:=dI hn h hS1
   exact ⟨g2,hS2,i1.trans i2⟩
  ·cases h
end
end Go.Proofs.YtjkokaockhecnaaGreatDoorA
