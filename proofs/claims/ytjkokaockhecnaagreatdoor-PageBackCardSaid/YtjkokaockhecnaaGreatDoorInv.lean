/- What stays true from one operation to the next. -/
import Derived.Test.YtjkokaockhecnaaGreatDoorStep2
namespace Go.Proofs.YtjkokaockhecnaaGreatDoorA
open Go
section
variable {aa:aM}{n:Nat}{w w' w'':World}{g g' g'':Gh}{S:St}{a:Act}{P:Program}
structure eS (w:World)(g:Gh)(w':World)(g':Gh):Prop where
 chg:gy w w' fun b o=>∃s x,g.who b o=.obj s x
 imm:∀b o,b<w.heap.size→g.who b o=.imm→g'.who b o=.imm
 bor:∀b o,b<w.heap.size→g.who b o=.bor→g'.who b o=.bor
 other:∀b o,b<w.heap.size→g.who b o=.other→g'.who b o=.other
 hb:∀s,1000≤s→g'.hb s=g.hb s
theorem gR.inv (h:gR aa w g)(i:eS w g w' g'):gR aa w' g':=by
 refine ⟨aa.stable w w' (fun b hb=>?_) h.1,fun b hb=>⟨Nat.lt_of_lt_of_le (h.2 b hb).1 i.chg.size,fun o=>i.imm b o (h.2 b hb).1 ((h.2 b hb).2 o)⟩⟩
 refine i.chg.blk b (h.2 b hb).1 fun o ⟨s,x,e⟩=>?_
 rw [(h.2 b hb).2 o] at e
 cases e
theorem gR.quiet {d:Nat}(h:gR aa w g)(q:fR w g w' g' d):gR aa w' g':=
 ⟨aa.stable w w' (fun b hb=>q.chg.blk b (h.2 b hb).1 fun _ hf=>hf) h.1,fun b hb=>⟨Nat.lt_of_lt_of_le (h.2 b hb).1 q.chg.size,fun o=>(q.who b o (h.2 b hb).1).trans ((h.2 b hb).2 o)⟩⟩
theorem gR.who {w:World}{g g':Gh}(h:gR aa w g)(hw:∀b o,g.who b o=.imm→g'.who b o=.imm):gR aa w g':=
 ⟨h.1,fun b hb=>⟨(h.2 b hb).1,fun o=>hw b o ((h.2 b hb).2 o)⟩⟩
theorem eS.refl (w:World)(g:Gh):eS w g w g:=⟨.refl _ _,fun _ _ _ h=>h,fun _ _ _ h=>h,fun _ _ _ h=>h,fun _ _=>rfl⟩
theorem eS.trans (h:eS w g w' g')(h':eS w' g' w'' g''):eS w g w'' g'':=by
 have hs:=h.chg.size
 refine ⟨(h.chg.trans h'.chg).mono ?_,fun b o hb e=>h'.imm b o (Nat.lt_of_lt_of_le hb hs) (h.imm b o hb e),fun b o hb e=>h'.bor b o (Nat.lt_of_lt_of_le hb hs) (h.bor b o hb e),
  fun b o hb e=>h'.other b o (Nat.lt_of_lt_of_le hb hs) (h.other b o hb e),fun s hs=>(h'.hb s hs).trans (h.hb s hs)⟩
 rintro b o hb (⟨s,x,e⟩|⟨s,x,e⟩)
 ·exact ⟨s,x,e⟩
 ·cases hq:g.who b o with
  |imm=>rw [h.imm b o hb hq] at e;cases e
  |bor=>rw [h.bor b o hb hq] at e;cases e
  |other=>rw [h.other b o hb hq] at e;cases e
  |obj s x=>exact ⟨s,x,rfl⟩
theorem fR.inv {d:Nat}(h:fR w g w' g' d)(hd:d<1000):eS w g w' g':=
 ⟨h.chg.mono fun _ _ _ h=>h.elim,fun b o hb e=>(h.who b o hb).trans e,fun b o hb e=>(h.who b o hb).trans e,fun b o hb e=>(h.who b o hb).trans e,
  fun s hs=>h.gch.hb s (by show¬s=d;omega)⟩
theorem aB.sl {s j:Nat}{r:ae}{t:El}{fz:Bool}{xs:List t.den}(h:aB aa w g s r)(hj:r.cs[j]?=some (.sl t fz xs)):bZ aa w g s j t fz xs:=by
 cases hb:r.box with
 |false=>exact h.apart hb j t fz xs hj
 |true=>
  obtain ⟨vals,hv⟩:=h.box hb
  obtain ⟨h1,he⟩:=List.getElem?_eq_some_iff.mp hj
  have:=(hv j h1).2.2.2.2
  rw [he] at this
  exact this.sl_inv.1
theorem cw.pres {M:Nat→Nat→Prop}{N:Nat→Option Nat→Prop}(hc:gy w w' M)(hg:GA w g g' N){s j:Nat}
  (hM:∀b o,b<w.heap.size→M b o→∃s' x,g.who b o=.obj s' x∧(s'≠s∨x≠some j)) (ho:∀b o,b<w.heap.size→g.who b o=.obj s (some j)→g'.who b o=.obj s (some j))
  (hN:¬N s (some j)) {c:ah}{v:Value} (hav:∀a,c=.av a→aj N a) (h:cw aa w g s j c v):cw aa w' g' s j c v:=by
 have hM':∀b o,b<w.heap.size→M b o→∃s x,g.who b o=.obj s x:=fun b o hb hm=>let ⟨s,x,e,_⟩:=hM b o hb hm;⟨s,x,e⟩
 cases h with
 |av b v h=>exact .av b v (h.pres hc hM' hg (hav b rfl))
 |sl t fz xs h=>rw [←hg.hs s j hN];exact .sl t fz xs (h.pres hc hg ho hM hN)
theorem aB.pres {M:Nat→Nat→Prop}{N:Nat→Option Nat→Prop}(hc:gy w w' M)(hg:GA w g g' N){s:Nat}
  (hM:∀b o,b<w.heap.size→M b o→∃s' x,g.who b o=.obj s' x∧s'≠s) (ho:∀b o x,b<w.heap.size→g.who b o=.obj s x→g'.who b o=.obj s x)
  (hN:∀x,¬N s x) {r:ae} (hav:∀b,ah.av b∈r.cs→aj N b) (h:aB aa w g s r):aB aa w' g' s r:=by
 have hMj:∀j,∀b o,b<w.heap.size→M b o→∃s' x,g.who b o=.obj s' x∧(s'≠s∨x≠some j):=
  fun j b o hb hm=>let ⟨s',x,e,h⟩:=hM b o hb hm;⟨s',x,e,.inl h⟩
 refine ⟨fun hb j t fz xs hj=>(h.apart hb j t fz xs hj).pres hc hg (fun b o hb=>ho b o _ hb) (hMj j) (hN _),fun hb=>?_⟩
 obtain ⟨vals,hv⟩:=h.box hb
 refine ⟨vals,fun j hj=>?_⟩
 obtain ⟨h1,h2,h3,h4,h5⟩:=hv j hj
 rw [hg.hb s (hN none)]
 have hnm:¬M (g.hb s).1 ((g.hb s).2+j):=fun hm=>by
  obtain ⟨s',x,e,hne⟩:=hM _ _ h1 hm
  rw [h2] at e;cases e;exact hne rfl
 refine ⟨Nat.lt_of_lt_of_le h1 hc.size,ho _ _ _ h1 h2,(hc.cel _ _ h1 hnm).trans h3,(hc.frz _ _ h1 hnm).trans h4,?_⟩
 exact h5.pres hc hg (hMj j) (fun b o hb=>ho b o _ hb) (hN _) (fun b hb=>hav b (by rw [←hb];exact List.getElem_mem hj))
theorem aB.kill {s:Nat}{r:ae}(d:Nat)(h:aB aa w g s r):aB aa w g s ⟨r.box,killC d r.cs⟩:=by
 have hsl:∀{j:Nat}{t:El}{fz:Bool}{xs:List t.den},(killC d r.cs)[j]?=some (ah.sl t fz xs)→r.cs[j]?=some (ah.sl t fz xs):=by
  intro j t fz xs h
  rw [cS] at h
  cases hc:r.cs[j]? with
  |none=>rw [hc] at h;cases h
  |some c=>
   rw [hc] at h
   cases c with
   |av b=>simp [ah.kill] at h
   |sl u f ys=>exact h
 refine ⟨fun hb j t fz xs hj=>h.apart hb j t fz xs (hsl hj),fun hb=>?_⟩
 obtain ⟨vals,hv⟩:=h.box hb
 refine ⟨vals,fun j hj=>?_⟩
 have hj':j<r.cs.length:=by simpa [eN] using hj
 obtain ⟨h1,h2,h3,h4,h5⟩:=hv j hj'
 refine ⟨h1,h2,h3,h4,?_⟩
 have e:(killC d r.cs)[j]=(r.cs[j]).kill d:=by
  have:=cS d r.cs j
  simp only [List.getElem?_eq_getElem hj,List.getElem?_eq_getElem hj',Option.map_some,Option.some.injEq] at this
  exact this
 simp only [e]
 cases hc:r.cs[j] with
 |av b=>rw [hc] at h5;exact .av _ _ h5.av_inv.kill
 |sl t fz xs=>rw [hc] at h5;exact h5
theorem fg {d:Nat}{cs:List ah}{b:AV}(h:ah.av b∈killC d cs):aj (fun s _=>s=d) b:=by
 induction cs with
 |nil=>simp [killC] at h
 |cons c cs ih=>
  simp only [killC,List.mem_cons] at h
  rcases h with h|h
  ·cases c with
   |av a=>simp only [ah.kill,ah.av.injEq] at h;subst h;exact ei d a
   |sl t fz xs=>simp [ah.kill] at h
  ·exact ih h
structure xx (g g':Gh)(d:Nat):Prop where
 hs:g'.hs=g.hs
 hb:g'.hb=g.hb
 who:∀b o,g'.who b o=g.who b o∨((∃j,g.who b o=.obj d (some j))∧g'.who b o=.imm)
theorem xx.refl (g:Gh)(d:Nat):xx g g d:=⟨rfl,rfl,fun _ _=>.inl rfl⟩
theorem xx.ga {d:Nat}(h:xx g g' d)(w:World):GA w g g' fun _ _=>False:=by
 refine ⟨fun b o _ e=>?_,fun b o _ e=>?_,fun s j _=>by rw [h.hs],fun s _=>by rw [h.hb]⟩
 ·rcases h.who b o with h|⟨⟨j,h⟩,_⟩
  ·rw [h,e]
  ·rw [e] at h;cases h
 ·rcases h.who b o with h|⟨⟨j,h⟩,_⟩
  ·rw [h,e]
  ·rw [e] at h;cases h
theorem aG (b:AV):aj (fun _ _=>False) b:=by
 have key:∀N:Nat→Option Nat→Prop,(∀s x,¬N s x)→aj N b:=by
  intro N hN
  refine AV.rec (motive_1:=fun b=>aj N b) (motive_2:=fun l=>∀b,b∈l→aj N b) ?_ ?_ ?_ ?_ ?_ ?_ ?_ ?_ ?_ ?_ ?_ ?_ ?_ ?_ ?_ ?_ ?_ ?_ ?_ ?_ ?_ ?_ ?_ ?_ ?_ ?_ ?_ ?_ ?_ b
  ·exact .und
  ·exact fun b=>.bool b
  ·exact fun k n=>.int k n
  ·exact fun s=>.str s
  ·exact fun b=>.err b
  ·exact .nils
  ·exact .emp
  ·exact fun t xs=>.L t xs
  ·exact fun s j=>.al s j (hN _ _)
  ·exact fun s o=>.ref s o (hN _ _)
  ·exact fun s j sz i o=>.eref s j sz i o (hN _ _)
  ·exact fun s m=>.bs s m (hN _ _)
  ·exact fun s m=>.bref s m (hN _ _)
  ·exact fun s m t xs=>.bal s m t xs fun _=>hN _ _
  ·exact fun t xs ys=>.rm t xs ys
  ·exact fun s j sz lo m=>.als s j sz lo m (hN _ _)
  ·exact fun s=>.bad s (hN _ _)
  ·exact fun s T=>.refT s T (hN _ _)
  ·exact fun e l=>.fzs e l
  ·exact fun cs h=>.vp cs h
  ·exact fun cs h=>.vi cs h
  ·exact .nilp
  ·exact fun t x=>.optp t x
  ·exact fun q t xs=>.nq q t xs
  ·exact fun cs h=>.agg cs h
  ·exact fun cs h=>.tup cs h
  ·exact fun f cs h=>.fn f cs h
  ·intro b hb;simp at hb
  ·intro h t ih iht b hb
   rcases List.mem_cons.mp hb with rfl|hb
   ·exact ih
   ·exact iht b hb
 exact key _ fun _ _ h=>h
theorem RepA.frz {d:Nat}(h:xx g g' d){b:AV}{v:Value}(hb:RepA w g b v):RepA w g' b v:=
 hb.pres (.refl w fun _ _=>False) (fun _ _ _ h=>h.elim) (h.ga w) (aG b)
theorem aB.frz {d:Nat}(h:xx g g' d){s:Nat}(hs:s≠d){r:ae}(hr:aB aa w g s r):aB aa w g' s r:=by
 refine hr.pres (M:=fun _ _=>False) (.refl w _) (h.ga w) (fun _ _ _ h=>h.elim) (fun b o x _ e=>?_) (fun _ h=>h) (fun b _=>aG b)
 rcases h.who b o with h|⟨⟨j,h⟩,_⟩
 ·rw [h,e]
 ·rw [e] at h;cases h;exact absurd rfl hs
theorem xx.inv {d:Nat}(h:xx g g' d)(w:World):eS w g w g':=
 ⟨.refl _ _,(h.ga w).imm,(h.ga w).bor,(fun b o _ e=>by
  rcases h.who b o with h|⟨⟨j,h⟩,_⟩
  ·rw [h,e]
  ·rw [e] at h;cases h),fun s _=>by rw [h.hb]⟩
def jJ (g:Gh)(d:Nat)(cs:List ah)(b o:Nat):Prop:=
 ∃(j:Nat) (t:El) (fz:Bool) (xs:List t.den) (m cap:Nat),cs[j]?=some (.sl t fz xs)∧g.hs d j=.slice (some ⟨b,0,none⟩) m cap∧o<xs.length*t.size
open Classical in
noncomputable def kG (g:Gh)(d:Nat)(F:Nat→Nat→Prop):Gh:=⟨fun b o=>if F b o then .imm else g.who b o,g.hs,g.hb⟩
theorem aB.frz_cells {d:Nat}{r:ae}(hr:aB aa w g d r)(F:Nat→Nat→Prop)(hF:∀b o,F b o→jJ g d r.cs b o):xx g (kG g d F) d:=by
 refine ⟨rfl,rfl,fun b o=>?_⟩
 by_cases h:F b o
 ·obtain ⟨j,t,fz,xs,m,cap,hj,hh,ho⟩:=hF b o h
  have hs:=(hr.sl hj).old (sQ ho)
  have:=(hs.own b m cap hh).2 o
  rw [if_pos ho] at this
  have e:(kG g d F).who b o=.imm:=by simp [kG,h]
  split at this
  ·exact .inl (by rw [e,this])
  ·exact .inr ⟨⟨j,this⟩,e⟩
 ·exact .inl (by simp [kG,h])
theorem lV (b:Bool):∀(cs:List ah) (j:Nat),(fV b cs)[j]?=(cs[j]?).map fun c=>match c with|.sl t fz xs=>.sl t (b||fz) xs|c=>c
 |[],_=>by simp [fV]
 |.av a :: cs,0=>by simp [fV]
 |.sl t fz xs :: cs,0=>by simp [fV]
 |.av a :: cs,j+1=>by simp only [fV,List.getElem?_cons_succ];exact lV b cs j
 |.sl t fz xs :: cs,j+1=>by simp only [fV,List.getElem?_cons_succ];exact lV b cs j
theorem jM (b:Bool):∀cs:List ah,(fV b cs).length=cs.length
 |[]=>rfl
 |.av a :: cs=>by simp [fV,jM b cs]
 |.sl t fz xs :: cs=>by simp [fV,jM b cs]
theorem lq:∀cs:List ah,fV false cs=cs
 |[]=>rfl
 |.av a :: cs=>by simp [fV,lq cs]
 |.sl t fz xs :: cs=>by simp [fV,lq cs]
theorem bZ.frz {d:Nat}{r:ae}(hr:aB aa w g d r){F:Nat→Nat→Prop}(hF:∀b o,F b o→jJ g d r.cs b o){j:Nat}{t:El}{fz fz':Bool}{xs:List t.den}(hj:r.cs[j]?=some (.sl t fz xs))
  (hi:∀b m cap o,g.hs d j=.slice (some ⟨b,0,none⟩) m cap→o<xs.length*t.size→(fz'=true→F b o∨fz=true)∧(fz'=false→¬F b o∧fz=false)):
  bZ aa w (kG g d F) d j t fz' xs:=by
 have hfz:=hr.frz_cells F hF
 rcases (hr.sl hj).c with hs|⟨h1,h2,a,h3⟩
 rotate_left
 ·exact ⟨.inr ⟨h1,h2,a,h3⟩⟩
 obtain ⟨vals,h1,h2,h3⟩:=hs.row
 refine ⟨.inl ⟨⟨vals,h1,h2,fun i h h'=>(h3 i h h').frz hfz⟩,fun b m cap e=>?_⟩⟩
 obtain ⟨hlt,hw⟩:=hs.own b m cap e
 refine ⟨hlt,fun o=>?_⟩
 have hwo:=hw o
 by_cases ho:o<xs.length*t.size
 ·rw [if_pos ho]
  rw [if_pos ho] at hwo
  obtain ⟨i1,i2⟩:=hi b m cap o e ho
  cases fz' with
  |true=>
   rcases i1 rfl with h|h
   ·simp [kG,h]
   ·subst h
    by_cases hF':F b o
    ·simp [kG,hF']
    ·simp only [kG,hF',if_false];simpa using hwo
  |false=>
   obtain ⟨h,hz⟩:=i2 rfl
   subst hz
   simp only [kG,h,if_false];simpa using hwo
 ·rw [if_neg ho]
  rw [if_neg ho] at hwo
  by_cases hF':F b o
  ·obtain ⟨j',t',fz'',xs',m',cap',hj',hh',ho'⟩:=hF b o hF'
   have:=(((hr.sl hj').old (sQ ho')).own b m' cap' hh').2 o
   rw [if_pos ho',hwo] at this
   split at this
   ·cases this
   ·cases this
    rw [hj] at hj'
    cases hj'
    exact absurd ho' ho
  ·simp only [kG,hF',if_false];exact hwo
theorem aB.freeze {d:Nat}{r:ae}(hr:aB aa w g d r)(b:Bool):∃g',xx g g' d∧aB aa w g' d ⟨r.box,fV b r.cs⟩:=by
 cases b with
 |false=>exact ⟨g,.refl g d,by rw [lq];exact hr⟩
 |true=>
  have hF:∀b o,jJ g d r.cs b o→jJ g d r.cs b o:=fun _ _ h=>h
  have hfz:=hr.frz_cells (jJ g d r.cs) hF
  have hsl:∀{j:Nat}{t:El}{fz:Bool}{xs:List t.den},r.cs[j]?=some (ah.sl t fz xs)→bZ aa w (kG g d (jJ g d r.cs)) d j t true xs:=by
   intro j t fz xs hj
   exact bZ.frz hr hF hj (fun b m cap o e ho=>⟨fun _=>.inl ⟨j,t,fz,xs,m,cap,hj,e,ho⟩,fun h=>by cases h⟩)
  refine ⟨_,hfz,fun hb j t fz xs hj=>?_,fun hb=>?_⟩
  ·rw [lV] at hj
   cases hc:r.cs[j]? with
   |none=>rw [hc] at hj;cases hj
   |some c=>
    rw [hc] at hj
    cases c with
    |av q=>simp at hj
    |sl u f ys=>
     simp only [Option.map_some,Bool.true_or,Option.some.injEq] at hj
     cases hj
     exact hsl hc
  ·obtain ⟨vals,hv⟩:=hr.box hb
   refine ⟨vals,fun j hj=>?_⟩
   have hj':j<r.cs.length:=by simpa [jM] using hj
   obtain ⟨h1,h2,h3,h4,h5⟩:=hv j hj'
   have hbn:(kG g d (jJ g d r.cs)).hb=g.hb:=rfl
   rw [hbn]
   refine ⟨h1,?_,h3,h4,?_⟩
   ·rcases hfz.who (g.hb d).1 ((g.hb d).2+j) with h|⟨⟨j,h⟩,_⟩
    ·rw [h,h2]
    ·rw [h2] at h;cases h
   ·have e:=lV true r.cs j
    simp only [List.getElem?_eq_getElem hj,List.getElem?_eq_getElem hj',Option.map_some,Option.some.injEq] at e
    simp only [e]
    cases hc:r.cs[j] with
    |av q=>rw [hc] at h5;exact .av _ _ (h5.av_inv.frz hfz)
    |sl t fz xs=>
     rw [hc] at h5
     have hj2:r.cs[j]?=some (.sl t fz xs):=by rw [List.getElem?_eq_getElem hj',hc]
     rw [h5.sl_inv.2]
     exact .sl t true xs (hsl hj2)
end
end Go.Proofs.YtjkokaockhecnaaGreatDoorA
