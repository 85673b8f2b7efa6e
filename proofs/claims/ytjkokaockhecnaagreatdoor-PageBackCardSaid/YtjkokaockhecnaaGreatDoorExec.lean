/- Code: what it does is what the machine says. -/
import Derived.Test.YtjkokaockhecnaaGreatDoorCmd
namespace Go.Proofs.YtjkokaockhecnaaGreatDoorA
open Go
section
variable {aa:aM}{n:Nat}{w w' w'':World}{g g' g'':Gh}{S S':St}{a:Act}{P:Program}
def Ex.out:Ex→Exit
 |.normal=>.normal
 |.exit i=>.exit i
 |.ret=>.ret
theorem uZ (d:Nat)(a:AV):(a.kill d).names d=false:=by
 unfold AV.kill
 cases h:a.names d<;>simp [h,AV.names]
theorem mh {d:Nat}:∀(ds:List Nat) {cs:List ah},(∀a,ah.av a∈cs→a.names d=false)→∀a,ah.av a∈nh ds cs→a.names d=false
 |[],_,h,a,ha=>h a ha
 |e :: ds,cs,h,a,ha=>by
  refine mh ds (cs:=killC e cs) (fun b hb=>?_) a ha
  obtain ⟨i,hi⟩:=List.mem_iff_getElem?.1 hb
  rw [cS] at hi
  cases hc:cs[i]? with
  |none=>rw [hc] at hi;cases hi
  |some c=>
   rw [hc] at hi
   cases c with
   |sl t fz xs=>simp [ah.kill] at hi
   |av x=>
    simp only [Option.map_some,ah.kill,Option.some.injEq,ah.av.injEq] at hi
    subst hi
    have:=h x (List.mem_iff_getElem?.2 ⟨i,hc⟩)
    unfold AV.kill
    cases x.names e<;>simp [this,AV.names]
theorem me {d:Nat}:∀(ds:List Nat) {cs:List ah},d∈ds→∀a,ah.av a∈nh ds cs→a.names d=false
 |[],_,h,_,_=>by simp at h
 |e :: ds,cs,h,a,ha=>by
  rcases List.mem_cons.mp h with rfl|h
  ·refine mh ds (fun b hb=>?_) a ha
   obtain ⟨i,hi⟩:=List.mem_iff_getElem?.1 hb
   rw [cS] at hi
   cases hc:cs[i]? with
   |none=>rw [hc] at hi;cases hi
   |some c=>
    rw [hc] at hi
    cases c with
    |sl t fz xs=>simp [ah.kill] at hi
    |av x=>
     simp only [Option.map_some,ah.kill,Option.some.injEq,ah.av.injEq] at hi
     subst hi
     exact uZ d x
  ·exact me ds h a ha
theorem lY {d:Nat}{ds:List Nat}(hd:d∈ds):∀{l:List (Nat×ae)},l.all (fun p=>!Nat.beq p.1 d)=true→fh d (lu ds l)=true
 |[],_=>rfl
 |(i,r) :: l,h=>by
  simp only [List.all_cons,Bool.and_eq_true] at h
  simp only [lu,fh,Bool.and_eq_true]
  refine ⟨⟨h.1,List.all_eq_true.2 fun c hc=>?_⟩,lY hd h.2⟩
  cases c with
  |sl t fz xs=>rfl
  |av a=>simp only [me ds hd a hc,Bool.not_false]
theorem rc {o:Oper}{d:Nat}(hd:o.dst=some d):∀{l:List Oper},o∈l→d∈pE l
 |[],h=>by simp at h
 |x :: l,h=>by
  rcases List.mem_cons.mp h with rfl|h
  ·simp [pE,hd]
  ·have:=rc hd h
   simp only [pE]
   split
   ·exact List.mem_cons_of_mem _ this
   ·exact this
theorem jV {S:St}{ds:List Nat}:∀{l:List Oper},(∀o∈l,∀d,o.dst=some d→d∈ds)→qs S l=true→gn (S.purge ds) l=true
 |[],_,_=>rfl
 |o :: l,hd,h=>by
  simp only [qs,Bool.and_eq_true] at h
  simp only [gn,Bool.and_eq_true]
  refine ⟨?_,jV (fun o' ho=>hd o' (List.mem_cons_of_mem _ ho)) h.2⟩
  have h1:=h.1
  cases ho:o.dst with
  |none=>rfl
  |some d=>
   rw [ho] at h1
   simp only [Bool.and_eq_true] at h1
   show ((S.purge ds).tmps.all _&&fh d (S.purge ds).roots)=true
   rw [Bool.and_eq_true]
   exact ⟨h1.1,lY (hd o List.mem_cons_self d ho) h1.2⟩
theorem nZ (ds:List Nat)(s:Nat):∀l:List (Nat×ae),look s (lu ds l)=(look s l).map fun r=>⟨r.box,nh ds r.cs⟩
 |[]=>rfl
 |(i,r) :: l=>by
  simp only [lu,look]
  cases Nat.beq i s with
  |true=>rfl
  |false=>exact nZ ds s l
theorem aB.kills {aa:aM}{w:World}{g:Gh}{s:Nat}{b:Bool}:∀(ds:List Nat) {cs:List ah},aB aa w g s ⟨b,cs⟩→aB aa w g s ⟨b,nh ds cs⟩
 |[],_,h=>h
 |d :: ds,_,h=>aB.kills ds (h.kill d)
theorem aV.purge {aa:aM}{n:Nat}{w:World}{g:Gh}{S:St}{a:Act}(hS:aV aa n w g S a)(ds:List Nat):aV aa n w g (S.purge ds) a:=by
 refine ⟨hS.size,hS.df,hS.tb,hS.tm,fun s r hr=>?_⟩
 have hr':look s (lu ds S.roots)=some r:=hr
 rw [nZ] at hr'
 cases hl:look s S.roots with
 |none=>rw [hl] at hr';cases hr'
 |some q=>
  rw [hl] at hr'
  cases hr'
  exact (hS.rt s q hl).kills ds
def zg {R:Type}(aa:aM)(n:Nat)(w:World)(g:Gh)(κ:Ex→St→Option R)(r:R)(Q:Exit→Act→World→Prop):Prop:=
 ∀ex S' w' g' a',κ ex S'=some r→aV aa n w' g' S' a'→eS w g w' g'→Q ex.out a' w'
theorem zg.ahead {R:Type}{κ:Ex→St→Option R}{r:R}{Q:Exit→Act→World→Prop}(h:zg aa n w g κ r Q)(hi:eS w g w' g'):zg aa n w' g' κ r Q:=
 fun ex S' w'' g'' a' h1 h2 h3=>h ex S' w'' g'' a' h1 h2 (hi.trans h3)
def pz (P:Program)(aa:aM)(n:Nat)(E:dE)(lv:Lv E.sig):Prop:=
 ∀{R:Type} (fz:Nat→Bool) (id:Nat) (ops:Array Oper) (S:St) (a:Act) (w:World) (g:Gh) (κ:St→Option R) (r:R) (Q:Exit→Act→World→Prop),
  gd n ops.toList=true→yQ E lv fz ops.toList S κ=some r→aV aa n w g S a→
  (∀S' w' g' a',κ S'=some r→aV aa n w' g' S' a'→eS w g w' g'→Q .normal a' w')→(Code.region id ops true).wp P Q a w
def wy (P:Program)(aa:aM)(E:dE)(lv:Lv E.sig)(K:Nat)(fi:ce)(c:Code):Prop:=
 ∀(R:Type) (S:St) (κ:Ex→St→Option R) (r:R) (Q:Exit→Act→World→Prop) (w:World) (g:Gh) (a:Act),ia E lv K fi c S κ=some r→aV aa fi.ntmps w g S a→zg aa fi.ntmps w g κ r Q→c.wp P Q a w
def lO (P:Program)(c:Code)(Q:Exit→Act→World→Prop)(a:Act)(w:World):Prop:=
 ∀(b:Frame) (k:List Item) (cs:List Frame),∃e a' w',Q e a' w'∧Arrives P (lone (b.at a (.code c :: .inLoop c :: k)) cs w) b k cs e a' w'
theorem lO.round {c:Code}{Q:Exit→Act→World→Prop}(h:c.wp P (Exit.then (lO P c Q) Q) a w):lO P c Q a w:=by
 intro b k cs
 obtain ⟨e,a₁,w₁,hq,harr⟩:=h b (.inLoop c :: k) cs
 cases e with
 |normal=>
  obtain ⟨e₂,a₂,w₂,hq₂,harr₂⟩:=hq b k cs
  exact ⟨e₂,a₂,w₂,hq₂,.of_steps (Steps.trans harr (.one step_inLoop)) harr₂⟩
 |exit id=>exact ⟨_,a₁,w₁,hq,.pass (x:=.inLoop c) rfl (fun _ _=>.inl (by simp)) harr⟩
 |goto l=>exact ⟨_,a₁,w₁,hq,.pass (x:=.inLoop c) rfl (fun _ _=>.inl (by simp)) harr⟩
 |ret=>exact ⟨_,a₁,w₁,hq,.pass (x:=.inLoop c) rfl (fun _ _=>.inl (by simp)) harr⟩
 |panic ch=>exact ⟨_,a₁,w₁,hq,.pass (x:=.inLoop c) rfl (fun _ _=>.inl (by simp)) harr⟩
 |outgrown=>exact ⟨_,a₁,w₁,hq,.pass (x:=.inLoop c) rfl (fun _ _=>.inl (by simp)) harr⟩
theorem lO.loop {c:Code}{Q:Exit→Act→World→Prop}(h:lO P c Q a w):(Code.loop c).wp P Q a w:=by
 intro b k cs
 obtain ⟨e,a',w',hq,harr⟩:=h b k cs
 exact ⟨e,a',w',hq,.of_steps (.one step_loop) harr⟩
theorem nD {R:Type}{E:dE}{lv:Lv E.sig}{K:Nat}{fi:ce}{b:Code}(hb:wy P aa E lv K fi b)(hn:fi.ntmps≤1000){cs:List xZ}{id:Nat}{κ:Ex→St→Option R}{r:R}{Q:Exit→Act→World→Prop}:
  ∀(k:Nat) {S:St}{w:World}{g:Gh}{a:Act},qi fi.ntmps cs id (fun S κ=>ia E lv K fi b S κ) κ k S=some r→aV aa fi.ntmps w g S a→zg aa fi.ntmps w g κ r Q→lO P b (Exit.inBlock id Q) a w
 |0,S,w,g,a,h,_,_=>by simp [qi] at h
 |k+1,S,w,g,a,h,hS,hG=>by
  simp only [qi] at h
  refine lO.round (hb _ S _ r _ w g a h hS ?_)
  intro ex S' w' g' a' hk hS' hi
  cases ex with
  |normal=>
   simp only [wI] at hk
   split at hk
   ·rename_i S2 h2
    obtain ⟨g2,hS2,i2⟩:=dI hn h2 hS'
    exact nD hb hn k hk hS2 (hG.ahead (hi.trans i2))
   ·cases hk
  |exit i=>
   simp only [wI] at hk
   show Exit.inBlock id Q (.exit i) a' w'
   simp only [Exit.inBlock]
   cases e:Nat.beq i id with
   |true=>rw [e] at hk;rw [if_pos (Nat.eq_of_beq_eq_true e)];exact hG .normal S' w' g' a' hk hS' hi
   |false=>
    rw [e] at hk
    have:i≠id:=fun h=>by subst h;simp at e
    rw [if_neg this];exact hG (.exit i) S' w' g' a' hk hS' hi
  |ret=>exact hG .ret S' w' g' a' hk hS' hi
theorem vg {E:dE}{lv:Lv E.sig}(hE:rz P aa E)(hlv:ir P aa E.sig lv)(hbar:∀R x,E.bar R x=x){K:Nat}{fi:ce}(hn:fi.ntmps≤1000)(hD:pz P aa fi.ntmps E lv)(c:Code):
  wy P aa E lv K fi c:=by
 have key:wy P aa E lv K fi c∧∀b,c=.loop b→wy P aa E lv K fi b:=by
  induction c with
  |skip=>exact ⟨fun R S κ r Q w g a h hS hG=>wp_skip (hG .normal S w g a h hS (.refl _ _)),fun b e=>by cases e⟩
  |exit id=>exact ⟨fun R S κ r Q w g a h hS hG=>wp_exit (hG (.exit id) S w g a h hS (.refl _ _)),fun b e=>by cases e⟩
  |ret=>exact ⟨fun R S κ r Q w g a h hS hG=>wp_ret (hG .ret S w g a h hS (.refl _ _)),fun b e=>by cases e⟩
  |region id ops draw=>
   refine ⟨fun R S κ r Q w g a h hS hG=>?_,fun b e=>by cases e⟩
   simp only [ia] at h
   split at h
   ·rename_i S1 h1
    obtain ⟨g1,hS1,i1⟩:=dI hn h1 hS
    unfold region at h
    cases hd:gd fi.ntmps ops.toList with
    |false=>rw [hd] at h;cases h
    |true=>
     rw [hd] at h
     simp only [Bool.not_true,cond] at h
     cases draw with
     |true=>
      simp only at h
      exact hD fi.frz id ops S1 a w g1 (κ .normal) r Q hd h hS1 fun S' w' g' a' q1 q2 q3=>hG .normal S' w' g' a' q1 q2 (i1.trans q3)
     |false=>
      simp only at h
      refine wp_region ?_
      have:=ji hE hlv hn hd (Q:=Q) ops.toList 0 rfl h hS1 fun S' w' g' a' q1 q2 q3=>hG .normal S' w' g' a' q1 q2 (i1.trans q3)
      rw [List.range_eq_range']
      simpa using this
   ·cases h
  |seq x y ihx ihy=>
   refine ⟨fun R S κ r Q w g a h hS hG=>?_,fun b e=>by cases e⟩
   simp only [ia] at h
   refine wp_seq (ihx.1 _ S _ r _ w g a h hS ?_)
   intro ex S' w' g' a' hk hS' hi
   cases ex with
   |normal=>
    simp only [DY] at hk
    split at hk
    ·split at hk
     ·rename_i S2 h2
      obtain ⟨g2,hS2,i2⟩:=dI hn h2 hS'
      rw [hbar] at hk
      exact ihy.1 _ S2 κ r Q w' g2 a' hk hS2 (hG.ahead (hi.trans i2))
     ·cases hk
    ·exact ihy.1 _ S' κ r Q w' g' a' hk hS' (hG.ahead hi)
   |exit i=>exact hG (.exit i) S' w' g' a' hk hS' hi
   |ret=>exact hG .ret S' w' g' a' hk hS' hi
  |cond c x y ihx ihy=>
   refine ⟨fun R S κ r Q w g a h hS hG=>?_,fun b e=>by cases e⟩
   simp only [ia] at h
   split at h
   ·rename_i b hb
    have hv:=hS.ev c
    rw [hb] at hv
    have hc:a.eval c=.bool b:=by
     generalize a.eval c=u at hv
     cases hv;rfl
    refine wp_cond hc ?_
    cases b with
    |true=>exact ihx.1 _ S κ r Q w g a h hS hG
    |false=>exact ihy.1 _ S κ r Q w g a h hS hG
   ·cases h
  |block id c ih=>
   refine ⟨fun R S κ r Q w g a h hS hG=>?_,fun b e=>by cases e⟩
   refine wp_block ?_
   by_cases hl:∃b,c=.loop b
   ·obtain ⟨b,rfl⟩:=hl
    simp only [ia] at h
    split at h
    ·rename_i S1 h1
     obtain ⟨g1,hS1,i1⟩:=dI hn h1 hS
     exact (nD (ih.2 b rfl) hn K h hS1 (hG.ahead i1)).loop
    ·cases h
   ·have e:ia E lv K fi (.block id c) S κ=ia E lv K fi c S (BO id κ):=by
     cases c<;>first|rfl|exact absurd ⟨_,rfl⟩ hl
    rw [e] at h
    refine ih.1 _ S _ r _ w g a h hS ?_
    intro ex S' w' g' a' hk hS' hi
    cases ex with
    |normal=>exact hG .normal S' w' g' a' hk hS' hi
    |exit i=>
     simp only [BO] at hk
     show Exit.inBlock id Q (.exit i) a' w'
     simp only [Exit.inBlock]
     cases e:Nat.beq i id with
     |true=>rw [e] at hk;rw [if_pos (Nat.eq_of_beq_eq_true e)];exact hG .normal S' w' g' a' hk hS' hi
     |false=>
      rw [e] at hk
      have:i≠id:=fun h=>by subst h;simp at e
      rw [if_neg this];exact hG (.exit i) S' w' g' a' hk hS' hi
    |ret=>exact hG .ret S' w' g' a' hk hS' hi
  |loop b ih=>exact ⟨fun R S κ r Q w g a h=>by simp [ia] at h,fun b' e=>by cases e;exact ih.1⟩
  |_=>exact ⟨fun R S κ r Q w g a h=>by simp [ia] at h,fun b e=>by cases e⟩
 exact key.1
end
end Go.Proofs.YtjkokaockhecnaaGreatDoorA
