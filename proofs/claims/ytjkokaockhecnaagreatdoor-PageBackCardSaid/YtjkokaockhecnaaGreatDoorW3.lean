/- A state after one operation. Stores, and the like. What is owned: frozen, moved, some names forgotten; no condition. Stores, appends, copies. Appends. -/
import Derived.Test.YtjkokaockhecnaaGreatDoorInv
import Derived.Calls
import Derived.Maps.AppendAt
namespace Go.Proofs.YtjkokaockhecnaaGreatDoorA
open Go
theorem vP {i j:Nat}(h:i≠j):Nat.beq i j=false:=by
 cases e:Nat.beq i j with
 |true=>exact absurd (Nat.eq_of_beq_eq_true e) h
 |false=>rfl
section
variable {α:Type}
theorem iN (k i:Nat)(l:List (Nat×α)):look i (nA k l)=if i=k then none else look i l:=by
 induction l with
 |nil=>simp [nA,look]
 |cons p l ih=>
  obtain ⟨j,a⟩:=p
  simp only [nA]
  cases h:Nat.beq j k with
  |true=>
   have hjk:=Nat.eq_of_beq_eq_true h
   subst hjk
   simp only [cond,ih,look]
   by_cases hi:i=j
   ·simp [hi]
   ·have:Nat.beq j i=false:=vP (Ne.symm hi)
    simp [hi,this]
  |false=>
   have hjk:j≠k:=fun e=>by subst e;simp at h
   simp only [cond,look,ih]
   cases h2:Nat.beq j i with
   |true=>
    have:=Nat.eq_of_beq_eq_true h2
    subst this
    simp [hjk]
   |false=>simp
theorem cX (k i:Nat)(a:α)(l:List (Nat×α)):look i (lC k a l)=if i=k then some a else look i l:=by
 simp only [lC,look]
 by_cases hi:i=k
 ·subst hi;simp
 ·have:Nat.beq k i=false:=vP (Ne.symm hi)
  simp [this,iN,hi]
theorem va (s i:Nat)(l:List (Nat×AV)):look i (wx s l)=(look i l).map (AV.kill s):=by
 induction l with
 |nil=>rfl
 |cons p l ih=>
  obtain ⟨j,a⟩:=p
  simp only [wx,look]
  cases h:Nat.beq j i with
  |true=>simp
  |false=>simpa using ih
theorem uQ (s i:Nat)(l:List (Nat×ae)):look i (wk s l)=(look i l).map fun r=>⟨r.box,killC s r.cs⟩:=by
 induction l with
 |nil=>rfl
 |cons p l ih=>
  obtain ⟨j,a⟩:=p
  simp only [wk,look]
  cases h:Nat.beq j i with
  |true=>simp
  |false=>simpa using ih
end
theorem gK (S:St)(t:Nat)(b:AV)(i:Nat):(S.put t b).tmp i=if i=t then b else S.tmp i:=by
 unfold St.tmp St.put
 simp only [cX]
 by_cases h:i=t<;>simp [h]
theorem cz (S:St)(o:Option Nat)(b:AV)(i:Nat):(S.putO o b).tmp i=if o=some i then b else S.tmp i:=by
 cases o with
 |none=>simp [St.putO]
 |some t=>simp only [St.putO,gK,Option.some.injEq];by_cases h:i=t<;>simp [h,eq_comm]
theorem fE (S:St)(t:Nat)(b:AV):(S.put t b).root=S.root:=rfl
theorem b7 (S:St)(o:Option Nat)(b:AV):(S.putO o b).root=S.root:=by cases o<;>rfl
theorem bQ (S:St)(s:Nat)(r:ae)(i:Nat):(S.setRoot s r).root i=if i=s then some r else S.root i:=by
 unfold St.root St.setRoot
 simp only [cX]
theorem en (S:St)(s:Nat)(r:ae):(S.setRoot s r).tmp=S.tmp:=rfl
theorem iK (S:St)(s i:Nat):(S.clear s).tmp i=(S.tmp i).kill s:=by
 unfold St.tmp St.clear
 simp only [va]
 cases look i S.tmps<;>simp [AV.kill,AV.names]
theorem dh (S:St)(s i:Nat):(S.clear s).root i=if i=s then none else (S.root i).map fun r=>⟨r.box,killC s r.cs⟩:=by
 unfold St.root St.clear
 simp only [uQ,iN]
 by_cases h:i=s<;>simp [h]
def AV.killBs:List Nat→AV→AV
 |[],a=>a
 |s :: l,a=>AV.killBs l (a.killB s)
def killBs:List Nat→List ah→List ah
 |[],cs=>cs
 |s :: l,cs=>killBs l (bK s cs)
theorem s5 (s i:Nat)(l:List (Nat×AV)):look i (sc s l)=(look i l).map (AV.killB s):=by
 induction l with
 |nil=>rfl
 |cons p l ih=>
  obtain ⟨j,a⟩:=p
  simp only [sc,look]
  cases h:Nat.beq j i with
  |true=>simp
  |false=>simpa using ih
theorem uE (s i:Nat)(l:List (Nat×ae)):look i (sE s l)=(look i l).map fun r=>⟨r.box,bK s r.cs⟩:=by
 induction l with
 |nil=>rfl
 |cons p l ih=>
  obtain ⟨j,a⟩:=p
  simp only [sE,look]
  cases h:Nat.beq j i with
  |true=>simp
  |false=>simpa using ih
theorem xC (s:Nat):AV.killB s .und=.und:=by simp [AV.killB,AV.namesB]
theorem lz:∀(ks:List Nat) (S:St) (i:Nat),(S.clearB ks).tmp i=(S.tmp i).killBs ks
 |[],_,_=>rfl
 |s :: l,S,i=>by
  simp only [St.clearB,AV.killBs]
  rw [lz l]
  congr 1
  unfold St.tmp
  simp only [s5]
  cases look i S.tmps with
  |none=>simp [xC]
  |some a=>rfl
theorem eB:∀(ks:List Nat) (S:St) (i:Nat),(S.clearB ks).root i=(S.root i).map fun r=>⟨r.box,killBs ks r.cs⟩
 |[],S,i=>by
  simp only [St.clearB,killBs]
  cases S.root i<;>rfl
 |s :: l,S,i=>by
  simp only [St.clearB]
  rw [eB l]
  unfold St.root
  simp only [uE]
  cases look i S.roots<;>rfl
theorem iH (a:Act)(o:Option Nat)(v:Value):(a.put o v).tmps.size=a.tmps.size:=by
 cases o<;>simp [Act.put]
theorem fe (a:Act)(o:Option Nat)(v:Value):(a.put o v).defers=a.defers:=by
 cases o<;>simp [Act.put]
theorem iv (a:Act)(o:Option Nat)(v:Value)(ho:∀d,o=some d→d<a.tmps.size)(i:Nat):(a.put o v).tmps.getD i undef=if o=some i then v else a.tmps.getD i undef:=by
 cases o with
 |none=>simp [Act.put]
 |some d=>
  have:=ho d rfl
  simp only [Act.put,Option.some.injEq]
  by_cases h:d=i
  ·subst h;simp [Array.getD,this]
  ·rw [if_neg h]
   simp [Array.getD_eq_getD_getElem?,Array.getElem?_setIfInBounds_ne h]
section
variable {aa:aM}{n:Nat}{w w' w'':World}{g g' g'':Gh}{S:St}{a:Act}{P:Program}
structure dM (aa:aM)(w:World)(g:Gh)(w':World)(g':Gh)(d:Nat)(av:AV)(v:Value)(rt:Option ae)(rs:List (Nat×ae))(ks:List Nat):Prop where
 inv:eS w g w' g'
 keep:∀b u,RepA w g b u→(rt=none∨aj (fun s _=>s=d) b)→aj (fun s x=>s∈ks∧x≠none) b→RepA w' g' b u
 val:RepA w' g' av v
 old:rt=none→∀s r,look s rs=some r→aB aa w' g' s ⟨r.box,killBs ks r.cs⟩
 others:rt≠none→∀s r,look s rs=some r→s≠d→aB aa w' g' s ⟨r.box,killC d (killBs ks r.cs)⟩
 new:∀q,rt=some q→aB aa w' g' d ⟨q.box,killC d q.cs⟩
theorem je (b:Bool)(d:Nat):∀cs:List ah,fV b (killC d cs)=killC d (fV b cs)
 |[]=>rfl
 |.av a :: cs=>by simp [fV,killC,ah.kill,je b d cs]
 |.sl t fz xs :: cs=>by simp [fV,killC,ah.kill,je b d cs]
theorem RepA.killB {w:World}{g:Gh}{b:AV}{v:Value}(h:RepA w g b v)(s:Nat):RepA w g (b.killB s) v:=by
 unfold AV.killB
 cases b.namesB s with
 |true=>exact .und _
 |false=>exact h
theorem RepA.killBs {w:World}{g:Gh}{v:Value}:∀(ks:List Nat) {b:AV},RepA w g b v→RepA w g (b.killBs ks) v
 |[],_,h=>h
 |s :: l,_,h=>RepA.killBs l (h.killB s)
theorem qR {s:Nat}:∀b:AV,b.namesB s=false→aj (fun s' x=>s'=s∧x≠none) b:=by
 intro b
 refine AV.rec (motive_1:=fun b=>b.namesB s=false→aj (fun s' x=>s'=s∧x≠none) b) (motive_2:=fun l=>AV.namesB.namesBL s l=false→∀b,b∈l→aj (fun s' x=>s'=s∧x≠none) b) ?_ ?_ ?_ ?_ ?_ ?_ ?_ ?_ ?_ ?_ ?_ ?_ ?_ ?_ ?_ ?_ ?_ ?_ ?_ ?_ ?_ ?_ ?_ ?_ ?_ ?_ ?_ ?_ ?_ b
 ·intro _;exact .und
 ·intro _ _;constructor
 ·intro _ _ _;constructor
 ·intro _ _;constructor
 ·intro _ _;constructor
 ·intro _;exact .nils
 ·intro _;exact .emp
 ·intro _ _ _;constructor
 ·intro s' j h
  refine .al _ _ ?_
  rintro ⟨rfl,_⟩
  simp [AV.namesB] at h
 ·intro s' j h
  refine .ref _ _ ?_
  rintro ⟨_,h⟩
  exact h rfl
 ·intro s' j sz i o h
  refine .eref _ _ _ _ _ ?_
  rintro ⟨rfl,_⟩
  simp [AV.namesB] at h
 ·intro s' m h
  refine .bs _ _ ?_
  rintro ⟨_,h⟩
  exact h rfl
 ·intro s' m h
  refine .bref _ _ ?_
  rintro ⟨_,h⟩
  exact h rfl
 ·intro s' m t xs h
  refine .bal _ _ _ _ fun _=>?_
  rintro ⟨rfl,_⟩
  simp [AV.namesB] at h
 ·intro t xs ys _;exact .rm t xs ys
 ·intro s' j sz lo m h
  refine .als _ _ _ _ _ ?_
  rintro ⟨rfl,_⟩
  simp [AV.namesB] at h
 ·intro s' h
  refine .bad _ ?_
  rintro ⟨_,h⟩
  exact h rfl
 ·intro s' T h
  refine .refT _ _ ?_
  rintro ⟨_,h⟩
  exact h rfl
 ·intro e l _;exact .fzs e l
 ·intro cs ih h;exact .vp _ (ih (by simpa [AV.namesB] using h))
 ·intro cs ih h;exact .vi _ (ih (by simpa [AV.namesB] using h))
 ·intro _;exact .nilp
 ·intro t x _;exact .optp t x
 ·intro q t xs _;exact .nq q t xs
 ·intro cs ih h;exact .agg _ (ih (by simpa [AV.namesB] using h))
 ·intro cs ih h;exact .tup _ (ih (by simpa [AV.namesB] using h))
 ·intro f cs ih h;exact .fn _ _ (ih (by simpa [AV.namesB] using h))
 ·intro _ b hb;simp at hb
 ·intro a l ih iht h b hb
  simp only [AV.namesB.namesBL,Bool.or_eq_false_iff] at h
  rcases List.mem_cons.mp hb with rfl|hb
  ·exact ih h.1
  ·exact iht h.2 b hb
theorem aj.mono {N N':Nat→Option Nat→Prop}(hN:∀s x,N' s x→N s x){b:AV}(h:aj N b):aj N' b:=by
 induction h with
 |und=>exact .und
 |bool=>constructor
 |int=>constructor
 |str=>constructor
 |err=>constructor
 |nils=>constructor
 |emp=>constructor
 |L=>constructor
 |al s j h=>exact .al _ _ fun hn=>h (hN _ _ hn)
 |ref s o h=>exact .ref _ _ fun hn=>h (hN _ _ hn)
 |eref s j sz i o h=>exact .eref _ _ _ _ _ fun hn=>h (hN _ _ hn)
 |bs s m h=>exact .bs _ _ fun hn=>h (hN _ _ hn)
 |bref s m h=>exact .bref _ _ fun hn=>h (hN _ _ hn)
 |bal s m t xs h=>exact .bal _ _ _ _ fun j hn=>h j (hN _ _ hn)
 |rm=>constructor
 |als s j sz lo m h=>exact .als _ _ _ _ _ fun hn=>h (hN _ _ hn)
 |bad s h=>exact .bad _ fun hn=>h (hN _ _ hn)
 |refT s T h=>exact .refT _ _ fun hn=>h (hN _ _ hn)
 |fzs=>constructor
 |vp cs _ ih=>exact .vp _ ih
 |vi cs _ ih=>exact .vi _ ih
 |nilp=>constructor
 |optp=>constructor
 |nq=>constructor
 |agg cs _ ih=>exact .agg _ ih
 |tup cs _ ih=>exact .tup _ ih
 |fn f cs _ ih=>exact .fn _ _ ih
theorem aj.or {N N' N'':Nat→Option Nat→Prop}{b:AV}(h:aj N b):aj N' b→(∀s x,N'' s x→N s x∨N' s x)→aj N'' b:=by
 induction h with
 |und=>intro _ _;exact .und
 |bool=>intro _ _;constructor
 |int=>intro _ _;constructor
 |str=>intro _ _;constructor
 |err=>intro _ _;constructor
 |nils=>intro _ _;constructor
 |emp=>intro _ _;constructor
 |L=>intro _ _;constructor
 |al s j h=>intro h' hN;cases h' with|al _ _ h'=>exact .al _ _ fun hn=>(hN _ _ hn).elim h h'
 |ref s o h=>intro h' hN;cases h' with|ref _ _ h'=>exact .ref _ _ fun hn=>(hN _ _ hn).elim h h'
 |eref s j sz i o h=>intro h' hN;cases h' with|eref _ _ _ _ _ h'=>exact .eref _ _ _ _ _ fun hn=>(hN _ _ hn).elim h h'
 |bs s m h=>intro h' hN;cases h' with|bs _ _ h'=>exact .bs _ _ fun hn=>(hN _ _ hn).elim h h'
 |bref s m h=>intro h' hN;cases h' with|bref _ _ h'=>exact .bref _ _ fun hn=>(hN _ _ hn).elim h h'
 |bal s m t xs h=>intro h' hN;cases h' with|bal _ _ _ _ h'=>exact .bal _ _ _ _ fun j hn=>(hN _ _ hn).elim (h j) (h' j)
 |rm=>intro _ _;constructor
 |als s j sz lo m h=>intro h' hN;cases h' with|als _ _ _ _ _ h'=>exact .als _ _ _ _ _ fun hn=>(hN _ _ hn).elim h h'
 |bad s h=>intro h' hN;cases h' with|bad _ h'=>exact .bad _ fun hn=>(hN _ _ hn).elim h h'
 |refT s T h=>intro h' hN;cases h' with|refT _ _ h'=>exact .refT _ _ fun hn=>(hN _ _ hn).elim h h'
 |fzs=>intro _ _;constructor
 |vp cs _ ih=>intro h' hN;cases h' with|vp _ h'=>exact .vp _ fun a ha=>ih a ha (h' a ha) hN
 |vi cs _ ih=>intro h' hN;cases h' with|vi _ h'=>exact .vi _ fun a ha=>ih a ha (h' a ha) hN
 |nilp=>intro _ _;constructor
 |optp=>intro _ _;constructor
 |nq=>intro _ _;constructor
 |agg cs _ ih=>intro h' hN;cases h' with|agg _ h'=>exact .agg _ fun a ha=>ih a ha (h' a ha) hN
 |tup cs _ ih=>intro h' hN;cases h' with|tup _ h'=>exact .tup _ fun a ha=>ih a ha (h' a ha) hN
 |fn f cs _ ih=>intro h' hN;cases h' with|fn _ _ h'=>exact .fn _ _ fun a ha=>ih a ha (h' a ha) hN
theorem jh (s:Nat)(b:AV):aj (fun s' x=>s'=s∧x≠none) (b.killB s):=by
 unfold AV.killB
 cases h:b.namesB s with
 |true=>exact .und
 |false=>exact qR b h
theorem aj.killB {N:Nat→Option Nat→Prop}{b:AV}(h:aj N b)(s:Nat):aj N (b.killB s):=by
 unfold AV.killB
 cases b.namesB s with
 |true=>exact .und
 |false=>exact h
theorem aj.killBs {N:Nat→Option Nat→Prop}:∀(ks:List Nat) {b:AV},aj N b→aj N (b.killBs ks)
 |[],_,h=>h
 |s :: l,_,h=>aj.killBs l (h.killB s)
theorem dp:∀(ks:List Nat) (b:AV),aj (fun s x=>s∈ks∧x≠none) (b.killBs ks)
 |[],b=>(aG b).mono fun s x h=>by simp at h
 |s :: l,b=>by
  simp only [AV.killBs]
  refine (((jh s b).killBs l).or (dp l (b.killB s))) ?_
  rintro s' x ⟨h,hx⟩
  rcases List.mem_cons.mp h with rfl|h
  ·exact .inl ⟨rfl,hx⟩
  ·exact .inr ⟨h,hx⟩
theorem aj.kill {N:Nat→Option Nat→Prop}{b:AV}(h:aj N b)(s:Nat):aj N (b.kill s):=by
 unfold AV.kill
 cases b.names s with
 |true=>exact .und
 |false=>exact h
theorem aV.gain (hS:aV aa n w g S a){o:Oper}{av:AV}{v:Value}{rt:Option ae}{rs:List (Nat×ae)}{ks:List Nat}{fz:Nat→Bool}
  (h:dM aa w g w' g' (match o.dst with|some d=>d|none=>0) av v rt rs ks) (hd:∀d,o.dst=some d→d<n):
  ∃g'',aV aa n w' g'' (St.gain fz (St.clearB ⟨S.tmps,rs⟩ ks) o av rt) (a.put o.dst v)∧eS w g w' g'':=by
 have hsz:∀d,o.dst=some d→d<a.tmps.size:=fun d e=>by rw [hS.size];exact hd d e
 have htm:∀t,(St.clearB ⟨S.tmps,rs⟩ ks).tmp t=(S.tmp t).killBs ks:=fun t=>lz ks ⟨S.tmps,rs⟩ t
 have hrt:∀s,(St.clearB ⟨S.tmps,rs⟩ ks).root s=(look s rs).map fun r=>⟨r.box,killBs ks r.cs⟩:=fun s=>eB ks ⟨S.tmps,rs⟩ s
 cases rt with
 |none=>
  refine ⟨g',⟨by rw [iH];exact hS.size,by rw [fe];exact hS.df,hS.tb.inv h.inv,fun t=>?_,fun s r hr=>?_⟩,h.inv⟩
  ·simp only [St.gain]
   rw [cz,iv _ _ _ hsz]
   by_cases e:o.dst=some t
   ·rw [if_pos e,if_pos e];exact h.val
   ·rw [if_neg e,if_neg e,htm];exact h.keep _ _ ((hS.tm t).killBs ks) (.inl rfl) (dp ks _)
  ·simp only [St.gain] at hr
   rw [b7,hrt] at hr
   cases hl:look s rs with
   |none=>rw [hl] at hr;cases hr
   |some r0=>
    rw [hl] at hr
    simp only [Option.map_some,Option.some.injEq] at hr
    subst hr
    exact h.old rfl s r0 hl
 |some q=>
  cases ho:o.dst with
  |none=>
   rw [ho] at h
   refine ⟨g',⟨by rw [iH];exact hS.size,by rw [fe];exact hS.df,hS.tb.inv h.inv,fun t=>?_,fun s r hr=>?_⟩,h.inv⟩
   ·simp only [St.gain,ho]
    rw [iK,iv _ _ _ (fun d e=>by cases e),if_neg (fun h=>by cases h),htm]
    exact h.keep _ _ (((hS.tm t).killBs ks).kill (d:=0)) (.inr (ei 0 _)) ((dp ks _).kill 0)
   ·simp only [St.gain,ho] at hr
    rw [dh] at hr
    by_cases e:s=0
    ·rw [if_pos e] at hr;cases hr
    ·rw [if_neg e,hrt] at hr
     cases hl:look s rs with
     |none=>rw [hl] at hr;cases hr
     |some r0=>
      rw [hl] at hr
      simp only [Option.map_some,Option.some.injEq] at hr
      subst hr
      exact h.others (by simp) s r0 hl e
  |some d=>
   rw [ho] at h
   simp only at h
   obtain ⟨g'',hf,hr⟩:=(h.new q rfl).freeze (fz d)
   refine ⟨g'',⟨by rw [iH];exact hS.size,by rw [fe];exact hS.df,hS.tb.inv (h.inv.trans (hf.inv w')),fun t=>?_,fun s r hr'=>?_⟩,h.inv.trans (hf.inv w')⟩
   ·simp only [St.gain,ho]
    rw [gK,iv _ _ _ (by rw [←ho];exact hsz),en,iK]
    by_cases e:t=d
    ·subst e;simp only [if_true];exact h.val.frz hf
    ·rw [if_neg e,if_neg (fun h=>e (by cases h;rfl)),htm]
     exact (h.keep _ _ (((hS.tm t).killBs ks).kill (d:=d)) (.inr (ei d _)) ((dp ks _).kill d)).frz hf
   ·simp only [St.gain,ho] at hr'
    rw [fE,bQ] at hr'
    by_cases e:s=d
    ·subst e
     rw [if_pos rfl] at hr'
     cases hr'
     simp only [sr,←je]
     exact hr
    ·rw [if_neg e,dh,if_neg e,hrt] at hr'
     cases hl:look s rs with
     |none=>rw [hl] at hr';cases hr'
     |some r0=>
      rw [hl] at hr'
      simp only [Option.map_some,Option.some.injEq] at hr'
      subst hr'
      exact (h.others (by simp) s r0 hl e).frz hf e
end
end Go.Proofs.YtjkokaockhecnaaGreatDoorA

namespace Go.Proofs.YtjkokaockhecnaaGreatDoorA
open Go
section
variable {aa:aM}{n:Nat}{w w' w'':World}{g g' g'':Gh}{S:St}{a:Act}{P:Program}
theorem BH {b:AV}{v:Value}(h:RepA w g b v)(hb:b.isCell=true):v.oneCell'=true:=by
 cases h<;>first|rfl|(simp [AV.isCell] at hb;done)|(rename_i h;cases h;rfl)
theorem rR {l:List AV}(h:dR l=true):∀b∈l,b.isCell=true:=by
 induction l with
 |nil=>intro b hb;simp at hb
 |cons c l ih=>
  simp only [dR,Bool.and_eq_true] at h
  intro b hb
  rcases List.mem_cons.mp hb with rfl|hb
  ·exact h.1
  ·exact ih h.2 b hb
theorem RepL.one {l:List AV}{vs:List Value}(hl:RepL w g l vs)(h:∀b∈l,b.isCell=true):∀v∈vs,v.oneCell'=true:=by
 intro v hv
 obtain ⟨j,hj,rfl⟩:=List.mem_iff_getElem.mp hv
 have hj':j<l.length:=by rw [←hl.1];exact hj
 exact BH (hl.2 j hj' hj) (h _ (List.getElem_mem hj'))
theorem sd (t:El)(x:t.den):∀b∈t.cells x,b.isCell=true:=by
 intro b hb
 cases t<;>simp [El.cells] at hb<;>(first|(subst hb;rfl)|(rcases hb with h|h|h|h|h|h|h<;>subst h<;>rfl)|(rcases hb with h|h|h|h<;>subst h<;>rfl)|(rcases hb with h|h|h<;>subst h<;>rfl))
theorem uh (t:El)(xs:List t.den):∀b∈ap t xs,b.isCell=true:=by
 intro b hb
 simp only [ap,List.mem_flatMap] at hb
 obtain ⟨x,_,hx⟩:=hb
 exact sd t x b hx
theorem dC (b:Nat):∀(vs:List Value) (o:Nat) (w:World) (k:Nat),k≠b→(w.setCells b o vs).heap[k]?=w.heap[k]?
 |[],_,_,_,_=>rfl
 |v :: vs,o,w,k,h=>by
  rw [World.setCells,dC b vs _ _ k h]
  exact heap_setCell_other w ⟨b,o,none⟩ k v h
theorem jU (b:Nat):∀(vs:List Value) (o:Nat) (w:World),(w.setCells b o vs).os=w.os∧(w.setCells b o vs).tape=w.tape∧(w.setCells b o vs).output=w.output∧(w.setCells b o vs).heap.size=w.heap.size
 |[],_,_=>⟨rfl,rfl,rfl,rfl⟩
 |v :: vs,o,w=>by
  obtain ⟨h1,h2,h3,h4⟩:=jU b vs (o+1) (w.setCell ⟨b,o,none⟩ v)
  rw [World.setCells]
  exact ⟨h1.trans rfl,h2.trans rfl,h3.trans rfl,h4.trans (by simp)⟩
theorem qO (w:World)(p:Addr)(v:Value)(k:Nat):(w.setCell p v).shape? k=w.shape? k:=by
 unfold World.shape? World.setCell
 simp only [Array.getElem?_modify]
 by_cases h:p.block=k
 ·rw [if_pos h]
  cases w.heap[k]? with
  |none=>rfl
  |some ob=>
   cases ob<;>simp
   split<;>simp
 ·rw [if_neg h]
theorem ki (b:Nat):∀(vs:List Value) (o:Nat) (w:World) (k:Nat),(w.setCells b o vs).shape? k=w.shape? k
 |[],_,_,_=>rfl
 |v :: vs,o,w,k=>by rw [World.setCells,ki b vs,qO]
theorem dH (w:World)(b o:Nat)(vs:List Value):gy w (w.setCells b o vs) fun b' o'=>b'=b∧o≤o'∧o'<o+vs.length:=by
 obtain ⟨h1,h2,h3,h4⟩:=jU b vs o w
 refine ⟨h1,h2,h3,by rw [h4];exact Nat.le_refl _,fun k hk hn=>?_,fun k q hk hn=>?_,fun k q hk hn=>World.frozen?_setCells b vs o w _,fun k _=>ki b vs o w k⟩
 ·by_cases hkb:k=b
  ·cases vs with
   |nil=>rfl
   |cons v vs=>exact absurd ⟨hkb,Nat.le_refl o,by simp⟩ (hn o)
  ·exact dC b vs o w k hkb
 ·refine World.cell?_setCells_out b vs o w _ fun h _=>?_
  have h':k=b:=h
  have:¬(o≤q∧q<o+vs.length):=fun h=>hn ⟨h',h⟩
  show q<o∨o+vs.length≤q
  omega
theorem qU {α:Type}(l:List α)(o:Nat)(v:α)(vs:List α)(h:o+(vs.length+1)≤l.length):setRange (l.set o v) (o+1) vs=setRange l o (v :: vs):=by
 apply List.ext_getElem?
 intro j
 unfold setRange
 simp only [List.append_assoc,List.getElem?_append,List.length_take,List.length_set,List.getElem?_take,List.getElem?_drop,List.getElem?_set,List.length_cons]
 have h1:min (o+1) l.length=o+1:=by omega
 have h2:min o l.length=o:=by omega
 rw [h1,h2]
 rcases Nat.lt_trichotomy j o with hj|hj|hj
 ·have:j<o+1:=by omega
  simp [this,hj];omega
 ·subst hj
  have:j<l.length:=by omega
  simp [this]
 ·have a1:¬j<o+1:=by omega
  have a2:¬j<o:=by omega
  rw [if_neg a1,if_neg a2]
  have a3:j - o=(j - (o+1))+1:=by omega
  rw [a3,List.getElem?_cons_succ]
  by_cases hin:j - (o+1)<vs.length
  ·have:j - (o+1)+1<vs.length+1:=by omega
   simp [hin]
  ·have:¬(j - (o+1)+1<vs.length+1):=by omega
   simp only [hin,this,if_false]
   have:¬o=o+1+vs.length+(j - (o+1) - vs.length):=by omega
   simp only [this,if_false]
   congr 1;omega
theorem dn {α:Type}(l:List α)(o:Nat)(vs:List α)(h:o+vs.length≤l.length):(setRange l o vs).length=l.length:=by
 simp only [setRange,List.length_append,List.length_take,List.length_drop];omega
theorem de {α:Type}(l:List α)(o:Nat)(vs:List α)(h:o+vs.length≤l.length)(j:Nat):(setRange l o vs)[j]?=if o≤j∧j<o+vs.length then vs[j - o]? else l[j]?:=by
 unfold setRange
 have h1:(l.take o).length=o:=by simp;omega
 rw [List.append_assoc]
 rcases Nat.lt_or_ge j o with hj|hj
 ·rw [List.getElem?_append_left (by omega),if_neg (by omega),List.getElem?_take,if_pos hj]
 ·rw [List.getElem?_append_right (by omega),h1]
  rcases Nat.lt_or_ge (j - o) vs.length with h2|h2
  ·rw [List.getElem?_append_left h2,if_pos (by omega)]
  ·rw [List.getElem?_append_right h2,if_neg (by omega),List.getElem?_drop]
   congr 1;omega
theorem xt (w:World)(g i:Nat)(cs:Array Value)(t:TypeId)(v:Value)(mk:Nat×Nat)(hg:w.heap[g]?=some (.cells cs t mk)):
  (w.setCell ⟨g,i,none⟩ v).heap[g]?=some (.cells (cs.setIfInBounds i v) t mk):=by
 obtain ⟨hlt,hv⟩:=Array.getElem?_eq_some_iff.mp hg
 simp [World.setCell,Array.getElem?_modify,hg]
theorem gz.inv {w:World}{aa:aM}{t:El}{b m cap:Nat}{xs:List Value}(h:gz w aa t (.slice (some ⟨b,0,none⟩) m cap) m xs):∃cur mk,w.heap[b]?=some (.cells cur (aa t.base) mk)∧(mk=(0,0)∨(t=.byt∧cur.size≤mk.1))∧m≤cap∧cap≤maxLen∧cur.size=cap*t.size∧cur.toList.take (m*t.size)=xs∧xs.length=m*t.size:=by
 obtain ⟨h1,⟨h2,_⟩|⟨g,cap',cur,h2,_,⟨mk,h4,h5⟩,h6,h7,h8,h9⟩⟩:=h
 ·cases h2
 ·cases h2
  exact ⟨cur,mk,h4,h5,h6,h7,h8,h9,h1⟩
theorem gz.cellAt {w:World}{aa:aM}{t:El}{b m cap:Nat}{xs:List Value}(h:gz w aa t (.slice (some ⟨b,0,none⟩) m cap) m xs)(o:Nat)(ho:o<m*t.size):w.cell? ⟨b,o,none⟩=xs[o]?:=by
 obtain ⟨cur,mk,h1,_,_,_,_,h5,_⟩:=h.inv
 rw [←h5,List.getElem?_take,if_pos ho]
 simp [World.cell?,h1]
theorem gz.frozenAt {w:World}{aa:aM}{t:El}{b m cap:Nat}{xs:List Value}(h:gz w aa t (.slice (some ⟨b,0,none⟩) m cap) m xs)(o:Nat)(ho:o<m*t.size):w.frozen? ⟨b,o,none⟩=false:=by
 obtain ⟨cur,mk,h1,h2,h3,_,h4,_,_⟩:=h.inv
 have hle:m*t.size≤cap*t.size:=Nat.mul_le_mul_right _ h3
 simp only [World.frozen?,h1]
 rcases h2 with rfl|⟨_,h2⟩
 ·simp
 ·simp;omega
theorem gz.stored {w:World}{aa:aM}{t:El}{b m cap:Nat}{xs:List Value}(h:gz w aa t (.slice (some ⟨b,0,none⟩) m cap) m xs)(o:Nat)(v:Value):gz (w.setCell ⟨b,o,none⟩ v) aa t (.slice (some ⟨b,0,none⟩) m cap) m (xs.set o v):=by
 obtain ⟨cur,mk,h1,h2,h3,h4,h5,h6,h7⟩:=h.inv
 refine ⟨by simpa using h7,.inr ⟨b,cap,cur.setIfInBounds o v,rfl,Nat.zero_le _,⟨mk,xt w b o cur _ v mk h1,by simpa using h2⟩,h3,h4,by simpa using h5,?_⟩⟩
 rw [Array.toList_setIfInBounds,←h6,List.take_set]
theorem hY {aa:aM}{t:El}{b m cap:Nat}:∀(vs:List Value) (o:Nat) (w:World) (xs:List Value),gz w aa t (.slice (some ⟨b,0,none⟩) m cap) m xs→o+vs.length≤xs.length→
  gz (w.setCells b o vs) aa t (.slice (some ⟨b,0,none⟩) m cap) m (setRange xs o vs)
 |[],o,w,xs,h,_=>by simpa [setRange,World.setCells] using h
 |v :: vs,o,w,xs,h,hl=>by
  have h1:=h.stored o v
  have h2:=hY vs (o+1) _ _ h1 (by simp at hl ⊢;omega)
  rw [qU xs o v vs (by simpa using hl)] at h2
  exact h2
theorem yF (t:El)(xs:List t.den)(i:Nat)(y:t.den)(hi:i<xs.length):ap t (xs.set i y)=setRange (ap t xs) (i*t.size) (t.cells y):=by
 have hlen:i*t.size+(t.cells y).length≤(ap t xs).length:=by
  rw [aP,aw]
  have:(i+1)*t.size≤xs.length*t.size:=Nat.mul_le_mul_right _ hi
  rw [Nat.add_mul] at this;omega
 apply List.ext_getElem?
 intro j
 rw [de _ _ _ hlen,aP]
 have hs:=eK t
 have hm:j % t.size<t.size:=Nat.mod_lt _ hs
 have hjd:j=j / t.size*t.size+j % t.size:=by rw [Nat.mul_comm];exact (Nat.div_add_mod j t.size).symm
 by_cases hq:j / t.size<xs.length
 ·have e1:∀ys:List t.den,(hy:j / t.size<ys.length)→(ap t ys)[j]?=(t.cells ys[j / t.size])[j % t.size]?:=by
   intro ys hy
   have:=fD t ys (j / t.size) ys[j / t.size] (j % t.size) (List.getElem?_eq_getElem hy) hm
   rw [←hjd] at this;exact this
  rw [e1 (xs.set i y) (by simpa using hq),e1 xs hq]
  by_cases hji:j / t.size=i
  ·subst hji
   rw [if_pos (by omega)]
   simp only [List.getElem_set_self]
   congr 1;omega
  ·have:¬(i*t.size≤j∧j<i*t.size+t.size):=by
    rintro ⟨h1,h2⟩
    apply hji
    have h3:i≤j / t.size:=(Nat.le_div_iff_mul_le hs).2 h1
    have h4:j / t.size<i+1:=(Nat.div_lt_iff_lt_mul hs).2 (by rw [Nat.add_mul,Nat.one_mul];exact h2)
    omega
   rw [if_neg this,List.getElem_set_ne (fun e=>hji e.symm)]
 ·have hb:xs.length*t.size≤j:=by
   have:=(Nat.le_div_iff_mul_le hs).1 (Nat.le_of_not_lt hq)
   exact this
  have hn:¬(i*t.size≤j∧j<i*t.size+t.size):=by
   rintro ⟨_,h2⟩
   have:(i+1)*t.size≤xs.length*t.size:=Nat.mul_le_mul_right _ hi
   rw [Nat.add_mul] at this;omega
  rw [if_neg hn,List.getElem?_eq_none (by rw [aw];simpa using hb),List.getElem?_eq_none (by rw [aw];exact hb)]
theorem dM.plain {M:Nat→Nat→Prop}{d:Nat}{av:AV}{v:Value}{rs:List (Nat×ae)}(hc:gy w w' M)(hM:∀b o,b<w.heap.size→M b o→∃s x,g.who b o=.obj s x)
  (hv:RepA w' g av v) (hr:∀s r,look s rs=some r→aB aa w' g s r):dM aa w g w' g d av v none rs []:=
 ⟨⟨hc.mono hM,fun _ _ _ h=>h,fun _ _ _ h=>h,fun _ _ _ h=>h,fun _ _=>rfl⟩,fun b u h _ _=>h.pres hc hM (l6.refl w g fun _ _=>False).ga (aG b),hv,fun _=>hr,fun h=>absurd rfl h,fun q h=>by cases h⟩
theorem RepA.same {M:Nat→Nat→Prop}(hc:gy w w' M)(hM:∀b o,b<w.heap.size→M b o→∃s x,g.who b o=.obj s x){b:AV}{v:Value}(h:RepA w g b v):RepA w' g b v:=
 h.pres hc hM (l6.refl w g fun _ _=>False).ga (aG b)
theorem aB.same {M:Nat→Nat→Prop}(hc:gy w w' M){s:Nat}{r:ae}(hM:∀b o,b<w.heap.size→M b o→∃s' x,g.who b o=.obj s' x∧s'≠s)(h:aB aa w g s r):aB aa w' g s r:=
 h.pres hc (l6.refl w g fun _ _=>False).ga hM (fun _ _ _ _ h=>h) (fun _ h=>h) (fun b _=>aG b)
theorem aB.rewrite {M:Nat→Nat→Prop}(hc:gy w w' M){s j:Nat}{r:ae}(hM:∀b o,b<w.heap.size→M b o→g.who b o=.obj s (some j))(h:aB aa w g s r){t:El}{fz fz':Bool}{xs:List t.den}{xs':List t.den}
  (hj:r.cs[j]?=some (.sl t fz xs)) (hs:bZ aa w' g s j t fz' xs'):aB aa w' g s ⟨r.box,r.cs.set j (.sl t fz' xs')⟩:=by
 have hM1:∀b o,b<w.heap.size→M b o→∃s' x,g.who b o=.obj s' x:=fun b o hb hm=>⟨_,_,hM b o hb hm⟩
 have hga:=(l6.refl w g fun _ _=>False).ga
 have hother:∀i,i≠j→∀b o,b<w.heap.size→M b o→∃s' x,g.who b o=.obj s' x∧(s'≠s∨x≠some i):=fun i hi b o hb hm=>⟨_,_,hM b o hb hm,.inr (by simpa using fun e=>hi e.symm)⟩
 have hjl:j<r.cs.length:=(List.getElem?_eq_some_iff.mp hj).1
 refine ⟨fun hb i u f ys hi=>?_,fun hb=>?_⟩
 ·simp only [List.getElem?_set] at hi
  by_cases hij:j=i
  ·subst hij
   simp only [if_true,hjl,Option.some.injEq] at hi
   cases hi;exact hs
  ·rw [if_neg hij] at hi
   exact (h.apart hb i u f ys hi).pres hc hga (fun _ _ _ h=>h) (hother i fun e=>hij e.symm) (fun h=>h)
 ·obtain ⟨vals,hv⟩:=h.box hb
  refine ⟨vals,fun i hi=>?_⟩
  have hi':i<r.cs.length:=by simpa using hi
  obtain ⟨h1,h2,h3,h4,h5⟩:=hv i hi'
  have hnm:¬M (g.hb s).1 ((g.hb s).2+i):=fun hm=>by have:=hM _ _ h1 hm;rw [h2] at this;cases this
  refine ⟨Nat.lt_of_lt_of_le h1 hc.size,h2,(hc.cel _ _ h1 hnm).trans h3,(hc.frz _ _ h1 hnm).trans h4,?_⟩
  simp only [List.getElem_set]
  by_cases hij:j=i
  ·subst hij
   simp only [if_true]
   have e:r.cs[j]=.sl t fz xs:=(List.getElem?_eq_some_iff.mp hj).2
   rw [e] at h5
   rw [h5.sl_inv.2]
   exact .sl t fz' xs' hs
  ·rw [if_neg hij]
   exact h5.pres hc hga (hother i fun e=>hij e.symm) (fun _ _ _ h=>h) (fun h=>h) (fun b _=>aG b)
theorem aB.forget {s:Nat}{r:ae}(h:aB aa w g s r)(j:Nat):aB aa w g s ⟨r.box,r.cs.set j (.av .und)⟩:=by
 refine ⟨fun hb i u f ys hi=>?_,fun hb=>?_⟩
 ·simp only [List.getElem?_set] at hi
  by_cases hij:j=i
  ·subst hij
   simp only [if_true] at hi
   split at hi<;>cases hi
  ·rw [if_neg hij] at hi
   exact h.apart hb i u f ys hi
 ·obtain ⟨vals,hv⟩:=h.box hb
  refine ⟨vals,fun i hi=>?_⟩
  have hi':i<r.cs.length:=by simpa using hi
  obtain ⟨h1,h2,h3,h4,h5⟩:=hv i hi'
  refine ⟨h1,h2,h3,h4,?_⟩
  simp only [List.getElem_set]
  by_cases hij:j=i
  ·subst hij;simp only [if_true];exact .av _ _ (.und _)
  ·rw [if_neg hij];exact h5
theorem bW {s j:Nat}{c:ah}(h:S.cell s j=some c):∃r,S.root s=some r∧r.cs[j]?=some c:=by
 unfold St.cell at h
 cases hr:S.root s with
 |none=>rw [hr] at h;cases h
 |some r=>rw [hr] at h;exact ⟨r,rfl,h⟩
theorem bN {s j:Nat}{c:ah}{r:ae}(hr:S.root s=some r)(i:Nat):look i (S.setCell s j c).roots=if i=s then some ⟨r.box,r.cs.set j c⟩ else S.root i:=by
 unfold St.setCell
 rw [hr]
 simp only [St.setRoot,cX]
 rfl
end
end Go.Proofs.YtjkokaockhecnaaGreatDoorA

namespace Go.Proofs.YtjkokaockhecnaaGreatDoorA
open Go
section
variable {aa:aM}{n:Nat}{w w' w'':World}{g g' g'':Gh}{S:St}{a:Act}{P:Program}
theorem aB.raise {s j:Nat}{r:ae}(hr:aB aa w g s r){t:El}{xs:List t.den}(hj:r.cs[j]?=some (.sl t false xs)):
  ∃g',xx g g' s∧aB aa w g' s ⟨r.box,r.cs.set j (.sl t true xs)⟩:=by
 have hsj:=hr.sl hj
 let F:Nat→Nat→Prop:=fun b o=>∃m cap,g.hs s j=.slice (some ⟨b,0,none⟩) m cap∧o<xs.length*t.size
 have hF:∀b o,F b o→jJ g s r.cs b o:=fun b o ⟨m,cap,h1,h2⟩=>⟨j,t,false,xs,m,cap,hj,h1,h2⟩
 have hfz:=hr.frz_cells F hF
 have hjl:j<r.cs.length:=(List.getElem?_eq_some_iff.mp hj).1
 have hself:bZ aa w (kG g s F) s j t true xs:=
  bZ.frz hr hF hj (fun b m cap o e ho=>⟨fun _=>.inl ⟨m,cap,e,ho⟩,fun h=>by cases h⟩)
 have hothers:∀{i:Nat}{u:El}{f:Bool}{ys:List u.den},i≠j→r.cs[i]?=some (ah.sl u f ys)→bZ aa w (kG g s F) s i u f ys:=by
  intro i u f ys hij hi
  refine bZ.frz hr hF hi (fun b m cap o e ho=>⟨fun h=>.inr h,fun h=>⟨?_,h⟩⟩)
  rintro ⟨m',cap',e',ho'⟩
  have h1:=(((hr.sl hi).old (sQ ho)).own b m cap e).2 o
  have h2:=((hsj.old (sQ ho')).own b m' cap' e').2 o
  rw [if_pos ho] at h1
  rw [if_pos ho'] at h2
  subst h
  simp only [Bool.false_eq_true,if_false] at h1 h2
  rw [h1] at h2
  simp at h2
  exact hij h2
 refine ⟨kG g s F,hfz,fun hb i u f ys hi=>?_,fun hb=>?_⟩
 ·simp only [List.getElem?_set] at hi
  by_cases hij:j=i
  ·subst hij
   simp only [if_true,hjl,Option.some.injEq] at hi
   cases hi;exact hself
  ·rw [if_neg hij] at hi
   exact hothers (fun e=>hij e.symm) hi
 ·obtain ⟨vals,hv⟩:=hr.box hb
  refine ⟨vals,fun i hi=>?_⟩
  have hi':i<r.cs.length:=by simpa using hi
  obtain ⟨h1,h2,h3,h4,h5⟩:=hv i hi'
  have hbn:(kG g s F).hb=g.hb:=rfl
  rw [hbn]
  refine ⟨h1,?_,h3,h4,?_⟩
  ·rcases hfz.who (g.hb s).1 ((g.hb s).2+i) with h|⟨⟨j,h⟩,_⟩
   ·rw [h,h2]
   ·rw [h2] at h;cases h
  ·simp only [List.getElem_set]
   by_cases hij:j=i
   ·subst hij
    simp only [if_true]
    have e:r.cs[j]=.sl t false xs:=(List.getElem?_eq_some_iff.mp hj).2
    rw [e] at h5
    rw [h5.sl_inv.2]
    exact .sl t true xs hself
   ·rw [if_neg hij]
    cases hc:r.cs[i] with
    |av q=>rw [hc] at h5;exact .av _ _ (h5.av_inv.frz hfz)
    |sl u f ys=>
     rw [hc] at h5
     rw [h5.sl_inv.2]
     exact .sl u f ys (hothers (fun e=>hij e.symm) (by rw [List.getElem?_eq_getElem hi',hc]))
theorem aB.weaken {s:Nat}{r r':ae}(h:aB aa w g s r)(hb:r'.box=r.box)(hl:r'.cs.length=r.cs.length)
  (hc:∀(j:Nat) (c c':ah),r.cs[j]?=some c→r'.cs[j]?=some c'→c'=c∨∃b b',c=ah.av b∧c'=ah.av b'∧∀v,RepA w g b v→RepA w g b' v):aB aa w g s r':=by
 have old:∀(j:Nat) (c':ah),r'.cs[j]?=some c'→∃c,r.cs[j]?=some c∧(c'=c∨∃b b',c=ah.av b∧c'=ah.av b'∧∀v,RepA w g b v→RepA w g b' v):=by
  intro j c' hj
  have hlt:=(List.getElem?_eq_some_iff.mp hj).1
  have hlt':j<r.cs.length:=by omega
  exact ⟨_,List.getElem?_eq_getElem hlt',hc j _ _ (List.getElem?_eq_getElem hlt') hj⟩
 refine ⟨fun hb' j t fz xs hj=>?_,fun hb'=>?_⟩
 ·obtain ⟨c,h1,h2⟩:=old j _ hj
  rcases h2 with rfl|⟨b,b',_,h2,_⟩
  ·exact h.apart (hb ▸ hb') j t fz xs h1
  ·cases h2
 ·obtain ⟨vals,hv⟩:=h.box (hb ▸ hb')
  refine ⟨vals,fun j hj=>?_⟩
  have hj':j<r.cs.length:=by omega
  obtain ⟨h1,h2,h3,h4,h5⟩:=hv j hj'
  refine ⟨h1,h2,h3,h4,?_⟩
  rcases hc j _ _ (List.getElem?_eq_getElem hj') (List.getElem?_eq_getElem hj) with e|⟨b,b',e1,e2,e3⟩
  ·rw [e];exact h5
  ·rw [e2];rw [e1] at h5;exact .av _ _ (e3 _ h5.av_inv)
theorem kM (s:Nat):∀cs:List ah,(bK s cs).length=cs.length
 |[]=>rfl
 |c :: cs=>by simp [bK,kM s cs]
theorem lB (s:Nat):∀(cs:List ah) (j:Nat),(bK s cs)[j]?=(cs[j]?).map (ah.killB s)
 |[],_=>by simp [bK]
 |c :: cs,0=>by simp [bK]
 |c :: cs,j+1=>by simp only [bK,List.getElem?_cons_succ];exact lB s cs j
theorem aB.killB {s:Nat}{b:Bool}{cs:List ah}(k:Nat)(h:aB aa w g s ⟨b,cs⟩):aB aa w g s ⟨b,bK k cs⟩:=by
 refine h.weaken rfl (kM k cs) fun j c c' h1 h2=>?_
 simp only [lB] at h2
 simp only at h1
 rw [h1] at h2
 cases h2
 cases c with
 |av a=>exact .inr ⟨a,_,rfl,rfl,fun v h=>h.killB k⟩
 |sl t fz xs=>exact .inl rfl
theorem aB.killBs {s:Nat}{b:Bool}:∀(ks:List Nat) {cs:List ah},aB aa w g s ⟨b,cs⟩→aB aa w g s ⟨b,killBs ks cs⟩
 |[],_,h=>h
 |k :: l,_,h=>aB.killBs l (h.killB k)
theorem m7 {k:Nat}{cs:List ah}{j:Nat}{t:El}{fz:Bool}{xs:List t.den}:(bK k cs)[j]?=some (.sl t fz xs)↔cs[j]?=some (.sl t fz xs):=by
 rw [lB]
 cases cs[j]? with
 |none=>simp
 |some c=>cases c<;>simp [ah.killB]
theorem mR {j:Nat}{t:El}{fz:Bool}{xs:List t.den}:∀(ks:List Nat) {cs:List ah},(_root_.Go.Proofs.YtjkokaockhecnaaGreatDoorA.killBs ks cs)[j]?=some (.sl t fz xs)↔cs[j]?=some (.sl t fz xs)
 |[],_=>Iff.rfl
 |k :: l,_=>(mR l).trans m7
theorem uH {k:Nat}{cs:List ah}{j:Nat}{t:El}{fz:Bool}{xs:List t.den}:(killC k cs)[j]?=some (.sl t fz xs)↔cs[j]?=some (.sl t fz xs):=by
 rw [cS]
 cases cs[j]? with
 |none=>simp
 |some c=>cases c<;>simp [ah.kill]
theorem lL {k:Nat}{cs:List ah}{b:AV}(h:ah.av b∈bK k cs):∃c,ah.av c∈cs∧b=c.killB k:=by
 induction cs with
 |nil=>simp [bK] at h
 |cons c cs ih=>
  simp only [bK,List.mem_cons] at h
  rcases h with h|h
  ·cases c with
   |av a=>simp only [ah.killB,ah.av.injEq] at h;exact ⟨a,by simp,h⟩
   |sl t fz xs=>simp [ah.killB] at h
  ·obtain ⟨c',h1,h2⟩:=ih h;exact ⟨c',List.mem_cons_of_mem _ h1,h2⟩
theorem lQ:∀(ks:List Nat) {cs:List ah}{b:AV},ah.av b∈_root_.Go.Proofs.YtjkokaockhecnaaGreatDoorA.killBs ks cs→∃c,ah.av c∈cs∧b=c.killBs ks
 |[],_,b,h=>⟨b,h,rfl⟩
 |k :: l,_,b,h=>by
  obtain ⟨c,h1,h2⟩:=lQ l h
  obtain ⟨c',h3,h4⟩:=lL h1
  exact ⟨c',h3,by rw [h2,h4];rfl⟩
noncomputable def cv (g:Gh)(s j s' j':Nat)(v:Value):Gh where
 who b o:=if g.who b o=.obj s (some j) then .obj s' (some j') else g.who b o
 hs q i:=if q=s'∧i=j' then v else g.hs q i
 hb:=g.hb
section
variable {s j s' j':Nat}{v:Value}
theorem wR:GA w g (cv g s j s' j' v) fun q x=>q=s'∧x=some j':=by
 refine ⟨fun b o _ h=>by simp [cv,h],fun b o _ h=>by simp [cv,h],fun q i h=>?_,fun _ _=>rfl⟩
 simp only [cv]
 rw [if_neg fun ⟨h1,h2⟩=>h ⟨h1,by rw [h2]⟩]
theorem kq:eS w g w (cv g s j s' j' v):=
 ⟨.refl _ _,fun b o _ h=>by simp [cv,h],fun b o _ h=>by simp [cv,h],fun b o _ h=>by simp [cv,h],fun _ _=>rfl⟩
theorem RepA.move {b:AV}{u:Value}(h:RepA w g b u)(hb:aj (fun q x=>q=s'∧x=some j') b):RepA w (cv g s j s' j' v) b u:=
 h.pres (.refl w fun _ _=>False) (fun _ _ _ h=>h.elim) wR hb
theorem bZ.moved {t:El}{fz:Bool}{xs:List t.den}(h:bZ aa w g s j t fz xs)(hv:v=g.hs s j):bZ aa w (cv g s j s' j' v) s' j' t fz xs:=by
 have e:(cv g s j s' j' v).hs s' j'=g.hs s j:=by simp [cv,hv]
 rcases h.c with ⟨⟨vs,h1,h2,h3⟩,hown⟩|⟨h1,h2,a,h3⟩
 rotate_left
 ·exact ⟨.inr ⟨h1,h2,a,e.trans h3⟩⟩
 refine ⟨.inl ⟨⟨vs,by rw [e];exact h1,h2,fun i h h'=>(h3 i h h').move (c8 _ t xs _ (List.getElem_mem h))⟩,fun b m cap e'=>?_⟩⟩
 rw [e] at e'
 obtain ⟨hlt,hw⟩:=hown b m cap e'
 refine ⟨hlt,fun o=>?_⟩
 have:=hw o
 split at this
 ·rename_i ho
  rw [if_pos ho]
  cases fz with
  |true=>simp only [if_true] at this ⊢;simp [cv,this]
  |false=>simp only [Bool.false_eq_true,if_false] at this ⊢;simp [cv,this]
 ·rename_i ho
  rw [if_neg ho]
  simp [cv,this]
theorem bZ.stays {q i:Nat}{t:El}{fz:Bool}{xs:List t.den}(h:bZ aa w g q i t fz xs)(h1:¬(q=s∧i=j))(h2:¬(q=s'∧i=j')):bZ aa w (cv g s j s' j' v) q i t fz xs:=by
 refine h.pres (M:=fun _ _=>False) (.refl w _) wR (fun b o _ e=>?_) (fun _ _ _ h=>h.elim) (fun ⟨e1,e2⟩=>h2 ⟨e1,by cases e2;rfl⟩)
 simp only [cv]
 rw [if_neg]
 ·exact e
 ·rw [e]
  intro e2
  cases e2
  exact h1 ⟨rfl,rfl⟩
theorem aB.move {q:Nat}{r:ae}(h:aB aa w g q r)(hsl:∀i t fz xs,r.cs[i]?=some (.sl t fz xs)→¬(q=s∧i=j)∧¬(q=s'∧i=j'))(hav:∀b,ah.av b∈r.cs→aj (fun q x=>q=s'∧x=some j') b):
  aB aa w (cv g s j s' j' v) q r:=by
 refine ⟨fun hb i t fz xs hi=>(h.apart hb i t fz xs hi).stays (hsl i t fz xs hi).1 (hsl i t fz xs hi).2,fun hb=>?_⟩
 obtain ⟨vals,hv⟩:=h.box hb
 refine ⟨vals,fun i hi=>?_⟩
 obtain ⟨h1,h2,h3,h4,h5⟩:=hv i hi
 refine ⟨h1,?_,h3,h4,?_⟩
 ·show (if g.who (g.hb q).1 ((g.hb q).2+i)=_ then _ else g.who (g.hb q).1 ((g.hb q).2+i))=_
  rw [if_neg (by rw [h2];simp)];exact h2
 ·have key:∀c u,r.cs[i]=c→cw aa w g q i c u→cw aa w (cv g s j s' j' v) q i c u:=by
   intro c u hc h
   cases h with
   |av b u h=>exact .av b u (h.move (hav b (by rw [←hc];exact List.getElem_mem hi)))
   |sl t fz xs h=>
    have hi':r.cs[i]?=some (.sl t fz xs):=by rw [List.getElem?_eq_getElem hi,hc]
    obtain ⟨q1,q2⟩:=hsl i t fz xs hi'
    have e:(cv g s j s' j' v).hs q i=g.hs q i:=by simp only [cv];rw [if_neg q2]
    rw [←e]
    exact .sl t fz xs (h.stays q1 q2)
  exact key _ _ rfl h5
theorem aB.setSl {q i:Nat}{r:ae}{t:El}{fz:Bool}{xs:List t.den}(h:aB aa w g q r)(hs:bZ aa w g q i t fz xs)
  (hb:r.box=true→∀u,w.cell? ⟨(g.hb q).1,(g.hb q).2+i,none⟩=some u→u=g.hs q i):aB aa w g q ⟨r.box,r.cs.set i (.sl t fz xs)⟩:=by
 refine ⟨fun hbx k u f ys hk=>?_,fun hbx=>?_⟩
 ·simp only [List.getElem?_set] at hk
  by_cases hik:i=k
  ·subst hik
   rw [if_pos rfl] at hk
   split at hk
   ·cases hk;exact hs
   ·cases hk
  ·rw [if_neg hik] at hk
   exact h.apart hbx k u f ys hk
 ·obtain ⟨vals,hv⟩:=h.box hbx
  refine ⟨vals,fun k hk=>?_⟩
  have hk':k<r.cs.length:=by simpa using hk
  obtain ⟨h1,h2,h3,h4,h5⟩:=hv k hk'
  refine ⟨h1,h2,h3,h4,?_⟩
  simp only [List.getElem_set]
  by_cases hik:i=k
  ·subst hik
   simp only [if_true]
   rw [hb hbx _ h3]
   exact .sl t fz xs hs
  ·rw [if_neg hik];exact h5
end
end
end Go.Proofs.YtjkokaockhecnaaGreatDoorA

namespace Go.Proofs.YtjkokaockhecnaaGreatDoorA
open Go
section
variable {aa:aM}{n:Nat}{w w' w'':World}{g g' g'':Gh}{S:St}{a:Act}{P:Program}
def nF {R:Type}(aa:aM)(P:Program)(w:World)(g:Gh)(a:Act)(o:Oper)(d:Nat)(κ:AV→Option ae→List (Nat×ae)→List Nat→Option R)(r:R):Prop:=
 ∀(K:Act→World→Prop) (Q:Exit→Act→World→Prop),(∀av v rt rs ks w' g',κ av rt rs ks=some r→dM aa w g w' g' d av v rt rs ks→K (a.put o.dst v) w')→o.wp P a w K Q
theorem nF.value {R:Type}{o:Oper}{d:Nat}{κ:AV→Option ae→List (Nat×ae)→List Nat→Option R}{r:R}{av:AV}{v:Value}{rt:Option ae}{rs:List (Nat×ae)}{ks:List Nat}(h:κ av rt rs ks=some r)
  (hr:(execOp a.eval o).run P w=.ok (.value v) w') (hs:dM aa w g w' g' d av v rt rs ks):nF aa P w g a o d κ r:=by
 intro K Q hK
 unfold Oper.wp
 rw [hr]
 exact hK _ _ _ _ _ _ _ h hs
theorem nF.skip {R:Type}{o:Oper}{d:Nat}{κ:AV→Option ae→List (Nat×ae)→List Nat→Option R}{r:R}{av:AV}{rt:Option ae}{rs:List (Nat×ae)}{ks:List Nat}(h:κ av rt rs ks=some r)
  (hr:(execOp a.eval o).run P w=.ok .skip w') (hs:dM aa w g w' g' d av undef rt rs ks):nF aa P w g a o d κ r:=by
 intro K Q hK
 unfold Oper.wp
 rw [hr]
 exact hK _ _ _ _ _ _ _ h hs
theorem ug (l:List AV)(j:Nat):(bU l)[j]?=(l[j]?).map ah.av:=by simp [bU]
theorem iS {T:TypeId}{i:gA}(hT:eX P aa T i){b o:Nat}{v:Value}(hl:v.cells.toList.length=i.size)
  (hc:∀j,j<v.cells.toList.length→(w.cell? ⟨b,o+j,none⟩).isSome=true∧w.frozen? ⟨b,o+j,none⟩=false) (h1:∀u∈v.cells.toList,u.oneCell'=true):
  (storeVar T ⟨b,o,none⟩ v).run P w=.ok () (w.setCells b o v.cells.toList):=by
 have:=run_storeCells_cells (P:=P) b o v.cells.toList 0 w (fun j hj=>by simpa using (hc j hj).1) (fun j hj=>by simpa using (hc j hj).2) h1
 unfold storeVar
 have hsz:v.cells.size=i.size:=by simpa using hl
 simp only [Sem.run_bind,k6 hT,Result.andThen_ok,hsz,ne_eq,not_true,if_false,Nat.add_zero] at this ⊢
 exact this
theorem iR {o:Oper}{T:TypeId}{x y:Operand}{q:Addr}(ho:o.op=.store T x y)(e:a.eval x=.pointer (some q))(h:(storeVar T q (a.eval y)).run P w=.ok () w'):
  (execOp a.eval o).run P w=.ok .skip w':=by
 unfold execOp;rw [ho]
 simp [Instr.storeAt,e,Instr.sureAddr,h]
theorem pT (k:Nat)(c:ah):∀(cs:List ah) (i:Nat),bK k (cs.set i c)=(bK k cs).set i (c.killB k)
 |[],_=>rfl
 |_ :: _,0=>rfl
 |c' :: cs,i+1=>by simp only [List.set_cons_succ,bK,pT k c cs i]
theorem vC {s i s' j' d:Nat}{cs:List ah}{u:El}{fz:Bool}{ys:List u.den}{v v0:Value}(hS:aV aa n w g S a)(hr:S.root s=some ⟨true,cs⟩)(hi:i<cs.length)(hc:S.cell s' j'=some (.sl u fz ys))(hne:s'≠s)(hv:v=g.hs s' j'):
  ∃g',dM aa w g (w.setCells (g.hb s).1 ((g.hb s).2+i) [v]) g' d .und v0 none ((S.setCell s' j' (.av .und)).setCell s i (.sl u true ys)).roots [s]:=by
 obtain ⟨r',hr',hcj⟩:=bW hc
 have hR':=hS.root hr'
 obtain ⟨g1,h1,hR1'⟩:∃g1,xx g g1 s'∧aB aa w g1 s' ⟨r'.box,r'.cs.set j' (.sl u true ys)⟩:=by
  cases fz with
  |false=>exact hR'.raise hcj
  |true=>
   refine ⟨g,.refl g s',?_⟩
   have:r'.cs.set j' (.sl u true ys)=r'.cs:=by
    refine List.ext_getElem? fun k=>?_
    rw [List.getElem?_set]
    by_cases e:j'=k
    ·subst e
     have hlt:=(List.getElem?_eq_some_iff.mp hcj).1
     rw [if_pos rfl,if_pos hlt,hcj]
    ·rw [if_neg e]
   rw [this];exact hR'
 have hj'l:j'<r'.cs.length:=(List.getElem?_eq_some_iff.mp hcj).1
 have RS:bZ aa w g1 s' j' u true ys:=hR1'.sl (by simp [hj'l])
 have hR1:aB aa w g1 s ⟨true,cs⟩:=(hS.root hr).frz h1 (fun e=>hne e.symm)
 obtain ⟨vals,hb⟩:=hR1.box rfl
 have ehb:g1.hb s=g.hb s:=by rw [h1.hb]
 have hbi:=hb i hi
 rw [ehb] at hbi
 have hchg:=dH w (g.hb s).1 ((g.hb s).2+i) [v]
 have hM:∀b o',b<w.heap.size→(b=(g.hb s).1∧(g.hb s).2+i≤o'∧o'<(g.hb s).2+i+[v].length)→g1.who b o'=.obj s none:=by
  rintro b o' _ ⟨rfl,q1,q2⟩
  simp only [List.length_cons,List.length_nil] at q2
  obtain rfl:o'=(g.hb s).2+i:=by omega
  exact hbi.2.1
 have hMe:∀b o',b<w.heap.size→(b=(g.hb s).1∧(g.hb s).2+i≤o'∧o'<(g.hb s).2+i+[v].length)→∃s x,g1.who b o'=.obj s x:=fun b o' hb hm=>⟨_,_,hM b o' hb hm⟩
 have RS':bZ aa (w.setCells (g.hb s).1 ((g.hb s).2+i) [v]) g1 s' j' u true ys:=
  RS.pres hchg (l6.refl w g1 fun _ _=>False).ga (fun _ _ _ h=>h) (fun b o' hb hm=>⟨_,_,hM b o' hb hm,.inl fun e=>hne e.symm⟩) (fun h=>h)
 have hcell:World.cell? (w.setCells (g.hb s).1 ((g.hb s).2+i) [v]) ⟨(g.hb s).1,(g.hb s).2+i,none⟩=some v:=by
  have:=World.cell?_setCells_in (g.hb s).1 [v] ((g.hb s).2+i) w (fun q hq=>by
   obtain rfl:q=0:=by simpa using hq
   rw [Nat.add_zero,hbi.2.2.1];rfl) 0 (by simp)
  simpa using this
 -- the box, with a hole
 have hRs:aB aa (w.setCells (g.hb s).1 ((g.hb s).2+i) [v]) g1 s ⟨true,cs.set i (.av .und)⟩:=by
  refine ⟨fun e=>(by cases e),fun _=>⟨fun k=>if k=i then v else vals k,fun k hk=>?_⟩⟩
  have hk':k<cs.length:=by simpa using hk
  obtain ⟨q1,q2,q3,q4,q5⟩:=hb k hk'
  rw [ehb] at q1 q2 q3 q4 ⊢
  refine ⟨Nat.lt_of_lt_of_le q1 hchg.size,q2,?_,?_,?_⟩
  ·by_cases e:k=i
   ·subst e;simp only [if_true];exact hcell
   ·simp only [if_neg e]
    rw [World.cell?_setCells_out _ _ _ _ _ (fun _ _=>by show (g.hb s).2+k<_∨_≤(g.hb s).2+k;simp only [List.length_cons,List.length_nil];omega)]
    exact q3
  ·rw [World.frozen?_setCells];exact q4
  ·simp only [List.getElem_set]
   by_cases e:k=i
   ·subst e
    simp only [if_true]
    exact .av _ _ (.und _)
   ·simp only [if_neg e,if_neg fun h=>e (Eq.symm h)]
    exact q5.pres hchg (l6.refl w g1 fun _ _=>False).ga (fun b o' hb hm=>⟨_,_,hM b o' hb hm,.inr (by simp)⟩) (fun _ _ _ h=>h) (fun h=>h) (fun b _=>aG b)
 have hv1:v=g1.hs s' j':=by rw [h1.hs];exact hv
 have hAv:∀{b:AV},aj (fun q x=>q∈[s]∧x≠none) b→aj (fun q x=>q=s∧x=some i) b:=fun h=>h.mono fun q x ⟨e1,e2⟩=>⟨by rw [e1];simp,by rw [e2];simp⟩
 have hkill:∀{cs':List ah}{b:AV},ah.av b∈bK s cs'→aj (fun q x=>q=s∧x=some i) b:=by
  intro cs' b hb
  obtain ⟨c,_,rfl⟩:=lL hb
  exact (jh s c).mono fun q x ⟨e1,e2⟩=>⟨e1,by rw [e2];simp⟩
 have i1:eS w g w g1:=h1.inv w
 have i2:eS w g1 (w.setCells (g.hb s).1 ((g.hb s).2+i) [v]) g1:=⟨hchg.mono hMe,fun _ _ _ h=>h,fun _ _ _ h=>h,fun _ _ _ h=>h,fun _ _=>rfl⟩
 refine ⟨cv g1 s' j' s i v,(i1.trans i2).trans kq,fun b x hb _ hav=>?_,.und _,fun _ q r hq=>?_,fun h=>absurd rfl h,fun q h=>by cases h⟩
 ·exact ((hb.frz h1).same hchg hMe).move (hAv hav)
 ·have hr2:(S.setCell s' j' (.av .und)).root s=some ⟨true,cs⟩:=by
   have:=bN (c:=.av .und) (j:=j') hr' s
   rw [if_neg fun e=>hne e.symm] at this
   exact this.trans hr
  rw [bN hr2] at hq
  show aB aa _ _ q ⟨r.box,bK s r.cs⟩
  by_cases e:q=s
  ·subst e
   rw [if_pos rfl] at hq
   cases hq
   have m1:=(hRs.killB q).move (s:=s') (j:=j') (s':=q) (j':=i) (v:=v) (fun k t fz xs hk=>⟨fun ⟨e1,_⟩=>hne e1.symm,fun ⟨_,e2⟩=>by
    subst e2
    rw [m7] at hk
    simp [hi] at hk⟩) (fun b hb=>hkill hb)
   have m2:=m1.setSl (i:=i) (RS'.moved hv1) (fun _ u' hu'=>by
    have e3:(cv g1 s' j' q i v).hb q=g.hb q:=by show g1.hb q=_;exact ehb
    rw [e3,hcell] at hu'
    cases hu'
    simp [cv])
   simp only [pT,ah.killB,List.set_set] at m2 ⊢
   exact m2
  ·rw [if_neg e] at hq
   have hq':=hq
   rw [show (S.setCell s' j' (.av .und)).root q=look q (S.setCell s' j' (.av .und)).roots from rfl,bN hr'] at hq'
   have base:aB aa (w.setCells (g.hb s).1 ((g.hb s).2+i) [v]) g1 q r∧(q=s'→∀t fz xs,r.cs[j']?≠some (.sl t fz xs)):=by
    by_cases e2:q=s'
    ·subst e2
     rw [if_pos rfl] at hq'
     cases hq'
     have f1:=hR1'.forget j'
     simp only [List.set_set] at f1
     refine ⟨f1.same hchg (fun b o' hb hm=>⟨_,_,hM b o' hb hm,fun e=>hne e.symm⟩),fun _ t fz xs h=>?_⟩
     simp [hj'l] at h
    ·rw [if_neg e2] at hq'
     exact ⟨((hS.rt q r hq').frz h1 e2).same hchg (fun b o' hb hm=>⟨_,_,hM b o' hb hm,fun e'=>e e'.symm⟩),fun h=>absurd h e2⟩
   refine (base.1.killB (b:=r.box) (cs:=r.cs) s).move (fun k t fz xs hk=>⟨fun ⟨e1,e2⟩=>?_,fun ⟨e1,_⟩=>e e1⟩) (fun b hb=>hkill hb)
   subst e2
   exact base.2 e1 _ _ _ (m7.1 hk)
theorem uu {R:Type}{E:TypeId→Option gA}(hE:∀T i,E T=some i→eX P aa T i){o:Oper}{κ:AV→Option ae→List (Nat×ae)→List Nat→Option R}{r:R}{T:TypeId}{x y:Operand}{d:Nat}
  (ho:o.op=.store T x y) (h:(match E T with
  |some i=>bif Nat.beq (S.ev y).leaves.length i.size&&dR (S.ev y).leaves then gf S (S.ev x) (S.ev y).leaves (κ .und none) else none
  |none=>none)=some r) (hS:aV aa n w g S a):nF aa P w g a o d κ r:=by
 split at h
 ·rename_i i hi
  have hT:=hE T i hi
  cases hc:Nat.beq (S.ev y).leaves.length i.size&&dR (S.ev y).leaves with
  |false=>rw [hc] at h;cases h
  |true=>
   rw [hc] at h
   simp only [Bool.and_eq_true] at hc
   have hlen:=Nat.eq_of_beq_eq_true hc.1
   have hcells:=rR hc.2
   have hyy:=hS.ev y
   have hl:RepL w g (S.ev y).leaves (a.eval y).cells.toList:=by
    refine jd hyy (fun e=>?_) (fun cs e=>?_)
    ·rw [e] at hc;simp [AV.leaves,dR,AV.isCell] at hc
    ·rw [e] at hc;simp [AV.leaves,dR,AV.isCell] at hc
   have hone:=hl.one hcells
   have hvl:(a.eval y).cells.toList.length=i.size:=by rw [hl.1,hlen]
   have hxx:=hS.ev x
   simp only [cond] at h
   unfold gf at h
   split at h
   ·-- a variable
    rename_i s off hx
    rw [hx] at hxx
    have e1:=hxx.ref_inv
    split at h
    ·rename_i cs hroot
     cases hb:Nat.ble (off+(S.ev y).leaves.length) cs.length with
     |false=>rw [hb] at h;cases h
     |true=>
      rw [hb] at h
      have hle:=Nat.le_of_ble_eq_true hb
      simp only [cond] at h
      have hR:=hS.root hroot
      obtain ⟨vals,hv⟩:=hR.box rfl
      have hchg:=dH w (g.hb s).1 ((g.hb s).2+off) (a.eval y).cells.toList
      have hM:∀b o',b<w.heap.size→(b=(g.hb s).1∧(g.hb s).2+off≤o'∧o'<(g.hb s).2+off+(a.eval y).cells.toList.length)→g.who b o'=.obj s none:=by
       rintro b o' _ ⟨rfl,h1,h2⟩
       have hj:o' - (g.hb s).2<cs.length:=by rw [hl.1] at h2;omega
       have:=(hv _ hj).2.1
       rwa [show (g.hb s).2+(o' - (g.hb s).2)=o' by omega] at this
      have hcell:∀j,j<(a.eval y).cells.toList.length→(w.cell? ⟨(g.hb s).1,(g.hb s).2+off+j,none⟩).isSome=true∧w.frozen? ⟨(g.hb s).1,(g.hb s).2+off+j,none⟩=false:=by
       intro j hj
       have hj':off+j<cs.length:=by rw [hl.1] at hj;omega
       obtain ⟨_,_,h3,h4,_⟩:=hv _ hj'
       rw [←Nat.add_assoc] at h3 h4
       exact ⟨by rw [h3];rfl,h4⟩
      refine nF.skip (g':=g) h ?_ (.plain hchg (fun b o' hb hm=>⟨_,_,hM b o' hb hm⟩) (.und _) (fun s' r' hs'=>?_))
      ·exact iR ho e1 (iS hT hvl hcell hone)
      ·rw [cX] at hs'
       by_cases hss:s'=s
       ·subst hss
        rw [if_pos rfl] at hs'
        cases hs'
        have hRsame:=hR
        refine ⟨fun e=>(by cases e),fun _=>⟨fun j=>(setRange (List.ofFn fun q:Fin cs.length=>vals q) off (a.eval y).cells.toList).getD j undef,fun j hj=>?_⟩⟩
        have hlc:(bU (S.ev y).leaves).length=(S.ev y).leaves.length:=by simp [bU]
        have hj':j<cs.length:=by rw [dn _ _ _ (by rw [hlc];exact hle)] at hj;exact hj
        obtain ⟨h1,h2,h3,h4,h5⟩:=hv j hj'
        have hvlen:off+(a.eval y).cells.toList.length≤(List.ofFn fun q:Fin cs.length=>vals q).length:=by rw [hl.1,List.length_ofFn];exact hle
        have hval:(setRange (List.ofFn fun q:Fin cs.length=>vals q) off (a.eval y).cells.toList).getD j undef=if off≤j∧j<off+(a.eval y).cells.toList.length then (a.eval y).cells.toList.getD (j - off) undef else vals j:=by
         rw [List.getD_eq_getElem?_getD,de _ _ _ hvlen]
         split
         ·rw [List.getD_eq_getElem?_getD]
         ·simp [hj']
        have hcellj:(setRange cs off (bU (S.ev y).leaves))[j]?=if off≤j∧j<off+(S.ev y).leaves.length then ((S.ev y).leaves[j - off]?).map ah.av else cs[j]?:=by
         rw [de _ _ _ (by rw [hlc];exact hle),hlc,ug]
        refine ⟨Nat.lt_of_lt_of_le h1 hchg.size,h2,?_,?_,?_⟩
        ·show World.cell? _ _=some ((setRange (List.ofFn fun q:Fin cs.length=>vals q) off (a.eval y).cells.toList).getD j undef)
         rw [hval]
         by_cases hin:off≤j∧j<off+(a.eval y).cells.toList.length
         ·rw [if_pos hin]
          have:=World.cell?_setCells_in (g.hb s').1 (a.eval y).cells.toList ((g.hb s').2+off) w (fun q hq=>(hcell q hq).1) (j - off) (by omega)
          rw [show (g.hb s').2+off+(j - off)=(g.hb s').2+j by omega] at this
          rw [this]
          have hq:j - off<(a.eval y).cells.toList.length:=by omega
          rw [List.getD_eq_getElem?_getD,List.getElem?_eq_getElem hq];rfl
         ·rw [if_neg hin,World.cell?_setCells_out _ _ _ _ _ (fun _ _=>by show (g.hb s').2+j<_∨_≤(g.hb s').2+j;omega)]
          exact h3
        ·rw [World.frozen?_setCells];exact h4
        ·have hg1:(setRange cs off (bU (S.ev y).leaves))[j]?=some (setRange cs off (bU (S.ev y).leaves))[j]:=List.getElem?_eq_getElem hj
         rw [hcellj] at hg1
         show cw aa _ _ _ _ _ ((setRange (List.ofFn fun q:Fin cs.length=>vals q) off (a.eval y).cells.toList).getD j undef)
         rw [hval]
         by_cases hin:off≤j∧j<off+(S.ev y).leaves.length
         ·rw [if_pos hin] at hg1
          rw [if_pos (by rw [hl.1];exact hin)]
          have q1:j - off<(S.ev y).leaves.length:=by omega
          have q2:j - off<(a.eval y).cells.toList.length:=by rw [hl.1];omega
          rw [List.getElem?_eq_getElem q1] at hg1
          simp only [Option.map_some,Option.some.injEq] at hg1
          rw [←hg1,List.getD_eq_getElem?_getD,List.getElem?_eq_getElem q2]
          exact .av _ _ ((hl.2 _ q1 q2).same hchg (fun b o' hb hm=>⟨_,_,hM b o' hb hm⟩))
         ·rw [if_neg hin,List.getElem?_eq_getElem hj'] at hg1
          simp only [Option.some.injEq] at hg1
          rw [if_neg (by rw [hl.1];exact hin),←hg1]
          exact h5.pres hchg (l6.refl w g fun _ _=>False).ga (fun b o' hb hm=>⟨_,_,hM b o' hb hm,.inr (by simp)⟩) (fun _ _ _ h=>h) (fun h=>h) (fun b _=>aG b)
       ·rw [if_neg hss] at hs'
        exact (hS.rt s' r' hs').same hchg (fun b o' hb hm=>⟨_,_,hM b o' hb hm,fun e=>hss e.symm⟩)
    ·cases h
   ·-- an element
    rename_i s j sz k off hx
    rw [hx] at hxx
    split at h
    ·rename_i t xs hcell
     cases hz:Nat.beq sz t.size with
     |false=>rw [hz] at h;cases h
     |true=>
      rw [hz] at h
      have hz':=Nat.eq_of_beq_eq_true hz
      subst hz'
      simp only [cond] at h
      cases hk:xs[k]? with
      |none=>rw [hk] at h;cases h
      |some xv=>
       rw [hk] at h
       simp only [Option.bind_some] at h
       split at h
       ·rename_i yv hyv
        cases hz:Nat.ble (off+(S.ev y).leaves.length) t.size with
        |false=>rw [hz] at h;cases h
        |true=>
         rw [hz] at h
         simp only at h
         have hz':=Nat.le_of_ble_eq_true hz
         obtain ⟨root,hroot,hcj⟩:=bW hcell
         have hR:=hS.root hroot
         have hkl:k<xs.length:=(List.getElem?_eq_some_iff.mp hk).1
         have hs:=(hS.cell hcell).old (by rintro rfl;simp at hkl)
         obtain ⟨vals,hrow,hvl2,hvr⟩:=hs.row
         have hoff:off+(S.ev y).leaves.length≤t.size:=hz'
         have hblk:(k+1)*t.size≤xs.length*t.size:=Nat.mul_le_mul_right _ hkl
         rw [Nat.add_mul,Nat.one_mul] at hblk
         cases hxe:a.eval x<;>rw [hxe] at hxx<;>cases hxx
         case eref b m cap he=>
          rcases hrow.2 with ⟨e,_⟩|⟨b',cap',cur,e,_⟩
          ·rw [e] at he;cases he
          ·have he2:=he
           rw [e] at he2
           cases he2
           rw [e] at hrow
           obtain ⟨hlt,hwho⟩:=hs.own b _ _ e
           have hin:k*t.size+off+(a.eval y).cells.toList.length≤vals.length:=by rw [hvl2,aw,hl.1];omega
           have hchg:=dH w b (k*t.size+off) (a.eval y).cells.toList
           have hM:∀b1 o',b1<w.heap.size→(b1=b∧k*t.size+off≤o'∧o'<k*t.size+off+(a.eval y).cells.toList.length)→g.who b1 o'=.obj s (some j):=by
            rintro b1 o' _ ⟨rfl,h1,h2⟩
            have:=hwho o'
            simpa using this
           have hM':∀b1 o',b1<w.heap.size→(b1=b∧k*t.size+off≤o'∧o'<k*t.size+off+(a.eval y).cells.toList.length)→∃s x,g.who b1 o'=.obj s x:=fun b1 o' hb hm=>⟨_,_,hM b1 o' hb hm⟩
           refine nF.skip (g':=g) h ?_ (.plain hchg hM' (.und _) (fun s' r' hs'=>?_))
           ·have hcc:∀q,q<(a.eval y).cells.toList.length→(w.cell? ⟨b,k*t.size+off+q,none⟩).isSome=true∧w.frozen? ⟨b,k*t.size+off+q,none⟩=false:=by
             intro q hq
             have hq2:k*t.size+off+q<xs.length*t.size:=by rw [hl.1] at hq;omega
             refine ⟨?_,hrow.frozenAt _ hq2⟩
             rw [hrow.cellAt _ hq2,List.getElem?_eq_getElem (by rw [hvl2,aw];exact hq2)]
             rfl
            exact iR ho hxe (iS hT hvl hcc hone)
           ·rw [bN hroot] at hs'
            by_cases hss:s'=s
            ·subst hss
             rw [if_pos rfl] at hs'
             cases hs'
             refine aB.rewrite hchg hM hR hcj (fz':=false) ⟨.inl ⟨⟨setRange vals (k*t.size+off) (a.eval y).cells.toList,?_,?_,?_⟩,?_⟩⟩
             ·rw [e,List.length_set]
              exact hY _ _ _ _ hrow hin
             ·rw [dn _ _ _ hin,hvl2,aw,aw,List.length_set]
             ·-- the new list's cells
              have hvk:RepL w g (t.cells xv) ((vals.drop (k*t.size)).take t.size):=by
               refine ⟨by have hq1:=aw t xs;rw [aP,List.length_take,List.length_drop,hvl2];omega,fun q hq hq'=>?_⟩
               rw [aP] at hq
               have e2:=fD t xs k xv q hk hq
               have q2:k*t.size+q<(ap t xs).length:=by rw [aw];omega
               have q3:q<(t.cells xv).length:=by rw [aP];exact hq
               rw [List.getElem?_eq_getElem q2,List.getElem?_eq_getElem q3] at e2
               simp only [Option.some.injEq] at e2
               simp only [List.getElem_take,List.getElem_drop]
               rw [←e2]
               exact hvr _ q2 (by rw [hvl2];exact q2)
              have hyr:RepL w g (t.cells yv) (setRange ((vals.drop (k*t.size)).take t.size) off (a.eval y).cells.toList):=ez hyv (hvk.setRange hl off)
              have hvs:setRange vals (k*t.size+off) (a.eval y).cells.toList=setRange vals (k*t.size) (setRange ((vals.drop (k*t.size)).take t.size) off (a.eval y).cells.toList):=by
               have hl1:((vals.drop (k*t.size)).take t.size).length=t.size:=by
                have hq1:=aw t xs
                rw [List.length_take,List.length_drop,hvl2];omega
               have hl2:off+(a.eval y).cells.toList.length≤((vals.drop (k*t.size)).take t.size).length:=by rw [hl1,hl.1];exact hoff
               have hl3:(setRange ((vals.drop (k*t.size)).take t.size) off (a.eval y).cells.toList).length=t.size:=by rw [dn _ _ _ hl2,hl1]
               apply List.ext_getElem?
               intro q
               rw [de _ _ _ hin,de _ _ _ (by rw [hl3,hvl2,aw];omega),hl3,de _ _ _ hl2]
               by_cases c1:k*t.size≤q∧q<k*t.size+t.size
               ·rw [if_pos c1]
                by_cases c2:off≤q - k*t.size∧q - k*t.size<off+(a.eval y).cells.toList.length
                ·rw [if_pos c2,if_pos (by omega)]
                 congr 1;omega
                ·rw [if_neg c2,if_neg (by omega),List.getElem?_take,if_pos (by omega),List.getElem?_drop]
                 congr 1;omega
               ·rw [if_neg c1,if_neg (by rw [hl.1];omega)]
              have hvr':RepL w g (ap t xs) vals:=⟨hvl2,hvr⟩
              have hfin:=hvr'.setRange hyr (k*t.size)
              rw [←hvs,←yF t xs k yv hkl] at hfin
              exact fun q hq hq'=>(hfin.2 q hq hq').same hchg hM'
             ·intro b1 m1 c1 e1
              rw [e] at e1
              cases e1
              refine ⟨Nat.lt_of_lt_of_le hlt hchg.size,fun o'=>?_⟩
              have:=hwho o'
              simpa using this
            ·rw [if_neg hss] at hs'
             exact (hS.rt s' r' hs').same hchg (fun b1 o' hb hm=>⟨_,_,hM b1 o' hb hm,fun e=>hss e.symm⟩)
       ·cases h
    ·cases h
   ·-- a list into its place
    rename_i s k hx
    rw [hx] at hxx
    split at h
    ·rename_i s' j' hlv
     split at h
     ·rename_i cs hroot
      split at h
      ·rename_i u fz ys hcell
       cases hz:Nat.beq s' s with
       |true=>rw [hz] at h;cases h
       |false=>
        rw [hz] at h
        cases hb:Nat.blt k cs.length with
        |false=>rw [hb] at h;cases h
        |true=>
         rw [hb] at h
         simp only [cond] at h
         have hk:k<cs.length:=Nat.le_of_ble_eq_true hb
         have hne:s'≠s:=fun e=>by rw [e,Nat.beq_refl] at hz;cases hz
         rw [hlv] at hl
         obtain ⟨v,vs,e1,h1,h2⟩:=hl.cons_inv
         rw [h2.nil_inv] at e1
         have hv:=h1.al_inv.1
         obtain ⟨g',hok⟩:=vC (d:=d) (v0:=undef) hS hroot hk hcell hne hv
         rw [←e1] at hok
         have hxe:a.eval x=.pointer (some ⟨(g.hb s).1,(g.hb s).2+k,none⟩):=by
          cases hv:a.eval x<;>rw [hv] at hxx<;>cases hxx;rfl
         obtain ⟨vals,hbx⟩:=(hS.root hroot).box rfl
         refine nF.skip (g':=g') h ?_ hok
         refine iR ho hxe (iS hT hvl (fun q hq=>?_) hone)
         obtain rfl:q=0:=by rw [e1] at hq;simpa using hq
         obtain ⟨_,_,h3,h4,_⟩:=hbx k hk
         rw [Nat.add_zero]
         exact ⟨by rw [h3];rfl,h4⟩
      ·cases h
     ·cases h
    ·cases h
   ·cases h
 ·cases h
end
end Go.Proofs.YtjkokaockhecnaaGreatDoorA

namespace Go.Proofs.YtjkokaockhecnaaGreatDoorA
open Go
section
variable {aa:aM}{n:Nat}{w w' w'':World}{g g' g'':Gh}{S:St}{a:Act}{P:Program}
theorem aB.pres2 {M:Nat→Nat→Prop}{N:Nat→Option Nat→Prop}(hc:gy w w' M)(hg:GA w g g' N){s:Nat}{r:ae}
  (hM:∀b o,b<w.heap.size→M b o→∃s' x,g.who b o=.obj s' x∧(s'≠s∨∃i,x=some i∧∀t fz xs,r.cs[i]?≠some (.sl t fz xs)))
  (ho:∀b o x,b<w.heap.size→g.who b o=.obj s x→(∀i,x=some i→∃t fz xs,r.cs[i]?=some (.sl t fz xs))→g'.who b o=.obj s x)
  (hN:∀x,¬N s x) (hav:∀b,ah.av b∈r.cs→aj N b) (h:aB aa w g s r):aB aa w' g' s r:=by
 have hM':∀b o,b<w.heap.size→M b o→∃s x,g.who b o=.obj s x:=fun b o hb hm=>let ⟨s,x,e,_⟩:=hM b o hb hm;⟨s,x,e⟩
 have hMj:∀{j t fz xs},r.cs[j]?=some (ah.sl t fz xs)→∀b o,b<w.heap.size→M b o→∃s' x,g.who b o=.obj s' x∧(s'≠s∨x≠some j):=by
  intro j t fz xs hj b o hb hm
  obtain ⟨s',x,e,h⟩:=hM b o hb hm
  refine ⟨s',x,e,?_⟩
  rcases h with h|⟨i,rfl,h⟩
  ·exact .inl h
  ·refine .inr fun e=>?_
   cases e;exact h _ _ _ hj
 have hoj:∀{j t fz xs},r.cs[j]?=some (ah.sl t fz xs)→∀b o,b<w.heap.size→g.who b o=.obj s (some j)→g'.who b o=.obj s (some j):=
  fun hj b o hb e=>ho b o _ hb e fun i hi=>by cases hi;exact ⟨_,_,_,hj⟩
 refine ⟨fun hb j t fz xs hj=>(h.apart hb j t fz xs hj).pres hc hg (hoj hj) (hMj hj) (hN _),fun hb=>?_⟩
 obtain ⟨vals,hv⟩:=h.box hb
 refine ⟨vals,fun j hj=>?_⟩
 obtain ⟨h1,h2,h3,h4,h5⟩:=hv j hj
 rw [hg.hb s (hN none)]
 have hnm:¬M (g.hb s).1 ((g.hb s).2+j):=fun hm=>by
  obtain ⟨s',x,e,hne⟩:=hM _ _ h1 hm
  rw [h2] at e;cases e
  rcases hne with h|⟨i,h,_⟩
  ·exact h rfl
  ·cases h
 refine ⟨Nat.lt_of_lt_of_le h1 hc.size,ho _ _ _ h1 h2 (fun i hi=>by cases hi),(hc.cel _ _ h1 hnm).trans h3,(hc.frz _ _ h1 hnm).trans h4,?_⟩
 have key:∀c v,r.cs[j]=c→cw aa w g s j c v→cw aa w' g' s j c v:=by
  intro c v hcj hv5
  cases hv5 with
  |av b v h=>exact .av b v (h.pres hc hM' hg (hav b (by rw [←hcj];exact List.getElem_mem hj)))
  |sl t fz xs h=>
   have hjj:r.cs[j]?=some (ah.sl t fz xs):=by rw [List.getElem?_eq_getElem hj,hcj]
   rw [←hg.hs s j (hN _)];exact .sl t fz xs (h.pres hc hg (hoj hjj) (hMj hjj) (hN _))
 exact key _ _ rfl h5
theorem jQ {t e:TypeId}(ty:TypeId){i:TypeInfo}{z:Value}{size bytes:Nat}(ht:P.underlying t=some (.slice e))(hi:P.info? e=some i)(hz:i.zero=some z)
  (hsize:i.size=size) (hby:i.bytes=bytes) (hzs:z.cells.size=size) (hsz:0<size)
  {v:Value}{n:Nat}{xs:List Value} (hown:w.ownsRow 0 e size v n xs)
  {ad:Option Addr}{m c:Nat}{news:List Value} (hl:news.length=m*size) (hnews:m≠0→∃q,ad=some q∧∀j u,news[j]?=some u→w.cell? (q.add j)=some u) (h1:∀u∈news,u.oneCell'=true)
  (h63:n+m≤maxLen) (hbytes:(n+m)*bytes≤140737488355328):
  ∃v' w',(Builtin.append_ #[t,t] ty #[v,.slice ad m c]).run P w=.ok v' w'∧w'.ownsRow 0 e size v' (n+m) (xs++news)∧
   ((v'=v∧w'=w)∨(∃b cap,v=.slice (some ⟨b,0,none⟩) n cap∧v'=.slice (some ⟨b,0,none⟩) (n+m) cap∧w.grownBy w' (some b))∨
    (∃cap,v'=.slice (some ⟨w.heap.size,0,none⟩) (n+m) cap∧w.grownBy w' none)):=by
 subst hsize
 subst hby
 by_cases hm:m=0
 ·subst hm
  have hn:news=[]:=List.eq_nil_of_length_eq_zero (by simpa using hl)
  subst hn
  refine ⟨v,w,?_,by simpa using hown,.inl ⟨rfl,rfl⟩⟩
  rcases hown.2 with ⟨rfl,rfl⟩|⟨b,cap,cur,rfl,_,_,hnc,_⟩
  ·cases ad<;>simp [Builtin.append_,run_underlying ht,sizeOf,typeInfo,hi,Builtin.lenOf,Builtin.firstCells,loadCells,loadCellsFrom]
  ·cases ad<;>simp [Builtin.append_,run_underlying ht,sizeOf,typeInfo,hi,Builtin.lenOf,Builtin.firstCells,hnc,storeCells,loadCells,loadCellsFrom]
 ·obtain ⟨q,rfl,hq⟩:=hnews hm
  have hsmall:n+m≤9223372036854775807:=by simp only [maxLen] at h63;omega
  have hlen:(xs++news).length=(n+m)*i.size:=by rw [List.length_append,hown.1,hl,Nat.add_mul]
  have grown:∀(old:Nat),
    (w.drew.alloc (.cells (xs.toArray++news.toArray++Builtin.zeroCells z.cells (grownCap w (n+m) old e - (n+m))) e)).ownsRow 0 e i.size
     (.slice (some ⟨w.heap.size,0,none⟩) (n+m) (grownCap w (n+m) old e)) (n+m) (xs++news):=by
   intro old
   have hge:=grownCap_ge w (n+m) old e
   have hcm:=grownCap_le_maxLen w (n+m) old e h63
   refine ⟨hlen,.inr ⟨w.heap.size,_,_,rfl,Nat.zero_le _,heap_alloc_new w.drew _,hge,hcm,?_,?_⟩⟩
   ·simp only [Array.size_append,List.size_toArray,size_zeroCells,hzs,hown.1,hl,←Nat.add_mul]
    congr 1;omega
   ·simp only [Array.toList_append]
    rw [←hlen,List.take_left' (by simp)]
  have hgr:∀o:Obj,w.grownBy (w.drew.alloc o) none:=fun o=>⟨rfl,rfl,rfl,by simp,fun k hk _=>heap_alloc_old w.drew _ k hk⟩
  rcases hown.2 with ⟨rfl,rfl⟩|⟨b,cap,cur,rfl,_,hg,hnc,hcm,hcs,htake⟩
  ·have hx:xs=[]:=List.eq_nil_of_length_eq_zero (by simpa using hown.1)
   subst hx
   have hr:=run_append_nil (P:=P) w t ty e i z ht hi hz q m c news hl hq (by omega) (by omega) (by have hb:=hbytes;simp only [Nat.zero_add] at hb;omega)
   have h0:=grown 0
   simp only [Nat.zero_add,List.nil_append,Array.empty_append] at h0 ⊢
   exact ⟨_,_,hr,h0,.inr (.inr ⟨_,rfl,hgr _⟩)⟩
  ·by_cases hroom:n+m≤cap
   ·obtain ⟨w',hr,h2,h3⟩:=run_append_fits (P:=P) w 0 t ty e i i.size ht hi rfl b n cap xs hown q m c news hl hq h1 hroom
    exact ⟨_,w',hr,h2,.inr (.inl ⟨b,cap,rfl,rfl,h3⟩)⟩
   ·have holds:∀j u,xs[j]?=some u→w.cell? ((⟨b,0,none⟩:Addr).add j)=some u:=hown.cells (g:=b) rfl
    have hr:=run_append_grow (P:=P) w t ty e i z ht hi hz ⟨b,0,none⟩ n cap xs hown.1 holds q m c news hl hq (by omega) (by omega) (growslice_fits (by omega) hbytes)
    exact ⟨_,_,hr,grown cap,.inr (.inr ⟨_,rfl,hgr _⟩)⟩
open Classical in
noncomputable def qw (g:Gh)(d:Nat)(v:Value)(fz:Bool)(k:Nat):Gh:=
 ⟨fun b o=>if v.ownBlock=some b then (if o<k then (if fz then .imm else .obj d (some 0)) else .obj d (some 0)) else g.who b o,fun s j=>if s=d then v else g.hs s j,g.hb⟩
theorem kE {t:El}(hnb:t.isByt=false){xs ys:List t.den}{fz:Bool}{s j d:Nat}{v v':Value}{vals news:List Value}{rs:List (Nat×ae)}
  (hrow:w.ownsRow 0 (aa t) t.size v xs.length vals) (hvr:RepL w g (ap t xs) vals) (hnr:RepL w g (ap t ys) news)
  (hown:∀b n cap,v=.slice (some ⟨b,0,none⟩) n cap→b<w.heap.size∧∀o,g.who b o=if o<xs.length*t.size then (if fz then .imm else .obj s (some j)) else .obj s (some j))
  (hrow':w'.ownsRow 0 (aa t) t.size v' (xs.length+ys.length) (vals++news))
  (hcase:(v'=v∧w'=w)∨(∃b cap,v=.slice (some ⟨b,0,none⟩) xs.length cap∧v'=.slice (some ⟨b,0,none⟩) (xs.length+ys.length) cap∧w.grownBy w' (some b))∨
    (∃cap,v'=.slice (some ⟨w.heap.size,0,none⟩) (xs.length+ys.length) cap∧w.grownBy w' none))
  (hothers:∀s' r,look s' rs=some r→aB aa w g s' r∧(s'=s→v≠.slice none 0 0→∀t fz xs,r.cs[j]?≠some (.sl t fz xs))):
  ∃g',dM aa w g w' g' d (.al d 0) v' (some ⟨false,[.sl t fz (xs++ys)]⟩) rs []:=by
 have hk:(xs.length+ys.length)*t.size=(xs++ys).length*t.size:=by rw [List.length_append]
 have hle:xs.length*t.size≤(xs.length+ys.length)*t.size:=Nat.mul_le_mul_right _ (by omega)
 -- which blocks the new owner's oI be
 have hblk:∀b,b<w.heap.size→v'.ownBlock=some b→∃m cap,v=.slice (some ⟨b,0,none⟩) m cap:=by
  intro b hb e
  rcases hcase with ⟨rfl,_⟩|⟨b',cap,e1,e2,_⟩|⟨cap,e2,_⟩
  ·rcases hrow.2 with ⟨rfl,_⟩|⟨b',cap,cur,rfl,_⟩
   ·cases e
   ·simp only [Value.ownBlock,Option.some.injEq] at e
    subst e;exact ⟨_,_,rfl⟩
  ·rw [e2] at e
   simp only [Value.ownBlock,Option.some.injEq] at e
   subst e;exact ⟨_,_,e1⟩
  ·rw [e2] at e
   simp only [Value.ownBlock,Option.some.injEq] at e
   omega
 have hwho:∀b o,b<w.heap.size→v'.ownBlock≠some b→(qw g d v' fz ((xs.length+ys.length)*t.size)).who b o=g.who b o:=by
  intro b o _ h;simp [qw,h]
 -- what has changed
 have hchg:gy w w' fun b o=>v'.ownBlock=some b∧xs.length*t.size≤o:=by
  rcases hcase with ⟨_,rfl⟩|⟨b,cap,e1,e2,hg⟩|⟨cap,e2,hg⟩
  ·exact .refl _ _
  ·subst e1;subst e2
   refine ⟨hg.os,hg.tape,hg.output,hg.size,fun k hk hn=>hg.block k hk (fun e=>?_),fun k o hk hn=>?_,fun k o hk hn=>?_,fun k hk=>?_⟩
   ·cases e;exact hn (xs.length*t.size) ⟨rfl,Nat.le_refl _⟩
   ·by_cases hkb:k=b
    ·subst hkb
     have ho:o<xs.length*t.size:=Nat.lt_of_not_le fun h=>hn ⟨rfl,h⟩
     rw [hrow'.cellAt o (by omega),hrow.cellAt o ho,List.getElem?_append_left (by rw [hrow.1];exact ho)]
    ·exact World.cell?_of_block (hg.block k hk (by simpa using hkb))
   ·by_cases hkb:k=b
    ·subst hkb
     rw [hrow'.frozenAt,hrow.frozenAt]
    ·exact World.frozen?_of_block (hg.block k hk (by simpa using hkb))
   ·by_cases hkb:k=b
    ·subst hkb
     rcases hrow.2 with ⟨e,_⟩|⟨b',cap',cur,e,_,h1,_,_,h2,_⟩
     ·cases e
     ·cases e
      rcases hrow'.2 with ⟨e,_⟩|⟨b',cap',cur',e,_,h1',_,_,h2',_⟩
      ·cases e
      ·cases e
       unfold World.shape?
       rw [h1,h1']
       simp [h2,h2']
    ·unfold World.shape?
     rw [hg.block k hk (by simpa using hkb)]
  ·exact .of_below ⟨hg.os,hg.tape,hg.output,hg.size,fun b hb=>hg.block b hb (by simp)⟩ _
 have hM:∀b o,b<w.heap.size→(v'.ownBlock=some b∧xs.length*t.size≤o)→v≠.slice none 0 0∧g.who b o=.obj s (some j):=by
  rintro b o hb ⟨h1,h2⟩
  obtain ⟨m,cap,rfl⟩:=hblk b hb h1
  refine ⟨by simp,?_⟩
  have:=(hown b m cap rfl).2 o
  rwa [if_neg (by omega)] at this
 have himm:∀b o,b<w.heap.size→g.who b o=.imm→(qw g d v' fz ((xs.length+ys.length)*t.size)).who b o=.imm:=by
  intro b o hb e
  by_cases h1:v'.ownBlock=some b
  ·obtain ⟨m,cap,rfl⟩:=hblk b hb h1
   have:=(hown b m cap rfl).2 o
   rw [e] at this
   split at this
   ·rename_i ho
    cases fz with
    |true=>simp only [qw,h1,if_true];rw [if_pos (by omega)]
    |false=>simp at this
   ·cases this
  ·rw [hwho b o hb h1,e]
 have hrest:∀b o q,b<w.heap.size→g.who b o=q→q≠.imm→q≠.obj s (some j)→(qw g d v' fz ((xs.length+ys.length)*t.size)).who b o=q:=by
  intro b o q hb e hq hq2
  by_cases h1:v'.ownBlock=some b
  ·obtain ⟨m,cap,rfl⟩:=hblk b hb h1
   have:=(hown b m cap rfl).2 o
   rw [e] at this
   split at this
   ·split at this
    ·exact absurd this hq
    ·exact absurd this hq2
   ·exact absurd this hq2
  ·rw [hwho b o hb h1,e]
 have hga:GA w g (qw g d v' fz ((xs.length+ys.length)*t.size)) fun s' _=>s'=d:=by
  refine ⟨himm,fun b o hb e=>hrest b o _ hb e (by simp) (by simp),fun s' j' hn=>?_,fun s' _=>rfl⟩
  simp [qw,show¬s'=d from hn]
 have hM':∀b o,b<w.heap.size→(v'.ownBlock=some b∧xs.length*t.size≤o)→∃s x,g.who b o=.obj s x:=fun b o hb hm=>⟨_,_,(hM b o hb hm).2⟩
 have hv':∃ad m cap,v'=.slice ad m cap:=by
  rcases hrow'.2 with ⟨e,_⟩|⟨_,_,_,e,_⟩
  ·exact ⟨_,_,_,e⟩
  ·exact ⟨_,_,_,e⟩
 have hhs:(qw g d v' fz ((xs.length+ys.length)*t.size)).hs d 0=v':=by simp [qw]
 refine ⟨qw g d v' fz ((xs.length+ys.length)*t.size),⟨⟨hchg.mono hM',himm,hga.bor,fun b o hb e=>hrest b o _ hb e (by simp) (by simp),fun s _=>rfl⟩,?_,?_,?_,?_,?_⟩⟩
 ·rintro b u hb (h|h) _
  ·cases h
  ·exact hb.pres hchg hM' hga h
 ·obtain ⟨ad,m,cap,e⟩:=hv'
  have:=hhs
  rw [e] at this ⊢
  exact .al d 0 _ _ _ this
 ·intro h;cases h
 ·intro _ s' r hr hs'
  obtain ⟨h1,h2⟩:=hothers s' r hr
  show aB aa w' _ s' ⟨r.box,killC d r.cs⟩
  refine (h1.kill d).pres2 hchg hga (fun b o hb hm=>?_) (fun b o x hb e hx=>?_) (fun _=>hs') (fun b hb=>fg hb)
  ·obtain ⟨q1,q2⟩:=hM b o hb hm
   refine ⟨_,_,q2,?_⟩
   by_cases hss:s=s'
   ·refine .inr ⟨j,rfl,fun t fz xs e=>?_⟩
    rw [cS] at e
    cases hc:r.cs[j]? with
    |none=>rw [hc] at e;cases e
    |some c=>
     rw [hc] at e
     cases c with
     |av b=>simp [ah.kill] at e
     |sl u f zs=>exact h2 hss.symm q1 u f zs hc
   ·exact .inl hss
  ·by_cases hb1:v'.ownBlock=some b
   ·exfalso
    obtain ⟨m,cap,hv⟩:=hblk b hb hb1
    have:=(hown b m cap hv).2 o
    rw [e] at this
    have hsx:Af.obj s' x=.obj s (some j):=by
     split at this
     ·split at this
      ·cases this
      ·exact this
     ·exact this
    cases hsx
    obtain ⟨t,fz,xs,e2⟩:=hx j rfl
    rw [cS] at e2
    cases hc:r.cs[j]? with
    |none=>rw [hc] at e2;cases e2
    |some c=>
     rw [hc] at e2
     cases c with
     |av b=>simp [ah.kill] at e2
     |sl u f zs=>exact h2 rfl (by rw [hv];simp) u f zs hc
   ·rw [hwho b o hb hb1,e]
 ·intro q hq
  cases hq
  refine ⟨fun _ i u f zs hi=>?_,fun h=>by cases h⟩
  cases i with
  |succ i=>simp [killC] at hi
  |zero=>
   simp only [killC,ah.kill,List.getElem?_cons_zero,Option.some.injEq] at hi
   cases hi
   have hall:RepL w g (ap t (xs++ys)) (vals++news):=by
    have:ap t (xs++ys)=ap t xs++ap t ys:=by simp [ap]
    rw [this];exact hvr.append hnr
   refine ⟨.inl ⟨⟨vals++news,?_,hall.1,fun i h h'=>(hall.2 i h h').pres hchg hM' hga (c8 _ t _ _ (List.getElem_mem h))⟩,?_⟩⟩
   ·rw [hhs,List.length_append];exact gz.of hrow' hnb
   ·intro b m cap e
    rw [hhs] at e
    refine ⟨?_,fun o=>?_⟩
    ·rcases hrow'.2 with ⟨e2,_⟩|⟨b',cap',cur,e2,_,hh,_⟩
     ·rw [e2] at e;cases e
     ·rw [e2] at e;cases e
      exact (Array.getElem?_eq_some_iff.mp hh).1
    ·rw [←hk]
     have:v'.ownBlock=some b:=by rw [e];rfl
     simp only [qw,this,if_true]
theorem vT.row_rep {s j:Nat}{t:El}{fz:Bool}{xs:List t.den}(h:vT aa w g s j t fz xs)(ht:t.isByt=false):∃vals,w.ownsRow 0 (aa t) t.size (g.hs s j) xs.length vals∧RepL w g (ap t xs) vals:=by
 obtain ⟨vals,h1,h2,h3⟩:=h.row
 exact ⟨vals,h1.row ht,h2,h3⟩
theorem nJ {t:El}{ys:List t.den}{v:Value}(h:∃ad cap,v=.slice ad ys.length cap∧ys.length≤cap∧(ys≠[]→∃(b o:Nat) (vals:Nat→Value),ad=some ⟨b,o,none⟩∧∀j (h:j<(ap t ys).length),w.cell? ⟨b,o+j,none⟩=some (vals j)∧RepA w g ((ap t ys)[j]) (vals j))):
  ∃ad cap news,v=.slice ad ys.length cap∧ys.length≤cap∧RepL w g (ap t ys) news∧news.length=ys.length*t.size∧(∀u∈news,u.oneCell'=true)∧
   (ys.length≠0→∃b o,ad=some ⟨b,o,none⟩∧∀(j:Nat) (u:Value),news[j]?=some u→w.cell? ⟨b,o+j,none⟩=some u):=by
 obtain ⟨ad,cap,rfl,hcap,hc⟩:=h
 by_cases hy:ys=[]
 ·subst hy
  exact ⟨ad,cap,[],rfl,hcap,.nil,by simp,fun u hu=>by simp at hu,fun h=>absurd rfl h⟩
 ·obtain ⟨b,o,vals,rfl,hv⟩:=hc hy
  have hl:RepL w g (ap t ys) ((List.range (ap t ys).length).map vals):=⟨by simp,fun j hj hj'=>by simp only [List.getElem_map,List.getElem_range];exact (hv j hj).2⟩
  refine ⟨_,cap,_,rfl,hcap,hl,by simp [aw],hl.one (uh t ys),fun _=>⟨b,o,rfl,fun j u hu=>?_⟩⟩
  obtain ⟨h1,h2⟩:=List.getElem?_eq_some_iff.mp hu
  simp only [List.getElem_map,List.getElem_range] at h2
  rw [←h2];exact (hv j (by simpa using h1)).1
theorem sT {c:Call}{x y:Operand}(h:c.args.toList=[x,y]):c.args.map a.eval=#[a.eval x,a.eval y]:=by
 apply Array.toList_inj.mp;simp [h]
theorem rL {c:Call}{T T':TypeId}(h:c.argTypes.toList=[T,T']):c.argTypes=#[T,T']:=by
 apply Array.toList_inj.mp;simp [h]
theorem gm {t e:TypeId}(ty:TypeId){i:TypeInfo}{z:Value}{size bytes:Nat}(ht:P.underlying t=some (.slice e))(hi:P.info? e=some i)(hz:i.zero=some z)
  (hsize:i.size=size) (hby:i.bytes=bytes) (hzs:z.cells.size=size) (b:Option Addr)
  {ad:Option Addr}{m c:Nat}{news:List Value} (hl:news.length=m*size) (hnews:m≠0→∃q,ad=some q∧∀j u,news[j]?=some u→w.cell? (q.add j)=some u)
  (h63:m≤maxLen) (hbytes:m*bytes≤140737488355328):
  ∃v' w',(Builtin.append_ #[t,t] ty #[.slice b 0 0,.slice ad m c]).run P w=.ok v' w'∧
   ((m=0∧v'=.slice b 0 0∧w'=w)∨(w'.ownsRow 0 e size v' m news∧∃cap,v'=.slice (some ⟨w.heap.size,0,none⟩) m cap∧w.grownBy w' none)):=by
 subst hsize
 subst hby
 by_cases hm:m=0
 ·subst hm
  have hn:news=[]:=List.eq_nil_of_length_eq_zero (by simpa using hl)
  subst hn
  refine ⟨.slice b 0 0,w,?_,.inl ⟨rfl,rfl,rfl⟩⟩
  cases b<;>cases ad<;>simp [Builtin.append_,run_underlying ht,sizeOf,typeInfo,hi,Builtin.lenOf,Builtin.firstCells,storeCells,loadCells,loadCellsFrom]
 ·obtain ⟨q,rfl,hq⟩:=hnews hm
  have hge:=grownCap_ge w m 0 e
  have hcm:=grownCap_le_maxLen w m 0 e h63
  have h0:(w.drew.alloc (.cells (news.toArray++Builtin.zeroCells z.cells (grownCap w m 0 e - m)) e)).ownsRow 0 e i.size (.slice (some ⟨w.heap.size,0,none⟩) m (grownCap w m 0 e)) m news:=by
   refine ⟨hl,.inr ⟨w.heap.size,_,_,rfl,Nat.zero_le _,heap_alloc_new w.drew _,hge,hcm,?_,?_⟩⟩
   ·simp only [Array.size_append,List.size_toArray,size_zeroCells,hzs,hl,←Nat.add_mul]
    congr 1;omega
   ·simp only [Array.toList_append]
    rw [←hl,List.take_left' (by simp)]
  have hgr:∀o:Obj,w.grownBy (w.drew.alloc o) none:=fun o=>⟨rfl,rfl,rfl,by simp,fun k hk _=>heap_alloc_old w.drew _ k hk⟩
  cases b with
  |none=>
   have hr:=run_append_nil (P:=P) w t ty e i z ht hi hz q m c news hl hq (by omega) (by simp only [maxLen] at h63;omega) (by omega)
   exact ⟨_,_,hr,.inr ⟨h0,_,rfl,hgr _⟩⟩
  |some b=>
   have hr:=run_append_grow (P:=P) w t ty e i z ht hi hz b 0 0 [] (by simp) (fun j v h=>by simp at h) q m c news hl hq (by omega) (by simp only [maxLen] at h63;omega) (growslice_fits (by omega) (by rw [Nat.zero_add];exact hbytes))
   simp only [Nat.zero_add,Array.empty_append] at hr
   exact ⟨_,_,hr,.inr ⟨h0,_,rfl,hgr _⟩⟩
theorem qP {t:El}{ys:List t.den}{d:Nat}{b:Option Addr}{v':Value}{news:List Value}{rs:List (Nat×ae)}(hnr:RepL w g (ap t ys) news)
  (hcase:(ys.length=0∧v'=.slice b 0 0∧w'=w)∨(w'.ownsRow 0 (aa t) t.size v' ys.length news∧∃cap,v'=.slice (some ⟨w.heap.size,0,none⟩) ys.length cap∧w.grownBy w' none))
  (hroots:∀s r,look s rs=some r→aB aa w g s r):∃g',dM aa w g w' g' d (.L t ys) v' none rs []:=by
 rcases hcase with ⟨h0,rfl,rfl⟩|⟨hrow,cap,rfl,hg⟩
 ·have:ys=[]:=List.eq_nil_of_length_eq_zero h0
  subst this
  exact ⟨g,.plain (M:=fun _ _=>False) (gy.refl _ _) (fun _ _ _ h=>h.elim) (.lnil t _ _) hroots⟩
 ·have hne:∀b,b<w.heap.size→¬b=w.heap.size:=fun b hb=>by omega
  have hchg:gy w w' fun _ _=>False:=.of_below ⟨hg.os,hg.tape,hg.output,hg.size,fun b hb=>hg.block b hb (by simp)⟩ _
  let g':Gh:=⟨fun b o=>if b=w.heap.size then .imm else g.who b o,g.hs,g.hb⟩
  have hga:GA w g g' fun _ _=>False:=⟨fun b o hb h=>by simp [g',hne b hb,h],fun b o hb h=>by simp [g',hne b hb,h],fun _ _ _=>rfl,fun _ _=>rfl⟩
  have keep:∀b u,RepA w g b u→RepA w' g' b u:=fun b u h=>h.pres hchg (fun _ _ _ h=>h.elim) hga (aG b)
  refine ⟨g',⟨⟨hchg.mono fun _ _ _ h=>h.elim,fun b o hb h=>by simp [g',hne b hb,h],fun b o hb h=>by simp [g',hne b hb,h],fun b o hb h=>by simp [g',hne b hb,h],fun _ _=>rfl⟩,fun b u h _ _=>keep b u h,?_,fun _ s r hr=>?_,fun h=>absurd rfl h,fun q h=>by cases h⟩⟩
  ·have hcells:∀(j:Nat) (u:Value),news[j]?=some u→w'.cell? ((⟨w.heap.size,0,none⟩:Addr).add j)=some u:=hrow.cells (g:=w.heap.size) rfl
   have hle:ys.length≤cap:=by
    rcases hrow.2 with ⟨e,_⟩|⟨b',cap',cur,e,_,_,h1,_⟩
    ·cases e
    ·cases e;exact h1
   refine .list t ys w.heap.size 0 cap (fun j=>news.getD j undef) hle (fun j hj=>⟨by simp [g'],?_⟩) (fun j hj=>?_)
   ·have hj':j<news.length:=by rw [hnr.1];exact hj
    have:=hcells j news[j] (List.getElem?_eq_getElem hj')
    rw [Addr.add_lit] at this
    rw [this,List.getD_eq_getElem?_getD,List.getElem?_eq_getElem hj'];rfl
   ·have hj':j<news.length:=by rw [hnr.1];exact hj
    have:=keep _ _ (hnr.2 j hj hj')
    rw [List.getD_eq_getElem?_getD,List.getElem?_eq_getElem hj'];exact this
  ·show aB aa w' g' s ⟨r.box,killBs [] r.cs⟩
   exact (hroots s r hr).pres (M:=fun _ _=>False) (N:=fun _ _=>False) hchg hga (fun _ _ _ h=>h.elim) (fun b o x hb e=>by simp [g',hne b hb,e]) (fun _ h=>h) (fun b _=>aG b)
theorem gu {t:El}(ht:t≠.int .u8)(hnb:t.isByt=false){ys:List t.den}{fz:Bool}{d:Nat}{b:Option Addr}{v':Value}{news:List Value}{rs:List (Nat×ae)}(hnr:RepL w g (ap t ys) news)
  (hcase:(ys.length=0∧v'=.slice b 0 0∧w'=w)∨(w'.ownsRow 0 (aa t) t.size v' ys.length news∧∃cap,v'=.slice (some ⟨w.heap.size,0,none⟩) ys.length cap∧w.grownBy w' none))
  (hroots:∀s r,look s rs=some r→aB aa w g s r):∃g',dM aa w g w' g' d (.al d 0) v' (some ⟨false,[.sl t fz ys]⟩) rs []:=by
 rcases hcase with ⟨h0,rfl,rfl⟩|⟨hrow,cap,rfl,hg⟩
 ·have:ys=[]:=List.eq_nil_of_length_eq_zero h0
  subst this
  let g':Gh:=⟨g.who,fun s j=>if s=d then .slice b 0 0 else g.hs s j,g.hb⟩
  have hga:GA w' g g' fun s' _=>s'=d:=⟨fun _ _ _ h=>h,fun _ _ _ h=>h,fun s' j' hn=>by simp [g',show¬s'=d from hn],fun _ _=>rfl⟩
  have hchg:gy w' w' fun _ _=>False:=.refl _ _
  have hhs:g'.hs d 0=.slice b 0 0:=by simp [g']
  refine ⟨g',⟨⟨hchg.mono fun _ _ _ h=>h.elim,fun _ _ _ h=>h,fun _ _ _ h=>h,fun _ _ _ h=>h,fun _ _=>rfl⟩,?_,.al d 0 _ _ _ hhs,(fun h=>by cases h),?_,?_⟩⟩
  ·rintro b u hb (h|h) _
   ·cases h
   ·exact hb.pres hchg (fun _ _ _ h=>h.elim) hga h
  ·intro _ s' r hr hs'
   show aB aa w' _ s' ⟨r.box,killC d r.cs⟩
   exact ((hroots s' r hr).kill d).pres2 hchg hga (fun _ _ _ hm=>hm.elim) (fun _ _ _ _ e _=>e) (fun _=>hs') (fun b hb=>fg hb)
  ·intro q hq
   cases hq
   refine ⟨fun _ i u f zs hi=>?_,fun h=>by cases h⟩
   cases i with
   |succ i=>simp [killC] at hi
   |zero=>
    simp only [killC,ah.kill,List.getElem?_cons_zero,Option.some.injEq] at hi
    cases hi
    exact ⟨.inr ⟨ht,rfl,b,hhs⟩⟩
 ·have:=kE (aa:=aa) (hnb:=hnb) (w:=w) (w':=w') (g:=g) (t:=t) (xs:=[]) (ys:=ys) (fz:=fz) (s:=0) (j:=0) (d:=d) (v:=.slice none 0 0) (v':=.slice (some ⟨w.heap.size,0,none⟩) ys.length cap) (vals:=[]) (news:=news) (rs:=rs) (World.ownsRow_nil w 0 _ _) .nil hnr
   (fun b n cap e=>by cases e) (by simpa using hrow) (.inr (.inr ⟨cap,by simp,hg⟩)) (fun s' r' hr'=>⟨hroots s' r' hr',fun _ h=>absurd rfl h⟩)
  simpa using this
theorem rX {R:Type}{E:TypeId→Option gA}(hE:∀T i,E T=some i→eX P aa T i){o:Oper}{κ:AV→Option ae→List (Nat×ae)→List Nat→Option R}{r:R}{c:Call}{d:Nat}
  (ho:o.op=.call c) (hb:c.callee=.builtin .append) (h:(match c.args.toList,c.argTypes.toList with
   |[b,x],[T,T']=>
    match bif Nat.beq T T' then E T else none with
    |some i=>
     match i.elem with
     |some t=>
      match fp S t (S.ev x) with
      |some ys=>
       match S.ev b with
       |.nils=>bif decide (ys.length*i.ebytes≤140737488355328) then κ (.al d 0) (some ⟨false,[.sl t false ys]⟩) S.roots [] else none
       |.emp=>bif decide (ys.length*i.ebytes≤140737488355328) then (bif t.isU8 then κ (.L t ys) none S.roots [] else κ (.al d 0) (some ⟨false,[.sl t false ys]⟩) S.roots []) else none
       |.al s j=>
        match S.cell s j with
        |some (.sl u b xs)=>
         if h:u=t then
          bif decide ((xs.length+ys.length)*i.ebytes≤140737488355328) then
           κ (.al d 0) (some ⟨false,[.sl t b ((h ▸ xs)++ys)]⟩) (S.setCell s j (.av .und)).roots []
          else none
         else none
        |_=>none
       |.bal s j _ _=>
        (S.cell s j).bind fun c=>(Ac t c).bind fun p=>
         bif decide ((p.2.length+ys.length)*i.ebytes≤140737488355328) then
          κ (.al d 0) (some ⟨false,[.sl t p.1 (p.2++ys)]⟩) (S.setCell s j (.av .und)).roots []
         else none
       |_=>none
      |none=>none
     |none=>none
    |none=>none
   |_,_=>none)=some r) (hS:aV aa n w g S a):nF aa P w g a o d κ r:=by
 split at h
 ·rename_i b x T T' hargs htys
  cases hT:Nat.beq T T' with
  |false=>rw [hT] at h;cases h
  |true=>
   rw [hT] at h
   have hTT:=Nat.eq_of_beq_eq_true hT
   subst hTT
   simp only [cond] at h
   split at h
   ·rename_i i hi
    split at h
    ·rename_i t ht
     split at h
     ·rename_i ys hys
      obtain ⟨hu,hid,hok⟩:=(hE T i hi).elem t ht
      obtain ⟨inf,z,i1,i2,i3,i4,i5,i6⟩:=hok.inf
      obtain ⟨ad,cap,news,e2,hcap,hnr,hnl,hn1,hnc⟩:=nJ (jO hys hS (hS.ev x))
      have hpos:=eK t
      have hbb:=hS.ev b
      have hnews:ys.length≠0→∃q,ad=some q∧∀(j:Nat) (u:Value),news[j]?=some u→w.cell? (q.add j)=some u:=by
       intro hne
       obtain ⟨b',o',e,hc⟩:=hnc hne
       exact ⟨_,e,fun j u hu=>by rw [Addr.add_lit];exact hc j u hu⟩
      have hrun:∀v' w',(Builtin.append_ #[T,T] o.type #[a.eval b,a.eval x]).run P w=.ok v' w'→(execOp a.eval o).run P w=.ok (.value v') w':=by
       intro v' w' hr
       refine ej ho hb (s:=Builtin.append_ #[T,T] o.type #[a.eval b,a.eval x]) (fun k=>?_) hr
       rw [sT hargs,rL htys];rfl
      have h63:∀k:Nat,k*i.ebytes≤140737488355328→k≤maxLen:=by
       intro k hk
       have:k≤k*i.ebytes:=Nat.le_mul_of_pos_right _ hok.pos
       simp only [maxLen];omega
      split at h
      ·rename_i hev
       rw [hev] at hbb
       have eb:a.eval b=.slice none 0 0:=by cases hv:a.eval b<;>rw [hv] at hbb<;>cases hbb<;>rfl
       cases hd:decide (ys.length*i.ebytes≤140737488355328) with
       |false=>rw [hd] at h;cases h
       |true=>
        rw [hd] at h
        have hd':=of_decide_eq_true hd
        obtain ⟨v',w',hr,hrow',hcase⟩:=jQ (P:=P) (w:=w) o.type hu i1 i4 i2 i3 i5 hpos (World.ownsRow_nil w 0 i.elemT t.size) (ad:=ad) (m:=ys.length) (c:=cap) hnl hnews hn1 (by rw [Nat.zero_add];exact h63 _ hd') (by rw [Nat.zero_add];exact hd')
        rw [←e2,←eb] at hr
        obtain ⟨g',hok⟩:=kE (aa:=aa) (hnb:=hok.nb) (g:=g) (t:=t) (xs:=[]) (ys:=ys) (fz:=false) (s:=0) (j:=0) (d:=d) (vals:=[]) (news:=news) (rs:=S.roots) (by rw [←hid];exact World.ownsRow_nil w 0 i.elemT t.size) .nil hnr
         (fun b n cap e=>by cases e) (by rw [←hid];exact hrow') (by simpa using hcase) (fun s' r' hr'=>⟨hS.rt s' r' hr',fun _ h=>absurd rfl h⟩)
        exact nF.value h (hrun _ _ hr) hok
      ·rename_i hev
       rw [hev] at hbb
       obtain ⟨b0,eb⟩:∃b0,a.eval b=.slice b0 0 0:=by cases hv:a.eval b<;>rw [hv] at hbb<;>cases hbb<;>exact ⟨_,rfl⟩
       cases hd:decide (ys.length*i.ebytes≤140737488355328) with
       |false=>rw [hd] at h;cases h
       |true=>
        rw [hd] at h
        have hd':=of_decide_eq_true hd
        obtain ⟨v',w',hr,hcase⟩:=gm (P:=P) (w:=w) o.type hu i1 i4 i2 i3 i5 b0 (ad:=ad) (m:=ys.length) (c:=cap) hnl hnews (h63 _ hd') hd'
        rw [←e2,←eb] at hr
        rw [hid] at hcase
        cases hu8:t.isU8 with
        |true=>
         rw [hu8] at h
         obtain ⟨g',hok⟩:=qP (aa:=aa) (g:=g) (t:=t) (ys:=ys) (d:=d) (rs:=S.roots) hnr hcase (fun s' r' hr'=>hS.rt s' r' hr')
         exact nF.value h (hrun _ _ hr) hok
        |false=>
         rw [hu8] at h
         obtain ⟨g',hok⟩:=gu (hnb:=hok.nb) (aa:=aa) (g:=g) (t:=t) (by rintro rfl;cases hu8) (ys:=ys) (fz:=false) (d:=d) (rs:=S.roots) hnr hcase (fun s' r' hr'=>hS.rt s' r' hr')
         exact nF.value h (hrun _ _ hr) hok
      ·rename_i s j hev
       rw [hev] at hbb
       obtain ⟨eb,_⟩:=hbb.al_inv
       split at h
       ·rename_i u fz xs hcell
        split at h
        ·rename_i hut
         subst hut
         cases hd:decide ((xs.length+ys.length)*i.ebytes≤140737488355328) with
         |false=>rw [hd] at h;cases h
         |true=>
          rw [hd] at h
          have hd':=of_decide_eq_true hd
          obtain ⟨root,hroot,hcj⟩:=bW hcell
          have roots:∀s' r',look s' (S.setCell s j (.av .und)).roots=some r'→aB aa w g s' r':=fun s' r' hr'=>by
           rw [bN hroot] at hr'
           by_cases hss:s'=s
           ·subst hss
            rw [if_pos rfl] at hr'
            cases hr'
            exact (hS.root hroot).forget j
           ·rw [if_neg hss] at hr'
            exact hS.rt s' r' hr'
          rcases (hS.cell hcell).c with hs|⟨hu8,hx,a0,e0⟩
          rotate_left
          ·subst hx
           obtain ⟨v',w',hr,hcase⟩:=gm (P:=P) (w:=w) o.type hu i1 i4 i2 i3 i5 a0 (ad:=ad) (m:=ys.length) (c:=cap) hnl hnews (h63 _ (by simpa using hd')) (by simpa using hd')
           rw [←e2,←e0,←eb] at hr
           rw [hid] at hcase
           obtain ⟨g',hok⟩:=gu (hnb:=hok.nb) (aa:=aa) (g:=g) (t:=u) hu8 (ys:=ys) (fz:=fz) (d:=d) (rs:=(S.setCell s j (.av .und)).roots) hnr hcase roots
           exact nF.value h (hrun _ _ hr) hok
          obtain ⟨vals,hrow,hvr⟩:=hs.row_rep hok.nb
          obtain ⟨v',w',hr,hrow',hcase⟩:=jQ (P:=P) (w:=w) o.type hu i1 i4 i2 i3 i5 hpos (by rw [←hid] at hrow;exact hrow) (ad:=ad) (m:=ys.length) (c:=cap) hnl hnews hn1 (h63 _ hd') hd'
          rw [←e2,←eb] at hr
          obtain ⟨g',hok⟩:=kE (aa:=aa) (hnb:=hok.nb) (g:=g) (t:=u) (xs:=xs) (ys:=ys) (fz:=fz) (s:=s) (j:=j) (d:=d) (vals:=vals) (news:=news) (rs:=(S.setCell s j (.av .und)).roots) hrow hvr hnr
           hs.own (by rw [←hid];exact hrow') hcase (fun s' r' hr'=>by
            rw [bN hroot] at hr'
            by_cases hss:s'=s
            ·subst hss
             rw [if_pos rfl] at hr'
             cases hr'
             refine ⟨(hS.root hroot).forget j,fun _ _ t fz xs e=>?_⟩
             simp only [List.getElem?_set_self'] at e
             rw [hcj] at e
             cases e
            ·rw [if_neg hss] at hr'
             exact ⟨hS.rt s' r' hr',fun h=>absurd h hss⟩)
          exact nF.value h (hrun _ _ hr) hok
        ·cases h
       ·cases h
      ·rename_i s j _ _ hev
       rw [hev] at hbb
       have eb:=hbb.bal_inv.1
       obtain ⟨c',hc',h⟩:=Option.bind_eq_some_iff.1 h
       obtain ⟨p,hp,h⟩:=Option.bind_eq_some_iff.1 h
       have hcell:=hc'
       rw [pO hp] at hcell
       cases hd:decide ((p.2.length+ys.length)*i.ebytes≤140737488355328) with
       |false=>rw [hd] at h;cases h
       |true=>
        rw [hd] at h
        have hd':=of_decide_eq_true hd
        obtain ⟨root,hroot,hcj⟩:=bW hcell
        have roots:∀s' r',look s' (S.setCell s j (.av .und)).roots=some r'→aB aa w g s' r':=fun s' r' hr'=>by
         rw [bN hroot] at hr'
         by_cases hss:s'=s
         ·subst hss
          rw [if_pos rfl] at hr'
          cases hr'
          exact (hS.root hroot).forget j
         ·rw [if_neg hss] at hr'
          exact hS.rt s' r' hr'
        rcases (hS.cell hcell).c with hs|⟨hu8,hx,a0,e0⟩
        rotate_left
        ·rw [hx] at h hd'
         obtain ⟨v',w',hr,hcase⟩:=gm (P:=P) (w:=w) o.type hu i1 i4 i2 i3 i5 a0 (ad:=ad) (m:=ys.length) (c:=cap) hnl hnews (h63 _ (by simpa using hd')) (by simpa using hd')
         rw [←e2,←e0,←eb] at hr
         rw [hid] at hcase
         obtain ⟨g',hok⟩:=gu (hnb:=hok.nb) (aa:=aa) (g:=g) (t:=t) hu8 (ys:=ys) (fz:=p.1) (d:=d) (rs:=(S.setCell s j (.av .und)).roots) hnr hcase roots
         exact nF.value h (hrun _ _ hr) hok
        obtain ⟨vals,hrow,hvr⟩:=hs.row_rep hok.nb
        obtain ⟨v',w',hr,hrow',hcase⟩:=jQ (P:=P) (w:=w) o.type hu i1 i4 i2 i3 i5 hpos (by rw [←hid] at hrow;exact hrow) (ad:=ad) (m:=ys.length) (c:=cap) hnl hnews hn1 (h63 _ hd') hd'
        rw [←e2,←eb] at hr
        obtain ⟨g',hok⟩:=kE (aa:=aa) (hnb:=hok.nb) (g:=g) (t:=t) (xs:=p.2) (ys:=ys) (fz:=p.1) (s:=s) (j:=j) (d:=d) (vals:=vals) (news:=news) (rs:=(S.setCell s j (.av .und)).roots) hrow hvr hnr
         hs.own (by rw [←hid];exact hrow') hcase (fun s' r' hr'=>by
          rw [bN hroot] at hr'
          by_cases hss:s'=s
          ·subst hss
           rw [if_pos rfl] at hr'
           cases hr'
           refine ⟨(hS.root hroot).forget j,fun _ _ t' fz' xs' e=>?_⟩
           simp only [List.getElem?_set_self'] at e
           rw [hcj] at e
           cases e
          ·rw [if_neg hss] at hr'
           exact ⟨hS.rt s' r' hr',fun h=>absurd h hss⟩)
        exact nF.value h (hrun _ _ hr) hok
      ·cases h
     ·cases h
    ·cases h
   ·cases h
 ·cases h
end
end Go.Proofs.YtjkokaockhecnaaGreatDoorA
