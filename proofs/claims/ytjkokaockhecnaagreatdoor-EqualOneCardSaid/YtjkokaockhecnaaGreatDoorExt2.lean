/- What the machine answers of functions of Go's library, the library answers. -/
import Derived.Test.YtjkokaockhecnaaGreatDoorChk
import Derived.Test.YtjkokaockhecnaaGreatDoorExt
import Derived.Lib.LaidTab
import Derived.Lib.AppendIntMem
namespace Go.Proofs.YtjkokaockhecnaaGreatDoorA
open Go
theorem wO {P:Program}{w w':World}{g:Nat}{name:String}{k:IntKind}{zs:List Int}(hg:P.globalNamed name=some g)(h:w'.heap[g]?=w.heap[g]?)(hp:Lib.TabIs P w name k zs):Lib.TabIs P w' name k zs:=by
 unfold Lib.TabIs World.var? at*
 rw [hg] at hp ⊢
 simp only [Option.bind_some] at hp ⊢
 rw [h];exact hp
theorem E9 {P:Program}{w:World}{g:Nat}{name:String}{k:IntKind}{zs:List Int}(hg:P.globalNamed name=some g)(hp:Lib.TabIs P w name k zs):g<w.heap.size:=by
 unfold Lib.TabIs World.var? at hp
 rw [hg] at hp
 simp only [Option.bind_some] at hp
 rcases Nat.lt_or_ge g w.heap.size with h|h
 ·exact h
 ·rw [Array.getElem?_eq_none h] at hp;cases hp
theorem zn {aa:bb}{w:World}{g:Gh}{s:bq}{r:s.den}{l:List UInt8}(hs:s=⟨[.one .str],[]⟩)(hr:HEq r l):rQ aa w g s r (.string ⟨l.toArray⟩):=by
 subst hs
 have e:r=l:=eq_of_heq hr
 subst e
 refine ⟨af.str _,⟨fun _ j t fz xs h=>?_,fun h=>by cases h⟩,fun i cs h=>?_⟩
 ·cases j with
  |zero=>cases h
  |succ j=>cases h
 ·cases h
theorem jc.str {P:Program}{aa:bb}{sig:FuncId→bq}{f:FuncId}{args:List mo}{r:(sig f).den}{l:List UInt8}(hs:sig f=⟨[.one .str],[]⟩)(hr:HEq r l)(hb:kr P f)
  (hc:∀w g vals,fO aa w g args vals→Calls P f vals.toArray w fun e w'=>e=.returned (.string ⟨l.toArray⟩)∧RowKit.Below w.heap.size w w'):jc P aa sig f args r:=by
 refine ⟨hb,fun w g vals ha=>(hc w g vals ha).mono ?_⟩
 rintro e w' ⟨rfl,hw⟩
 exact ⟨_,g,rfl,⟨jb.of_below hw _,fun _ _ _ h=>h,fun _ _ _ h=>h,fun _ _ _ h=>h,fun _ _=>rfl⟩,zn hs hr⟩
theorem fO.one {aa:bb}{w:World}{g:Gh}{a:AV}{vals:List Value}(h:fO aa w g [.v a] vals):∃v,vals=[v]∧af w g a v:=by
 obtain ⟨v,h1,h2⟩:=h.val 0 a rfl
 have hl:=h.len
 match vals,hl,h1 with
 |[u],_,h1=>cases h1;exact ⟨_,rfl,h2⟩
theorem fO.two {aa:bb}{w:World}{g:Gh}{a b:AV}{vals:List Value}(h:fO aa w g [.v a,.v b] vals):∃u v,vals=[u,v]∧af w g a u∧af w g b v:=by
 obtain ⟨u,h1,h2⟩:=h.val 0 a rfl
 obtain ⟨v,h3,h4⟩:=h.val 1 b rfl
 have hl:=h.len
 match vals,hl,h1,h3 with
 |[x,y],_,h1,h3=>cases h1;cases h3;exact ⟨_,_,rfl,h2,h4⟩
theorem C4 {P:Program}{aa:bb}{sig:FuncId→bq}{f:FuncId}{args:List mo}{l:List UInt8}{r:(sig f).den}(hs:sig f=⟨[.one .str],[]⟩)(hb:kr P f)
  (hc:∀n,-9223372036854775808≤n→n≤9223372036854775807→∀w,Lib.TabIs P w "internal/strconv.uint64pow10" .u64 Lib.pow10Tab→Calls P f #[.int .i64 n] w fun e w'=>e=.returned (.string ⟨(Lib.itoa n).toArray⟩)∧∃k os,w'=Sort.grow (w.drewN k) os)
  (hp:∀w,aa.p w→Lib.TabIs P w "internal/strconv.uint64pow10" .u64 Lib.pow10Tab) (h0:sn args=some l) (hr:HEq r l):jc P aa sig f args r:=by
 obtain ⟨n,rfl,h⟩:∃n,args=[.v (.int .i64 n)]∧nf n=some l:=by
  unfold sn at h0
  split at h0
  ·exact ⟨_,rfl,h0⟩
  ·cases h0
 unfold nf at h
 cases hd:decide (-9223372036854775808≤n)&&decide (n≤9223372036854775807) with
 |false=>rw [hd] at h;cases h
 |true=>
  rw [hd] at h
  cases h
  rw [Bool.and_eq_true,decide_eq_true_iff,decide_eq_true_iff] at hd
  refine .str hs hr hb fun w g vals ha=>?_
  obtain ⟨v,rfl,hv⟩:=ha.one
  cases hv
  refine (hc n hd.1 hd.2 w (hp w ha.tb.1)).mono ?_
  rintro e w' ⟨rfl,k,os,rfl⟩
  exact ⟨rfl,Lib.below_grow _ w (Nat.le_refl _) k os⟩
theorem BV {P:Program}{aa:bb}{sig:FuncId→bq}{f:FuncId}{args:List mo}{l:List UInt8}{r:(sig f).den}(hs:sig f=⟨[.one .str],[]⟩)(hb:kr P f)
  (hc0:∀a c sep w,Calls P f #[.slice a 0 c,.string sep] w fun e w'=>e=.returned (.string ⟨#[]⟩)∧w'=w)
  (hc:∀bk o c (xs:List ByteArray) sep (w:World),(∀(j:Nat) x,xs[j]?=some x→w.cell? ⟨bk,o+j,none⟩=some (.string x))→bk<w.heap.size→xs.length≤140737488355328→xs.length≤c→(Lib.join (xs.map (·.data.toList)) sep.data.toList).length≤140737488355328→
   Calls P f #[.slice (some ⟨bk,o,none⟩) xs.length c,.string sep] w fun e w'=>e=.returned (.string ⟨(Lib.join (xs.map (·.data.toList)) sep.data.toList).toArray⟩)∧RowKit.Below w.heap.size w w')
  (h0:qN args=some l) (hr:HEq r l):jc P aa sig f args r:=by
 obtain ⟨xs,s,rfl,h⟩:∃xs s,args=[.v (.L .str xs),.v (.str s)]∧nv xs s=some l:=by
  unfold qN at h0
  split at h0
  ·exact ⟨_,_,rfl,h0⟩
  ·cases h0
 unfold nv at h
 cases hd:decide (xs.length≤140737488355328)&&decide ((Lib.join xs s).length≤140737488355328) with
 |false=>rw [hd] at h;cases h
 |true=>
  rw [hd] at h
  cases h
  rw [Bool.and_eq_true,decide_eq_true_iff,decide_eq_true_iff] at hd
  refine .str hs hr hb fun w g vals ha=>?_
  obtain ⟨u,v,rfl,hu,hv⟩:=ha.two
  cases hv
  cases hu with
  |lnil _ a cap=>
   refine (hc0 a cap ⟨s.toArray⟩ w).mono ?_
   rintro e w' ⟨rfl,rfl⟩
   exact ⟨rfl,RowKit.Below.refl _ _⟩
  |list _ _ b o cap vals hcap hcl hrp=>
   have fl:(flat .str xs).length=xs.length:=by rw [nA,List.length_map]
   have cell:∀(j:Nat) (hj:j<xs.length),w.cell? ⟨b,o+j,none⟩=some (.string ⟨(xs[j]).toArray⟩):=by
    intro j hj
    have h1:=(hcl j (by rw [fl];exact hj)).2
    have h2:=hrp j (by rw [fl];exact hj)
    have e : (flat .str xs)[j]'(by rw [fl]; exact hj) = .str xs[j] := by
     have:(flat .str xs)[j]?=some (.str xs[j]):=by rw [nA];simp [hj]
     exact (List.getElem?_eq_some_iff.1 this).2
    rw [e] at h2
    rw [h1]
    generalize vals j=u at h2
    cases h2
    rfl
   by_cases hx0:xs=[]
   ·subst hx0
    refine (hc0 _ cap ⟨s.toArray⟩ w).mono ?_
    rintro e w' ⟨rfl,rfl⟩
    exact ⟨rfl,RowKit.Below.refl _ _⟩
   have hlen:0<xs.length:=List.length_pos_iff.2 hx0
   have hb:b<w.heap.size:=jL (cell 0 hlen)
   have em:(xs.map fun x=>(⟨x.toArray⟩:ByteArray)).map (·.data.toList)=xs:=by rw [List.map_map];simp [Function.comp_def]
   have:=hc b o cap (xs.map fun x=>⟨x.toArray⟩) ⟨s.toArray⟩ w (fun j x hx=>?_) hb (by simpa using hd.1) (by simpa using hcap) (by rw [em];exact hd.2)
   ·rw [em,List.length_map] at this
    exact this
   ·rw [List.getElem?_map] at hx
    cases hq:xs[j]? with
    |none=>rw [hq] at hx;cases hx
    |some y=>
     rw [hq] at hx
     cases hx
     obtain ⟨hj,e⟩:=List.getElem?_eq_some_iff.1 hq
     rw [cell j hj,e]
end Go.Proofs.YtjkokaockhecnaaGreatDoorA
