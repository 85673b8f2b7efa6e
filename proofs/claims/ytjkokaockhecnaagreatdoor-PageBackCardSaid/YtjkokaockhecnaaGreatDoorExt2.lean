/- What the machine answers of functions of Go's library, the library answers. -/
import Derived.Test.YtjkokaockhecnaaGreatDoorChk
import Derived.Test.YtjkokaockhecnaaGreatDoorExt
import Derived.Lib.LaidTab
import Derived.Lib.AppendIntMem
namespace Go.Proofs.YtjkokaockhecnaaGreatDoorA
open Go
theorem uW {P:Program}{w w':World}{g:Nat}{name:String}{k:IntKind}{zs:List Int}(hg:P.globalNamed name=some g)(h:w'.heap[g]?=w.heap[g]?)(hp:Lib.TabIs P w name k zs):Lib.TabIs P w' name k zs:=by
 unfold Lib.TabIs World.var? at*
 rw [hg] at hp ⊢
 simp only [Option.bind_some] at hp ⊢
 rw [h];exact hp
theorem Ei {P:Program}{w:World}{g:Nat}{name:String}{k:IntKind}{zs:List Int}(hg:P.globalNamed name=some g)(hp:Lib.TabIs P w name k zs):g<w.heap.size:=by
 unfold Lib.TabIs World.var? at hp
 rw [hg] at hp
 simp only [Option.bind_some] at hp
 rcases Nat.lt_or_ge g w.heap.size with h|h
 ·exact h
 ·rw [Array.getElem?_eq_none h] at hp;cases hp
theorem xJ {aa:aM}{w:World}{g:Gh}{s:bg}{r:s.den}{l:List UInt8}(hs:s=⟨[.one .str],[]⟩)(hr:HEq r l):li aa w g s r (.string ⟨l.toArray⟩):=by
 subst hs
 have e:r=l:=eq_of_heq hr
 subst e
 refine ⟨RepA.str _,⟨fun _ j t fz xs h=>?_,fun h=>by cases h⟩,fun i cs h=>?_⟩
 ·cases j with
  |zero=>cases h
  |succ j=>cases h
 ·cases h
theorem eW.str {P:Program}{aa:aM}{sig:FuncId→bg}{f:FuncId}{args:List kh}{r:(sig f).den}{l:List UInt8}(hs:sig f=⟨[.one .str],[]⟩)(hr:HEq r l)(hb:ff P f)
  (hc:∀w g vals,ef aa w g args vals→Calls P f vals.toArray w fun e w'=>e=.returned (.string ⟨l.toArray⟩)∧RowKit.Below w.heap.size w w'):eW P aa sig f args r:=by
 refine ⟨hb,fun w g vals ha=>(hc w g vals ha).mono ?_⟩
 rintro e w' ⟨rfl,hw⟩
 exact ⟨_,g,rfl,⟨gy.of_below hw _,fun _ _ _ h=>h,fun _ _ _ h=>h,fun _ _ _ h=>h,fun _ _=>rfl⟩,xJ hs hr⟩
theorem ef.one {aa:aM}{w:World}{g:Gh}{a:AV}{vals:List Value}(h:ef aa w g [.v a] vals):∃v,vals=[v]∧RepA w g a v:=by
 obtain ⟨v,h1,h2⟩:=h.val 0 a rfl
 have hl:=h.len
 match vals,hl,h1 with
 |[u],_,h1=>cases h1;exact ⟨_,rfl,h2⟩
theorem ef.two {aa:aM}{w:World}{g:Gh}{a b:AV}{vals:List Value}(h:ef aa w g [.v a,.v b] vals):∃u v,vals=[u,v]∧RepA w g a u∧RepA w g b v:=by
 obtain ⟨u,h1,h2⟩:=h.val 0 a rfl
 obtain ⟨v,h3,h4⟩:=h.val 1 b rfl
 have hl:=h.len
 match vals,hl,h1,h3 with
 |[x,y],_,h1,h3=>cases h1;cases h3;exact ⟨_,_,rfl,h2,h4⟩
theorem Cj {P:Program}{aa:aM}{sig:FuncId→bg}{f:FuncId}{args:List kh}{l:List UInt8}{r:(sig f).den}(hs:sig f=⟨[.one .str],[]⟩)(hb:ff P f)
  (hc:∀n,-9223372036854775808≤n→n≤9223372036854775807→∀w,Lib.TabIs P w "internal/strconv.uint64pow10" .u64 Lib.pow10Tab→Calls P f #[.int .i64 n] w fun e w'=>e=.returned (.string ⟨(Lib.itoa n).toArray⟩)∧∃k os,w'=Sort.grow (w.drewN k) os)
  (hp:∀w,aa.p w→Lib.TabIs P w "internal/strconv.uint64pow10" .u64 Lib.pow10Tab) (h0:pY args=some l) (hr:HEq r l):eW P aa sig f args r:=by
 obtain ⟨n,rfl,h⟩:∃n,args=[.v (.int .i64 n)]∧mq n=some l:=by
  unfold pY at h0
  split at h0
  ·exact ⟨_,rfl,h0⟩
  ·cases h0
 unfold mq at h
 cases hd:decide (-9223372036854775808≤n)&&decide (n≤9223372036854775807) with
 |false=>rw [hd] at h;cases h
 |true=>
  rw [hd] at h
  cases h
  rw [Bool.and_eq_true,decide_eq_true_iff,decide_eq_true_iff] at hd
  refine .str hs hr hb fun w g vals ha=>?_
  obtain ⟨v,rfl,hv⟩:=ha.one
  cases hv
  refine (hc n hd.1 hd.2 w (hp w ha.tb.1)).mono ?_
  rintro e w' ⟨rfl,k,os,rfl⟩
  exact ⟨rfl,Lib.below_grow _ w (Nat.le_refl _) k os⟩
end Go.Proofs.YtjkokaockhecnaaGreatDoorA
