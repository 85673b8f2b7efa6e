/- Calls, level by level. -/
import Derived.Test.YtjkokaockhecnaaGreatDoorFin
namespace Go.Proofs.YtjkokaockhecnaaGreatDoorA
open Go
section
variable {aa:aM}{n:Nat}{w w' w'':World}{g g' g'':Gh}{S S':St}{a:Act}{P:Program}
def aW (P:Program)(f:FuncId)(fi:ce):Prop:=
 ∃fn,P.funcs[f]?=some fn∧fn.body=some fi.body∧fn.ntmps=fi.ntmps∧fn.results.toList=fi.results∧(fn.name== "runtime.NumGoroutine")=false
theorem xg {args:List kh}{vals:List Value}(h:ef aa w g args vals){n:Nat}(hn:args.length≤n):
  aV aa n w g ⟨cm 0 args,cU 0 args⟩ { tmps:=vals.toArray++Array.replicate (n - vals.toArray.size) undef,defers:=[] }:=by
 refine ⟨?_,rfl,h.tb,fun t=>?_,fun s r hr=>h.root s r hr⟩
 ·have:=h.len
  simp only [Array.size_append,Array.size_replicate,List.size_toArray]
  omega
 ·unfold St.tmp
  cases hl:look t (cm 0 args) with
  |none=>exact .und _
  |some b=>
   obtain ⟨v,h1,h2⟩:=h.val t b hl
   have hlt:=(List.getElem?_eq_some_iff.mp h1).1
   have:(vals.toArray++Array.replicate (n - vals.toArray.size) undef).getD t undef=v:=by
    rw [Array.getD_eq_getD_getElem?,Array.getElem?_append_left (by simpa using hlt)]
    simp [h1]
   simp only
   rw [this];exact h2
def eW (P:Program)(aa:aM)(sig:FuncId→bg)(f:FuncId)(args:List kh)(r:(sig f).den):Prop:=
 ff P f∧∀w g vals,ef aa w g args vals→Calls P f vals.toArray w fun e w'=>∃v g',e=.returned v∧eS w g w' g'∧li aa w' g' (sig f) r v
theorem g9 {E:dE}{lv:Lv E.sig}(hE:rz P aa E)(hlv:ir P aa E.sig lv)(hbar:∀R x,E.bar R x=x)(hfn:∀f fi,E.fn f=some fi→aW P f fi)
  (hD:∀n,n≤1000→pz P aa n E lv) (K:Nat) {f:FuncId}{fi:ce} (hfi:E.fn f=some fi) {args:List kh}{r:(E.sig f).den} (h:tL E lv K f fi args=some r):eW P aa E.sig f args r:=by
 unfold tL at h
 obtain ⟨fn,f1,f2,f3,f4,f5⟩:=hfn f fi hfi
 cases hc:Nat.ble fi.ntmps 1000&&Nat.ble args.length fi.ntmps with
 |false=>rw [hc] at h;cases h
 |true=>
  rw [hc] at h
  rw [Bool.and_eq_true] at hc
  have hn:=Nat.le_of_ble_eq_true hc.1
  have hargs:=Nat.le_of_ble_eq_true hc.2
  simp only [Bool.not_true,cond] at h
  refine ⟨⟨fn,f1,f5,by rw [f2];rfl⟩,fun w g vals hvals=>?_⟩
  refine calls_of_wp f1 f2 ?_
  rw [f3]
  refine vg hE hlv hbar hn (hD _ hn) fi.body _ _ _ r _ w g _ h (xg hvals hargs) ?_
  intro ex S' w' g' a' hk hS' hi
  have fin:Bo E fi (E.sig f) S'=some r→a'.defers=[]∧∃v,(results fn a'.tmps).run P w'=.ok v w'∧∃v' g',Ending.returned v=.returned v'∧eS w g w' g'∧li aa w' g' (E.sig f) r v':=by
   intro hf
   unfold Bo at hf
   split at hf
   ·rename_i S2 hc2
    obtain ⟨g1,hS2,i2⟩:=dI hn hc2 hS'
    obtain ⟨v,g2,q1,q2,q3⟩:=sA hE f4 hf hS2
    exact ⟨hS'.df,v,q1,v,g2,rfl,(hi.trans i2).trans q2,q3⟩
   ·cases hf
  cases ex with
  |normal=>exact fin hk
  |exit i=>cases hk
  |ret=>exact fin hk
theorem xU {R:Type}{x y:Option R}{r:R}(h:both x y=some r):x=some r∧y=some r:=by
 unfold both at h
 split at h
 ·rename_i e;exact ⟨h,e ▸ h⟩
 ·cases h
theorem xb {t:El}{xs:List t.den}{vals:List Value}(h:ef aa w g [.v (.L t xs)] vals):∃q,(q=true→xs=[])∧ef aa w g [.v (.nq q t xs)] vals:=by
 obtain ⟨v,hv,hr⟩:=h.val 0 (.L t xs) rfl
 have key:∃q,(q=true→xs=[])∧RepA w g (.nq q t xs) v:=by
  cases hr with
  |lnil _ x cap=>exact ⟨x.isNone,fun _=>rfl,.nq _ t [] x 0 cap rfl (.lnil t x cap)⟩
  |list _ _ b o cap vals hcap hc hr=>exact ⟨false,fun e=>by simp at e,.nq false t xs _ _ _ rfl (.list t xs b o cap vals hcap hc hr)⟩
 obtain ⟨q,h1,h2⟩:=key
 refine ⟨q,h1,⟨h.len,h.tb,fun k b hb=>?_,fun s r hr=>by simp [cU,look] at hr⟩⟩
 simp only [cm,look] at hb
 cases e:Nat.beq 0 k with
 |false=>rw [e] at hb;cases hb
 |true=>
  rw [e] at hb
  cases hb
  rw [←Nat.eq_of_beq_eq_true e]
  exact ⟨v,hv,h2⟩
theorem vo {E:dE}{lv:Lv E.sig}(hE:rz P aa E)(hlv:ir P aa E.sig lv)(hbar:∀R x,E.bar R x=x)(hfn:∀f fi,E.fn f=some fi→aW P f fi)
  (hext:∀f args r,E.fn f=none→E.ext f args=some r→eW P aa E.sig f args r) (hD:∀n,n≤1000→pz P aa n E lv) (K:Nat):ir P aa E.sig (fun f args=>call E lv K f args):=by
 intro f args r h
 simp only [call] at h
 split at h
 ·rename_i fi hfi
  cases hsp:fi.split with
  |false=>
   rw [hsp] at h
   exact g9 hE hlv hbar hfn hD K hfi h
  |true=>
   rw [hsp] at h
   simp only [cond] at h
   split at h
   ·rename_i t xs
    have two:∀q,(q=true→xs=[])→eW P aa E.sig f [.v (.nq q t xs)] r:=by
     intro q hq
     cases xs with
     |nil=>
      obtain ⟨h1,h2⟩:=xU h
      cases q with
      |true=>exact g9 hE hlv hbar hfn hD K hfi h1
      |false=>exact g9 hE hlv hbar hfn hD K hfi h2
     |cons x l=>
      cases q with
      |true=>cases hq rfl
      |false=>exact g9 hE hlv hbar hfn hD K hfi h
    refine ⟨(two false (fun e=>by cases e)).1,fun w g vals hvals=>?_⟩
    obtain ⟨q,hq,hv⟩:=xb hvals
    exact (two q hq).2 w g vals hv
   ·cases h
 ·rename_i hfi
  exact hext f args r hfi h
theorem m5 {E:dE}(hE:rz P aa E)(hbar:∀R x,E.bar R x=x)(hfn:∀f fi,E.fn f=some fi→aW P f fi)
  (hext:∀f args r,E.fn f=none→E.ext f args=some r→eW P aa E.sig f args r) (hD:∀lv,ir P aa E.sig lv→∀n,n≤1000→pz P aa n E lv):∀k,ir P aa E.sig (dl E k)
 |0=>fun f args r h=>by simp [dl] at h
 |k+1=>vo hE (m5 hE hbar hfn hext hD k) hbar hfn hext (hD _ (m5 hE hbar hfn hext hD k)) k
end
end Go.Proofs.YtjkokaockhecnaaGreatDoorA
