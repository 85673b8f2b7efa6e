/- Calls, level by level. -/
import Derived.Test.YtjkokaockhecnaaGreatDoorFin
namespace Go.Proofs.YtjkokaockhecnaaGreatDoorA
open Go
section
variable {ab:bV}{n:Nat}{w w' w'':World}{g g' g'':Gh}{S S':St}{a:Act}{P:Program}
def a7 (P:Program)(f:FuncId)(fi:cj):Prop:=
 ∃fn,P.funcs[f]?=some fn∧fn.body=some fi.body∧fn.ntmps=fi.ntmps∧fn.results.toList=fi.results∧(fn.name== "runtime.NumGoroutine")=false
theorem Dx {args:List lZ}{vals:List Value}(h:gg ab w g args vals){n:Nat}(hn:args.length≤n):
  b9 ab n w g ⟨dN 0 args,eH 0 args⟩ { tmps:=vals.toArray++Array.replicate (n - vals.toArray.size) undef,defers:=[] }:=by
 refine ⟨?_,rfl,h.tb,fun t=>?_,fun s r hr=>h.root s r hr⟩
 ·have:=h.len
  simp only [Array.size_append,Array.size_replicate,List.size_toArray]
  omega
 ·unfold St.tmp
  cases hl:look t (dN 0 args) with
  |none=>exact .und _
  |some b=>
   obtain ⟨v,h1,h2⟩:=h.val t b hl
   have hlt:=(List.getElem?_eq_some_iff.mp h1).1
   have:(vals.toArray++Array.replicate (n - vals.toArray.size) undef).getD t undef=v:=by
    rw [Array.getD_eq_getD_getElem?,Array.getElem?_append_left (by simpa using hlt)]
    simp [h1]
   simp only
   rw [this];exact h2
def iv (P:Program)(ab:bV)(sig:FuncId→bR)(f:FuncId)(args:List lZ)(r:(sig f).den):Prop:=
 ik P f∧∀w g vals,gg ab w g args vals→Calls P f vals.toArray w fun e w'=>∃v g',e=.returned v∧iu w g w' g'∧oa ab w' g' (sig f) r v
theorem j2 {E:fA}{lv:Lv E.sig}(hE:wU P ab E)(hlv:ki P ab E.sig lv)(hbar:∀R x,E.bar R x=x)(hfn:∀f fi,E.fn f=some fi→a7 P f fi)
  (hD:∀n,n≤1000→uV P ab n E lv) (K:Nat) {f:FuncId}{fi:cj} (hfi:E.fn f=some fi) {args:List lZ}{r:(E.sig f).den} (h:zG E lv K f fi args=some r):iv P ab E.sig f args r:=by
 unfold zG at h
 obtain ⟨fn,f1,f2,f3,f4,f5⟩:=hfn f fi hfi
 cases hc:Nat.ble fi.ntmps 1000&&Nat.ble args.length fi.ntmps with
 |false=>rw [hc] at h;cases h
 |true=>
  rw [hc] at h
  rw [Bool.and_eq_true] at hc
  have hn:=Nat.le_of_ble_eq_true hc.1
  have hargs:=Nat.le_of_ble_eq_true hc.2
  simp only [Bool.not_true,cond] at h
  refine ⟨⟨fn,f1,f5,by rw [f2];rfl⟩,fun w g vals hvals=>?_⟩
  refine calls_of_wp f1 f2 ?_
  rw [f3]
  refine zZ hE hlv hbar hn (hD _ hn) fi.body _ _ _ r _ w g _ h (Dx hvals hargs) ?_
  intro ex S' w' g' a' hk hS' hi
  have fin:If E fi (E.sig f) S'=some r→a'.defers=[]∧∃v,(results fn a'.tmps).run P w'=.ok v w'∧∃v' g',Ending.returned v=.returned v'∧iu w g w' g'∧oa ab w' g' (E.sig f) r v':=by
   intro hf
   unfold If at hf
   split at hf
   ·rename_i S2 hc2
    obtain ⟨g1,hS2,i2⟩:=fJ hn hc2 hS'
    obtain ⟨v,g2,q1,q2,q3⟩:=xQ hE f4 hf hS2
    exact ⟨hS'.df,v,q1,v,g2,rfl,(hi.trans i2).trans q2,q3⟩
   ·cases hf
  cases ex with
  |normal=>exact fin hk
  |exit i=>cases hk
  |ret=>exact fin hk
theorem CN {R:Type}{x y:Option R}{r:R}(h:both x y=some r):x=some r∧y=some r:=by
 unfold both at h
 split at h
 ·rename_i e;exact ⟨h,e ▸ h⟩
 ·cases h
theorem C2 {t:El}{xs:List t.den}{vals:List Value}(h:gg ab w g [.v (.L t xs)] vals):∃q,(q=true→xs=[])∧gg ab w g [.v (.nq q t xs)] vals:=by
 obtain ⟨v,hv,hr⟩:=h.val 0 (.L t xs) rfl
 have key:∃q,(q=true→xs=[])∧RepA w g (.nq q t xs) v:=by
  cases hr with
  |lnil _ x cap=>exact ⟨x.isNone,fun _=>rfl,.nq _ t [] x 0 cap rfl (.lnil t x cap)⟩
  |list _ _ b o cap vals hcap hc hr=>exact ⟨false,fun e=>by simp at e,.nq false t xs _ _ _ rfl (.list t xs b o cap vals hcap hc hr)⟩
 obtain ⟨q,h1,h2⟩:=key
 refine ⟨q,h1,⟨h.len,h.tb,fun k b hb=>?_,fun s r hr=>by simp [eH,look] at hr⟩⟩
 simp only [dN,look] at hb
 cases e:Nat.beq 0 k with
 |false=>rw [e] at hb;cases hb
 |true=>
  rw [e] at hb
  cases hb
  rw [←Nat.eq_of_beq_eq_true e]
  exact ⟨v,hv,h2⟩
theorem Ah {E:fA}{lv:Lv E.sig}(hE:wU P ab E)(hlv:ki P ab E.sig lv)(hbar:∀R x,E.bar R x=x)(hfn:∀f fi,E.fn f=some fi→a7 P f fi)
  (hext:∀f args r,E.fn f=none→E.ext f args=some r→iv P ab E.sig f args r) (hD:∀n,n≤1000→uV P ab n E lv) (K:Nat):ki P ab E.sig (fun f args=>call E lv K f args):=by
 intro f args r h
 simp only [call] at h
 split at h
 ·rename_i fi hfi
  cases hsp:fi.split with
  |false=>
   rw [hsp] at h
   exact j2 hE hlv hbar hfn hD K hfi h
  |true=>
   rw [hsp] at h
   simp only [cond] at h
   split at h
   ·rename_i t xs
    have two:∀q,(q=true→xs=[])→iv P ab E.sig f [.v (.nq q t xs)] r:=by
     intro q hq
     cases xs with
     |nil=>
      obtain ⟨h1,h2⟩:=CN h
      cases q with
      |true=>exact j2 hE hlv hbar hfn hD K hfi h1
      |false=>exact j2 hE hlv hbar hfn hD K hfi h2
     |cons x l=>
      cases q with
      |true=>cases hq rfl
      |false=>exact j2 hE hlv hbar hfn hD K hfi h
    refine ⟨(two false (fun e=>by cases e)).1,fun w g vals hvals=>?_⟩
    obtain ⟨q,hq,hv⟩:=C2 hvals
    exact (two q hq).2 w g vals hv
   ·cases h
 ·rename_i hfi
  exact hext f args r hfi h
theorem qS {E:fA}(hE:wU P ab E)(hbar:∀R x,E.bar R x=x)(hfn:∀f fi,E.fn f=some fi→a7 P f fi)
  (hext:∀f args r,E.fn f=none→E.ext f args=some r→iv P ab E.sig f args r) (hD:∀lv,ki P ab E.sig lv→∀n,n≤1000→uV P ab n E lv):∀k,ki P ab E.sig (cG E k)
 |0=>fun f args r h=>by simp [cG] at h
 |k+1=>Ah hE (qS hE hbar hfn hext hD k) hbar hfn hext (hD _ (qS hE hbar hfn hext hD k)) k
end
end Go.Proofs.YtjkokaockhecnaaGreatDoorA
