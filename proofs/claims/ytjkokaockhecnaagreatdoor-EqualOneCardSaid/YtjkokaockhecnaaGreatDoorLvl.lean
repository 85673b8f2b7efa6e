/- Calls, level by level. -/
import Derived.Test.YtjkokaockhecnaaGreatDoorFin
namespace Go.Proofs.YtjkokaockhecnaaGreatDoorA
open Go
section
variable {aa:bb}{n:Nat}{w w' w'':World}{g g' g'':Gh}{S S':St}{a:Act}{P:Program}
def aY (P:Program)(f:FuncId)(fi:ct):Prop:=
 ∃fn,P.funcs[f]?=some fn∧fn.body=some fi.body∧fn.ntmps=fi.ntmps∧fn.results.toList=fi.results∧(fn.name== "runtime.NumGoroutine")=false
theorem yL {args:List mo}{vals:List Value}(h:fO aa w g args vals){n:Nat}(hn:args.length≤n):
  bi aa n w g ⟨cY 0 args,dI 0 args⟩ { tmps:=vals.toArray++Array.replicate (n - vals.toArray.size) undef,defers:=[] }:=by
 refine ⟨?_,rfl,h.tb,fun t=>?_,fun s r hr=>h.root s r hr⟩
 ·have:=h.len
  simp only [Array.size_append,Array.size_replicate,List.size_toArray]
  omega
 ·unfold St.tmp
  cases hl:look t (cY 0 args) with
  |none=>exact .und _
  |some b=>
   obtain ⟨v,h1,h2⟩:=h.val t b hl
   have hlt:=(List.getElem?_eq_some_iff.mp h1).1
   have:(vals.toArray++Array.replicate (n - vals.toArray.size) undef).getD t undef=v:=by
    rw [Array.getD_eq_getD_getElem?,Array.getElem?_append_left (by simpa using hlt)]
    simp [h1]
   simp only
   rw [this];exact h2
def jc (P:Program)(aa:bb)(sig:FuncId→bq)(f:FuncId)(args:List mo)(r:(sig f).den):Prop:=
 kr P f∧∀w g vals,fO aa w g args vals→Calls P f vals.toArray w fun e w'=>∃v g',e=.returned v∧fR w g w' g'∧rQ aa w' g' (sig f) r v
theorem iU {E:ew}{lv:Lv E.sig}(hE:sU P aa E)(hlv:jf P aa E.sig lv)(hbar:∀R x,E.bar R x=x)(hfn:∀f fi,E.fn f=some fi→aY P f fi)
  (hD:∀n,n≤1000→rK P aa n E lv) (K:Nat) {f:FuncId}{fi:ct} (hfi:E.fn f=some fi) {args:List mo}{r:(E.sig f).den} (h:uM E lv K f fi args=some r):jc P aa E.sig f args r:=by
 unfold uM at h
 obtain ⟨fn,f1,f2,f3,f4,f5⟩:=hfn f fi hfi
 cases hc:Nat.ble fi.ntmps 1000&&Nat.ble args.length fi.ntmps with
 |false=>rw [hc] at h;cases h
 |true=>
  rw [hc] at h
  rw [Bool.and_eq_true] at hc
  have hn:=Nat.le_of_ble_eq_true hc.1
  have hargs:=Nat.le_of_ble_eq_true hc.2
  simp only [Bool.not_true,cond] at h
  refine ⟨⟨fn,f1,f5,by rw [f2];rfl⟩,fun w g vals hvals=>?_⟩
  refine calls_of_wp f1 f2 ?_
  rw [f3]
  refine xz hE hlv hbar hn (hD _ hn) fi.body _ _ _ r _ w g _ h (yL hvals hargs) ?_
  intro ex S' w' g' a' hk hS' hi
  have fin:C9 E fi (E.sig f) S'=some r→a'.defers=[]∧∃v,(results fn a'.tmps).run P w'=.ok v w'∧∃v' g',Ending.returned v=.returned v'∧fR w g w' g'∧rQ aa w' g' (E.sig f) r v':=by
   intro hf
   unfold C9 at hf
   split at hf
   ·rename_i S2 hc2
    obtain ⟨g1,hS2,i2⟩:=eC hn hc2 hS'
    obtain ⟨v,g2,q1,q2,q3⟩:=ug hE f4 hf hS2
    exact ⟨hS'.df,v,q1,v,g2,rfl,(hi.trans i2).trans q2,q3⟩
   ·cases hf
  cases ex with
  |normal=>exact fin hk
  |exit i=>cases hk
  |ret=>exact fin hk
theorem y4 {R:Type}{x y:Option R}{r:R}(h:both x y=some r):x=some r∧y=some r:=by
 unfold both at h
 split at h
 ·rename_i e;exact ⟨h,e ▸ h⟩
 ·cases h
theorem yQ {t:El}{xs:List t.den}{vals:List Value}(h:fO aa w g [.v (.L t xs)] vals):∃q,(q=true→xs=[])∧fO aa w g [.v (.nq q t xs)] vals:=by
 obtain ⟨v,hv,hr⟩:=h.val 0 (.L t xs) rfl
 have key:∃q,(q=true→xs=[])∧af w g (.nq q t xs) v:=by
  cases hr with
  |lnil _ x cap=>exact ⟨x.isNone,fun _=>rfl,.nq _ t [] x 0 cap rfl (.lnil t x cap)⟩
  |list _ _ b o cap vals hcap hc hr=>exact ⟨false,fun e=>by simp at e,.nq false t xs _ _ _ rfl (.list t xs b o cap vals hcap hc hr)⟩
 obtain ⟨q,h1,h2⟩:=key
 refine ⟨q,h1,⟨h.len,h.tb,fun k b hb=>?_,fun s r hr=>by simp [dI,look] at hr⟩⟩
 simp only [cY,look] at hb
 cases e:Nat.beq 0 k with
 |false=>rw [e] at hb;cases hb
 |true=>
  rw [e] at hb
  cases hb
  rw [←Nat.eq_of_beq_eq_true e]
  exact ⟨v,hv,h2⟩
theorem xj {E:ew}{lv:Lv E.sig}(hE:sU P aa E)(hlv:jf P aa E.sig lv)(hbar:∀R x,E.bar R x=x)(hfn:∀f fi,E.fn f=some fi→aY P f fi)
  (hext:∀f args r,E.fn f=none→E.ext f args=some r→jc P aa E.sig f args r) (hD:∀n,n≤1000→rK P aa n E lv) (K:Nat):jf P aa E.sig (fun f args=>call E lv K f args):=by
 intro f args r h
 simp only [call] at h
 split at h
 ·rename_i fi hfi
  cases hsp:fi.split with
  |false=>
   rw [hsp] at h
   exact iU hE hlv hbar hfn hD K hfi h
  |true=>
   rw [hsp] at h
   simp only [cond] at h
   split at h
   ·rename_i t xs
    have two:∀q,(q=true→xs=[])→jc P aa E.sig f [.v (.nq q t xs)] r:=by
     intro q hq
     cases xs with
     |nil=>
      obtain ⟨h1,h2⟩:=y4 h
      cases q with
      |true=>exact iU hE hlv hbar hfn hD K hfi h1
      |false=>exact iU hE hlv hbar hfn hD K hfi h2
     |cons x l=>
      cases q with
      |true=>cases hq rfl
      |false=>exact iU hE hlv hbar hfn hD K hfi h
    refine ⟨(two false (fun e=>by cases e)).1,fun w g vals hvals=>?_⟩
    obtain ⟨q,hq,hv⟩:=yQ hvals
    exact (two q hq).2 w g vals hv
   ·cases h
 ·rename_i hfi
  exact hext f args r hfi h
theorem o5 {E:ew}(hE:sU P aa E)(hbar:∀R x,E.bar R x=x)(hfn:∀f fi,E.fn f=some fi→aY P f fi)
  (hext:∀f args r,E.fn f=none→E.ext f args=some r→jc P aa E.sig f args r) (hD:∀lv,jf P aa E.sig lv→∀n,n≤1000→rK P aa n E lv):∀k,jf P aa E.sig (ec E k)
 |0=>fun f args r h=>by simp [ec] at h
 |k+1=>xj hE (o5 hE hbar hfn hext hD k) hbar hfn hext (hD _ (o5 hE hbar hfn hext hD k)) k
end
end Go.Proofs.YtjkokaockhecnaaGreatDoorA
