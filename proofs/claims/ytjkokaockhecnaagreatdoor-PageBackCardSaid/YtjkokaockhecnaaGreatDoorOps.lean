/- Operations that only compute: what the abstract machine answers is what the model's run answers. -/
import Derived.Test.YtjkokaockhecnaaGreatDoorRep
import Derived.Laws.Slices
import Derived.Laws.BytesString
import Derived.Laws.IdiomStrings
import Derived.Laws.Concat
import Derived.Laws.StructEq
import Derived.Lib.SliceRun
import Derived.WideLaws
namespace Go.Proofs.YtjkokaockhecnaaGreatDoorA
open Go
theorem pu {α:Type}{k:Nat}{l:List (Nat×α)}{a:α}(h:look k l=some a):(k,a)∈l:=by
 induction l with
 |nil=>simp [look] at h
 |cons p l ih=>
  obtain ⟨i,b⟩:=p
  simp only [look] at h
  cases e:Nat.beq i k with
  |true=>
   rw [e] at h
   have:=Nat.eq_of_beq_eq_true e
   subst this
   simp at h;subst h
   exact List.mem_cons_self
  |false=>rw [e] at h;exact List.mem_cons_of_mem _ (ih h)
theorem kW (w:World)(g:Gh)(v:Value):RepA w g (iG v) v:=by
 unfold iG
 split
 ·exact .bool _
 ·exact .int _ _
 ·rename_i s
  have:s=⟨s.data.toList.toArray⟩:=by cases s;simp
  rw [this];exact .str _
 ·exact .nils
 ·exact .nilp
 ·exact .und _
theorem lE (l:List Value):(cD l).length=l.length:=by
 induction l with
 |nil=>rfl
 |cons v l ih=>simp [cD,ih]
theorem ox (l:List Value):∀(j:Nat) (h:j<(cD l).length) (h':j<l.length),(cD l)[j]=iG l[j]:=by
 induction l with
 |nil=>intro j h h';simp at h'
 |cons v l ih=>
  intro j h h'
  cases j with
  |zero=>simp [cD]
  |succ j=>simp only [cD,List.getElem_cons_succ];exact ih j _ _
theorem tR (w:World)(g:Gh)(v:Value):RepA w g (sO v) v:=by
 unfold sO
 split
 ·rename_i cs
  have:=RepA.agg (w:=w) (g:=g) (cD cs.toList) cs.toList (by rw [lE]) (fun j h h'=>by rw [ox _ j h h'];exact kW w g _)
  simpa using this
 ·exact kW w g v
section
variable {aa:aM}{n:Nat}{w:World}{g:Gh}{S:St}{a:Act}{P:Program}
theorem aV.tmp (h:aV aa n w g S a)(t:Nat):RepA w g (S.tmp t) (a.tmps.getD t undef):=h.tm t
theorem aV.ev (h:aV aa n w g S a)(x:Operand):RepA w g (S.ev x) (a.eval x):=by
 cases x with
 |tmp t=>exact h.tmp t
 |const v=>exact tR w g v
 |global gl=>exact .und _
 |func f=>exact .fn f [] [] rfl (fun j h=>by simp at h)
theorem aV.root (h:aV aa n w g S a){s:Nat}{r:ae}(hr:S.root s=some r):aB aa w g s r:=h.rt s r hr
theorem cw.sl_inv {s j:Nat}{t:El}{fz:Bool}{xs:List t.den}{v:Value}(h:cw aa w g s j (.sl t fz xs) v):bZ aa w g s j t fz xs∧v=g.hs s j:=by
 cases h with
 |sl _ _ _ hs=>exact ⟨hs,rfl⟩
theorem cw.av_inv {s j:Nat}{a:AV}{v:Value}(h:cw aa w g s j (.av a) v):RepA w g a v:=by
 cases h with
 |av _ _ h=>exact h
theorem aV.cell (h:aV aa n w g S a){s j:Nat}{t:El}{fz:Bool}{xs:List t.den}(hc:S.cell s j=some (.sl t fz xs)):bZ aa w g s j t fz xs:=by
 unfold St.cell at hc
 cases hr:S.root s with
 |none=>rw [hr] at hc;simp at hc
 |some r=>
  rw [hr] at hc;simp only [Option.bind_some] at hc
  have hR:=h.root hr
  cases hb:r.box with
  |false=>exact hR.apart hb j t fz xs hc
  |true=>
   obtain ⟨vals,hv⟩:=hR.box hb
   obtain ⟨hj,he⟩:=List.getElem?_eq_some_iff.mp hc
   have:=(hv j hj).2.2.2.2
   rw [he] at this
   exact this.sl_inv.1
theorem RepA.bool_inv {b:Bool}{v:Value}(h:RepA w g (.bool b) v):v=.bool b:=by cases h;rfl
theorem RepA.int_inv {k:IntKind}{m:Int}{v:Value}(h:RepA w g (.int k m) v):v=.int k m:=by cases h;rfl
theorem RepA.str_inv {l:List UInt8}{v:Value}(h:RepA w g (.str l) v):v=.string ⟨l.toArray⟩:=by cases h;rfl
theorem RepA.agg_inv {cs:List AV}{v:Value}(h:RepA w g (.agg cs) v):∃vs:List Value,v=.agg vs.toArray∧vs.length=cs.length∧
  ∀j (h:j<cs.length) (h':j<vs.length),RepA w g (cs[j]) (vs[j]):=by cases h with|agg _ vs hl hr=>exact ⟨vs,rfl,hl,hr⟩
theorem RepA.tup_inv {cs:List AV}{v:Value}(h:RepA w g (.tup cs) v):∃vs:List Value,v=.tuple vs.toArray∧vs.length=cs.length∧
  ∀j (h:j<cs.length) (h':j<vs.length),RepA w g (cs[j]) (vs[j]):=by cases h with|tup _ vs hl hr=>exact ⟨vs,rfl,hl,hr⟩
theorem RepA.al_inv {s j:Nat}{v:Value}(h:RepA w g (.al s j) v):v=g.hs s j∧∃a m c,v=.slice a m c:=by cases h with|al _ _ a m c h=>exact ⟨h.symm,a,m,c,rfl⟩
theorem RepA.ref_inv {s off:Nat}{v:Value}(h:RepA w g (.ref s off) v):v=.pointer (some ⟨(g.hb s).1,(g.hb s).2+off,none⟩):=by cases h;rfl
theorem cG (l:List UInt8):(ByteArray.mk l.toArray).size=l.length:=by simp [ByteArray.size]
theorem se (l m:List UInt8):ByteArray.mk l.toArray++ByteArray.mk m.toArray=ByteArray.mk (l++m).toArray:=by
 apply ByteArray.ext
 simp
theorem nH {y:Operand}(h:sC y=true):y=.const .nilIface:=by
 unfold sC at h
 split at h
 ·rfl
 ·cases h
theorem vQ {R:Type}{eqs isb isl isn:Bool}{op:BinOp}{x y:AV}{κ:AV→Option R}{r:R}{T:TypeId}{xo yo:Operand}{vx vy:Value}
  (h:vz eqs isb isl isn op x y κ=some r) (hx:RepA w g x vx) (hy:RepA w g y vy)
  (hisb:isb=true→P.underlying T=some .bool) (hisl:isl=true→∃e,P.underlying T=some (.slice e))
  (hisn:isn=true→yo=.const .nilIface∧vy=.nilIface∧P.underlying T=some (.interface (P.methodsAt T)))
  (heq:eqs=true→∀(op:BinOp) (as bs:List AV) (c:Bool) (us vs:List Value),x=.agg as→(op=.eql∨op=.neq)→dV as bs=some c→RepA w g (.agg as) (.agg us.toArray)→RepA w g (.agg bs) (.agg vs.toArray)→
   (do eqGuard op T xo yo (.agg us.toArray) (.agg vs.toArray);binOp op T (.agg us.toArray) (.agg vs.toArray):Sem Value).run P w=.ok (.bool (if op=.eql then c else !c)) w):
  ∃av v,κ av=some r∧(do eqGuard op T xo yo vx vy;binOp op T vx vy:Sem Value).run P w=.ok v w∧RepA w g av v:=by
 unfold vz at h
 split at h
 ·-- two integers
  rename_i k a k' b
  have e1:=hx.int_inv;have e2:=hy.int_inv
  subst e1;subst e2
  cases op with
  |shl=>
   simp only at h
   cases hb:decide (b<0) with
   |true=>rw [hb] at h;simp at h
   |false=>
    rw [hb] at h
    have hb':¬b<0:=of_decide_eq_false hb
    exact ⟨_,_,h,by simp [eqGuard,binOp,Op.shift,hb'],.int _ _⟩
  |shr=>
   simp only at h
   cases hb:decide (b<0) with
   |true=>rw [hb] at h;simp at h
   |false=>
    rw [hb] at h
    have hb':¬b<0:=of_decide_eq_false hb
    exact ⟨_,_,h,by simp [eqGuard,binOp,Op.shift,hb'],.int _ _⟩
  |quo|rem=>
   simp only at h
   by_cases hk:k=k'
   ·subst hk
    rw [if_pos rfl] at h
    cases hb:(b==0) with
    |true=>rw [hb] at h;simp at h
    |false=>
     rw [hb] at h
     have hb':¬b=0:=by simpa using hb
     exact ⟨_,_,h,by simp [eqGuard,binOp,Op.intDiv,hb'],.int _ _⟩
   ·rw [if_neg hk] at h;cases h
  |add|sub|mul=>
   simp only at h
   by_cases hk:k=k'
   ·subst hk
    rw [if_pos rfl] at h
    exact ⟨_,_,h,by simp [eqGuard,binOp,Op.intArith],.int _ _⟩
   ·rw [if_neg hk] at h;cases h
  |and|or|xor|andNot=>
   simp only at h
   by_cases hk:k=k'
   ·subst hk
    rw [if_pos rfl] at h
    exact ⟨_,_,h,by simp [eqGuard,binOp,Op.intBits,ax],.int _ _⟩
   ·rw [if_neg hk] at h;cases h
  |eql|neq=>
   simp only at h
   by_cases hk:k=k'
   ·subst hk
    rw [if_pos rfl] at h
    exact ⟨_,_,h,by simp [eqGuard,binOp,Op.intCmp],.bool _⟩
   ·rw [if_neg hk] at h;cases h
  |lss|leq|gtr|geq=>
   simp only at h
   by_cases hk:k=k'
   ·subst hk
    rw [if_pos rfl] at h
    exact ⟨_,_,h,by simp [eqGuard,binOp,Op.intCmp],.bool _⟩
   ·rw [if_neg hk] at h;cases h
 ·rename_i a b
  have e1:=hx.str_inv;have e2:=hy.str_inv
  subst e1;subst e2
  cases op<;>simp only at h<;>first|(cases h;done)|skip
  ·cases hb:decide (a.length+b.length≤9223372036854775807) with
   |false=>rw [hb] at h;cases h
   |true=>
    rw [hb] at h
    have hb':=of_decide_eq_true hb
    refine ⟨_,_,h,?_,.str _⟩
    simp only [eqGuard]
    simp only [binOp]
    have:=run_string_add_sum (P:=P) w (ByteArray.mk a.toArray) (ByteArray.mk b.toArray) (by rw [cG,cG];exact hb')
    rw [se] at this
    simpa using this
  ·exact ⟨_,_,h,by simp [eqGuard,binOp,Op.stringOp,ByteArray.toList_mk],.bool _⟩
  ·exact ⟨_,_,h,by simp [eqGuard,binOp,Op.stringOp,ByteArray.toList_mk,bne],.bool _⟩
 ·rename_i a b
  have e1:=hx.bool_inv;have e2:=hy.bool_inv
  subst e1;subst e2
  cases op<;>simp only at h<;>first|(cases h;done)|skip
  ·cases hb:isb with
   |false=>rw [hb] at h;cases h
   |true=>
    rw [hb] at h
    exact ⟨_,_,h,by simp [eqGuard,binOp,Op.equal,Op.maxDepth,run_equalIn_bool w 9999 T a b (hisb hb)],.bool _⟩
  ·cases hb:isb with
   |false=>rw [hb] at h;cases h
   |true=>
    rw [hb] at h
    exact ⟨_,_,h,by simp [eqGuard,binOp,Op.equal,Op.maxDepth,run_equalIn_bool w 9999 T a b (hisb hb),bne],.bool _⟩
 ·rename_i as bs
  obtain ⟨us,rfl,hul,hur⟩:=hx.agg_inv
  obtain ⟨vs,rfl,hvl,hvr⟩:=hy.agg_inv
  cases op<;>simp only at h<;>first|(cases h;done)|skip
  ·cases hb:eqs with
   |false=>rw [hb] at h;cases h
   |true=>
    rw [hb] at h
    simp only [cond] at h
    split at h
    ·rename_i c hc
     have:=heq hb .eql as bs c us vs rfl (.inl rfl) hc hx hy
     exact ⟨_,_,h,by simpa using this,.bool _⟩
    ·cases h
  ·cases hb:eqs with
   |false=>rw [hb] at h;cases h
   |true=>
    rw [hb] at h
    simp only [cond] at h
    split at h
    ·rename_i c hc
     have:=heq hb .neq as bs c us vs rfl (.inr rfl) hc hx hy
     exact ⟨_,_,h,by simpa using this,.bool _⟩
    ·cases h
 ·rename_i q t xs
  cases hy
  cases hx with
  |nq _ _ _ a m cap hq hL=>
   cases op<;>simp only at h<;>first|(cases h;done)|skip
   ·cases hb:isl with
    |false=>rw [hb] at h;cases h
    |true=>
     rw [hb] at h
     obtain ⟨e,he⟩:=hisl hb
     exact ⟨_,_,h,by rw [←hq];simpa [eqGuard] using Lib.run_eql_slice_nil (P:=P) w T e a m cap 0 0 he,.bool _⟩
   ·cases hb:isl with
    |false=>rw [hb] at h;cases h
    |true=>
     rw [hb] at h
     obtain ⟨e,he⟩:=hisl hb
     exact ⟨_,_,h,by rw [←hq];simp [eqGuard,binOp,Op.equal,Op.maxDepth,Lib.run_equalIn_slice_nil (P:=P) w 9999 T e a m cap 0 0 he],.bool _⟩
 ·rename_i b y _
  have hn:∀{c},(bif isn then κ c else none)=some r→isn=true∧κ c=some r:=by
   intro c h
   cases hb:isn with
   |false=>rw [hb] at h;cases h
   |true=>rw [hb] at h;exact ⟨rfl,h⟩
  cases op<;>simp only at h<;>first|(cases h;done)|skip
  ·obtain ⟨e,h⟩:=hn h
   obtain ⟨rfl,rfl,hi⟩:=hisn e
   cases hx with
   |err0=>exact ⟨_,_,h,by simpa [eqGuard] using run_eql_nil_nil (P:=P) w T hi,.bool _⟩
   |err1 te pe=>exact ⟨_,_,h,by simpa [eqGuard] using run_eql_held_nil (P:=P) w T te pe hi,.bool _⟩
  ·obtain ⟨e,h⟩:=hn h
   obtain ⟨rfl,rfl,hi⟩:=hisn e
   cases hx with
   |err0=>exact ⟨_,_,h,by simp [eqGuard,binOp,run_equal_nil_nil (P:=P) w T hi],.bool _⟩
   |err1 te pe=>exact ⟨_,_,h,by simp [eqGuard,binOp,run_equal_held_nil (P:=P) w T te pe hi],.bool _⟩
 ·cases h
end
end Go.Proofs.YtjkokaockhecnaaGreatDoorA
