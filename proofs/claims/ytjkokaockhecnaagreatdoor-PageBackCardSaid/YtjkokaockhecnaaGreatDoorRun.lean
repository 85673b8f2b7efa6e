/- A region in the order of its text. -/
import Derived.Test.YtjkokaockhecnaaGreatDoorCall6
namespace Go.Proofs.YtjkokaockhecnaaGreatDoorA
open Go
section
variable {aa:aM}{n:Nat}{w w' w'':World}{g g' g'':Gh}{S S':St}{a:Act}{P:Program}
structure pQ (S S':St):Prop where
 tm:∀t,S'.tmp t=S.tmp t
 rt:S'.roots=S.roots
theorem pQ.refl (S:St):pQ S S:=⟨fun _=>rfl,rfl⟩
theorem pQ.root {S S':St}(h:pQ S S')(s:Nat):S'.root s=S.root s:=by unfold St.root;rw [h.rt]
theorem aV.same (hS:aV aa n w g S a)(h:pQ S S'):aV aa n w g S' a:=
 ⟨hS.size,hS.df,hS.tb,fun t=>by rw [h.tm];exact hS.tm t,fun s r hr=>hS.rt s r (by rw [←h.root];exact hr)⟩
theorem pQ.put {t:Nat}{b:AV}(h:S.tmp t=b):pQ S (S.put t b):=
 ⟨fun i=>by rw [gK];by_cases e:i=t<;>simp [e,h],rfl⟩
def bk (ops:List Oper)(o:Oper)(S:St):Prop:=∀j want,o.guard=some (j,want)→∃t,(ops[j]?).bind (·.dst)=some t∧S.tmp t=.bool want
def bk.not (ops:List Oper)(o:Oper)(S:St):Prop:=∃j want t,o.guard=some (j,want)∧(ops[j]?).bind (·.dst)=some t∧(S.tmp t=.bool (!want)∨S.tmp t=.tup [])
theorem fY {R:Type}{ops:List Oper}{o:Oper}{yes no:St→Option R}{r:R}(h:mQ ops o S yes no=some r):
  ∃S',pQ S S'∧((yes S'=some r∧bk ops o S)∨(no S'=some r∧bk.not ops o S)):=by
 unfold mQ at h
 split at h
 ·rename_i hg
  exact ⟨S,.refl S,.inl ⟨h,fun j want e=>by rw [hg] at e;cases e⟩⟩
 ·rename_i j want hg
  split at h
  ·cases h
  ·rename_i t ht
   split at h
   ·rename_i b hb
    cases hc:(bif want then b else !b) with
    |true=>
     rw [hc] at h
     have hbw:b=want:=by cases want<;>cases b<;>simp at hc<;>rfl
     subst hbw
     exact ⟨_,.put hb,.inl ⟨h,fun j' want' e=>by rw [hg] at e;cases e;exact ⟨t,ht,hb⟩⟩⟩
    |false=>
     rw [hc] at h
     have hbw:b=!want:=by cases want<;>cases b<;>simp at hc<;>rfl
     subst hbw
     exact ⟨_,.put hb,.inr ⟨h,j,want,t,hg,ht,.inl hb⟩⟩
   ·rename_i hb
    exact ⟨S,.refl S,.inr ⟨h,j,want,t,hg,ht,.inr hb⟩⟩
   ·cases h
theorem getD_some {ts:Array Value}{t:Nat}{v:Value}(h:ts.getD t undef=v)(hv:v≠undef):ts[t]?=some v:=by
 rw [Array.getD_eq_getD_getElem?] at h
 cases e:ts[t]? with
 |none=>rw [e] at h;exact absurd h.symm hv
 |some u=>rw [e] at h;simp only [Option.getD_some] at h;rw [h]
theorem bk.wanted {arr:Array Oper}{o:Oper}(h:bk arr.toList o S)(hS:aV aa n w g S a):Region.wanted o (yielded arr a.tmps)=true:=by
 unfold Region.wanted
 cases hg:o.guard with
 |none=>rfl
 |some jw=>
  obtain ⟨j,want⟩:=jw
  obtain ⟨t,ht,hb⟩:=h j want hg
  have hv:=hS.tm t
  rw [hb] at hv
  have e:a.tmps[t]?=some (.bool want):=getD_some (by cases hu:a.tmps.getD t undef<;>rw [hu] at hv<;>cases hv;rfl) (by simp [undef])
  have ht':(arr[j]?).bind (·.dst)=some t:=by rw [←ht];simp
  simp [yielded,ht',e]
theorem bk.not_wanted {arr:Array Oper}{o:Oper}(h:bk.not arr.toList o S)(hS:aV aa n w g S a):Region.wanted o (yielded arr a.tmps)=false:=by
 obtain ⟨j,want,t,hg,ht,hb⟩:=h
 unfold Region.wanted
 rw [hg]
 have hv:=hS.tm t
 have ht':(arr[j]?).bind (·.dst)=some t:=by rw [←ht];simp
 rcases hb with hb|hb
 ·rw [hb] at hv
  have e:a.tmps[t]?=some (.bool !want):=getD_some (by cases hu:a.tmps.getD t undef<;>rw [hu] at hv<;>cases hv;rfl) (by simp [undef])
  simp [yielded,ht',e]
 ·rw [hb] at hv
  have e:a.tmps.getD t undef=undef:=by
   generalize a.tmps.getD t undef=u at hv
   cases hv with
   |tup _ vs e1 e2=>simp at e1;subst e1;rfl
  rw [Array.getD_eq_getD_getElem?] at e
  cases e2:a.tmps[t]? with
  |none=>simp [yielded,ht',e2]
  |some u=>
   rw [e2] at e
   simp only [Option.getD_some] at e
   subst e
   simp [yielded,ht',e2,undef]
theorem aV.skip (hS:aV aa n w g S a){o:Oper}(hd:∀d,o.dst=some d→d<n):aV aa n w g (S.putO o.dst (.tup [])) (a.put o.dst undef):=by
 have hsz:∀d,o.dst=some d→d<a.tmps.size:=fun d e=>by rw [hS.size];exact hd d e
 refine ⟨by rw [iH];exact hS.size,by rw [fe];exact hS.df,hS.tb,fun t=>?_,fun s r hr=>hS.rt s r (by rw [b7] at hr;exact hr)⟩
 rw [cz,iv _ _ _ hsz]
 by_cases e:o.dst=some t
 ·rw [if_pos e,if_pos e];exact .tup [] [] rfl fun j h=>by simp at h
 ·rw [if_neg e,if_neg e];exact hS.tm t
theorem lA {ops:List Oper}(h:gd n ops=true){o:Oper}(ho:o∈ops){d:Nat}(hd:o.dst=some d):d<n:=by
 induction ops with
 |nil=>simp at ho
 |cons p ops ih=>
  simp only [gd,Bool.and_eq_true] at h
  rcases List.mem_cons.mp ho with rfl|ho
  ·rw [hd] at h;exact Nat.le_of_ble_eq_true h.1
  ·exact ih h.2 ho
theorem eY {o:Oper}(hn:n≤1000)(hd:∀d,o.dst=some d→d<n):(match o.dst with|some d=>d|none=>0)<1000:=by
 cases e:o.dst with
 |none=>simp
 |some d=>exact Nat.lt_of_lt_of_le (hd d e) hn
theorem ji {R:Type}{E:dE}{lv:Lv E.sig}(hE:rz P aa E)(hlv:ir P aa E.sig lv){fz:Nat→Bool}{arr:Array Oper}(hn:n≤1000)(hdst:gd n arr.toList=true)
  {κ:St→Option R}{r:R}{Q:Exit→Act→World→Prop}:∀(rest:List Oper) (i:Nat),arr.toList.drop i=rest→∀{S:St}{w:World}{g:Gh}{a:Act},oZ E lv fz arr.toList rest S κ=some r→aV aa n w g S a→
   (∀S' w' g' a',κ S'=some r→aV aa n w' g' S' a'→eS w g w' g'→Q .normal a' w')→wpOps P arr Q (List.range' i rest.length) a w
 |[],i,_,S,w,g,a,h,hS,hQ=>hQ S w g a h hS (.refl w g)
 |o :: rest,i,hi,S,w,g,a,h,hS,hQ=>by
  have hoi:arr.toList[i]?=some o:=by
   have:=congrArg List.head? hi
   simpa [List.head?_drop] using this
  have hom:o∈arr.toList:=List.mem_of_getElem? hoi
  have hdr:arr.toList.drop (i+1)=rest:=by
   have:=congrArg List.tail hi
   simpa [List.tail_drop] using this
  have hd:∀d,o.dst=some d→d<n:=fun d e=>lA hdst hom e
  have hai:arr[i]?=some o:=by simpa using hoi
  simp only [oZ] at h
  obtain ⟨S1,hsame,hcase⟩:=fY h
  have hS1:=hS.same hsame
  rw [List.length_cons,List.range'_succ]
  unfold wpOps
  rw [hai]
  simp only
  rcases hcase with ⟨h1,hw⟩|⟨h1,hw⟩
  ·rw [if_pos (hw.wanted hS)]
   refine .inl ?_
   unfold step at h1
   refine jZ hE hlv (eY hn hd) h1 hS1 _ _ fun av v rt rs ks w' g' hκ hok=>?_
   obtain ⟨g'',hS2,hinv⟩:=hS1.gain (fz:=fz) hok hd
   exact ji hE hlv hn hdst rest (i+1) hdr hκ hS2 fun S' w'' g' a' q1 q2 q3=>hQ S' w'' g' a' q1 q2 (hinv.trans q3)
  ·rw [if_neg (by rw [bk.not_wanted hw hS];simp)]
   exact ji hE hlv hn hdst rest (i+1) hdr h1 (hS1.skip hd) fun S' w'' g' a' q1 q2 q3=>hQ S' w'' g' a' q1 q2 q3
end
end Go.Proofs.YtjkokaockhecnaaGreatDoorA
