/- One operation looks at its operands and at what is owned. -/
import Derived.Test.YtjkokaockhecnaaGreatDoorPar
namespace Go.Proofs.YtjkokaockhecnaaGreatDoorA
open Go
section
variable {R:Type}{S S':St}
theorem cC (h:S'.roots=S.roots)(s:Nat):S'.root s=S.root s:=by unfold St.root;rw [h]
theorem cO (h:S'.roots=S.roots)(s j:Nat):S'.cell s j=S.cell s j:=by unfold St.cell;rw [cC h]
theorem eg (h:S'.roots=S.roots)(s j:Nat)(c:ax):(S'.setCell s j c).roots=(S.setCell s j c).roots:=by
 unfold St.setCell
 rw [cC h]
 cases S.root s with
 |none=>exact h
 |some r=>simp only [St.setRoot,h]
theorem yk (h:S'.roots=S.roots){el:Option El}{a:AV}{n:Nat}{κ:List AV→Option R}:jV S' el a n κ=jV S el a n κ:=by
 unfold jV;simp only [cC h,cO h]
theorem rh (h:S'.roots=S.roots){t:El}{x i:AV}{κ:AV→Option R}:ef S' t x i κ=ef S t x i κ:=by
 unfold ef;simp only [cO h]
theorem AO (h:S'.roots=S.roots){ty:Option jJ}{x:AV}{κ:AV→Option R}:va S' ty x κ=va S ty x κ:=by
 unfold va;simp only [cO h]
theorem km (h:S'.roots=S.roots)(t:El)(x:AV):iD S' t x=iD S t x:=by
 unfold iD;simp only [cO h]
theorem jN {o:Option Operand}(h:∀x,o=some x→S'.ev x=S.ev x){y d:Nat}{κ:Nat→Option R}:dq S' o y d κ=dq S o y d κ:=by
 unfold dq
 cases o with
 |none=>rfl
 |some x=>simp only [h x rfl]
theorem xp (S:St):∀xs:List Operand,evL S xs=xs.map S.ev
 |[]=>rfl
 |x :: xs=>by simp [evL,xp S xs]
theorem nA {xs:List Operand}(h:∀x∈xs,S'.ev x=S.ev x):evL S' xs=evL S xs:=by
 rw [xp,xp];exact List.map_congr_left h
theorem sb {ps:Array (Nat×Operand)}(h:∀x∈ps.toList.map (·.2),S'.ev x=S.ev x):(ps.toList.map fun p=>(p.1,S'.ev p.2))=ps.toList.map fun p=>(p.1,S.ev p.2):=
 List.map_congr_left fun p hp=>by rw [h p.2 (List.mem_map_of_mem hp)]
theorem sj (h:S'.roots=S.roots)(b:AV):tR S' b=tR S b:=by
 unfold tR;simp only [cO h]
theorem yV (h:S'.roots=S.roots)(b:AV):lP S' b=lP S b:=by
 unfold lP
 split
 ·congr 1;exact List.map_congr_left fun x _=>sj h x
 ·exact sj h _
theorem xw (hr:S'.roots=S.roots){ps:Array (Nat×Operand)}(h:∀x∈ps.toList.map (·.2),S'.ev x=S.ev x):(ps.toList.map fun p=>(p.1,lP S' (S'.ev p.2)))=ps.toList.map fun p=>(p.1,lP S (S.ev p.2)):=
 List.map_congr_left fun p hp=>by rw [h p.2 (List.mem_map_of_mem hp),yV hr]
theorem rK {E:TypeId→Option jJ}{o:Oper}{κ:AV→Option am→Option R}(hr:S'.roots=S.roots)(h:∀x∈o.op.operands,S'.ev x=S.ev x):dk E o S' κ=dk E o S κ:=by
 unfold dk
 cases ho:o.op<;>rw [ho] at h<;>simp only [Op.operands] at h<;>try rfl
 case move x=>simp only [h x (by simp)]
 case assign x=>simp only [h x (by simp)]
 case pick c x y=>simp only [h c (by simp),h x (by simp),h y (by simp)]
 case nilCheck x=>simp only [h x (by simp)]
 case binOp op T x y c=>simp only [h x (by simp),h y (by simp)]
 case unOp op T x=>simp only [h x (by simp)]
 case extract x i=>simp only [h x (by simp)]
 case box T x=>simp only [h x (by simp)]
 case load T x=>simp only [h x (by simp),yk hr]
 case fieldAddr T x f=>simp only [h x (by simp)]
 case field T x f=>simp only [h x (by simp)]
 case indexAddr T x i=>simp only [h x (by simp),h i (by simp),rh hr]
 case index T x i=>simp only [h x (by simp),h i (by simp)]
 case slice T x lo hi mx=>
  cases mx with
  |some m=>rfl
  |none=>
   have hlo:∀y,lo=some y→S'.ev y=S.ev y:=fun y e=>h y (by subst e;simp)
   have hhi:∀y,hi=some y→S'.ev y=S.ev y:=fun y e=>h y (by subst e;simp)
   simp only [h x (by simp),cO hr,jN hlo,jN hhi]
 case convert a b x=>simp only [h x (by simp),km hr]
 case build T ps=>simp only [sb (S:=S) (S':=S') (ps:=ps) fun x hx=>h x (by simpa using hx)]
 case buildSlice T n ps=>simp only [xw hr (ps:=ps) fun x hx=>h x (by simpa using hx)]
 case makeSlice T l c=>simp only [h l (by simp),h c (by simp)]
 case makeFunc fn first captured=>
  cases fn with
  |func f=>
   have:=nA (S:=S) (S':=S') (xs:=captured.toList) fun x hx=>h x (by simp at hx ⊢;exact .inr hx)
   simp only [this]
  |_=>rfl
 case call c=>
  simp only [Call.operands] at h
  have hargs:∀x∈c.args.toList,S'.ev x=S.ev x:=fun x hx=>h x (by simp at hx ⊢;exact .inr hx)
  have hL:=nA hargs
  simp only [hL]
  split
  ·rename_i hc
   split
   ·rename_i x T hx hT
    rw [hargs x (by rw [hx];simp),AO hr]
   ·rfl
  ·rfl
  ·rfl
  ·rfl
theorem lb (h:S'.roots=S.roots)(l:Bool)(k:LK)(a:AV):iy l S' k a=iy l S k a:=by
 unfold iy;simp only [cO h]
theorem mb (h:S'.roots=S.roots)(l:Bool):∀(ks:List LK) (as:List AV),cf l S' ks as=cf l S ks as
 |[],[]=>rfl
 |k :: ks,a :: as=>by simp only [cf,lb h,mb h l ks as]
 |[],_ :: _=>rfl
 |_ :: _,[]=>rfl
theorem yU (h:S'.roots=S.roots)(l:Bool)(a:AV):sn l S' a=sn l S a:=by
 unfold sn;simp only [cO h]
theorem qb (h:S'.roots=S.roots)(l:Bool):∀as:List AV,fb l S' as=fb l S as
 |[]=>rfl
 |a :: as=>by simp only [fb,yU h,qb h l as]
theorem zC (h:S'.roots=S.roots)(l:Bool)(a:AV):uK l S' a=uK l S a:=by
 unfold uK;simp only [cC h,qb h]
theorem rZ (h:S'.roots=S.roots)(l:Bool):∀as:List AV,oq l S' as=oq l S as
 |[]=>rfl
 |a :: as=>by simp only [oq,zC h,rZ h l as]
theorem uR (h:S'.roots=S.roots)(l:Bool)(k:PK)(a:AV):tO l S' k a=tO l S k a:=by
 unfold tO GF;simp only [cC h,lb h,mb h,rZ h]
theorem rM (h:S'.roots=S.roots)(l:Bool):∀(ks:List PK) (as:List AV),lL l S' ks as=lL l S ks as
 |[],[]=>rfl
 |k :: ks,a :: as=>by simp only [lL,uR h,rM h l ks as]
 |[],_ :: _=>rfl
 |_ :: _,[]=>rfl
theorem mD {c:Call}(h:∀x∈c.operands,S'.ev x=S.ev x):dK S' c=dK S c:=by
 unfold dK
 have hL:=nA (S:=S) (S':=S') (xs:=c.args.toList) fun x hx=>h x (by simp [Call.operands] at hx ⊢;exact .inr hx)
 split
 ·rename_i x hc
  rw [h x (by simp [Call.operands,hc]),hL]
 ·rfl
theorem yX {E:fA}{lv:Lv E.sig}{o:Oper}{c:Call}{κ:AV→Option am→Option R}(hr:S'.roots=S.roots)(h:∀x∈c.operands,S'.ev x=S.ev x):stepC E lv o c S' κ=stepC E lv o c S κ:=by
 unfold stepC
 simp only [mD h,rM hr]
theorem j2 {E:fA}{lv:Lv E.sig}{o:Oper}{κ:AV→Option am→Option R}(hr:S'.roots=S.roots)(h:∀x∈o.op.operands,S'.ev x=S.ev x):bj E lv o S' κ=bj E lv o S κ:=by
 unfold bj
 split
 ·rename_i c ho
  split
  ·exact rK hr h
  ·exact yX hr (by rw [ho] at h;exact h)
 ·exact rK hr h
theorem mh (h:S'.roots=S.roots)(k:LK)(a:AV):jx S' k a=jx S k a:=by
 unfold jx;simp only [cO h,lb h]
theorem nV (h:S'.roots=S.roots):∀(ks:List LK) (as:List AV),fH S' ks as=fH S ks as
 |[],[]=>rfl
 |k :: ks,a :: as=>by simp only [fH,mh h,nV h ks as]
 |[],_ :: _=>rfl
 |_ :: _,[]=>rfl
theorem tD (h:S'.roots=S.roots)(s:Nat):∀(j:Nat) (ks:List LK) (cs:List ax),ba S' s j ks cs=ba S s j ks cs:=by
 intro j ks
 induction ks generalizing j with
 |nil=>intro cs;cases cs<;>simp [ba]
 |cons k ks ih=>
  intro cs
  cases cs with
  |nil=>simp [ba]
  |cons c cs=>
   cases c with
   |av a=>simp only [ba,mh h,ih]
   |sl u fz xs=>
    cases k<;>try (simp [ba];done)
    ·cases fz with
     |true=>simp only [ba,ih]
     |false=>simp [ba]
    ·simp only [ba,ih]
theorem zW {T T':St}(h:S'.roots=S.roots)(h':T'.roots=T.roots)(l:Bool)(k:PK)(a:AV):uw l S' T' k a=uw l S T k a:=by
 unfold uw;simp only [cC h,uR h',mh h,nV h,tD h]
theorem rV {T T':St}(h:S'.roots=S.roots)(h':T'.roots=T.roots)(l:Bool):∀(ks:List PK) (as:List AV),fg l S' T' ks as=fg l S T ks as
 |[],[]=>rfl
 |k :: ks,a :: as=>by simp only [fg,zW h h',rV h h' l ks as]
 |[],_ :: _=>rfl
 |_ :: _,[]=>rfl
theorem xb (h:S'.roots=S.roots)(k:PK)(a:AV):qq S' k a=qq S k a:=by
 unfold qq;simp only [cC h]
theorem nT (h:S'.roots=S.roots):∀(ks:List PK) (as:List AV),fk S' ks as=fk S ks as
 |k :: ks,a :: as=>by simp only [fk,xb h,nT h ks as]
 |[],_=>rfl
 |_ :: _,[]=>rfl
theorem yt (h:S'.roots=S.roots)(s j:Nat):(frzAt S' s j).roots=(frzAt S s j).roots:=by
 unfold frzAt
 rw [cO h]
 split
 ·exact eg h _ _ _
 ·exact h
theorem pE:∀(l:List (Nat×Nat)) {S S':St},S'.roots=S.roots→(frzAll S' l).roots=(frzAll S l).roots
 |[],_,_,h=>h
 |p :: l,_,_,h=>pE l (yt h p.1 p.2)
theorem lM:∀(l:List (Nat×Nat)) {S S':St},S'.roots=S.roots→(gv S' l).roots=(gv S l).roots
 |[],_,_,h=>h
 |p :: l,_,_,h=>lM l (eg h p.1 p.2 _)
theorem mY {os:List iU}:∀(l:List (Nat×List ax)) {S S':St},S'.roots=S.roots→(d6 S' os l).map St.roots=(d6 S os l).map St.roots
 |[],_,_,h=>by simp [d6,h]
 |(i,cs) :: l,S,S',h=>by
  simp only [d6]
  split
  ·exact mY l (by simp only [St.setRoot,h])
  ·rfl
theorem xF (h:S'.roots=S.roots){a:AV}{l:List AV}{κ:List (Nat×am)→List Nat→Option R}:jH S' a l κ=jH S a l κ:=by
 unfold jH;simp only [cC h,cO h,eg h,fun s' j' c s j c'=>eg (s:=s) (j:=j) (c:=c') (eg (s:=s') (j:=j') (c:=c) h),h]
theorem yP {sig:FuncId→bR}{pks:FuncId→List PK}{lv:Lv sig}{d:Nat}{f:FuncId}{as:List AV}{κ:AV→Option am→List (Nat×am)→List Nat→Option R}(h:S'.roots=S.roots):
  kF sig pks lv d S' f as κ=kF sig pks lv d S f as κ:=by
 unfold kF
 simp only
 have e1:=nT h (pks f) as
 have e2:=pE (fk S (pks f) as) h
 rw [e1]
 generalize frzAll S' (fk S (pks f) as)=S1' at e2 ⊢
 generalize frzAll S (fk S (pks f) as)=S1 at e2 ⊢
 have e3:(⟨S1'.tmps,eL (cL (pks f) as) S1'.roots⟩:St).roots=(⟨S1.tmps,eL (cL (pks f) as) S1.roots⟩:St).roots:=by simp only [e2]
 generalize (⟨S1'.tmps,eL (cL (pks f) as) S1'.roots⟩:St)=S2' at e3 ⊢
 generalize (⟨S1.tmps,eL (cL (pks f) as) S1.roots⟩:St)=S2 at e3 ⊢
 rw [rV e2 e3]
 split
 ·rename_i args os hA
  congr 1
  congr 1
  funext r
  have e4:=mY (os:=os) (em.cells (sig f).back (bR.back1 (sig f) r)) (lM (fK os) e3)
  generalize d6 (gv S2' (fK os)) os _=q' at e4 ⊢
  generalize d6 (gv S2 (fK os)) os _=q at e4 ⊢
  cases q' with
  |none=>
   cases q with
   |none=>rfl
   |some X=>simp at e4
  |some X'=>
   cases q with
   |none=>simp at e4
   |some X=>
    simp only [Option.map_some,Option.some.injEq] at e4
    simp only [e4]
 ·rfl
theorem yD (h:S'.roots=S.roots){s j lo n:Nat}{t:El}{x:AV}{κ:AV→List (Nat×am)→Option R}:lQ S' s j lo n t x κ=lQ S s j lo n t x κ:=by
 unfold lQ;simp only [cO h,km h,eg h]
theorem CH (h:S'.roots=S.roots){s:Nat}{x:List UInt8}{κ:List (Nat×am)→Option R}:IM S' s x κ=IM S s x κ:=by
 unfold IM;simp only [cC h,h]
theorem CQ (h:S'.roots=S.roots){s e:Nat}{κ:AV→List (Nat×am)→Option R}:Ho S' s e κ=Ho S s e κ:=by
 unfold Ho;simp only [cC h,h]
theorem yH {E:fA}{lv:Lv E.sig}{o:Oper}{κ:AV→Option am→List (Nat×am)→List Nat→Option R}(hr:S'.roots=S.roots)(h:∀x∈o.op.operands,S'.ev x=S.ev x):kN E lv o S' κ=kN E lv o S κ:=by
 unfold kN
 cases ho:o.op<;>rw [ho] at h<;>simp only [Op.operands] at h<;>try rfl
 case store T x y=>simp only [h x (by simp),h y (by simp),xF hr]
 case call c=>
  have hargs:∀x∈c.args.toList,S'.ev x=S.ev x:=fun x hx=>h x (by simp [Call.operands] at hx ⊢;exact .inr hx)
  simp only [mD h,yP hr,CH hr,CQ hr]
  split
  ·split
   ·rename_i b x T T' hx hT
    simp only [hargs b (by rw [hx];simp),hargs x (by rw [hx];simp),km hr,cO hr,eg hr,hr]
   ·rfl
  ·split
   ·rename_i b x T T' hx hT
    simp only [hargs b (by rw [hx];simp),hargs x (by rw [hx];simp),cO hr,yD hr]
   ·rfl
  ·rfl
  ·rfl
theorem jU {E:fA}{lv:Lv E.sig}{o:Oper}{κ:AV→Option am→List (Nat×am)→List Nat→Option R}(hr:S'.roots=S.roots)(h:∀x∈o.op.operands,S'.ev x=S.ev x):step1 E lv o S' κ=step1 E lv o S κ:=by
 unfold step1
 cases dd E.pks o with
 |true=>simp only [cond];rw [hr];exact j2 hr h
 |false=>exact yH hr h
theorem sF {E:fA}{lv:Lv E.sig}{o:Oper}{κ:AV→Option am→Option R}(hb:gW o=true)(h:∀x∈o.op.operands,S'.ev x=S.ev x):bj E lv o S' κ=bj E lv o S κ:=by
 have e:∀S:St,bj E lv o S κ=dk E.ty o S κ:=by
  intro S
  unfold bj
  unfold gW at hb
  split
  ·rename_i c ho;rw [ho] at hb;cases hb
  ·rfl
 rw [e,e]
 unfold dk
 unfold gW at hb
 cases ho:o.op<;>rw [ho] at h hb<;>simp only [Op.operands] at h<;>try (cases hb;done)
 case move x=>simp only [h x (by simp)]
 case assign x=>simp only [h x (by simp)]
 case pick c x y=>simp only [h c (by simp),h x (by simp),h y (by simp)]
 case nilCheck x=>simp only [h x (by simp)]
 case binOp op T x y c=>simp only [h x (by simp),h y (by simp)]
 case unOp op T x=>simp only [h x (by simp)]
 case extract x i=>simp only [h x (by simp)]
 case fieldAddr T x f=>simp only [h x (by simp)]
 case field T x f=>simp only [h x (by simp)]
 case index T x i=>simp only [h x (by simp),h i (by simp)]
 case build T ps=>simp only [sb (S:=S) (S':=S') (ps:=ps) fun x hx=>h x (by simpa using hx)]
end
end Go.Proofs.YtjkokaockhecnaaGreatDoorA
