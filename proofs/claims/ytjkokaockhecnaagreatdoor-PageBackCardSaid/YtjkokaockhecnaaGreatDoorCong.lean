/- One operation looks at its operands and at what is owned. -/
import Derived.Test.YtjkokaockhecnaaGreatDoorPar
namespace Go.Proofs.YtjkokaockhecnaaGreatDoorA
open Go
section
variable {R:Type}{S S':St}
theorem bz (h:S'.roots=S.roots)(s:Nat):S'.root s=S.root s:=by unfold St.root;rw [h]
theorem bJ (h:S'.roots=S.roots)(s j:Nat):S'.cell s j=S.cell s j:=by unfold St.cell;rw [bz h]
theorem cH (h:S'.roots=S.roots)(s j:Nat)(c:ah):(S'.setCell s j c).roots=(S.setCell s j c).roots:=by
 unfold St.setCell
 rw [bz h]
 cases S.root s with
 |none=>exact h
 |some r=>simp only [St.setRoot,h]
theorem tN (h:S'.roots=S.roots){el:Option El}{a:AV}{n:Nat}{κ:List AV→Option R}:g8 S' el a n κ=g8 S el a n κ:=by
 unfold g8;simp only [bz h,bJ h]
theorem m8 (h:S'.roots=S.roots){t:El}{x i:AV}{κ:AV→Option R}:cL S' t x i κ=cL S t x i κ:=by
 unfold cL;simp only [bJ h]
theorem wa (h:S'.roots=S.roots){ty:Option gA}{x:AV}{κ:AV→Option R}:qe S' ty x κ=qe S ty x κ:=by
 unfold qe;simp only [bJ h]
theorem ic (h:S'.roots=S.roots)(t:El)(x:AV):fp S' t x=fp S t x:=by
 unfold fp;simp only [bJ h]
theorem gB {o:Option Operand}(h:∀x,o=some x→S'.ev x=S.ev x){y d:Nat}{κ:Nat→Option R}:b9 S' o y d κ=b9 S o y d κ:=by
 unfold b9
 cases o with
 |none=>rfl
 |some x=>simp only [h x rfl]
theorem sj (S:St):∀xs:List Operand,evL S xs=xs.map S.ev
 |[]=>rfl
 |x :: xs=>by simp [evL,sj S xs]
theorem kB {xs:List Operand}(h:∀x∈xs,S'.ev x=S.ev x):evL S' xs=evL S xs:=by
 rw [sj,sj];exact List.map_congr_left h
theorem nS {ps:Array (Nat×Operand)}(h:∀x∈ps.toList.map (·.2),S'.ev x=S.ev x):(ps.toList.map fun p=>(p.1,S'.ev p.2))=ps.toList.map fun p=>(p.1,S.ev p.2):=
 List.map_congr_left fun p hp=>by rw [h p.2 (List.mem_map_of_mem hp)]
theorem oe (h:S'.roots=S.roots)(b:AV):qz S' b=qz S b:=by
 unfold qz;simp only [bJ h]
theorem uG (h:S'.roots=S.roots)(b:AV):jz S' b=jz S b:=by
 unfold jz
 split
 ·congr 1;exact List.map_congr_left fun x _=>oe h x
 ·exact oe h _
theorem sL (hr:S'.roots=S.roots){ps:Array (Nat×Operand)}(h:∀x∈ps.toList.map (·.2),S'.ev x=S.ev x):(ps.toList.map fun p=>(p.1,jz S' (S'.ev p.2)))=ps.toList.map fun p=>(p.1,jz S (S.ev p.2)):=
 List.map_congr_left fun p hp=>by rw [h p.2 (List.mem_map_of_mem hp),uG hr]
theorem oc {E:TypeId→Option gA}{o:Oper}{κ:AV→Option ae→Option R}(hr:S'.roots=S.roots)(h:∀x∈o.op.operands,S'.ev x=S.ev x):bY E o S' κ=bY E o S κ:=by
 unfold bY
 cases ho:o.op<;>rw [ho] at h<;>simp only [Op.operands] at h<;>try rfl
 case move x=>simp only [h x (by simp)]
 case assign x=>simp only [h x (by simp)]
 case pick c x y=>simp only [h c (by simp),h x (by simp),h y (by simp)]
 case nilCheck x=>simp only [h x (by simp)]
 case binOp op T x y c=>simp only [h x (by simp),h y (by simp)]
 case unOp op T x=>simp only [h x (by simp)]
 case extract x i=>simp only [h x (by simp)]
 case box T x=>simp only [h x (by simp)]
 case load T x=>simp only [h x (by simp),tN hr]
 case fieldAddr T x f=>simp only [h x (by simp)]
 case field T x f=>simp only [h x (by simp)]
 case indexAddr T x i=>simp only [h x (by simp),h i (by simp),m8 hr]
 case index T x i=>simp only [h x (by simp),h i (by simp)]
 case slice T x lo hi mx=>
  cases mx with
  |some m=>rfl
  |none=>
   have hlo:∀y,lo=some y→S'.ev y=S.ev y:=fun y e=>h y (by subst e;simp)
   have hhi:∀y,hi=some y→S'.ev y=S.ev y:=fun y e=>h y (by subst e;simp)
   simp only [h x (by simp),bJ hr,gB hlo,gB hhi]
 case convert a b x=>simp only [h x (by simp),ic hr]
 case build T ps=>simp only [nS (S:=S) (S':=S') (ps:=ps) fun x hx=>h x (by simpa using hx)]
 case buildSlice T n ps=>simp only [sL hr (ps:=ps) fun x hx=>h x (by simpa using hx)]
 case makeSlice T l c=>simp only [h l (by simp),h c (by simp)]
 case makeFunc fn first captured=>
  cases fn with
  |func f=>
   have:=kB (S:=S) (S':=S') (xs:=captured.toList) fun x hx=>h x (by simp at hx ⊢;exact .inr hx)
   simp only [this]
  |_=>rfl
 case call c=>
  simp only [Call.operands] at h
  have hargs:∀x∈c.args.toList,S'.ev x=S.ev x:=fun x hx=>h x (by simp at hx ⊢;exact .inr hx)
  have hL:=kB hargs
  simp only [hL]
  split
  ·rename_i hc
   split
   ·rename_i x T hx hT
    rw [hargs x (by rw [hx];simp),wa hr]
   ·rfl
  ·rfl
  ·rfl
  ·rfl
theorem jl (h:S'.roots=S.roots)(l:El→Bool)(k:LK)(a:AV):e7 l S' k a=e7 l S k a:=by
 unfold e7;simp only [bJ h]
theorem kc (h:S'.roots=S.roots)(l:El→Bool):∀(ks:List LK) (as:List AV),a6 l S' ks as=a6 l S ks as
 |[],[]=>rfl
 |k :: ks,a :: as=>by simp only [a6,jl h,kc h l ks as]
 |[],_ :: _=>rfl
 |_ :: _,[]=>rfl
theorem tC (h:S'.roots=S.roots)(l:El→Bool)(a:AV):nz l S' a=nz l S a:=by
 unfold nz;simp only [bJ h]
theorem mB (h:S'.roots=S.roots)(l:El→Bool):∀as:List AV,dq l S' as=dq l S as
 |[]=>rfl
 |a :: as=>by simp only [dq,tC h,mB h l as]
theorem uf (h:S'.roots=S.roots)(l:El→Bool)(a:AV):pP l S' a=pP l S a:=by
 unfold pP;simp only [bz h,mB h]
theorem nB (h:S'.roots=S.roots)(l:El→Bool):∀as:List AV,kU l S' as=kU l S as
 |[]=>rfl
 |a :: as=>by simp only [kU,uf h,nB h l as]
theorem pM (h:S'.roots=S.roots)(l:El→Bool)(k:PK)(a:AV):qf l S' k a=qf l S k a:=by
 unfold qf zd;simp only [bz h,jl h,kc h,nB h]
theorem ol (h:S'.roots=S.roots)(l:El→Bool):∀(ks:List PK) (as:List AV),jA l S' ks as=jA l S ks as
 |[],[]=>rfl
 |k :: ks,a :: as=>by simp only [jA,pM h,ol h l ks as]
 |[],_ :: _=>rfl
 |_ :: _,[]=>rfl
theorem jY {c:Call}(h:∀x∈c.operands,S'.ev x=S.ev x):cj S' c=cj S c:=by
 unfold cj
 have hL:=kB (S:=S) (S':=S') (xs:=c.args.toList) fun x hx=>h x (by simp [Call.operands] at hx ⊢;exact .inr hx)
 split
 ·rename_i x hc
  rw [h x (by simp [Call.operands,hc]),hL]
 ·rfl
theorem uJ {E:dE}{lv:Lv E.sig}{o:Oper}{c:Call}{κ:AV→Option ae→Option R}(hr:S'.roots=S.roots)(h:∀x∈c.operands,S'.ev x=S.ev x):stepC E lv o c S' κ=stepC E lv o c S κ:=by
 unfold stepC
 simp only [jY h,ol hr]
theorem gW {E:dE}{lv:Lv E.sig}{o:Oper}{κ:AV→Option ae→Option R}(hr:S'.roots=S.roots)(h:∀x∈o.op.operands,S'.ev x=S.ev x):aC E lv o S' κ=aC E lv o S κ:=by
 unfold aC
 split
 ·rename_i c ho
  split
  ·exact oc hr h
  ·exact uJ hr (by rw [ho] at h;exact h)
 ·exact oc hr h
theorem jW (h:S'.roots=S.roots)(k:LK)(a:AV):gr S' k a=gr S k a:=by
 unfold gr;simp only [bJ h,jl h]
theorem kX (h:S'.roots=S.roots):∀(ks:List LK) (as:List AV),dG S' ks as=dG S ks as
 |[],[]=>rfl
 |k :: ks,a :: as=>by simp only [dG,jW h,kX h ks as]
 |[],_ :: _=>rfl
 |_ :: _,[]=>rfl
theorem qu (h:S'.roots=S.roots)(s:Nat):∀(j:Nat) (ks:List LK) (cs:List ah),aA S' s j ks cs=aA S s j ks cs:=by
 intro j ks
 induction ks generalizing j with
 |nil=>intro cs;cases cs<;>simp [aA]
 |cons k ks ih=>
  intro cs
  cases cs with
  |nil=>simp [aA]
  |cons c cs=>
   cases c with
   |av a=>simp only [aA,jW h,ih]
   |sl u fz xs=>
    cases k<;>try (simp [aA];done)
    ·cases fz with
     |true=>simp only [aA,ih]
     |false=>simp [aA]
    ·simp only [aA,ih]
theorem vH {T T':St}(h:S'.roots=S.roots)(h':T'.roots=T.roots)(l:El→Bool)(k:PK)(a:AV):qC l S' T' k a=qC l S T k a:=by
 unfold qC;simp only [bz h,pM h',jW h,kX h,qu h]
theorem nU {T T':St}(h:S'.roots=S.roots)(h':T'.roots=T.roots)(l:El→Bool):∀(ks:List PK) (as:List AV),dw l S' T' ks as=dw l S T ks as
 |[],[]=>rfl
 |k :: ks,a :: as=>by simp only [dw,vH h h',nU h h' l ks as]
 |[],_ :: _=>rfl
 |_ :: _,[]=>rfl
theorem sa (h:S'.roots=S.roots)(k:PK)(a:AV):mO S' k a=mO S k a:=by
 unfold mO;simp only [bz h]
theorem kN (h:S'.roots=S.roots):∀(ks:List PK) (as:List AV),du S' ks as=du S ks as
 |k :: ks,a :: as=>by simp only [du,sa h,kN h ks as]
 |[],_=>rfl
 |_ :: _,[]=>rfl
theorem tG (h:S'.roots=S.roots)(s j:Nat):(frzAt S' s j).roots=(frzAt S s j).roots:=by
 unfold frzAt
 rw [bJ h]
 split
 ·exact cH h _ _ _
 ·exact h
theorem mw:∀(l:List (Nat×Nat)) {S S':St},S'.roots=S.roots→(frzAll S' l).roots=(frzAll S l).roots
 |[],_,_,h=>h
 |p :: l,_,_,h=>mw l (tG h p.1 p.2)
theorem jC:∀(l:List (Nat×Nat)) {S S':St},S'.roots=S.roots→(em S' l).roots=(em S l).roots
 |[],_,_,h=>h
 |p :: l,_,_,h=>jC l (cH h p.1 p.2 _)
theorem ko {os:List fH}:∀(l:List (Nat×List ah)) {S S':St},S'.roots=S.roots→(cE S' os l).map St.roots=(cE S os l).map St.roots
 |[],_,_,h=>by simp [cE,h]
 |(i,cs) :: l,S,S',h=>by
  simp only [cE]
  split
  ·exact ko l (by simp only [St.setRoot,h])
  ·rfl
theorem su (h:S'.roots=S.roots){a:AV}{l:List AV}{κ:List (Nat×ae)→List Nat→Option R}:gf S' a l κ=gf S a l κ:=by
 unfold gf;simp only [bz h,bJ h,cH h,fun s' j' c s j c'=>cH (s:=s) (j:=j) (c:=c') (cH (s:=s') (j:=j') (c:=c) h),h]
theorem tg {sig:FuncId→bg}{pks:FuncId→List PK}{lv:Lv sig}{d:Nat}{f:FuncId}{as:List AV}{κ:AV→Option ae→List (Nat×ae)→List Nat→Option R}(h:S'.roots=S.roots):
  iE sig pks lv d S' f as κ=iE sig pks lv d S f as κ:=by
 unfold iE
 simp only
 have e1:=kN h (pks f) as
 have e2:=mw (du S (pks f) as) h
 rw [e1]
 generalize frzAll S' (du S (pks f) as)=S1' at e2 ⊢
 generalize frzAll S (du S (pks f) as)=S1 at e2 ⊢
 have e3:(⟨S1'.tmps,dd (bF (pks f) as) S1'.roots⟩:St).roots=(⟨S1.tmps,dd (bF (pks f) as) S1.roots⟩:St).roots:=by simp only [e2]
 generalize (⟨S1'.tmps,dd (bF (pks f) as) S1'.roots⟩:St)=S2' at e3 ⊢
 generalize (⟨S1.tmps,dd (bF (pks f) as) S1.roots⟩:St)=S2 at e3 ⊢
 rw [nU e2 e3]
 split
 ·rename_i args os hA
  congr 1
  congr 1
  funext r
  have e4:=ko (os:=os) (cM.cells (sig f).back (bg.back1 (sig f) r)) (jC (dN os) e3)
  generalize cE (em S2' (dN os)) os _=q' at e4 ⊢
  generalize cE (em S2 (dN os)) os _=q at e4 ⊢
  cases q' with
  |none=>
   cases q with
   |none=>rfl
   |some X=>simp at e4
  |some X'=>
   cases q with
   |none=>simp at e4
   |some X=>
    simp only [Option.map_some,Option.some.injEq] at e4
    simp only [e4]
 ·rfl
theorem uw (h:S'.roots=S.roots){s j lo n:Nat}{t:El}{x:AV}{κ:AV→List (Nat×ae)→Option R}:jE S' s j lo n t x κ=jE S s j lo n t x κ:=by
 unfold jE;simp only [bJ h,ic h,cH h]
theorem xW (h:S'.roots=S.roots){s:Nat}{x:List UInt8}{κ:List (Nat×ae)→Option R}:Be S' s x κ=Be S s x κ:=by
 unfold Be;simp only [bz h,h]
theorem yq (h:S'.roots=S.roots){s e:Nat}{κ:AV→List (Nat×ae)→Option R}:Bq S' s e κ=Bq S s e κ:=by
 unfold Bq;simp only [bz h,h]
theorem tV {E:dE}{lv:Lv E.sig}{o:Oper}{κ:AV→Option ae→List (Nat×ae)→List Nat→Option R}(hr:S'.roots=S.roots)(h:∀x∈o.op.operands,S'.ev x=S.ev x):iy E lv o S' κ=iy E lv o S κ:=by
 unfold iy
 cases ho:o.op<;>rw [ho] at h<;>simp only [Op.operands] at h<;>try rfl
 case store T x y=>simp only [h x (by simp),h y (by simp),su hr]
 case call c=>
  have hargs:∀x∈c.args.toList,S'.ev x=S.ev x:=fun x hx=>h x (by simp [Call.operands] at hx ⊢;exact .inr hx)
  simp only [jY h,tg hr,xW hr,yq hr]
  split
  ·split
   ·rename_i b x T T' hx hT
    simp only [hargs b (by rw [hx];simp),hargs x (by rw [hx];simp),ic hr,bJ hr,cH hr,hr]
   ·rfl
  ·split
   ·rename_i b x T T' hx hT
    simp only [hargs b (by rw [hx];simp),hargs x (by rw [hx];simp),bJ hr,uw hr]
   ·rfl
  ·rfl
  ·rfl
theorem gU {E:dE}{lv:Lv E.sig}{o:Oper}{κ:AV→Option ae→List (Nat×ae)→List Nat→Option R}(hr:S'.roots=S.roots)(h:∀x∈o.op.operands,S'.ev x=S.ev x):step1 E lv o S' κ=step1 E lv o S κ:=by
 unfold step1
 cases bV E.pks o with
 |true=>simp only [cond];rw [hr];exact gW hr h
 |false=>exact tV hr h
theorem nO {E:dE}{lv:Lv E.sig}{o:Oper}{κ:AV→Option ae→Option R}(hb:eJ o=true)(h:∀x∈o.op.operands,S'.ev x=S.ev x):aC E lv o S' κ=aC E lv o S κ:=by
 have e:∀S:St,aC E lv o S κ=bY E.ty o S κ:=by
  intro S
  unfold aC
  unfold eJ at hb
  split
  ·rename_i c ho;rw [ho] at hb;cases hb
  ·rfl
 rw [e,e]
 unfold bY
 unfold eJ at hb
 cases ho:o.op<;>rw [ho] at h hb<;>simp only [Op.operands] at h<;>try (cases hb;done)
 case move x=>simp only [h x (by simp)]
 case assign x=>simp only [h x (by simp)]
 case pick c x y=>simp only [h c (by simp),h x (by simp),h y (by simp)]
 case nilCheck x=>simp only [h x (by simp)]
 case binOp op T x y c=>simp only [h x (by simp),h y (by simp)]
 case unOp op T x=>simp only [h x (by simp)]
 case extract x i=>simp only [h x (by simp)]
 case fieldAddr T x f=>simp only [h x (by simp)]
 case field T x f=>simp only [h x (by simp)]
 case index T x i=>simp only [h x (by simp),h i (by simp)]
 case build T ps=>simp only [nS (S:=S) (S':=S') (ps:=ps) fun x hx=>h x (by simpa using hx)]
end
end Go.Proofs.YtjkokaockhecnaaGreatDoorA
