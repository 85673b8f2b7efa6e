/- One operation looks at its operands and at what is owned. -/
import Derived.Test.YtjkokaockhecnaaGreatDoorPar
namespace Go.Proofs.YtjkokaockhecnaaGreatDoorA
open Go
section
variable {R:Type}{S S':St}
theorem bP (h:S'.roots=S.roots)(s:Nat):S'.root s=S.root s:=by unfold St.root;rw [h]
theorem cd (h:S'.roots=S.roots)(s j:Nat):S'.cell s j=S.cell s j:=by unfold St.cell;rw [bP h]
theorem dr (h:S'.roots=S.roots)(s j:Nat)(c:aj):(S'.setCell s j c).roots=(S.setCell s j c).roots:=by
 unfold St.setCell
 rw [bP h]
 cases S.root s with
 |none=>exact h
 |some r=>simp only [St.setRoot,h]
theorem wa (h:S'.roots=S.roots){el:Option El}{a:AV}{n:Nat}{κ:List AV→Option R}:iK S' el a n κ=iK S el a n κ:=by
 unfold iK;simp only [bP h,cd h]
theorem o7 (h:S'.roots=S.roots){t:El}{x i:AV}{κ:AV→Option R}:dt S' t x i κ=dt S t x i κ:=by
 unfold dt;simp only [cd h]
theorem xh (h:S'.roots=S.roots){ty:Option iC}{x:AV}{κ:AV→Option R}:rN S' ty x κ=rN S ty x κ:=by
 unfold rN;simp only [cd h]
theorem jg (h:S'.roots=S.roots)(t:El)(x:AV):gk S' t x=gk S t x:=by
 unfold gk;simp only [cd h]
theorem iI {o:Option Operand}(h:∀x,o=some x→S'.ev x=S.ev x){y d:Nat}{κ:Nat→Option R}:cE S' o y d κ=cE S o y d κ:=by
 unfold cE
 cases o with
 |none=>rfl
 |some x=>simp only [h x rfl]
theorem uG (S:St):∀xs:List Operand,evL S xs=xs.map S.ev
 |[]=>rfl
 |x :: xs=>by simp [evL,uG S xs]
theorem lJ {xs:List Operand}(h:∀x∈xs,S'.ev x=S.ev x):evL S' xs=evL S xs:=by
 rw [uG,uG];exact List.map_congr_left h
theorem pX {ps:Array (Nat×Operand)}(h:∀x∈ps.toList.map (·.2),S'.ev x=S.ev x):(ps.toList.map fun p=>(p.1,S'.ev p.2))=ps.toList.map fun p=>(p.1,S.ev p.2):=
 List.map_congr_left fun p hp=>by rw [h p.2 (List.mem_map_of_mem hp)]
theorem pN (h:S'.roots=S.roots)(b:AV):qC S' b=qC S b:=by
 unfold qC;simp only [cd h]
theorem vX (h:S'.roots=S.roots)(b:AV):kz S' b=kz S b:=by
 unfold kz
 split
 ·congr 1;exact List.map_congr_left fun x _=>pN h x
 ·exact pN h _
theorem uj (hr:S'.roots=S.roots){ps:Array (Nat×Operand)}(h:∀x∈ps.toList.map (·.2),S'.ev x=S.ev x):(ps.toList.map fun p=>(p.1,kz S' (S'.ev p.2)))=ps.toList.map fun p=>(p.1,kz S (S.ev p.2)):=
 List.map_congr_left fun p hp=>by rw [h p.2 (List.mem_map_of_mem hp),vX hr]
theorem qa {E:TypeId→Option iC}{o:Oper}{κ:AV→Option ak→Option R}(hr:S'.roots=S.roots)(h:∀x∈o.op.operands,S'.ev x=S.ev x):cr E o S' κ=cr E o S κ:=by
 unfold cr
 cases ho:o.op<;>rw [ho] at h<;>simp only [Op.operands] at h<;>try rfl
 case move x=>simp only [h x (by simp)]
 case assign x=>simp only [h x (by simp)]
 case pick c x y=>simp only [h c (by simp),h x (by simp),h y (by simp)]
 case nilCheck x=>simp only [h x (by simp)]
 case binOp op T x y c=>simp only [h x (by simp),h y (by simp)]
 case unOp op T x=>simp only [h x (by simp)]
 case extract x i=>simp only [h x (by simp)]
 case box T x=>simp only [h x (by simp)]
 case load T x=>simp only [h x (by simp),wa hr]
 case fieldAddr T x f=>simp only [h x (by simp)]
 case field T x f=>simp only [h x (by simp)]
 case indexAddr T x i=>simp only [h x (by simp),h i (by simp),o7 hr]
 case index T x i=>simp only [h x (by simp),h i (by simp)]
 case slice T x lo hi mx=>
  cases mx with
  |some m=>rfl
  |none=>
   have hlo:∀y,lo=some y→S'.ev y=S.ev y:=fun y e=>h y (by subst e;simp)
   have hhi:∀y,hi=some y→S'.ev y=S.ev y:=fun y e=>h y (by subst e;simp)
   simp only [h x (by simp),cd hr,iI hlo,iI hhi]
 case convert a b x=>simp only [h x (by simp),jg hr]
 case build T ps=>simp only [pX (S:=S) (S':=S') (ps:=ps) fun x hx=>h x (by simpa using hx)]
 case buildSlice T n ps=>simp only [uj hr (ps:=ps) fun x hx=>h x (by simpa using hx)]
 case makeSlice T l c=>simp only [h l (by simp),h c (by simp)]
 case makeFunc fn first captured=>
  cases fn with
  |func f=>
   have:=lJ (S:=S) (S':=S') (xs:=captured.toList) fun x hx=>h x (by simp at hx ⊢;exact .inr hx)
   simp only [this]
  |_=>rfl
 case call c=>
  simp only [Call.operands] at h
  have hargs:∀x∈c.args.toList,S'.ev x=S.ev x:=fun x hx=>h x (by simp at hx ⊢;exact .inr hx)
  have hL:=lJ hargs
  simp only [hL]
  split
  ·rename_i hc
   split
   ·rename_i x T hx hT
    rw [hargs x (by rw [hx];simp),xh hr]
   ·rfl
  ·rfl
  ·rfl
  ·rfl
theorem j3 (h:S'.roots=S.roots)(l:El→Bool)(k:LK)(a:AV):gf l S' k a=gf l S k a:=by
 unfold gf;simp only [cd h]
theorem ll (h:S'.roots=S.roots)(l:El→Bool):∀(ks:List LK) (as:List AV),bp l S' ks as=bp l S ks as
 |[],[]=>rfl
 |k :: ks,a :: as=>by simp only [bp,j3 h,ll h l ks as]
 |[],_ :: _=>rfl
 |_ :: _,[]=>rfl
theorem vK (h:S'.roots=S.roots)(l:El→Bool)(a:AV):pJ l S' a=pJ l S a:=by
 unfold pJ;simp only [cd h]
theorem ny (h:S'.roots=S.roots)(l:El→Bool):∀as:List AV,ec l S' as=ec l S as
 |[]=>rfl
 |a :: as=>by simp only [ec,vK h,ny h l as]
theorem vA (h:S'.roots=S.roots)(l:El→Bool)(a:AV):qK l S' a=qK l S a:=by
 unfold qK;simp only [bP h,ny h]
theorem pq (h:S'.roots=S.roots)(l:El→Bool):∀as:List AV,l9 l S' as=l9 l S as
 |[]=>rfl
 |a :: as=>by simp only [l9,vA h,pq h l as]
theorem ri (h:S'.roots=S.roots)(l:El→Bool)(k:PK)(a:AV):rY l S' k a=rY l S k a:=by
 unfold rY Bg;simp only [bP h,j3 h,ll h,pq h]
theorem pi (h:S'.roots=S.roots)(l:El→Bool):∀(ks:List PK) (as:List AV),kx l S' ks as=kx l S ks as
 |[],[]=>rfl
 |k :: ks,a :: as=>by simp only [kx,ri h,pi h l ks as]
 |[],_ :: _=>rfl
 |_ :: _,[]=>rfl
theorem kY {c:Call}(h:∀x∈c.operands,S'.ev x=S.ev x):c7 S' c=c7 S c:=by
 unfold c7
 have hL:=lJ (S:=S) (S':=S') (xs:=c.args.toList) fun x hx=>h x (by simp [Call.operands] at hx ⊢;exact .inr hx)
 split
 ·rename_i x hc
  rw [h x (by simp [Call.operands,hc]),hL]
 ·rfl
theorem vV {E:ew}{lv:Lv E.sig}{o:Oper}{c:Call}{κ:AV→Option ak→Option R}(hr:S'.roots=S.roots)(h:∀x∈c.operands,S'.ev x=S.ev x):stepC E lv o c S' κ=stepC E lv o c S κ:=by
 unfold stepC
 simp only [kY h,pi hr]
theorem iN {E:ew}{lv:Lv E.sig}{o:Oper}{κ:AV→Option ak→Option R}(hr:S'.roots=S.roots)(h:∀x∈o.op.operands,S'.ev x=S.ev x):aN E lv o S' κ=aN E lv o S κ:=by
 unfold aN
 split
 ·rename_i c ho
  split
  ·exact qa hr h
  ·exact vV hr (by rw [ho] at h;exact h)
 ·exact qa hr h
theorem lC (h:S'.roots=S.roots)(k:LK)(a:AV):iq S' k a=iq S k a:=by
 unfold iq;simp only [cd h,j3 h]
theorem lY (h:S'.roots=S.roots):∀(ks:List LK) (as:List AV),eB S' ks as=eB S ks as
 |[],[]=>rfl
 |k :: ks,a :: as=>by simp only [eB,lC h,lY h ks as]
 |[],_ :: _=>rfl
 |_ :: _,[]=>rfl
theorem rJ (h:S'.roots=S.roots)(s:Nat):∀(j:Nat) (ks:List LK) (cs:List aj),aF S' s j ks cs=aF S s j ks cs:=by
 intro j ks
 induction ks generalizing j with
 |nil=>intro cs;cases cs<;>simp [aF]
 |cons k ks ih=>
  intro cs
  cases cs with
  |nil=>simp [aF]
  |cons c cs=>
   cases c with
   |av a=>simp only [aF,lC h,ih]
   |sl u fz xs=>
    cases k<;>try (simp [aF];done)
    ·cases fz with
     |true=>simp only [aF,ih]
     |false=>simp [aF]
    ·simp only [aF,ih]
theorem wE {T T':St}(h:S'.roots=S.roots)(h':T'.roots=T.roots)(l:El→Bool)(k:PK)(a:AV):qu l S' T' k a=qu l S T k a:=by
 unfold qu;simp only [bP h,ri h',lC h,lY h,rJ h]
theorem o8 {T T':St}(h:S'.roots=S.roots)(h':T'.roots=T.roots)(l:El→Bool):∀(ks:List PK) (as:List AV),ej l S' T' ks as=ej l S T ks as
 |[],[]=>rfl
 |k :: ks,a :: as=>by simp only [ej,wE h h',o8 h h' l ks as]
 |[],_ :: _=>rfl
 |_ :: _,[]=>rfl
theorem ua (h:S'.roots=S.roots)(k:PK)(a:AV):oH S' k a=oH S k a:=by
 unfold oH;simp only [bP h]
theorem mn (h:S'.roots=S.roots):∀(ks:List PK) (as:List AV),ei S' ks as=ei S ks as
 |k :: ks,a :: as=>by simp only [ei,ua h,mn h ks as]
 |[],_=>rfl
 |_ :: _,[]=>rfl
theorem vY (h:S'.roots=S.roots)(s j:Nat):(frzAt S' s j).roots=(frzAt S s j).roots:=by
 unfold frzAt
 rw [cd h]
 split
 ·exact dr h _ _ _
 ·exact h
theorem nf:∀(l:List (Nat×Nat)) {S S':St},S'.roots=S.roots→(frzAll S' l).roots=(frzAll S l).roots
 |[],_,_,h=>h
 |p :: l,_,_,h=>nf l (vY h p.1 p.2)
theorem kw:∀(l:List (Nat×Nat)) {S S':St},S'.roots=S.roots→(fj S' l).roots=(fj S l).roots
 |[],_,_,h=>h
 |p :: l,_,_,h=>kw l (dr h p.1 p.2 _)
theorem kN {os:List gC}:∀(l:List (Nat×List aj)) {S S':St},S'.roots=S.roots→(dk S' os l).map St.roots=(dk S os l).map St.roots
 |[],_,_,h=>by simp [dk,h]
 |(i,cs) :: l,S,S',h=>by
  simp only [dk]
  split
  ·exact kN l (by simp only [St.setRoot,h])
  ·rfl
theorem uu (h:S'.roots=S.roots){a:AV}{l:List AV}{κ:List (Nat×ak)→List Nat→Option R}:g9 S' a l κ=g9 S a l κ:=by
 unfold g9;simp only [bP h,cd h,dr h,fun s' j' c s j c'=>dr (s:=s) (j:=j) (c:=c') (dr (s:=s') (j:=j') (c:=c) h),h]
theorem uR {sig:FuncId→bq}{pks:FuncId→List PK}{lv:Lv sig}{d:Nat}{f:FuncId}{as:List AV}{κ:AV→Option ak→List (Nat×ak)→List Nat→Option R}(h:S'.roots=S.roots):
  jC sig pks lv d S' f as κ=jC sig pks lv d S f as κ:=by
 unfold jC
 simp only
 have e1:=mn h (pks f) as
 have e2:=nf (ei S (pks f) as) h
 rw [e1]
 generalize frzAll S' (ei S (pks f) as)=S1' at e2 ⊢
 generalize frzAll S (ei S (pks f) as)=S1 at e2 ⊢
 have e3:(⟨S1'.tmps,dU (bY (pks f) as) S1'.roots⟩:St).roots=(⟨S1.tmps,dU (bY (pks f) as) S1.roots⟩:St).roots:=by simp only [e2]
 generalize (⟨S1'.tmps,dU (bY (pks f) as) S1'.roots⟩:St)=S2' at e3 ⊢
 generalize (⟨S1.tmps,dU (bY (pks f) as) S1.roots⟩:St)=S2 at e3 ⊢
 rw [o8 e2 e3]
 split
 ·rename_i args os hA
  congr 1
  congr 1
  funext r
  have e4:=kN (os:=os) (dz.cells (sig f).back (bq.back1 (sig f) r)) (kw (eG os) e3)
  generalize dk (fj S2' (eG os)) os _=q' at e4 ⊢
  generalize dk (fj S2 (eG os)) os _=q at e4 ⊢
  cases q' with
  |none=>
   cases q with
   |none=>rfl
   |some X=>simp at e4
  |some X'=>
   cases q with
   |none=>simp at e4
   |some X=>
    simp only [Option.map_some,Option.some.injEq] at e4
    simp only [e4]
 ·rfl
theorem vJ (h:S'.roots=S.roots){s j lo n:Nat}{t:El}{x:AV}{κ:AV→List (Nat×ak)→Option R}:ku S' s j lo n t x κ=ku S s j lo n t x κ:=by
 unfold ku;simp only [cd h,jg h,dr h]
theorem zg (h:S'.roots=S.roots){s:Nat}{x:List UInt8}{κ:List (Nat×ak)→Option R}:CJ S' s x κ=CJ S s x κ:=by
 unfold CJ;simp only [bP h,h]
theorem zn (h:S'.roots=S.roots){s e:Nat}{κ:AV→List (Nat×ak)→Option R}:CS S' s e κ=CS S s e κ:=by
 unfold CS;simp only [bP h,h]
theorem vr {E:ew}{lv:Lv E.sig}{o:Oper}{κ:AV→Option ak→List (Nat×ak)→List Nat→Option R}(hr:S'.roots=S.roots)(h:∀x∈o.op.operands,S'.ev x=S.ev x):jB E lv o S' κ=jB E lv o S κ:=by
 unfold jB
 cases ho:o.op<;>rw [ho] at h<;>simp only [Op.operands] at h<;>try rfl
 case store T x y=>simp only [h x (by simp),h y (by simp),uu hr]
 case call c=>
  have hargs:∀x∈c.args.toList,S'.ev x=S.ev x:=fun x hx=>h x (by simp [Call.operands] at hx ⊢;exact .inr hx)
  simp only [kY h,uR hr,zg hr,zn hr]
  split
  ·split
   ·rename_i b x T T' hx hT
    simp only [hargs b (by rw [hx];simp),hargs x (by rw [hx];simp),jg hr,cd hr,dr hr,hr]
   ·rfl
  ·split
   ·rename_i b x T T' hx hT
    simp only [hargs b (by rw [hx];simp),hargs x (by rw [hx];simp),cd hr,vJ hr]
   ·rfl
  ·rfl
  ·rfl
theorem iJ {E:ew}{lv:Lv E.sig}{o:Oper}{κ:AV→Option ak→List (Nat×ak)→List Nat→Option R}(hr:S'.roots=S.roots)(h:∀x∈o.op.operands,S'.ev x=S.ev x):step1 E lv o S' κ=step1 E lv o S κ:=by
 unfold step1
 cases cg E.pks o with
 |true=>simp only [cond];rw [hr];exact iN hr h
 |false=>exact vr hr h
theorem po {E:ew}{lv:Lv E.sig}{o:Oper}{κ:AV→Option ak→Option R}(hb:fN o=true)(h:∀x∈o.op.operands,S'.ev x=S.ev x):aN E lv o S' κ=aN E lv o S κ:=by
 have e:∀S:St,aN E lv o S κ=cr E.ty o S κ:=by
  intro S
  unfold aN
  unfold fN at hb
  split
  ·rename_i c ho;rw [ho] at hb;cases hb
  ·rfl
 rw [e,e]
 unfold cr
 unfold fN at hb
 cases ho:o.op<;>rw [ho] at h hb<;>simp only [Op.operands] at h<;>try (cases hb;done)
 case move x=>simp only [h x (by simp)]
 case assign x=>simp only [h x (by simp)]
 case pick c x y=>simp only [h c (by simp),h x (by simp),h y (by simp)]
 case nilCheck x=>simp only [h x (by simp)]
 case binOp op T x y c=>simp only [h x (by simp),h y (by simp)]
 case unOp op T x=>simp only [h x (by simp)]
 case extract x i=>simp only [h x (by simp)]
 case fieldAddr T x f=>simp only [h x (by simp)]
 case field T x f=>simp only [h x (by simp)]
 case index T x i=>simp only [h x (by simp),h i (by simp)]
 case build T ps=>simp only [pX (S:=S) (S':=S') (ps:=ps) fun x hx=>h x (by simpa using hx)]
end
end Go.Proofs.YtjkokaockhecnaaGreatDoorA
