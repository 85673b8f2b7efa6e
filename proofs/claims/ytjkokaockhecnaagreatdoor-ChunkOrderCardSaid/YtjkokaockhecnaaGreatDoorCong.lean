/- One operation looks at its operands and at what is owned. -/
import Derived.Test.YtjkokaockhecnaaGreatDoorPar
namespace Go.Proofs.YtjkokaockhecnaaGreatDoorA
open Go
section
variable {R:Type}{S S':St}
theorem bE (h:S'.roots=S.roots)(s:Nat):S'.root s=S.root s:=by unfold St.root;rw [h]
theorem bM (h:S'.roots=S.roots)(s j:Nat):S'.cell s j=S.cell s j:=by unfold St.cell;rw [bE h]
theorem cQ (h:S'.roots=S.roots)(s j:Nat)(c:ag):(S'.setCell s j c).roots=(S.setCell s j c).roots:=by
 unfold St.setCell
 rw [bE h]
 cases S.root s with
 |none=>exact h
 |some r=>simp only [St.setRoot,h]
theorem tz (h:S'.roots=S.roots){el:Option El}{a:AV}{n:Nat}{κ:List AV→Option R}:hZ S' el a n κ=hZ S el a n κ:=by
 unfold hZ;simp only [bE h,bM h]
theorem mT (h:S'.roots=S.roots){t:El}{x i:AV}{κ:AV→Option R}:cR S' t x i κ=cR S t x i κ:=by
 unfold cR;simp only [bM h]
theorem vS (h:S'.roots=S.roots){ty:Option gB}{x:AV}{κ:AV→Option R}:qh S' ty x κ=qh S ty x κ:=by
 unfold qh;simp only [bM h]
theorem io (h:S'.roots=S.roots)(t:El)(x:AV):fr S' t x=fr S t x:=by
 unfold fr;simp only [bM h]
theorem gX {o:Option Operand}(h:∀x,o=some x→S'.ev x=S.ev x){y d:Nat}{κ:Nat→Option R}:cd S' o y d κ=cd S o y d κ:=by
 unfold cd
 cases o with
 |none=>rfl
 |some x=>simp only [h x rfl]
theorem sP (S:St):∀xs:List Operand,evL S xs=xs.map S.ev
 |[]=>rfl
 |x :: xs=>by simp [evL,sP S xs]
theorem kE {xs:List Operand}(h:∀x∈xs,S'.ev x=S.ev x):evL S' xs=evL S xs:=by
 rw [sP,sP];exact List.map_congr_left h
theorem om {ps:Array (Nat×Operand)}(h:∀x∈ps.toList.map (·.2),S'.ev x=S.ev x):(ps.toList.map fun p=>(p.1,S'.ev p.2))=ps.toList.map fun p=>(p.1,S.ev p.2):=
 List.map_congr_left fun p hp=>by rw [h p.2 (List.mem_map_of_mem hp)]
theorem nK (h:S'.roots=S.roots)(b:AV):o4 S' b=o4 S b:=by
 unfold o4;simp only [bM h]
theorem tQ (h:S'.roots=S.roots)(b:AV):jv S' b=jv S b:=by
 unfold jv
 split
 ·congr 1;exact List.map_congr_left fun x _=>nK h x
 ·exact nK h _
theorem sM (hr:S'.roots=S.roots){ps:Array (Nat×Operand)}(h:∀x∈ps.toList.map (·.2),S'.ev x=S.ev x):(ps.toList.map fun p=>(p.1,jv S' (S'.ev p.2)))=ps.toList.map fun p=>(p.1,jv S (S.ev p.2)):=
 List.map_congr_left fun p hp=>by rw [h p.2 (List.mem_map_of_mem hp),tQ hr]
theorem nO {E:TypeId→Option gB}{o:Oper}{κ:AV→Option ac→Option R}(hr:S'.roots=S.roots)(h:∀x∈o.op.operands,S'.ev x=S.ev x):ca E o S' κ=ca E o S κ:=by
 unfold ca
 cases ho:o.op<;>rw [ho] at h<;>simp only [Op.operands] at h<;>try rfl
 case move x=>simp only [h x (by simp)]
 case assign x=>simp only [h x (by simp)]
 case pick c x y=>simp only [h c (by simp),h x (by simp),h y (by simp)]
 case nilCheck x=>simp only [h x (by simp)]
 case binOp op T x y c=>simp only [h x (by simp),h y (by simp)]
 case unOp op T x=>simp only [h x (by simp)]
 case extract x i=>simp only [h x (by simp)]
 case box T x=>simp only [h x (by simp)]
 case load T x=>simp only [h x (by simp),tz hr]
 case fieldAddr T x f=>simp only [h x (by simp)]
 case field T x f=>simp only [h x (by simp)]
 case indexAddr T x i=>simp only [h x (by simp),h i (by simp),mT hr]
 case index T x i=>simp only [h x (by simp),h i (by simp)]
 case slice T x lo hi mx=>
  cases mx with
  |some m=>rfl
  |none=>
   have hlo:∀y,lo=some y→S'.ev y=S.ev y:=fun y e=>h y (by subst e;simp)
   have hhi:∀y,hi=some y→S'.ev y=S.ev y:=fun y e=>h y (by subst e;simp)
   simp only [h x (by simp),bM hr,gX hlo,gX hhi]
 case convert a b x=>simp only [h x (by simp),io hr]
 case build T ps=>simp only [om (S:=S) (S':=S') (ps:=ps) fun x hx=>h x (by simpa using hx)]
 case buildSlice T n ps=>simp only [sM hr (ps:=ps) fun x hx=>h x (by simpa using hx)]
 case makeSlice T l c=>simp only [h l (by simp),h c (by simp)]
 case makeFunc fn first captured=>
  cases fn with
  |func f=>
   have:=kE (S:=S) (S':=S') (xs:=captured.toList) fun x hx=>h x (by simp at hx ⊢;exact .inr hx)
   simp only [this]
  |_=>rfl
 case call c=>
  simp only [Call.operands] at h
  have hargs:∀x∈c.args.toList,S'.ev x=S.ev x:=fun x hx=>h x (by simp at hx ⊢;exact .inr hx)
  have hL:=kE hargs
  simp only [hL]
  split
  ·rename_i hc
   split
   ·rename_i x T hx hT
    rw [hargs x (by rw [hx];simp),vS hr]
   ·rfl
  ·rfl
  ·rfl
  ·rfl
theorem iU (h:S'.roots=S.roots)(l:Bool)(k:LK)(a:AV):fg l S' k a=fg l S k a:=by
 unfold fg;simp only [bM h]
theorem jL (h:S'.roots=S.roots)(l:Bool):∀(ks:List LK) (as:List AV),ba l S' ks as=ba l S ks as
 |[],[]=>rfl
 |k :: ks,a :: as=>by simp only [ba,iU h,jL h l ks as]
 |[],_ :: _=>rfl
 |_ :: _,[]=>rfl
theorem ta (h:S'.roots=S.roots)(l:Bool)(a:AV):ol l S' a=ol l S a:=by
 unfold ol;simp only [bM h]
theorem mh (h:S'.roots=S.roots)(l:Bool):∀as:List AV,dA l S' as=dA l S as
 |[]=>rfl
 |a :: as=>by simp only [dA,ta h,mh h l as]
theorem tH (h:S'.roots=S.roots)(l:Bool)(a:AV):o6 l S' a=o6 l S a:=by
 unfold o6;simp only [bE h,mh h]
theorem nH (h:S'.roots=S.roots)(l:Bool):∀as:List AV,k6 l S' as=k6 l S as
 |[]=>rfl
 |a :: as=>by simp only [k6,tH h,nH h l as]
theorem pC (h:S'.roots=S.roots)(l:Bool)(k:PK)(a:AV):pN l S' k a=pN l S k a:=by
 unfold pN yS;simp only [bE h,iU h,jL h,nH h]
theorem nR (h:S'.roots=S.roots)(l:Bool):∀(ks:List PK) (as:List AV),jD l S' ks as=jD l S ks as
 |[],[]=>rfl
 |k :: ks,a :: as=>by simp only [jD,pC h,nR h l ks as]
 |[],_ :: _=>rfl
 |_ :: _,[]=>rfl
theorem kf {c:Call}(h:∀x∈c.operands,S'.ev x=S.ev x):ct S' c=ct S c:=by
 unfold ct
 have hL:=kE (S:=S) (S':=S') (xs:=c.args.toList) fun x hx=>h x (by simp [Call.operands] at hx ⊢;exact .inr hx)
 split
 ·rename_i x hc
  rw [h x (by simp [Call.operands,hc]),hL]
 ·rfl
theorem t6 {E:dK}{lv:Lv E.sig}{o:Oper}{c:Call}{κ:AV→Option ac→Option R}(hr:S'.roots=S.roots)(h:∀x∈c.operands,S'.ev x=S.ev x):stepC E lv o c S' κ=stepC E lv o c S κ:=by
 unfold stepC
 simp only [kf h,nR hr]
theorem hJ {E:dK}{lv:Lv E.sig}{o:Oper}{κ:AV→Option ac→Option R}(hr:S'.roots=S.roots)(h:∀x∈o.op.operands,S'.ev x=S.ev x):aB E lv o S' κ=aB E lv o S κ:=by
 unfold aB
 split
 ·rename_i c ho
  split
  ·exact nO hr h
  ·exact t6 hr (by rw [ho] at h;exact h)
 ·exact nO hr h
theorem j5 (h:S'.roots=S.roots)(k:LK)(a:AV):gy S' k a=gy S k a:=by
 unfold gy;simp only [bM h,iU h]
theorem ll (h:S'.roots=S.roots):∀(ks:List LK) (as:List AV),dM S' ks as=dM S ks as
 |[],[]=>rfl
 |k :: ks,a :: as=>by simp only [dM,j5 h,ll h ks as]
 |[],_ :: _=>rfl
 |_ :: _,[]=>rfl
theorem px (h:S'.roots=S.roots)(s:Nat):∀(j:Nat) (ks:List LK) (cs:List ag),ay S' s j ks cs=ay S s j ks cs:=by
 intro j ks
 induction ks generalizing j with
 |nil=>intro cs;cases cs<;>simp [ay]
 |cons k ks ih=>
  intro cs
  cases cs with
  |nil=>simp [ay]
  |cons c cs=>
   cases c with
   |av a=>simp only [ay,j5 h,ih]
   |sl u fz xs=>
    cases k<;>try (simp [ay];done)
    ·cases fz with
     |true=>simp only [ay,ih]
     |false=>simp [ay]
    ·simp only [ay,ih]
theorem u1 {T T':St}(h:S'.roots=S.roots)(h':T'.roots=T.roots)(l:Bool)(k:PK)(a:AV):qJ l S' T' k a=qJ l S T k a:=by
 unfold qJ;simp only [bE h,pC h',j5 h,ll h,px h]
theorem nU {T T':St}(h:S'.roots=S.roots)(h':T'.roots=T.roots)(l:Bool):∀(ks:List PK) (as:List AV),dB l S' T' ks as=dB l S T ks as
 |[],[]=>rfl
 |k :: ks,a :: as=>by simp only [dB,u1 h h',nU h h' l ks as]
 |[],_ :: _=>rfl
 |_ :: _,[]=>rfl
theorem sY (h:S'.roots=S.roots)(k:PK)(a:AV):mR S' k a=mR S k a:=by
 unfold mR;simp only [bE h]
theorem k5 (h:S'.roots=S.roots):∀(ks:List PK) (as:List AV),dC S' ks as=dC S ks as
 |k :: ks,a :: as=>by simp only [dC,sY h,k5 h ks as]
 |[],_=>rfl
 |_ :: _,[]=>rfl
theorem tu (h:S'.roots=S.roots)(s j:Nat):(frzAt S' s j).roots=(frzAt S s j).roots:=by
 unfold frzAt
 rw [bM h]
 split
 ·exact cQ h _ _ _
 ·exact h
theorem lW:∀(l:List (Nat×Nat)) {S S':St},S'.roots=S.roots→(frzAll S' l).roots=(frzAll S l).roots
 |[],_,_,h=>h
 |p :: l,_,_,h=>lW l (tu h p.1 p.2)
theorem jA:∀(l:List (Nat×Nat)) {S S':St},S'.roots=S.roots→(eA S' l).roots=(eA S l).roots
 |[],_,_,h=>h
 |p :: l,_,_,h=>jA l (cQ h p.1 p.2 _)
theorem jT {os:List fR}:∀(l:List (Nat×List ag)) {S S':St},S'.roots=S.roots→(cE S' os l).map St.roots=(cE S os l).map St.roots
 |[],_,_,h=>by simp [cE,h]
 |(i,cs) :: l,S,S',h=>by
  simp only [cE]
  split
  ·exact jT l (by simp only [St.setRoot,h])
  ·rfl
theorem sU (h:S'.roots=S.roots){a:AV}{l:List AV}{κ:List (Nat×ac)→List Nat→Option R}:gh S' a l κ=gh S a l κ:=by
 unfold gh;simp only [bE h,bM h,cQ h,fun s' j' c s j c'=>cQ (s:=s) (j:=j) (c:=c') (cQ (s:=s') (j:=j') (c:=c) h),h]
theorem uz {sig:FuncId→bC}{pks:FuncId→List PK}{lv:Lv sig}{d:Nat}{f:FuncId}{as:List AV}{κ:AV→Option ac→List (Nat×ac)→List Nat→Option R}(h:S'.roots=S.roots):
  iy sig pks lv d S' f as κ=iy sig pks lv d S f as κ:=by
 unfold iy
 simp only
 have e1:=k5 h (pks f) as
 have e2:=lW (dC S (pks f) as) h
 rw [e1]
 generalize frzAll S' (dC S (pks f) as)=S1' at e2 ⊢
 generalize frzAll S (dC S (pks f) as)=S1 at e2 ⊢
 have e3:(⟨S1'.tmps,dp (bJ (pks f) as) S1'.roots⟩:St).roots=(⟨S1.tmps,dp (bJ (pks f) as) S1.roots⟩:St).roots:=by simp only [e2]
 generalize (⟨S1'.tmps,dp (bJ (pks f) as) S1'.roots⟩:St)=S2' at e3 ⊢
 generalize (⟨S1.tmps,dp (bJ (pks f) as) S1.roots⟩:St)=S2 at e3 ⊢
 rw [nU e2 e3]
 split
 ·rename_i args os hA
  congr 1
  congr 1
  funext r
  have e4:=jT (os:=os) (cU.cells (sig f).back (bC.back1 (sig f) r)) (jA (dU os) e3)
  generalize cE (eA S2' (dU os)) os _=q' at e4 ⊢
  generalize cE (eA S2 (dU os)) os _=q at e4 ⊢
  cases q' with
  |none=>
   cases q with
   |none=>rfl
   |some X=>simp at e4
  |some X'=>
   cases q with
   |none=>simp at e4
   |some X=>
    simp only [Option.map_some,Option.some.injEq] at e4
    simp only [e4]
 ·rfl
theorem uB (h:S'.roots=S.roots){s j lo n:Nat}{t:El}{x:AV}{κ:AV→List (Nat×ac)→Option R}:jE S' s j lo n t x κ=jE S s j lo n t x κ:=by
 unfold jE;simp only [bM h,io h,cQ h]
theorem xO (h:S'.roots=S.roots){s:Nat}{x:List UInt8}{κ:List (Nat×ac)→Option R}:BB S' s x κ=BB S s x κ:=by
 unfold BB;simp only [bE h,h]
theorem xi (h:S'.roots=S.roots){s e:Nat}{κ:AV→List (Nat×ac)→Option R}:Be S' s e κ=Be S s e κ:=by
 unfold Be;simp only [bE h,h]
theorem uy {E:dK}{lv:Lv E.sig}{o:Oper}{κ:AV→Option ac→List (Nat×ac)→List Nat→Option R}(hr:S'.roots=S.roots)(h:∀x∈o.op.operands,S'.ev x=S.ev x):iI E lv o S' κ=iI E lv o S κ:=by
 unfold iI
 cases ho:o.op<;>rw [ho] at h<;>simp only [Op.operands] at h<;>try rfl
 case store T x y=>simp only [h x (by simp),h y (by simp),sU hr]
 case call c=>
  have hargs:∀x∈c.args.toList,S'.ev x=S.ev x:=fun x hx=>h x (by simp [Call.operands] at hx ⊢;exact .inr hx)
  simp only [kf h,uz hr,xO hr,xi hr]
  split
  ·split
   ·rename_i b x T T' hx hT
    simp only [hargs b (by rw [hx];simp),hargs x (by rw [hx];simp),io hr,bM hr,cQ hr,hr]
   ·rfl
  ·split
   ·rename_i b x T T' hx hT
    simp only [hargs b (by rw [hx];simp),hargs x (by rw [hx];simp),bM hr,uB hr]
   ·rfl
  ·rfl
  ·rfl
theorem ia {E:dK}{lv:Lv E.sig}{o:Oper}{κ:AV→Option ac→List (Nat×ac)→List Nat→Option R}(hr:S'.roots=S.roots)(h:∀x∈o.op.operands,S'.ev x=S.ev x):step1 E lv o S' κ=step1 E lv o S κ:=by
 unfold step1
 cases bV E.pks o with
 |true=>simp only [cond];rw [hr];exact hJ hr h
 |false=>exact uy hr h
theorem og {E:dK}{lv:Lv E.sig}{o:Oper}{κ:AV→Option ac→Option R}(hb:eH o=true)(h:∀x∈o.op.operands,S'.ev x=S.ev x):aB E lv o S' κ=aB E lv o S κ:=by
 have e:∀S:St,aB E lv o S κ=ca E.ty o S κ:=by
  intro S
  unfold aB
  unfold eH at hb
  split
  ·rename_i c ho;rw [ho] at hb;cases hb
  ·rfl
 rw [e,e]
 unfold ca
 unfold eH at hb
 cases ho:o.op<;>rw [ho] at h hb<;>simp only [Op.operands] at h<;>try (cases hb;done)
 case move x=>simp only [h x (by simp)]
 case assign x=>simp only [h x (by simp)]
 case pick c x y=>simp only [h c (by simp),h x (by simp),h y (by simp)]
 case nilCheck x=>simp only [h x (by simp)]
 case binOp op T x y c=>simp only [h x (by simp),h y (by simp)]
 case unOp op T x=>simp only [h x (by simp)]
 case extract x i=>simp only [h x (by simp)]
 case fieldAddr T x f=>simp only [h x (by simp)]
 case field T x f=>simp only [h x (by simp)]
 case index T x i=>simp only [h x (by simp),h i (by simp)]
 case build T ps=>simp only [om (S:=S) (S':=S') (ps:=ps) fun x hx=>h x (by simpa using hx)]
end
end Go.Proofs.YtjkokaockhecnaaGreatDoorA
