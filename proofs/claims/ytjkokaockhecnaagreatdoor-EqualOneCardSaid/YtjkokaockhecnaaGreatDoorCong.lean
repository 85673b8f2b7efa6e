/- One operation looks at its operands and at what is owned. -/
import Derived.Test.YtjkokaockhecnaaGreatDoorPar
namespace Go.Proofs.YtjkokaockhecnaaGreatDoorA
open Go
section
variable {R:Type}{S S':St}
theorem bO (h:S'.roots=S.roots)(s:Nat):S'.root s=S.root s:=by unfold St.root;rw [h]
theorem ca (h:S'.roots=S.roots)(s j:Nat):S'.cell s j=S.cell s j:=by unfold St.cell;rw [bO h]
theorem dr (h:S'.roots=S.roots)(s j:Nat)(c:aj):(S'.setCell s j c).roots=(S.setCell s j c).roots:=by
 unfold St.setCell
 rw [bO h]
 cases S.root s with
 |none=>exact h
 |some r=>simp only [St.setRoot,h]
theorem uX (h:S'.roots=S.roots){el:Option El}{a:AV}{n:Nat}{κ:List AV→Option R}:iV S' el a n κ=iV S el a n κ:=by
 unfold iV;simp only [bO h,ca h]
theorem oO (h:S'.roots=S.roots){t:El}{x i:AV}{κ:AV→Option R}:dt S' t x i κ=dt S t x i κ:=by
 unfold dt;simp only [ca h]
theorem xw (h:S'.roots=S.roots){ty:Option iC}{x:AV}{κ:AV→Option R}:rX S' ty x κ=rX S ty x κ:=by
 unfold rX;simp only [ca h]
theorem jh (h:S'.roots=S.roots)(t:El)(x:AV):gj S' t x=gj S t x:=by
 unfold gj;simp only [ca h]
theorem iF {o:Option Operand}(h:∀x,o=some x→S'.ev x=S.ev x){y d:Nat}{κ:Nat→Option R}:cD S' o y d κ=cD S o y d κ:=by
 unfold cD
 cases o with
 |none=>rfl
 |some x=>simp only [h x rfl]
theorem ub (S:St):∀xs:List Operand,evL S xs=xs.map S.ev
 |[]=>rfl
 |x :: xs=>by simp [evL,ub S xs]
theorem lM {xs:List Operand}(h:∀x∈xs,S'.ev x=S.ev x):evL S' xs=evL S xs:=by
 rw [ub,ub];exact List.map_congr_left h
theorem pA {ps:Array (Nat×Operand)}(h:∀x∈ps.toList.map (·.2),S'.ev x=S.ev x):(ps.toList.map fun p=>(p.1,S'.ev p.2))=ps.toList.map fun p=>(p.1,S.ev p.2):=
 List.map_congr_left fun p hp=>by rw [h p.2 (List.mem_map_of_mem hp)]
theorem pC (h:S'.roots=S.roots)(b:AV):qw S' b=qw S b:=by
 unfold qw;simp only [ca h]
theorem wa (h:S'.roots=S.roots)(b:AV):kw S' b=kw S b:=by
 unfold kw
 split
 ·congr 1;exact List.map_congr_left fun x _=>pC h x
 ·exact pC h _
theorem tX (hr:S'.roots=S.roots){ps:Array (Nat×Operand)}(h:∀x∈ps.toList.map (·.2),S'.ev x=S.ev x):(ps.toList.map fun p=>(p.1,kw S' (S'.ev p.2)))=ps.toList.map fun p=>(p.1,kw S (S.ev p.2)):=
 List.map_congr_left fun p hp=>by rw [h p.2 (List.mem_map_of_mem hp),wa hr]
theorem pJ {E:TypeId→Option iC}{o:Oper}{κ:AV→Option ak→Option R}(hr:S'.roots=S.roots)(h:∀x∈o.op.operands,S'.ev x=S.ev x):cr E o S' κ=cr E o S κ:=by
 unfold cr
 cases ho:o.op<;>rw [ho] at h<;>simp only [Op.operands] at h<;>try rfl
 case move x=>simp only [h x (by simp)]
 case assign x=>simp only [h x (by simp)]
 case pick c x y=>simp only [h c (by simp),h x (by simp),h y (by simp)]
 case nilCheck x=>simp only [h x (by simp)]
 case binOp op T x y c=>simp only [h x (by simp),h y (by simp)]
 case unOp op T x=>simp only [h x (by simp)]
 case extract x i=>simp only [h x (by simp)]
 case box T x=>simp only [h x (by simp)]
 case load T x=>simp only [h x (by simp),uX hr]
 case fieldAddr T x f=>simp only [h x (by simp)]
 case field T x f=>simp only [h x (by simp)]
 case indexAddr T x i=>simp only [h x (by simp),h i (by simp),oO hr]
 case index T x i=>simp only [h x (by simp),h i (by simp)]
 case slice T x lo hi mx=>
  cases mx with
  |some m=>rfl
  |none=>
   have hlo:∀y,lo=some y→S'.ev y=S.ev y:=fun y e=>h y (by subst e;simp)
   have hhi:∀y,hi=some y→S'.ev y=S.ev y:=fun y e=>h y (by subst e;simp)
   simp only [h x (by simp),ca hr,iF hlo,iF hhi]
 case convert a b x=>simp only [h x (by simp),jh hr]
 case build T ps=>simp only [pA (S:=S) (S':=S') (ps:=ps) fun x hx=>h x (by simpa using hx)]
 case buildSlice T n ps=>simp only [tX hr (ps:=ps) fun x hx=>h x (by simpa using hx)]
 case makeSlice T l c=>simp only [h l (by simp),h c (by simp)]
 case makeFunc fn first captured=>
  cases fn with
  |func f=>
   have:=lM (S:=S) (S':=S') (xs:=captured.toList) fun x hx=>h x (by simp at hx ⊢;exact .inr hx)
   simp only [this]
  |_=>rfl
 case call c=>
  simp only [Call.operands] at h
  have hargs:∀x∈c.args.toList,S'.ev x=S.ev x:=fun x hx=>h x (by simp at hx ⊢;exact .inr hx)
  have hL:=lM hargs
  simp only [hL]
  split
  ·rename_i hc
   split
   ·rename_i x T hx hT
    rw [hargs x (by rw [hx];simp),xw hr]
   ·rfl
  ·rfl
  ·rfl
  ·rfl
theorem kj (h:S'.roots=S.roots)(l:El→Bool)(k:LK)(a:AV):ge l S' k a=ge l S k a:=by
 unfold ge;simp only [ca h]
theorem lq (h:S'.roots=S.roots)(l:El→Bool):∀(ks:List LK) (as:List AV),bp l S' ks as=bp l S ks as
 |[],[]=>rfl
 |k :: ks,a :: as=>by simp only [bp,kj h,lq h l ks as]
 |[],_ :: _=>rfl
 |_ :: _,[]=>rfl
theorem wb (h:S'.roots=S.roots)(l:El→Bool)(a:AV):pn l S' a=pn l S a:=by
 unfold pn;simp only [ca h]
theorem ni (h:S'.roots=S.roots)(l:El→Bool):∀as:List AV,ee l S' as=ee l S as
 |[]=>rfl
 |a :: as=>by simp only [ee,wb h,ni h l as]
theorem uT (h:S'.roots=S.roots)(l:El→Bool)(a:AV):sa l S' a=sa l S a:=by
 unfold sa;simp only [bO h,ni h]
theorem pE (h:S'.roots=S.roots)(l:El→Bool):∀as:List AV,mn l S' as=mn l S as
 |[]=>rfl
 |a :: as=>by simp only [mn,uT h,pE h l as]
theorem qx (h:S'.roots=S.roots)(l:El→Bool)(k:PK)(a:AV):rN l S' k a=rN l S k a:=by
 unfold rN Ao;simp only [bO h,kj h,lq h,pE h]
theorem pz (h:S'.roots=S.roots)(l:El→Bool):∀(ks:List PK) (as:List AV),kC l S' ks as=kC l S ks as
 |[],[]=>rfl
 |k :: ks,a :: as=>by simp only [kC,qx h,pz h l ks as]
 |[],_ :: _=>rfl
 |_ :: _,[]=>rfl
theorem lC {c:Call}(h:∀x∈c.operands,S'.ev x=S.ev x):cV S' c=cV S c:=by
 unfold cV
 have hL:=lM (S:=S) (S':=S') (xs:=c.args.toList) fun x hx=>h x (by simp [Call.operands] at hx ⊢;exact .inr hx)
 split
 ·rename_i x hc
  rw [h x (by simp [Call.operands,hc]),hL]
 ·rfl
theorem uS {E:ew}{lv:Lv E.sig}{o:Oper}{c:Call}{κ:AV→Option ak→Option R}(hr:S'.roots=S.roots)(h:∀x∈c.operands,S'.ev x=S.ev x):stepC E lv o c S' κ=stepC E lv o c S κ:=by
 unfold stepC
 simp only [lC h,pz hr]
theorem iO {E:ew}{lv:Lv E.sig}{o:Oper}{κ:AV→Option ak→Option R}(hr:S'.roots=S.roots)(h:∀x∈o.op.operands,S'.ev x=S.ev x):aN E lv o S' κ=aN E lv o S κ:=by
 unfold aN
 split
 ·rename_i c ho
  split
  ·exact pJ hr h
  ·exact uS hr (by rw [ho] at h;exact h)
 ·exact pJ hr h
theorem k5 (h:S'.roots=S.roots)(k:LK)(a:AV):ii S' k a=ii S k a:=by
 unfold ii;simp only [ca h,kj h]
theorem mg (h:S'.roots=S.roots):∀(ks:List LK) (as:List AV),ey S' ks as=ey S ks as
 |[],[]=>rfl
 |k :: ks,a :: as=>by simp only [ey,k5 h,mg h ks as]
 |[],_ :: _=>rfl
 |_ :: _,[]=>rfl
theorem rY (h:S'.roots=S.roots)(s:Nat):∀(j:Nat) (ks:List LK) (cs:List aj),aG S' s j ks cs=aG S s j ks cs:=by
 intro j ks
 induction ks generalizing j with
 |nil=>intro cs;cases cs<;>simp [aG]
 |cons k ks ih=>
  intro cs
  cases cs with
  |nil=>simp [aG]
  |cons c cs=>
   cases c with
   |av a=>simp only [aG,k5 h,ih]
   |sl u fz xs=>
    cases k<;>try (simp [aG];done)
    ·cases fz with
     |true=>simp only [aG,ih]
     |false=>simp [aG]
    ·simp only [aG,ih]
theorem xe {T T':St}(h:S'.roots=S.roots)(h':T'.roots=T.roots)(l:El→Bool)(k:PK)(a:AV):qH l S' T' k a=qH l S T k a:=by
 unfold qH;simp only [bO h,qx h',k5 h,mg h,rY h]
theorem pM {T T':St}(h:S'.roots=S.roots)(h':T'.roots=T.roots)(l:El→Bool):∀(ks:List PK) (as:List AV),ej l S' T' ks as=ej l S T ks as
 |[],[]=>rfl
 |k :: ks,a :: as=>by simp only [ej,xe h h',pM h h' l ks as]
 |[],_ :: _=>rfl
 |_ :: _,[]=>rfl
theorem uu (h:S'.roots=S.roots)(k:PK)(a:AV):oN S' k a=oN S k a:=by
 unfold oN;simp only [bO h]
theorem md (h:S'.roots=S.roots):∀(ks:List PK) (as:List AV),ei S' ks as=ei S ks as
 |k :: ks,a :: as=>by simp only [ei,uu h,md h ks as]
 |[],_=>rfl
 |_ :: _,[]=>rfl
theorem vV (h:S'.roots=S.roots)(s j:Nat):(frzAt S' s j).roots=(frzAt S s j).roots:=by
 unfold frzAt
 rw [ca h]
 split
 ·exact dr h _ _ _
 ·exact h
theorem oa:∀(l:List (Nat×Nat)) {S S':St},S'.roots=S.roots→(frzAll S' l).roots=(frzAll S l).roots
 |[],_,_,h=>h
 |p :: l,_,_,h=>oa l (vV h p.1 p.2)
theorem ky:∀(l:List (Nat×Nat)) {S S':St},S'.roots=S.roots→(fa S' l).roots=(fa S l).roots
 |[],_,_,h=>h
 |p :: l,_,_,h=>ky l (dr h p.1 p.2 _)
theorem lH {os:List gz}:∀(l:List (Nat×List aj)) {S S':St},S'.roots=S.roots→(dl S' os l).map St.roots=(dl S os l).map St.roots
 |[],_,_,h=>by simp [dl,h]
 |(i,cs) :: l,S,S',h=>by
  simp only [dl]
  split
  ·exact lH l (by simp only [St.setRoot,h])
  ·rfl
theorem tR (h:S'.roots=S.roots){a:AV}{l:List AV}{κ:List (Nat×ak)→List Nat→Option R}:ik S' a l κ=ik S a l κ:=by
 unfold ik;simp only [bO h,ca h,dr h,fun s' j' c s j c'=>dr (s:=s) (j:=j) (c:=c') (dr (s:=s') (j:=j') (c:=c) h),h]
theorem vK {sig:FuncId→bq}{pks:FuncId→List PK}{lv:Lv sig}{d:Nat}{f:FuncId}{as:List AV}{κ:AV→Option ak→List (Nat×ak)→List Nat→Option R}(h:S'.roots=S.roots):
  jo sig pks lv d S' f as κ=jo sig pks lv d S f as κ:=by
 unfold jo
 simp only
 have e1:=md h (pks f) as
 have e2:=oa (ei S (pks f) as) h
 rw [e1]
 generalize frzAll S' (ei S (pks f) as)=S1' at e2 ⊢
 generalize frzAll S (ei S (pks f) as)=S1 at e2 ⊢
 have e3:(⟨S1'.tmps,dQ (bW (pks f) as) S1'.roots⟩:St).roots=(⟨S1.tmps,dQ (bW (pks f) as) S1.roots⟩:St).roots:=by simp only [e2]
 generalize (⟨S1'.tmps,dQ (bW (pks f) as) S1'.roots⟩:St)=S2' at e3 ⊢
 generalize (⟨S1.tmps,dQ (bW (pks f) as) S1.roots⟩:St)=S2 at e3 ⊢
 rw [pM e2 e3]
 split
 ·rename_i args os hA
  congr 1
  congr 1
  funext r
  have e4:=lH (os:=os) (dz.cells (sig f).back (bq.back1 (sig f) r)) (ky (eH os) e3)
  generalize dl (fa S2' (eH os)) os _=q' at e4 ⊢
  generalize dl (fa S2 (eH os)) os _=q at e4 ⊢
  cases q' with
  |none=>
   cases q with
   |none=>rfl
   |some X=>simp at e4
  |some X'=>
   cases q with
   |none=>simp at e4
   |some X=>
    simp only [Option.map_some,Option.some.injEq] at e4
    simp only [e4]
 ·rfl
theorem vX (h:S'.roots=S.roots){s j lo n:Nat}{t:El}{x:AV}{κ:AV→List (Nat×ak)→Option R}:kx S' s j lo n t x κ=kx S s j lo n t x κ:=by
 unfold kx;simp only [ca h,jh h,dr h]
theorem y1 (h:S'.roots=S.roots){s:Nat}{x:List UInt8}{κ:List (Nat×ak)→Option R}:Ds S' s x κ=Ds S s x κ:=by
 unfold Ds;simp only [bO h,h]
theorem yU (h:S'.roots=S.roots){s e:Nat}{κ:AV→List (Nat×ak)→Option R}:B7 S' s e κ=B7 S s e κ:=by
 unfold B7;simp only [bO h,h]
theorem u7 {E:ew}{lv:Lv E.sig}{o:Oper}{κ:AV→Option ak→List (Nat×ak)→List Nat→Option R}(hr:S'.roots=S.roots)(h:∀x∈o.op.operands,S'.ev x=S.ev x):jp E lv o S' κ=jp E lv o S κ:=by
 unfold jp
 cases ho:o.op<;>rw [ho] at h<;>simp only [Op.operands] at h<;>try rfl
 case store T x y=>simp only [h x (by simp),h y (by simp),tR hr]
 case call c=>
  have hargs:∀x∈c.args.toList,S'.ev x=S.ev x:=fun x hx=>h x (by simp [Call.operands] at hx ⊢;exact .inr hx)
  simp only [lC h,vK hr,y1 hr,yU hr]
  split
  ·split
   ·rename_i b x T T' hx hT
    simp only [hargs b (by rw [hx];simp),hargs x (by rw [hx];simp),jh hr,ca hr,dr hr,hr]
   ·rfl
  ·split
   ·rename_i b x T T' hx hT
    simp only [hargs b (by rw [hx];simp),hargs x (by rw [hx];simp),ca hr,vX hr]
   ·rfl
  ·rfl
  ·rfl
theorem iM {E:ew}{lv:Lv E.sig}{o:Oper}{κ:AV→Option ak→List (Nat×ak)→List Nat→Option R}(hr:S'.roots=S.roots)(h:∀x∈o.op.operands,S'.ev x=S.ev x):step1 E lv o S' κ=step1 E lv o S κ:=by
 unfold step1
 cases cg E.pks o with
 |true=>simp only [cond];rw [hr];exact iO hr h
 |false=>exact u7 hr h
theorem pu {E:ew}{lv:Lv E.sig}{o:Oper}{κ:AV→Option ak→Option R}(hb:fP o=true)(h:∀x∈o.op.operands,S'.ev x=S.ev x):aN E lv o S' κ=aN E lv o S κ:=by
 have e:∀S:St,aN E lv o S κ=cr E.ty o S κ:=by
  intro S
  unfold aN
  unfold fP at hb
  split
  ·rename_i c ho;rw [ho] at hb;cases hb
  ·rfl
 rw [e,e]
 unfold cr
 unfold fP at hb
 cases ho:o.op<;>rw [ho] at h hb<;>simp only [Op.operands] at h<;>try (cases hb;done)
 case move x=>simp only [h x (by simp)]
 case assign x=>simp only [h x (by simp)]
 case pick c x y=>simp only [h c (by simp),h x (by simp),h y (by simp)]
 case nilCheck x=>simp only [h x (by simp)]
 case binOp op T x y c=>simp only [h x (by simp),h y (by simp)]
 case unOp op T x=>simp only [h x (by simp)]
 case extract x i=>simp only [h x (by simp)]
 case fieldAddr T x f=>simp only [h x (by simp)]
 case field T x f=>simp only [h x (by simp)]
 case index T x i=>simp only [h x (by simp),h i (by simp)]
 case build T ps=>simp only [pA (S:=S) (S':=S') (ps:=ps) fun x hx=>h x (by simpa using hx)]
end
end Go.Proofs.YtjkokaockhecnaaGreatDoorA
