/- One operation looks at its operands and at what is owned. -/
import Derived.Test.YtjkokaockhecnaaGreatDoorPar
namespace Go.Proofs.YtjkokaockhecnaaGreatDoorA
open Go
section
variable {R:Type}{S S':St}
theorem cv (h:S'.roots=S.roots)(s:Nat):S'.root s=S.root s:=by unfold St.root;rw [h]
theorem cR (h:S'.roots=S.roots)(s j:Nat):S'.cell s j=S.cell s j:=by unfold St.cell;rw [cv h]
theorem d3 (h:S'.roots=S.roots)(s j:Nat)(c:au):(S'.setCell s j c).roots=(S.setCell s j c).roots:=by
 unfold St.setCell
 rw [cv h]
 cases S.root s with
 |none=>exact h
 |some r=>simp only [St.setRoot,h]
theorem wY (h:S'.roots=S.roots){el:Option El}{a:AV}{n:Nat}{κ:List AV→Option R}:jm S' el a n κ=jm S el a n κ:=by
 unfold jm;simp only [cv h,cR h]
theorem pu (h:S'.roots=S.roots){t:El}{x i:AV}{κ:AV→Option R}:d6 S' t x i κ=d6 S t x i κ:=by
 unfold d6;simp only [cR h]
theorem xO (h:S'.roots=S.roots){ty:Option jg}{x:AV}{κ:AV→Option R}:rY S' ty x κ=rY S ty x κ:=by
 unfold rY;simp only [cR h]
theorem jG (h:S'.roots=S.roots)(t:El)(x:AV):hJ S' t x=hJ S t x:=by
 unfold hJ;simp only [cR h]
theorem jj {o:Option Operand}(h:∀x,o=some x→S'.ev x=S.ev x){y d:Nat}{κ:Nat→Option R}:dl S' o y d κ=dl S o y d κ:=by
 unfold dl
 cases o with
 |none=>rfl
 |some x=>simp only [h x rfl]
theorem vr (S:St):∀xs:List Operand,evL S xs=xs.map S.ev
 |[]=>rfl
 |x :: xs=>by simp [evL,vr S xs]
theorem mq {xs:List Operand}(h:∀x∈xs,S'.ev x=S.ev x):evL S' xs=evL S xs:=by
 rw [vr,vr];exact List.map_congr_left h
theorem ql {ps:Array (Nat×Operand)}(h:∀x∈ps.toList.map (·.2),S'.ev x=S.ev x):(ps.toList.map fun p=>(p.1,S'.ev p.2))=ps.toList.map fun p=>(p.1,S.ev p.2):=
 List.map_congr_left fun p hp=>by rw [h p.2 (List.mem_map_of_mem hp)]
theorem qf (h:S'.roots=S.roots)(b:AV):sn S' b=sn S b:=by
 unfold sn;simp only [cR h]
theorem vP (h:S'.roots=S.roots)(b:AV):k9 S' b=k9 S b:=by
 unfold k9
 split
 ·congr 1;exact List.map_congr_left fun x _=>qf h x
 ·exact qf h _
theorem uM (hr:S'.roots=S.roots){ps:Array (Nat×Operand)}(h:∀x∈ps.toList.map (·.2),S'.ev x=S.ev x):(ps.toList.map fun p=>(p.1,k9 S' (S'.ev p.2)))=ps.toList.map fun p=>(p.1,k9 S (S.ev p.2)):=
 List.map_congr_left fun p hp=>by rw [h p.2 (List.mem_map_of_mem hp),vP hr]
theorem qk {E:TypeId→Option jg}{o:Oper}{κ:AV→Option ak→Option R}(hr:S'.roots=S.roots)(h:∀x∈o.op.operands,S'.ev x=S.ev x):dd E o S' κ=dd E o S κ:=by
 unfold dd
 cases ho:o.op<;>rw [ho] at h<;>simp only [Op.operands] at h<;>try rfl
 case move x=>simp only [h x (by simp)]
 case assign x=>simp only [h x (by simp)]
 case pick c x y=>simp only [h c (by simp),h x (by simp),h y (by simp)]
 case nilCheck x=>simp only [h x (by simp)]
 case binOp op T x y c=>simp only [h x (by simp),h y (by simp)]
 case unOp op T x=>simp only [h x (by simp)]
 case extract x i=>simp only [h x (by simp)]
 case box T x=>simp only [h x (by simp)]
 case load T x=>simp only [h x (by simp),wY hr]
 case fieldAddr T x f=>simp only [h x (by simp)]
 case field T x f=>simp only [h x (by simp)]
 case indexAddr T x i=>simp only [h x (by simp),h i (by simp),pu hr]
 case index T x i=>simp only [h x (by simp),h i (by simp)]
 case slice T x lo hi mx=>
  cases mx with
  |some m=>rfl
  |none=>
   have hlo:∀y,lo=some y→S'.ev y=S.ev y:=fun y e=>h y (by subst e;simp)
   have hhi:∀y,hi=some y→S'.ev y=S.ev y:=fun y e=>h y (by subst e;simp)
   simp only [h x (by simp),cR hr,jj hlo,jj hhi]
 case convert a b x=>simp only [h x (by simp),jG hr]
 case build T ps=>simp only [ql (S:=S) (S':=S') (ps:=ps) fun x hx=>h x (by simpa using hx)]
 case buildSlice T n ps=>simp only [uM hr (ps:=ps) fun x hx=>h x (by simpa using hx)]
 case makeSlice T l c=>simp only [h l (by simp),h c (by simp)]
 case makeFunc fn first captured=>
  cases fn with
  |func f=>
   have:=mq (S:=S) (S':=S') (xs:=captured.toList) fun x hx=>h x (by simp at hx ⊢;exact .inr hx)
   simp only [this]
  |_=>rfl
 case call c=>
  simp only [Call.operands] at h
  have hargs:∀x∈c.args.toList,S'.ev x=S.ev x:=fun x hx=>h x (by simp at hx ⊢;exact .inr hx)
  have hL:=mq hargs
  simp only [hL]
  split
  ·rename_i hc
   split
   ·rename_i x T hx hT
    rw [hargs x (by rw [hx];simp),xO hr]
   ·rfl
  ·rfl
  ·rfl
  ·rfl
theorem km (h:S'.roots=S.roots)(l:Bool)(k:LK)(a:AV):gX l S' k a=gX l S k a:=by
 unfold gX;simp only [cR h]
theorem lD (h:S'.roots=S.roots)(l:Bool):∀(ks:List LK) (as:List AV),ca l S' ks as=ca l S ks as
 |[],[]=>rfl
 |k :: ks,a :: as=>by simp only [ca,km h,lD h l ks as]
 |[],_ :: _=>rfl
 |_ :: _,[]=>rfl
theorem wk (h:S'.roots=S.roots)(l:Bool)(a:AV):qI l S' a=qI l S a:=by
 unfold qI;simp only [cR h]
theorem oH (h:S'.roots=S.roots)(l:Bool):∀as:List AV,eO l S' as=eO l S as
 |[]=>rfl
 |a :: as=>by simp only [eO,wk h,oH h l as]
theorem wC (h:S'.roots=S.roots)(l:Bool)(a:AV):sf l S' a=sf l S a:=by
 unfold sf;simp only [cv h,oH h]
theorem qn (h:S'.roots=S.roots)(l:Bool):∀as:List AV,nj l S' as=nj l S as
 |[]=>rfl
 |a :: as=>by simp only [nj,wC h,qn h l as]
theorem rE (h:S'.roots=S.roots)(l:Bool)(k:PK)(a:AV):sC l S' k a=sC l S k a:=by
 unfold sC AC;simp only [cv h,km h,lD h,qn h]
theorem qi (h:S'.roots=S.roots)(l:Bool):∀(ks:List PK) (as:List AV),lh l S' ks as=lh l S ks as
 |[],[]=>rfl
 |k :: ks,a :: as=>by simp only [lh,rE h,qi h l ks as]
 |[],_ :: _=>rfl
 |_ :: _,[]=>rfl
theorem lR {c:Call}(h:∀x∈c.operands,S'.ev x=S.ev x):dG S' c=dG S c:=by
 unfold dG
 have hL:=mq (S:=S) (S':=S') (xs:=c.args.toList) fun x hx=>h x (by simp [Call.operands] at hx ⊢;exact .inr hx)
 split
 ·rename_i x hc
  rw [h x (by simp [Call.operands,hc]),hL]
 ·rfl
theorem vJ {E:e7}{lv:Lv E.sig}{o:Oper}{c:Call}{κ:AV→Option ak→Option R}(hr:S'.roots=S.roots)(h:∀x∈c.operands,S'.ev x=S.ev x):stepC E lv o c S' κ=stepC E lv o c S κ:=by
 unfold stepC
 simp only [lR h,qi hr]
theorem jk {E:e7}{lv:Lv E.sig}{o:Oper}{κ:AV→Option ak→Option R}(hr:S'.roots=S.roots)(h:∀x∈o.op.operands,S'.ev x=S.ev x):a7 E lv o S' κ=a7 E lv o S κ:=by
 unfold a7
 split
 ·rename_i c ho
  split
  ·exact qk hr h
  ·exact vJ hr (by rw [ho] at h;exact h)
 ·exact qk hr h
theorem lq (h:S'.roots=S.roots)(k:LK)(a:AV):iV S' k a=iV S k a:=by
 unfold iV;simp only [cR h,km h]
theorem na (h:S'.roots=S.roots):∀(ks:List LK) (as:List AV),fg S' ks as=fg S ks as
 |[],[]=>rfl
 |k :: ks,a :: as=>by simp only [fg,lq h,na h ks as]
 |[],_ :: _=>rfl
 |_ :: _,[]=>rfl
theorem sL (h:S'.roots=S.roots)(s:Nat):∀(j:Nat) (ks:List LK) (cs:List au),aX S' s j ks cs=aX S s j ks cs:=by
 intro j ks
 induction ks generalizing j with
 |nil=>intro cs;cases cs<;>simp [aX]
 |cons k ks ih=>
  intro cs
  cases cs with
  |nil=>simp [aX]
  |cons c cs=>
   cases c with
   |av a=>simp only [aX,lq h,ih]
   |sl u fz xs=>
    cases k<;>try (simp [aX];done)
    ·cases fz with
     |true=>simp only [aX,ih]
     |false=>simp [aX]
    ·simp only [aX,ih]
theorem yn {T T':St}(h:S'.roots=S.roots)(h':T'.roots=T.roots)(l:Bool)(k:PK)(a:AV):sO l S' T' k a=sO l S T k a:=by
 unfold sO;simp only [cv h,rE h',lq h,na h,sL h]
theorem qJ {T T':St}(h:S'.roots=S.roots)(h':T'.roots=T.roots)(l:Bool):∀(ks:List PK) (as:List AV),eP l S' T' ks as=eP l S T ks as
 |[],[]=>rfl
 |k :: ks,a :: as=>by simp only [eP,yn h h',qJ h h' l ks as]
 |[],_ :: _=>rfl
 |_ :: _,[]=>rfl
theorem uO (h:S'.roots=S.roots)(k:PK)(a:AV):o0 S' k a=o0 S k a:=by
 unfold o0;simp only [cv h]
theorem mV (h:S'.roots=S.roots):∀(ks:List PK) (as:List AV),eS S' ks as=eS S ks as
 |k :: ks,a :: as=>by simp only [eS,uO h,mV h ks as]
 |[],_=>rfl
 |_ :: _,[]=>rfl
theorem vU (h:S'.roots=S.roots)(s j:Nat):(frzAt S' s j).roots=(frzAt S s j).roots:=by
 unfold frzAt
 rw [cR h]
 split
 ·exact d3 h _ _ _
 ·exact h
theorem oP:∀(l:List (Nat×Nat)) {S S':St},S'.roots=S.roots→(frzAll S' l).roots=(frzAll S l).roots
 |[],_,_,h=>h
 |p :: l,_,_,h=>oP l (vU h p.1 p.2)
theorem lg:∀(l:List (Nat×Nat)) {S S':St},S'.roots=S.roots→(fL S' l).roots=(fL S l).roots
 |[],_,_,h=>h
 |p :: l,_,_,h=>lg l (d3 h p.1 p.2 _)
theorem mf {os:List ik}:∀(l:List (Nat×List au)) {S S':St},S'.roots=S.roots→(dP S' os l).map St.roots=(dP S os l).map St.roots
 |[],_,_,h=>by simp [dP,h]
 |(i,cs) :: l,S,S',h=>by
  simp only [dP]
  split
  ·exact mf l (by simp only [St.setRoot,h])
  ·rfl
theorem uT (h:S'.roots=S.roots){a:AV}{l:List AV}{κ:List (Nat×ak)→List Nat→Option R}:iR S' a l κ=iR S a l κ:=by
 unfold iR;simp only [cv h,cR h,d3 h,fun s' j' c s j c'=>d3 (s:=s) (j:=j) (c:=c') (d3 (s:=s') (j:=j') (c:=c) h),h]
theorem vX {sig:FuncId→bQ}{pks:FuncId→List PK}{lv:Lv sig}{d:Nat}{f:FuncId}{as:List AV}{κ:AV→Option ak→List (Nat×ak)→List Nat→Option R}(h:S'.roots=S.roots):
  jZ sig pks lv d S' f as κ=jZ sig pks lv d S f as κ:=by
 unfold jZ
 simp only
 have e1:=mV h (pks f) as
 have e2:=oP (eS S (pks f) as) h
 rw [e1]
 generalize frzAll S' (eS S (pks f) as)=S1' at e2 ⊢
 generalize frzAll S (eS S (pks f) as)=S1 at e2 ⊢
 have e3:(⟨S1'.tmps,eF (cD (pks f) as) S1'.roots⟩:St).roots=(⟨S1.tmps,eF (cD (pks f) as) S1.roots⟩:St).roots:=by simp only [e2]
 generalize (⟨S1'.tmps,eF (cD (pks f) as) S1'.roots⟩:St)=S2' at e3 ⊢
 generalize (⟨S1.tmps,eF (cD (pks f) as) S1.roots⟩:St)=S2 at e3 ⊢
 rw [qJ e2 e3]
 split
 ·rename_i args os hA
  congr 1
  congr 1
  funext r
  have e4:=mf (os:=os) (ee.cells (sig f).back (bQ.back1 (sig f) r)) (lg (fm os) e3)
  generalize dP (fL S2' (fm os)) os _=q' at e4 ⊢
  generalize dP (fL S2 (fm os)) os _=q at e4 ⊢
  cases q' with
  |none=>
   cases q with
   |none=>rfl
   |some X=>simp at e4
  |some X'=>
   cases q with
   |none=>simp at e4
   |some X=>
    simp only [Option.map_some,Option.some.injEq] at e4
    simp only [e4]
 ·rfl
theorem vM (h:S'.roots=S.roots){s j lo n:Nat}{t:El}{x:AV}{κ:AV→List (Nat×ak)→Option R}:k5 S' s j lo n t x κ=k5 S s j lo n t x κ:=by
 unfold k5;simp only [cR h,jG h,d3 h]
theorem zf (h:S'.roots=S.roots){s:Nat}{x:List UInt8}{κ:List (Nat×ak)→Option R}:E8 S' s x κ=E8 S s x κ:=by
 unfold E8;simp only [cv h,h]
theorem Ag (h:S'.roots=S.roots){s e:Nat}{κ:AV→List (Nat×ak)→Option R}:DV S' s e κ=DV S s e κ:=by
 unfold DV;simp only [cv h,h]
theorem vT {E:e7}{lv:Lv E.sig}{o:Oper}{κ:AV→Option ak→List (Nat×ak)→List Nat→Option R}(hr:S'.roots=S.roots)(h:∀x∈o.op.operands,S'.ev x=S.ev x):kj E lv o S' κ=kj E lv o S κ:=by
 unfold kj
 cases ho:o.op<;>rw [ho] at h<;>simp only [Op.operands] at h<;>try rfl
 case store T x y=>simp only [h x (by simp),h y (by simp),uT hr]
 case call c=>
  have hargs:∀x∈c.args.toList,S'.ev x=S.ev x:=fun x hx=>h x (by simp [Call.operands] at hx ⊢;exact .inr hx)
  simp only [lR h,vX hr,zf hr,Ag hr]
  split
  ·split
   ·rename_i b x T T' hx hT
    simp only [hargs b (by rw [hx];simp),hargs x (by rw [hx];simp),jG hr,cR hr,d3 hr,hr]
   ·rfl
  ·split
   ·rename_i b x T T' hx hT
    simp only [hargs b (by rw [hx];simp),hargs x (by rw [hx];simp),cR hr,vM hr]
   ·rfl
  ·rfl
  ·rfl
theorem jo {E:e7}{lv:Lv E.sig}{o:Oper}{κ:AV→Option ak→List (Nat×ak)→List Nat→Option R}(hr:S'.roots=S.roots)(h:∀x∈o.op.operands,S'.ev x=S.ev x):step1 E lv o S' κ=step1 E lv o S κ:=by
 unfold step1
 cases cY E.pks o with
 |true=>simp only [cond];rw [hr];exact jk hr h
 |false=>exact vT hr h
theorem qj {E:e7}{lv:Lv E.sig}{o:Oper}{κ:AV→Option ak→Option R}(hb:gn o=true)(h:∀x∈o.op.operands,S'.ev x=S.ev x):a7 E lv o S' κ=a7 E lv o S κ:=by
 have e:∀S:St,a7 E lv o S κ=dd E.ty o S κ:=by
  intro S
  unfold a7
  unfold gn at hb
  split
  ·rename_i c ho;rw [ho] at hb;cases hb
  ·rfl
 rw [e,e]
 unfold dd
 unfold gn at hb
 cases ho:o.op<;>rw [ho] at h hb<;>simp only [Op.operands] at h<;>try (cases hb;done)
 case move x=>simp only [h x (by simp)]
 case assign x=>simp only [h x (by simp)]
 case pick c x y=>simp only [h c (by simp),h x (by simp),h y (by simp)]
 case nilCheck x=>simp only [h x (by simp)]
 case binOp op T x y c=>simp only [h x (by simp),h y (by simp)]
 case unOp op T x=>simp only [h x (by simp)]
 case extract x i=>simp only [h x (by simp)]
 case fieldAddr T x f=>simp only [h x (by simp)]
 case field T x f=>simp only [h x (by simp)]
 case index T x i=>simp only [h x (by simp),h i (by simp)]
 case build T ps=>simp only [ql (S:=S) (S':=S') (ps:=ps) fun x hx=>h x (by simpa using hx)]
end
end Go.Proofs.YtjkokaockhecnaaGreatDoorA
