/- One operation looks at its operands and at what is owned. -/
import Derived.Test.YtjkokaockhecnaaGreatDoorPar
namespace Go.Proofs.YtjkokaockhecnaaGreatDoorA
open Go
section
variable {R:Type}{S S':St}
theorem bh (h:S'.roots=S.roots)(s:Nat):S'.root s=S.root s:=by unfold St.root;rw [h]
theorem bA (h:S'.roots=S.roots)(s j:Nat):S'.cell s j=S.cell s j:=by unfold St.cell;rw [bh h]
theorem cr (h:S'.roots=S.roots)(s j:Nat)(c:af):(S'.setCell s j c).roots=(S.setCell s j c).roots:=by
 unfold St.setCell
 rw [bh h]
 cases S.root s with
 |none=>exact h
 |some r=>simp only [St.setRoot,h]
theorem qW (h:S'.roots=S.roots){el:Option El}{a:AV}{n:Nat}{κ:List AV→Option R}:fQ S' el a n κ=fQ S el a n κ:=by
 unfold fQ;simp only [bh h,bA h]
theorem lK (h:S'.roots=S.roots){t:El}{x i:AV}{κ:AV→Option R}:cq S' t x i κ=cq S t x i κ:=by
 unfold cq;simp only [bA h]
theorem tz (h:S'.roots=S.roots){ty:Option fD}{x:AV}{κ:AV→Option R}:nA S' ty x κ=nA S ty x κ:=by
 unfold nA;simp only [bA h]
theorem gk (h:S'.roots=S.roots)(t:El)(x:AV):eL S' t x=eL S t x:=by
 unfold eL;simp only [bA h]
theorem fF {o:Option Operand}(h:∀x,o=some x→S'.ev x=S.ev x){y d:Nat}{κ:Nat→Option R}:bN S' o y d κ=bN S o y d κ:=by
 unfold bN
 cases o with
 |none=>rfl
 |some x=>simp only [h x rfl]
theorem qn (S:St):∀xs:List Operand,evL S xs=xs.map S.ev
 |[]=>rfl
 |x :: xs=>by simp [evL,qn S xs]
theorem jM {xs:List Operand}(h:∀x∈xs,S'.ev x=S.ev x):evL S' xs=evL S xs:=by
 rw [qn,qn];exact List.map_congr_left h
theorem l7 {ps:Array (Nat×Operand)}(h:∀x∈ps.toList.map (·.2),S'.ev x=S.ev x):(ps.toList.map fun p=>(p.1,S'.ev p.2))=ps.toList.map fun p=>(p.1,S.ev p.2):=
 List.map_congr_left fun p hp=>by rw [h p.2 (List.mem_map_of_mem hp)]
theorem mJ (h:S'.roots=S.roots)(b:AV):oi S' b=oi S b:=by
 unfold oi;simp only [bA h]
theorem ry (h:S'.roots=S.roots)(b:AV):iG S' b=iG S b:=by
 unfold iG
 split
 ·congr 1;exact List.map_congr_left fun x _=>mJ h x
 ·exact mJ h _
theorem pQ (hr:S'.roots=S.roots){ps:Array (Nat×Operand)}(h:∀x∈ps.toList.map (·.2),S'.ev x=S.ev x):(ps.toList.map fun p=>(p.1,iG S' (S'.ev p.2)))=ps.toList.map fun p=>(p.1,iG S (S.ev p.2)):=
 List.map_congr_left fun p hp=>by rw [h p.2 (List.mem_map_of_mem hp),ry hr]
theorem l8 {E:TypeId→Option fD}{o:Oper}{κ:AV→Option ac→Option R}(hr:S'.roots=S.roots)(h:∀x∈o.op.operands,S'.ev x=S.ev x):bJ E o S' κ=bJ E o S κ:=by
 unfold bJ
 cases ho:o.op<;>rw [ho] at h<;>simp only [Op.operands] at h<;>try rfl
 case move x=>simp only [h x (by simp)]
 case assign x=>simp only [h x (by simp)]
 case pick c x y=>simp only [h c (by simp),h x (by simp),h y (by simp)]
 case nilCheck x=>simp only [h x (by simp)]
 case binOp op T x y c=>simp only [h x (by simp),h y (by simp)]
 case unOp op T x=>simp only [h x (by simp)]
 case extract x i=>simp only [h x (by simp)]
 case box T x=>simp only [h x (by simp)]
 case load T x=>simp only [h x (by simp),qW hr]
 case fieldAddr T x f=>simp only [h x (by simp)]
 case field T x f=>simp only [h x (by simp)]
 case indexAddr T x i=>simp only [h x (by simp),h i (by simp),lK hr]
 case index T x i=>simp only [h x (by simp),h i (by simp)]
 case slice T x lo hi mx=>
  cases mx with
  |some m=>rfl
  |none=>
   have hlo:∀y,lo=some y→S'.ev y=S.ev y:=fun y e=>h y (by subst e;simp)
   have hhi:∀y,hi=some y→S'.ev y=S.ev y:=fun y e=>h y (by subst e;simp)
   simp only [h x (by simp),bA hr,fF hlo,fF hhi]
 case convert a b x=>simp only [h x (by simp),gk hr]
 case build T ps=>simp only [l7 (S:=S) (S':=S') (ps:=ps) fun x hx=>h x (by simpa using hx)]
 case buildSlice T n ps=>simp only [pQ hr (ps:=ps) fun x hx=>h x (by simpa using hx)]
 case makeSlice T l c=>simp only [h l (by simp),h c (by simp)]
 case makeFunc fn first captured=>
  cases fn with
  |func f=>
   have:=jM (S:=S) (S':=S') (xs:=captured.toList) fun x hx=>h x (by simp at hx ⊢;exact .inr hx)
   simp only [this]
  |_=>rfl
 case call c=>
  simp only [Call.operands] at h
  have hargs:∀x∈c.args.toList,S'.ev x=S.ev x:=fun x hx=>h x (by simp at hx ⊢;exact .inr hx)
  have hL:=jM hargs
  simp only [hL]
  split
  ·rename_i hc
   split
   ·rename_i x T hx hT
    rw [hargs x (by rw [hx];simp),tz hr]
   ·rfl
  ·rfl
  ·rfl
  ·rfl
theorem gW (h:S'.roots=S.roots)(l:Bool)(k:LK)(a:AV):eH l S' k a=eH l S k a:=by
 unfold eH;simp only [bA h]
theorem iS (h:S'.roots=S.roots)(l:Bool):∀(ks:List LK) (as:List AV),aT l S' ks as=aT l S ks as
 |[],[]=>rfl
 |k :: ks,a :: as=>by simp only [aT,gW h,iS h l ks as]
 |[],_ :: _=>rfl
 |_ :: _,[]=>rfl
theorem q7 (h:S'.roots=S.roots)(l:Bool)(a:AV):mD l S' a=mD l S a:=by
 unfold mD;simp only [bA h]
theorem k6 (h:S'.roots=S.roots)(l:Bool):∀as:List AV,cU l S' as=cU l S as
 |[]=>rfl
 |a :: as=>by simp only [cU,q7 h,k6 h l as]
theorem rb (h:S'.roots=S.roots)(l:Bool)(a:AV):oe l S' a=oe l S a:=by
 unfold oe;simp only [bh h,k6 h]
theorem l9 (h:S'.roots=S.roots)(l:Bool):∀as:List AV,jR l S' as=jR l S as
 |[]=>rfl
 |a :: as=>by simp only [jR,rb h,l9 h l as]
theorem oD (h:S'.roots=S.roots)(l:Bool)(k:PK)(a:AV):ou l S' k a=ou l S k a:=by
 unfold ou we;simp only [bh h,gW h,iS h,l9 h]
theorem mm (h:S'.roots=S.roots)(l:Bool):∀(ks:List PK) (as:List AV),iI l S' ks as=iI l S ks as
 |[],[]=>rfl
 |k :: ks,a :: as=>by simp only [iI,oD h,mm h l ks as]
 |[],_ :: _=>rfl
 |_ :: _,[]=>rfl
theorem jb {c:Call}(h:∀x∈c.operands,S'.ev x=S.ev x):bV S' c=bV S c:=by
 unfold bV
 have hL:=jM (S:=S) (S':=S') (xs:=c.args.toList) fun x hx=>h x (by simp [Call.operands] at hx ⊢;exact .inr hx)
 split
 ·rename_i x hc
  rw [h x (by simp [Call.operands,hc]),hL]
 ·rfl
theorem se {E:db}{lv:Lv E.sig}{o:Oper}{c:Call}{κ:AV→Option ac→Option R}(hr:S'.roots=S.roots)(h:∀x∈c.operands,S'.ev x=S.ev x):stepC E lv o c S' κ=stepC E lv o c S κ:=by
 unfold stepC
 simp only [jb h,mm hr]
theorem fP {E:db}{lv:Lv E.sig}{o:Oper}{κ:AV→Option ac→Option R}(hr:S'.roots=S.roots)(h:∀x∈o.op.operands,S'.ev x=S.ev x):ax E lv o S' κ=ax E lv o S κ:=by
 unfold ax
 split
 ·rename_i c ho
  split
  ·exact l8 hr h
  ·exact se hr (by rw [ho] at h;exact h)
 ·exact l8 hr h
theorem iZ (h:S'.roots=S.roots)(k:LK)(a:AV):fh S' k a=fh S k a:=by
 unfold fh;simp only [bA h,gW h]
theorem jU (h:S'.roots=S.roots):∀(ks:List LK) (as:List AV),dd S' ks as=dd S ks as
 |[],[]=>rfl
 |k :: ks,a :: as=>by simp only [dd,iZ h,jU h ks as]
 |[],_ :: _=>rfl
 |_ :: _,[]=>rfl
theorem nR (h:S'.roots=S.roots)(s:Nat):∀(j:Nat) (ks:List LK) (cs:List af),ar S' s j ks cs=ar S s j ks cs:=by
 intro j ks
 induction ks generalizing j with
 |nil=>intro cs;cases cs<;>simp [ar]
 |cons k ks ih=>
  intro cs
  cases cs with
  |nil=>simp [ar]
  |cons c cs=>
   cases c with
   |av a=>simp only [ar,iZ h,ih]
   |sl u fz xs=>
    cases k<;>try (simp [ar];done)
    ·cases fz with
     |true=>simp only [ar,ih]
     |false=>simp [ar]
    ·simp only [ar,ih]
theorem tj {T T':St}(h:S'.roots=S.roots)(h':T'.roots=T.roots)(l:Bool)(k:PK)(a:AV):nG l S' T' k a=nG l S T k a:=by
 unfold nG;simp only [bh h,oD h',iZ h,jU h,nR h]
theorem ml {T T':St}(h:S'.roots=S.roots)(h':T'.roots=T.roots)(l:Bool):∀(ks:List PK) (as:List AV),cX l S' T' ks as=cX l S T ks as
 |[],[]=>rfl
 |k :: ks,a :: as=>by simp only [cX,tj h h',ml h h' l ks as]
 |[],_ :: _=>rfl
 |_ :: _,[]=>rfl
theorem qd (h:S'.roots=S.roots)(k:PK)(a:AV):lE S' k a=lE S k a:=by
 unfold lE;simp only [bh h]
theorem kf (h:S'.roots=S.roots):∀(ks:List PK) (as:List AV),cV S' ks as=cV S ks as
 |k :: ks,a :: as=>by simp only [cV,qd h,kf h ks as]
 |[],_=>rfl
 |_ :: _,[]=>rfl
theorem rQ (h:S'.roots=S.roots)(s j:Nat):(frzAt S' s j).roots=(frzAt S s j).roots:=by
 unfold frzAt
 rw [bA h]
 split
 ·exact cr h _ _ _
 ·exact h
theorem k4:∀(l:List (Nat×Nat)) {S S':St},S'.roots=S.roots→(frzAll S' l).roots=(frzAll S l).roots
 |[],_,_,h=>h
 |p :: l,_,_,h=>k4 l (rQ h p.1 p.2)
theorem iJ:∀(l:List (Nat×Nat)) {S S':St},S'.roots=S.roots→(dC S' l).roots=(dC S l).roots
 |[],_,_,h=>h
 |p :: l,_,_,h=>iJ l (cr h p.1 p.2 _)
theorem iP {os:List eT}:∀(l:List (Nat×List af)) {S S':St},S'.roots=S.roots→(cm S' os l).map St.roots=(cm S os l).map St.roots
 |[],_,_,h=>by simp [cm,h]
 |(i,cs) :: l,S,S',h=>by
  simp only [cm]
  split
  ·exact iP l (by simp only [St.setRoot,h])
  ·rfl
theorem pV (h:S'.roots=S.roots){a:AV}{l:List AV}{κ:List (Nat×ac)→List Nat→Option R}:fm S' a l κ=fm S a l κ:=by
 unfold fm;simp only [bh h,bA h,cr h,fun s' j' c s j c'=>cr (s:=s) (j:=j) (c:=c') (cr (s:=s') (j:=j') (c:=c) h),h]
theorem rW {sig:FuncId→bc}{pks:FuncId→List PK}{lv:Lv sig}{d:Nat}{f:FuncId}{as:List AV}{κ:AV→Option ac→List (Nat×ac)→List Nat→Option R}(h:S'.roots=S.roots):
  gG sig pks lv d S' f as κ=gG sig pks lv d S f as κ:=by
 unfold gG
 simp only
 have e1:=kf h (pks f) as
 have e2:=k4 (cV S (pks f) as) h
 rw [e1]
 generalize frzAll S' (cV S (pks f) as)=S1' at e2 ⊢
 generalize frzAll S (cV S (pks f) as)=S1 at e2 ⊢
 have e3:(⟨S1'.tmps,cN (bm (pks f) as) S1'.roots⟩:St).roots=(⟨S1.tmps,cN (bm (pks f) as) S1.roots⟩:St).roots:=by simp only [e2]
 generalize (⟨S1'.tmps,cN (bm (pks f) as) S1'.roots⟩:St)=S2' at e3 ⊢
 generalize (⟨S1.tmps,cN (bm (pks f) as) S1.roots⟩:St)=S2 at e3 ⊢
 rw [ml e2 e3]
 split
 ·rename_i args os hA
  congr 1
  congr 1
  funext r
  have e4:=iP (os:=os) (cu.cells (sig f).back (bc.back1 (sig f) r)) (iJ (dm os) e3)
  generalize cm (dC S2' (dm os)) os _=q' at e4 ⊢
  generalize cm (dC S2 (dm os)) os _=q at e4 ⊢
  cases q' with
  |none=>
   cases q with
   |none=>rfl
   |some X=>simp at e4
  |some X'=>
   cases q with
   |none=>simp at e4
   |some X=>
    simp only [Option.map_some,Option.some.injEq] at e4
    simp only [e4]
 ·rfl
theorem qZ (h:S'.roots=S.roots){s j lo n:Nat}{t:El}{x:AV}{κ:AV→List (Nat×ac)→Option R}:iD S' s j lo n t x κ=iD S s j lo n t x κ:=by
 unfold iD;simp only [bA h,gk h,cr h]
theorem uD (h:S'.roots=S.roots){s:Nat}{x:List UInt8}{κ:List (Nat×ac)→Option R}:yH S' s x κ=yH S s x κ:=by
 unfold yH;simp only [bh h,h]
theorem uB (h:S'.roots=S.roots){s e:Nat}{κ:AV→List (Nat×ac)→Option R}:yC S' s e κ=yC S s e κ:=by
 unfold yC;simp only [bh h,h]
theorem rl {E:db}{lv:Lv E.sig}{o:Oper}{κ:AV→Option ac→List (Nat×ac)→List Nat→Option R}(hr:S'.roots=S.roots)(h:∀x∈o.op.operands,S'.ev x=S.ev x):gA E lv o S' κ=gA E lv o S κ:=by
 unfold gA
 cases ho:o.op<;>rw [ho] at h<;>simp only [Op.operands] at h<;>try rfl
 case store T x y=>simp only [h x (by simp),h y (by simp),pV hr]
 case call c=>
  have hargs:∀x∈c.args.toList,S'.ev x=S.ev x:=fun x hx=>h x (by simp [Call.operands] at hx ⊢;exact .inr hx)
  simp only [jb h,rW hr,uD hr,uB hr]
  split
  ·split
   ·rename_i b x T T' hx hT
    simp only [hargs b (by rw [hx];simp),hargs x (by rw [hx];simp),gk hr,bA hr,cr hr,hr]
   ·rfl
  ·split
   ·rename_i b x T T' hx hT
    simp only [hargs b (by rw [hx];simp),hargs x (by rw [hx];simp),bA hr,qZ hr]
   ·rfl
  ·rfl
  ·rfl
theorem gb {E:db}{lv:Lv E.sig}{o:Oper}{κ:AV→Option ac→List (Nat×ac)→List Nat→Option R}(hr:S'.roots=S.roots)(h:∀x∈o.op.operands,S'.ev x=S.ev x):step1 E lv o S' κ=step1 E lv o S κ:=by
 unfold step1
 cases bF E.pks o with
 |true=>simp only [cond];rw [hr];exact fP hr h
 |false=>exact rl hr h
theorem mL {E:db}{lv:Lv E.sig}{o:Oper}{κ:AV→Option ac→Option R}(hb:dW o=true)(h:∀x∈o.op.operands,S'.ev x=S.ev x):ax E lv o S' κ=ax E lv o S κ:=by
 have e:∀S:St,ax E lv o S κ=bJ E.ty o S κ:=by
  intro S
  unfold ax
  unfold dW at hb
  split
  ·rename_i c ho;rw [ho] at hb;cases hb
  ·rfl
 rw [e,e]
 unfold bJ
 unfold dW at hb
 cases ho:o.op<;>rw [ho] at h hb<;>simp only [Op.operands] at h<;>try (cases hb;done)
 case move x=>simp only [h x (by simp)]
 case assign x=>simp only [h x (by simp)]
 case pick c x y=>simp only [h c (by simp),h x (by simp),h y (by simp)]
 case nilCheck x=>simp only [h x (by simp)]
 case binOp op T x y c=>simp only [h x (by simp),h y (by simp)]
 case unOp op T x=>simp only [h x (by simp)]
 case extract x i=>simp only [h x (by simp)]
 case fieldAddr T x f=>simp only [h x (by simp)]
 case field T x f=>simp only [h x (by simp)]
 case index T x i=>simp only [h x (by simp),h i (by simp)]
 case build T ps=>simp only [l7 (S:=S) (S':=S') (ps:=ps) fun x hx=>h x (by simpa using hx)]
end
end Go.Proofs.YtjkokaockhecnaaGreatDoorA
