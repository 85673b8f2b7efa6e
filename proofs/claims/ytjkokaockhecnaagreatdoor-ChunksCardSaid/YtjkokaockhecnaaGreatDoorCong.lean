/- One operation looks at its operands and at what is owned. -/
import Derived.Test.YtjkokaockhecnaaGreatDoorPar
namespace Go.Proofs.YtjkokaockhecnaaGreatDoorA
open Go
section
variable {R:Type}{S S':St}
theorem cP (h:S'.roots=S.roots)(s:Nat):S'.root s=S.root s:=by unfold St.root;rw [h]
theorem dn (h:S'.roots=S.roots)(s j:Nat):S'.cell s j=S.cell s j:=by unfold St.cell;rw [cP h]
theorem eL (h:S'.roots=S.roots)(s j:Nat)(c:ay):(S'.setCell s j c).roots=(S.setCell s j c).roots:=by
 unfold St.setCell
 rw [cP h]
 cases S.root s with
 |none=>exact h
 |some r=>simp only [St.setRoot,h]
theorem zK (h:S'.roots=S.roots){el:Option El}{a:AV}{n:Nat}{κ:List AV→Option R}:kD S' el a n κ=kD S el a n κ:=by
 unfold kD;simp only [cP h,dn h]
theorem sa (h:S'.roots=S.roots){t:El}{x i:AV}{κ:AV→Option R}:eH S' t x i κ=eH S t x i κ:=by
 unfold eH;simp only [dn h]
theorem Ce (h:S'.roots=S.roots){ty:Option kh}{x:AV}{κ:AV→Option R}:ve S' ty x κ=ve S ty x κ:=by
 unfold ve;simp only [dn h]
theorem kQ (h:S'.roots=S.roots)(t:El)(x:AV):iY S' t x=iY S t x:=by
 unfold iY;simp only [dn h]
theorem kl {o:Option Operand}(h:∀x,o=some x→S'.ev x=S.ev x){y d:Nat}{κ:Nat→Option R}:dL S' o y d κ=dL S o y d κ:=by
 unfold dL
 cases o with
 |none=>rfl
 |some x=>simp only [h x rfl]
theorem yQ (S:St):∀xs:List Operand,evL S xs=xs.map S.ev
 |[]=>rfl
 |x :: xs=>by simp [evL,yQ S xs]
theorem oo {xs:List Operand}(h:∀x∈xs,S'.ev x=S.ev x):evL S' xs=evL S xs:=by
 rw [yQ,yQ];exact List.map_congr_left h
theorem tu {ps:Array (Nat×Operand)}(h:∀x∈ps.toList.map (·.2),S'.ev x=S.ev x):(ps.toList.map fun p=>(p.1,S'.ev p.2))=ps.toList.map fun p=>(p.1,S.ev p.2):=
 List.map_congr_left fun p hp=>by rw [h p.2 (List.mem_map_of_mem hp)]
theorem sZ (h:S'.roots=S.roots)(b:AV):wm S' b=wm S b:=by
 unfold wm;simp only [dn h]
theorem zp (h:S'.roots=S.roots)(b:AV):mq S' b=mq S b:=by
 unfold mq
 split
 ·congr 1;exact List.map_congr_left fun x _=>sZ h x
 ·exact sZ h _
theorem yj (hr:S'.roots=S.roots){ps:Array (Nat×Operand)}(h:∀x∈ps.toList.map (·.2),S'.ev x=S.ev x):(ps.toList.map fun p=>(p.1,mq S' (S'.ev p.2)))=ps.toList.map fun p=>(p.1,mq S (S.ev p.2)):=
 List.map_congr_left fun p hp=>by rw [h p.2 (List.mem_map_of_mem hp),zp hr]
theorem sn {E:TypeId→Option kh}{o:Oper}{κ:AV→Option ap→Option R}(hr:S'.roots=S.roots)(h:∀x∈o.op.operands,S'.ev x=S.ev x):dC E o S' κ=dC E o S κ:=by
 unfold dC
 cases ho:o.op<;>rw [ho] at h<;>simp only [Op.operands] at h<;>try rfl
 case move x=>simp only [h x (by simp)]
 case assign x=>simp only [h x (by simp)]
 case pick c x y=>simp only [h c (by simp),h x (by simp),h y (by simp)]
 case nilCheck x=>simp only [h x (by simp)]
 case binOp op T x y c=>simp only [h x (by simp),h y (by simp)]
 case unOp op T x=>simp only [h x (by simp)]
 case extract x i=>simp only [h x (by simp)]
 case box T x=>simp only [h x (by simp)]
 case load T x=>simp only [h x (by simp),zK hr]
 case fieldAddr T x f=>simp only [h x (by simp)]
 case field T x f=>simp only [h x (by simp)]
 case indexAddr T x i=>simp only [h x (by simp),h i (by simp),sa hr]
 case index T x i=>simp only [h x (by simp),h i (by simp)]
 case slice T x lo hi mx=>
  cases mx with
  |some m=>rfl
  |none=>
   have hlo:∀y,lo=some y→S'.ev y=S.ev y:=fun y e=>h y (by subst e;simp)
   have hhi:∀y,hi=some y→S'.ev y=S.ev y:=fun y e=>h y (by subst e;simp)
   simp only [h x (by simp),dn hr,kl hlo,kl hhi]
 case convert a b x=>simp only [h x (by simp),kQ hr]
 case build T ps=>simp only [tu (S:=S) (S':=S') (ps:=ps) fun x hx=>h x (by simpa using hx)]
 case buildSlice T n ps=>simp only [yj hr (ps:=ps) fun x hx=>h x (by simpa using hx)]
 case makeSlice T l c=>simp only [h l (by simp),h c (by simp)]
 case makeFunc fn first captured=>
  cases fn with
  |func f=>
   have:=oo (S:=S) (S':=S') (xs:=captured.toList) fun x hx=>h x (by simp at hx ⊢;exact .inr hx)
   simp only [this]
  |_=>rfl
 case call c=>
  simp only [Call.operands] at h
  have hargs:∀x∈c.args.toList,S'.ev x=S.ev x:=fun x hx=>h x (by simp at hx ⊢;exact .inr hx)
  have hL:=oo hargs
  simp only [hL]
  split
  ·rename_i hc
   split
   ·rename_i x T hx hT
    rw [hargs x (by rw [hx];simp),Ce hr]
   ·rfl
  ·rfl
  ·rfl
  ·rfl
theorem mo (h:S'.roots=S.roots)(l:Bool)(k:LK)(a:AV):iS l S' k a=iS l S k a:=by
 unfold iS;simp only [dn h]
theorem ni (h:S'.roots=S.roots)(l:Bool):∀(ks:List LK) (as:List AV),cq l S' ks as=cq l S ks as
 |[],[]=>rfl
 |k :: ks,a :: as=>by simp only [cq,mo h,ni h l ks as]
 |[],_ :: _=>rfl
 |_ :: _,[]=>rfl
theorem zR (h:S'.roots=S.roots)(l:Bool)(a:AV):tc l S' a=tc l S a:=by
 unfold tc;simp only [dn h]
theorem qf (h:S'.roots=S.roots)(l:Bool):∀as:List AV,fK l S' as=fK l S as
 |[]=>rfl
 |a :: as=>by simp only [fK,zR h,qf h l as]
theorem Ae (h:S'.roots=S.roots)(l:Bool)(a:AV):u7 l S' a=u7 l S a:=by
 unfold u7;simp only [cP h,qf h]
theorem s8 (h:S'.roots=S.roots)(l:Bool):∀as:List AV,oS l S' as=oS l S as
 |[]=>rfl
 |a :: as=>by simp only [oS,Ae h,s8 h l as]
theorem wk (h:S'.roots=S.roots)(l:Bool)(k:PK)(a:AV):vJ l S' k a=vJ l S k a:=by
 unfold vJ Hv;simp only [cP h,mo h,ni h,s8 h]
theorem sN (h:S'.roots=S.roots)(l:Bool):∀(ks:List PK) (as:List AV),mD l S' ks as=mD l S ks as
 |[],[]=>rfl
 |k :: ks,a :: as=>by simp only [mD,wk h,sN h l ks as]
 |[],_ :: _=>rfl
 |_ :: _,[]=>rfl
theorem nf {c:Call}(h:∀x∈c.operands,S'.ev x=S.ev x):d5 S' c=d5 S c:=by
 unfold d5
 have hL:=oo (S:=S) (S':=S') (xs:=c.args.toList) fun x hx=>h x (by simp [Call.operands] at hx ⊢;exact .inr hx)
 split
 ·rename_i x hc
  rw [h x (by simp [Call.operands,hc]),hL]
 ·rfl
theorem zA {E:f9}{lv:Lv E.sig}{o:Oper}{c:Call}{κ:AV→Option ap→Option R}(hr:S'.roots=S.roots)(h:∀x∈c.operands,S'.ev x=S.ev x):stepC E lv o c S' κ=stepC E lv o c S κ:=by
 unfold stepC
 simp only [nf h,sN hr]
theorem kj {E:f9}{lv:Lv E.sig}{o:Oper}{κ:AV→Option ap→Option R}(hr:S'.roots=S.roots)(h:∀x∈o.op.operands,S'.ev x=S.ev x):bA E lv o S' κ=bA E lv o S κ:=by
 unfold bA
 split
 ·rename_i c ho
  split
  ·exact sn hr h
  ·exact zA hr (by rw [ho] at h;exact h)
 ·exact sn hr h
theorem m7 (h:S'.roots=S.roots)(k:LK)(a:AV):jZ S' k a=jZ S k a:=by
 unfold jZ;simp only [dn h,mo h]
theorem oz (h:S'.roots=S.roots):∀(ks:List LK) (as:List AV),gb S' ks as=gb S ks as
 |[],[]=>rfl
 |k :: ks,a :: as=>by simp only [gb,m7 h,oz h ks as]
 |[],_ :: _=>rfl
 |_ :: _,[]=>rfl
theorem wq (h:S'.roots=S.roots)(s:Nat):∀(j:Nat) (ks:List LK) (cs:List ay),bj S' s j ks cs=bj S s j ks cs:=by
 intro j ks
 induction ks generalizing j with
 |nil=>intro cs;cases cs<;>simp [bj]
 |cons k ks ih=>
  intro cs
  cases cs with
  |nil=>simp [bj]
  |cons c cs=>
   cases c with
   |av a=>simp only [bj,m7 h,ih]
   |sl u fz xs=>
    cases k<;>try (simp [bj];done)
    ·cases fz with
     |true=>simp only [bj,ih]
     |false=>simp [bj]
    ·simp only [bj,ih]
theorem Bf {T T':St}(h:S'.roots=S.roots)(h':T'.roots=T.roots)(l:Bool)(k:PK)(a:AV):ua l S' T' k a=ua l S T k a:=by
 unfold ua;simp only [cP h,wk h',m7 h,oz h,wq h]
theorem sL {T T':St}(h:S'.roots=S.roots)(h':T'.roots=T.roots)(l:Bool):∀(ks:List PK) (as:List AV),fM l S' T' ks as=fM l S T ks as
 |[],[]=>rfl
 |k :: ks,a :: as=>by simp only [fM,Bf h h',sL h h' l ks as]
 |[],_ :: _=>rfl
 |_ :: _,[]=>rfl
theorem yB (h:S'.roots=S.roots)(k:PK)(a:AV):rO S' k a=rO S k a:=by
 unfold rO;simp only [cP h]
theorem oR (h:S'.roots=S.roots):∀(ks:List PK) (as:List AV),fL S' ks as=fL S ks as
 |k :: ks,a :: as=>by simp only [fL,yB h,oR h ks as]
 |[],_=>rfl
 |_ :: _,[]=>rfl
theorem AG (h:S'.roots=S.roots)(s j:Nat):(frzAt S' s j).roots=(frzAt S s j).roots:=by
 unfold frzAt
 rw [dn h]
 split
 ·exact eL h _ _ _
 ·exact h
theorem qx:∀(l:List (Nat×Nat)) {S S':St},S'.roots=S.roots→(frzAll S' l).roots=(frzAll S l).roots
 |[],_,_,h=>h
 |p :: l,_,_,h=>qx l (AG h p.1 p.2)
theorem mr:∀(l:List (Nat×Nat)) {S S':St},S'.roots=S.roots→(hY S' l).roots=(hY S l).roots
 |[],_,_,h=>h
 |p :: l,_,_,h=>mr l (eL h p.1 p.2 _)
theorem mV {os:List jl}:∀(l:List (Nat×List ay)) {S S':St},S'.roots=S.roots→(eB S' os l).map St.roots=(eB S os l).map St.roots
 |[],_,_,h=>by simp [eB,h]
 |(i,cs) :: l,S,S',h=>by
  simp only [eB]
  split
  ·exact mV l (by simp only [St.setRoot,h])
  ·rfl
theorem xY (h:S'.roots=S.roots){a:AV}{l:List AV}{κ:List (Nat×ap)→List Nat→Option R}:jY S' a l κ=jY S a l κ:=by
 unfold jY;simp only [cP h,dn h,eL h,fun s' j' c s j c'=>eL (s:=s) (j:=j) (c:=c') (eL (s:=s') (j:=j') (c:=c) h),h]
theorem Ac {sig:FuncId→bU}{pks:FuncId→List PK}{lv:Lv sig}{d:Nat}{f:FuncId}{as:List AV}{κ:AV→Option ap→List (Nat×ap)→List Nat→Option R}(h:S'.roots=S.roots):
  k9 sig pks lv d S' f as κ=k9 sig pks lv d S f as κ:=by
 unfold k9
 simp only
 have e1:=oR h (pks f) as
 have e2:=qx (fL S (pks f) as) h
 rw [e1]
 generalize frzAll S' (fL S (pks f) as)=S1' at e2 ⊢
 generalize frzAll S (fL S (pks f) as)=S1 at e2 ⊢
 have e3:(⟨S1'.tmps,fm (cX (pks f) as) S1'.roots⟩:St).roots=(⟨S1.tmps,fm (cX (pks f) as) S1.roots⟩:St).roots:=by simp only [e2]
 generalize (⟨S1'.tmps,fm (cX (pks f) as) S1'.roots⟩:St)=S2' at e3 ⊢
 generalize (⟨S1.tmps,fm (cX (pks f) as) S1.roots⟩:St)=S2 at e3 ⊢
 rw [sL e2 e3]
 split
 ·rename_i args os hA
  congr 1
  congr 1
  funext r
  have e4:=mV (os:=os) (eO.cells (sig f).back (bU.back1 (sig f) r)) (mr (gk os) e3)
  generalize eB (hY S2' (gk os)) os _=q' at e4 ⊢
  generalize eB (hY S2 (gk os)) os _=q at e4 ⊢
  cases q' with
  |none=>
   cases q with
   |none=>rfl
   |some X=>simp at e4
  |some X'=>
   cases q with
   |none=>simp at e4
   |some X=>
    simp only [Option.map_some,Option.some.injEq] at e4
    simp only [e4]
 ·rfl
theorem Ao (h:S'.roots=S.roots){s j lo n:Nat}{t:El}{x:AV}{κ:AV→List (Nat×ap)→Option R}:mB S' s j lo n t x κ=mB S s j lo n t x κ:=by
 unfold mB;simp only [dn h,kQ h,eL h]
theorem E1 (h:S'.roots=S.roots){s:Nat}{x:List UInt8}{κ:List (Nat×ap)→Option R}:Il S' s x κ=Il S s x κ:=by
 unfold Il;simp only [cP h,h]
theorem DX (h:S'.roots=S.roots){s e:Nat}{κ:AV→List (Nat×ap)→Option R}:IY S' s e κ=IY S s e κ:=by
 unfold IY;simp only [cP h,h]
theorem zF {E:f9}{lv:Lv E.sig}{o:Oper}{κ:AV→Option ap→List (Nat×ap)→List Nat→Option R}(hr:S'.roots=S.roots)(h:∀x∈o.op.operands,S'.ev x=S.ev x):lq E lv o S' κ=lq E lv o S κ:=by
 unfold lq
 cases ho:o.op<;>rw [ho] at h<;>simp only [Op.operands] at h<;>try rfl
 case store T x y=>simp only [h x (by simp),h y (by simp),xY hr]
 case call c=>
  have hargs:∀x∈c.args.toList,S'.ev x=S.ev x:=fun x hx=>h x (by simp [Call.operands] at hx ⊢;exact .inr hx)
  simp only [nf h,Ac hr,E1 hr,DX hr]
  split
  ·split
   ·rename_i b x T T' hx hT
    simp only [hargs b (by rw [hx];simp),hargs x (by rw [hx];simp),kQ hr,dn hr,eL hr,hr]
   ·rfl
  ·split
   ·rename_i b x T T' hx hT
    simp only [hargs b (by rw [hx];simp),hargs x (by rw [hx];simp),dn hr,Ao hr]
   ·rfl
  ·rfl
  ·rfl
theorem kk {E:f9}{lv:Lv E.sig}{o:Oper}{κ:AV→Option ap→List (Nat×ap)→List Nat→Option R}(hr:S'.roots=S.roots)(h:∀x∈o.op.operands,S'.ev x=S.ev x):step1 E lv o S' κ=step1 E lv o S κ:=by
 unfold step1
 cases du E.pks o with
 |true=>simp only [cond];rw [hr];exact kj hr h
 |false=>exact zF hr h
theorem tz {E:f9}{lv:Lv E.sig}{o:Oper}{κ:AV→Option ap→Option R}(hb:iz o=true)(h:∀x∈o.op.operands,S'.ev x=S.ev x):bA E lv o S' κ=bA E lv o S κ:=by
 have e:∀S:St,bA E lv o S κ=dC E.ty o S κ:=by
  intro S
  unfold bA
  unfold iz at hb
  split
  ·rename_i c ho;rw [ho] at hb;cases hb
  ·rfl
 rw [e,e]
 unfold dC
 unfold iz at hb
 cases ho:o.op<;>rw [ho] at h hb<;>simp only [Op.operands] at h<;>try (cases hb;done)
 case move x=>simp only [h x (by simp)]
 case assign x=>simp only [h x (by simp)]
 case pick c x y=>simp only [h c (by simp),h x (by simp),h y (by simp)]
 case nilCheck x=>simp only [h x (by simp)]
 case binOp op T x y c=>simp only [h x (by simp),h y (by simp)]
 case unOp op T x=>simp only [h x (by simp)]
 case extract x i=>simp only [h x (by simp)]
 case fieldAddr T x f=>simp only [h x (by simp)]
 case field T x f=>simp only [h x (by simp)]
 case index T x i=>simp only [h x (by simp),h i (by simp)]
 case build T ps=>simp only [tu (S:=S) (S':=S') (ps:=ps) fun x hx=>h x (by simpa using hx)]
end
end Go.Proofs.YtjkokaockhecnaaGreatDoorA
