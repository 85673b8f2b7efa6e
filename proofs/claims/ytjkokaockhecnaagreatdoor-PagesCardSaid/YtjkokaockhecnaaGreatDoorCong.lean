/- One operation looks at its operands and at what is owned. -/
import Derived.Test.YtjkokaockhecnaaGreatDoorPar
namespace Go.Proofs.YtjkokaockhecnaaGreatDoorA
open Go
section
variable {R:Type}{S S':St}
theorem cC (h:S'.roots=S.roots)(s:Nat):S'.root s=S.root s:=by unfold St.root;rw [h]
theorem cZ (h:S'.roots=S.roots)(s j:Nat):S'.cell s j=S.cell s j:=by unfold St.cell;rw [cC h]
theorem ei (h:S'.roots=S.roots)(s j:Nat)(c:ax):(S'.setCell s j c).roots=(S.setCell s j c).roots:=by
 unfold St.setCell
 rw [cC h]
 cases S.root s with
 |none=>exact h
 |some r=>simp only [St.setRoot,h]
theorem yP (h:S'.roots=S.roots){el:Option El}{a:AV}{n:Nat}{κ:List AV→Option R}:jX S' el a n κ=jX S el a n κ:=by
 unfold jX;simp only [cC h,cZ h]
theorem qA (h:S'.roots=S.roots){t:El}{x i:AV}{κ:AV→Option R}:eh S' t x i κ=eh S t x i κ:=by
 unfold eh;simp only [cZ h]
theorem Au (h:S'.roots=S.roots){ty:Option jJ}{x:AV}{κ:AV→Option R}:tG S' ty x κ=tG S ty x κ:=by
 unfold tG;simp only [cZ h]
theorem ku (h:S'.roots=S.roots)(t:El)(x:AV):iC S' t x=iC S t x:=by
 unfold iC;simp only [cZ h]
theorem kc {o:Option Operand}(h:∀x,o=some x→S'.ev x=S.ev x){y d:Nat}{κ:Nat→Option R}:dt S' o y d κ=dt S o y d κ:=by
 unfold dt
 cases o with
 |none=>rfl
 |some x=>simp only [h x rfl]
theorem xt (S:St):∀xs:List Operand,evL S xs=xs.map S.ev
 |[]=>rfl
 |x :: xs=>by simp [evL,xt S xs]
theorem nj {xs:List Operand}(h:∀x∈xs,S'.ev x=S.ev x):evL S' xs=evL S xs:=by
 rw [xt,xt];exact List.map_congr_left h
theorem rD {ps:Array (Nat×Operand)}(h:∀x∈ps.toList.map (·.2),S'.ev x=S.ev x):(ps.toList.map fun p=>(p.1,S'.ev p.2))=ps.toList.map fun p=>(p.1,S.ev p.2):=
 List.map_congr_left fun p hp=>by rw [h p.2 (List.mem_map_of_mem hp)]
theorem rA (h:S'.roots=S.roots)(b:AV):tQ S' b=tQ S b:=by
 unfold tQ;simp only [cZ h]
theorem yx (h:S'.roots=S.roots)(b:AV):lP S' b=lP S b:=by
 unfold lP
 split
 ·congr 1;exact List.map_congr_left fun x _=>rA h x
 ·exact rA h _
theorem xB (hr:S'.roots=S.roots){ps:Array (Nat×Operand)}(h:∀x∈ps.toList.map (·.2),S'.ev x=S.ev x):(ps.toList.map fun p=>(p.1,lP S' (S'.ev p.2)))=ps.toList.map fun p=>(p.1,lP S (S.ev p.2)):=
 List.map_congr_left fun p hp=>by rw [h p.2 (List.mem_map_of_mem hp),yx hr]
theorem rM {E:TypeId→Option jJ}{o:Oper}{κ:AV→Option am→Option R}(hr:S'.roots=S.roots)(h:∀x∈o.op.operands,S'.ev x=S.ev x):dl E o S' κ=dl E o S κ:=by
 unfold dl
 cases ho:o.op<;>rw [ho] at h<;>simp only [Op.operands] at h<;>try rfl
 case move x=>simp only [h x (by simp)]
 case assign x=>simp only [h x (by simp)]
 case pick c x y=>simp only [h c (by simp),h x (by simp),h y (by simp)]
 case nilCheck x=>simp only [h x (by simp)]
 case binOp op T x y c=>simp only [h x (by simp),h y (by simp)]
 case unOp op T x=>simp only [h x (by simp)]
 case extract x i=>simp only [h x (by simp)]
 case box T x=>simp only [h x (by simp)]
 case load T x=>simp only [h x (by simp),yP hr]
 case fieldAddr T x f=>simp only [h x (by simp)]
 case field T x f=>simp only [h x (by simp)]
 case indexAddr T x i=>simp only [h x (by simp),h i (by simp),qA hr]
 case index T x i=>simp only [h x (by simp),h i (by simp)]
 case slice T x lo hi mx=>
  cases mx with
  |some m=>rfl
  |none=>
   have hlo:∀y,lo=some y→S'.ev y=S.ev y:=fun y e=>h y (by subst e;simp)
   have hhi:∀y,hi=some y→S'.ev y=S.ev y:=fun y e=>h y (by subst e;simp)
   simp only [h x (by simp),cZ hr,kc hlo,kc hhi]
 case convert a b x=>simp only [h x (by simp),ku hr]
 case build T ps=>simp only [rD (S:=S) (S':=S') (ps:=ps) fun x hx=>h x (by simpa using hx)]
 case buildSlice T n ps=>simp only [xB hr (ps:=ps) fun x hx=>h x (by simpa using hx)]
 case makeSlice T l c=>simp only [h l (by simp),h c (by simp)]
 case makeFunc fn first captured=>
  cases fn with
  |func f=>
   have:=nj (S:=S) (S':=S') (xs:=captured.toList) fun x hx=>h x (by simp at hx ⊢;exact .inr hx)
   simp only [this]
  |_=>rfl
 case call c=>
  simp only [Call.operands] at h
  have hargs:∀x∈c.args.toList,S'.ev x=S.ev x:=fun x hx=>h x (by simp at hx ⊢;exact .inr hx)
  have hL:=nj hargs
  simp only [hL]
  split
  ·rename_i hc
   split
   ·rename_i x T hx hT
    rw [hargs x (by rw [hx];simp),Au hr]
   ·rfl
  ·rfl
  ·rfl
  ·rfl
theorem lF (h:S'.roots=S.roots)(l:Bool)(k:LK)(a:AV):ix l S' k a=ix l S k a:=by
 unfold ix;simp only [cZ h]
theorem m9 (h:S'.roots=S.roots)(l:Bool):∀(ks:List LK) (as:List AV),ce l S' ks as=ce l S ks as
 |[],[]=>rfl
 |k :: ks,a :: as=>by simp only [ce,lF h,m9 h l ks as]
 |[],_ :: _=>rfl
 |_ :: _,[]=>rfl
theorem yr (h:S'.roots=S.roots)(l:Bool)(a:AV):rp l S' a=rp l S a:=by
 unfold rp;simp only [cZ h]
theorem pO (h:S'.roots=S.roots)(l:Bool):∀as:List AV,fe l S' as=fe l S as
 |[]=>rfl
 |a :: as=>by simp only [fe,yr h,pO h l as]
theorem zh (h:S'.roots=S.roots)(l:Bool)(a:AV):vu l S' a=vu l S a:=by
 unfold vu;simp only [cC h,pO h]
theorem rL (h:S'.roots=S.roots)(l:Bool):∀as:List AV,nP l S' as=nP l S as
 |[]=>rfl
 |a :: as=>by simp only [nP,zh h,rL h l as]
theorem uM (h:S'.roots=S.roots)(l:Bool)(k:PK)(a:AV):ul l S' k a=ul l S k a:=by
 unfold ul EJ;simp only [cC h,lF h,m9 h,rL h]
theorem su (h:S'.roots=S.roots)(l:Bool):∀(ks:List PK) (as:List AV),lO l S' ks as=lO l S ks as
 |[],[]=>rfl
 |k :: ks,a :: as=>by simp only [lO,uM h,su h l ks as]
 |[],_ :: _=>rfl
 |_ :: _,[]=>rfl
theorem mI {c:Call}(h:∀x∈c.operands,S'.ev x=S.ev x):dJ S' c=dJ S c:=by
 unfold dJ
 have hL:=nj (S:=S) (S':=S') (xs:=c.args.toList) fun x hx=>h x (by simp [Call.operands] at hx ⊢;exact .inr hx)
 split
 ·rename_i x hc
  rw [h x (by simp [Call.operands,hc]),hL]
 ·rfl
theorem yC {E:fA}{lv:Lv E.sig}{o:Oper}{c:Call}{κ:AV→Option am→Option R}(hr:S'.roots=S.roots)(h:∀x∈c.operands,S'.ev x=S.ev x):stepC E lv o c S' κ=stepC E lv o c S κ:=by
 unfold stepC
 simp only [mI h,su hr]
theorem ka {E:fA}{lv:Lv E.sig}{o:Oper}{κ:AV→Option am→Option R}(hr:S'.roots=S.roots)(h:∀x∈o.op.operands,S'.ev x=S.ev x):bh E lv o S' κ=bh E lv o S κ:=by
 unfold bh
 split
 ·rename_i c ho
  split
  ·exact rM hr h
  ·exact yC hr (by rw [ho] at h;exact h)
 ·exact rM hr h
theorem nf (h:S'.roots=S.roots)(k:LK)(a:AV):js S' k a=js S k a:=by
 unfold js;simp only [cZ h,lF h]
theorem ol (h:S'.roots=S.roots):∀(ks:List LK) (as:List AV),fH S' ks as=fH S ks as
 |[],[]=>rfl
 |k :: ks,a :: as=>by simp only [fH,nf h,ol h ks as]
 |[],_ :: _=>rfl
 |_ :: _,[]=>rfl
theorem s9 (h:S'.roots=S.roots)(s:Nat):∀(j:Nat) (ks:List LK) (cs:List ax),bb S' s j ks cs=bb S s j ks cs:=by
 intro j ks
 induction ks generalizing j with
 |nil=>intro cs;cases cs<;>simp [bb]
 |cons k ks ih=>
  intro cs
  cases cs with
  |nil=>simp [bb]
  |cons c cs=>
   cases c with
   |av a=>simp only [bb,nf h,ih]
   |sl u fz xs=>
    cases k<;>try (simp [bb];done)
    ·cases fz with
     |true=>simp only [bb,ih]
     |false=>simp [bb]
    ·simp only [bb,ih]
theorem A7 {T T':St}(h:S'.roots=S.roots)(h':T'.roots=T.roots)(l:Bool)(k:PK)(a:AV):uR l S' T' k a=uR l S T k a:=by
 unfold uR;simp only [cC h,uM h',nf h,ol h,s9 h]
theorem rB {T T':St}(h:S'.roots=S.roots)(h':T'.roots=T.roots)(l:Bool):∀(ks:List PK) (as:List AV),fl l S' T' ks as=fl l S T ks as
 |[],[]=>rfl
 |k :: ks,a :: as=>by simp only [fl,A7 h h',rB h h' l ks as]
 |[],_ :: _=>rfl
 |_ :: _,[]=>rfl
theorem xk (h:S'.roots=S.roots)(k:PK)(a:AV):qC S' k a=qC S k a:=by
 unfold qC;simp only [cC h]
theorem oc (h:S'.roots=S.roots):∀(ks:List PK) (as:List AV),fj S' ks as=fj S ks as
 |k :: ks,a :: as=>by simp only [fj,xk h,oc h ks as]
 |[],_=>rfl
 |_ :: _,[]=>rfl
theorem yu (h:S'.roots=S.roots)(s j:Nat):(frzAt S' s j).roots=(frzAt S s j).roots:=by
 unfold frzAt
 rw [cZ h]
 split
 ·exact ei h _ _ _
 ·exact h
theorem qd:∀(l:List (Nat×Nat)) {S S':St},S'.roots=S.roots→(frzAll S' l).roots=(frzAll S l).roots
 |[],_,_,h=>h
 |p :: l,_,_,h=>qd l (yu h p.1 p.2)
theorem lK:∀(l:List (Nat×Nat)) {S S':St},S'.roots=S.roots→(gr S' l).roots=(gr S l).roots
 |[],_,_,h=>h
 |p :: l,_,_,h=>lK l (ei h p.1 p.2 _)
theorem mm {os:List iS}:∀(l:List (Nat×List ax)) {S S':St},S'.roots=S.roots→(d5 S' os l).map St.roots=(d5 S os l).map St.roots
 |[],_,_,h=>by simp [d5,h]
 |(i,cs) :: l,S,S',h=>by
  simp only [d5]
  split
  ·exact mm l (by simp only [St.setRoot,h])
  ·rfl
theorem xq (h:S'.roots=S.roots){a:AV}{l:List AV}{κ:List (Nat×am)→List Nat→Option R}:jz S' a l κ=jz S a l κ:=by
 unfold jz;simp only [cC h,cZ h,ei h,fun s' j' c s j c'=>ei (s:=s) (j:=j) (c:=c') (ei (s:=s') (j:=j') (c:=c) h),h]
theorem yk {sig:FuncId→bR}{pks:FuncId→List PK}{lv:Lv sig}{d:Nat}{f:FuncId}{as:List AV}{κ:AV→Option am→List (Nat×am)→List Nat→Option R}(h:S'.roots=S.roots):
  kD sig pks lv d S' f as κ=kD sig pks lv d S f as κ:=by
 unfold kD
 simp only
 have e1:=oc h (pks f) as
 have e2:=qd (fj S (pks f) as) h
 rw [e1]
 generalize frzAll S' (fj S (pks f) as)=S1' at e2 ⊢
 generalize frzAll S (fj S (pks f) as)=S1 at e2 ⊢
 have e3:(⟨S1'.tmps,eQ (cL (pks f) as) S1'.roots⟩:St).roots=(⟨S1.tmps,eQ (cL (pks f) as) S1.roots⟩:St).roots:=by simp only [e2]
 generalize (⟨S1'.tmps,eQ (cL (pks f) as) S1'.roots⟩:St)=S2' at e3 ⊢
 generalize (⟨S1.tmps,eQ (cL (pks f) as) S1.roots⟩:St)=S2 at e3 ⊢
 rw [rB e2 e3]
 split
 ·rename_i args os hA
  congr 1
  congr 1
  funext r
  have e4:=mm (os:=os) (em.cells (sig f).back (bR.back1 (sig f) r)) (lK (fM os) e3)
  generalize d5 (gr S2' (fM os)) os _=q' at e4 ⊢
  generalize d5 (gr S2 (fM os)) os _=q at e4 ⊢
  cases q' with
  |none=>
   cases q with
   |none=>rfl
   |some X=>simp at e4
  |some X'=>
   cases q with
   |none=>simp at e4
   |some X=>
    simp only [Option.map_some,Option.some.injEq] at e4
    simp only [e4]
 ·rfl
theorem zn (h:S'.roots=S.roots){s j lo n:Nat}{t:El}{x:AV}{κ:AV→List (Nat×am)→Option R}:lS S' s j lo n t x κ=lS S s j lo n t x κ:=by
 unfold lS;simp only [cZ h,ku h,ei h]
theorem CV (h:S'.roots=S.roots){s:Nat}{x:List UInt8}{κ:List (Nat×am)→Option R}:Je S' s x κ=Je S s x κ:=by
 unfold Je;simp only [cC h,h]
theorem CL (h:S'.roots=S.roots){s e:Nat}{κ:AV→List (Nat×am)→Option R}:H6 S' s e κ=H6 S s e κ:=by
 unfold H6;simp only [cC h,h]
theorem yE {E:fA}{lv:Lv E.sig}{o:Oper}{κ:AV→Option am→List (Nat×am)→List Nat→Option R}(hr:S'.roots=S.roots)(h:∀x∈o.op.operands,S'.ev x=S.ev x):kK E lv o S' κ=kK E lv o S κ:=by
 unfold kK
 cases ho:o.op<;>rw [ho] at h<;>simp only [Op.operands] at h<;>try rfl
 case store T x y=>simp only [h x (by simp),h y (by simp),xq hr]
 case call c=>
  have hargs:∀x∈c.args.toList,S'.ev x=S.ev x:=fun x hx=>h x (by simp [Call.operands] at hx ⊢;exact .inr hx)
  simp only [mI h,yk hr,CV hr,CL hr]
  split
  ·split
   ·rename_i b x T T' hx hT
    simp only [hargs b (by rw [hx];simp),hargs x (by rw [hx];simp),ku hr,cZ hr,ei hr,hr]
   ·rfl
  ·split
   ·rename_i b x T T' hx hT
    simp only [hargs b (by rw [hx];simp),hargs x (by rw [hx];simp),cZ hr,zn hr]
   ·rfl
  ·rfl
  ·rfl
theorem kg {E:fA}{lv:Lv E.sig}{o:Oper}{κ:AV→Option am→List (Nat×am)→List Nat→Option R}(hr:S'.roots=S.roots)(h:∀x∈o.op.operands,S'.ev x=S.ev x):step1 E lv o S' κ=step1 E lv o S κ:=by
 unfold step1
 cases db E.pks o with
 |true=>simp only [cond];rw [hr];exact ka hr h
 |false=>exact yE hr h
theorem rV {E:fA}{lv:Lv E.sig}{o:Oper}{κ:AV→Option am→Option R}(hb:gQ o=true)(h:∀x∈o.op.operands,S'.ev x=S.ev x):bh E lv o S' κ=bh E lv o S κ:=by
 have e:∀S:St,bh E lv o S κ=dl E.ty o S κ:=by
  intro S
  unfold bh
  unfold gQ at hb
  split
  ·rename_i c ho;rw [ho] at hb;cases hb
  ·rfl
 rw [e,e]
 unfold dl
 unfold gQ at hb
 cases ho:o.op<;>rw [ho] at h hb<;>simp only [Op.operands] at h<;>try (cases hb;done)
 case move x=>simp only [h x (by simp)]
 case assign x=>simp only [h x (by simp)]
 case pick c x y=>simp only [h c (by simp),h x (by simp),h y (by simp)]
 case nilCheck x=>simp only [h x (by simp)]
 case binOp op T x y c=>simp only [h x (by simp),h y (by simp)]
 case unOp op T x=>simp only [h x (by simp)]
 case extract x i=>simp only [h x (by simp)]
 case fieldAddr T x f=>simp only [h x (by simp)]
 case field T x f=>simp only [h x (by simp)]
 case index T x i=>simp only [h x (by simp),h i (by simp)]
 case build T ps=>simp only [rD (S:=S) (S':=S') (ps:=ps) fun x hx=>h x (by simpa using hx)]
end
end Go.Proofs.YtjkokaockhecnaaGreatDoorA
