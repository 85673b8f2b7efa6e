/- Regions that draw their order: what the machine's checks say; what it has done in the order of the text. Regions that draw their order: whatever the order is, the answer is that of the text. Regions that draw their order: all orders. Regions whose operations that change what is owned are chained: what is looked at, what is changed. Regions whose operations that change what is owned are chained: all orders. -/
import Derived.Test.YtjkokaockhecnaaGreatDoorCong
import Derived.Orders
namespace Go.Proofs.YtjkokaockhecnaaGreatDoorA
open Go
section
variable {ops:List Oper}
def bf (acc:List Nat)(o:Oper):Nat:=o.after.toList.foldl (fun s e=>bif cB e then s ||| 2 ^ e.on ||| acc.getD e.on 0 else s) 0
theorem dJ (o:Oper)(l:List Oper)(acc:List Nat):ar (o :: l) acc=ar l (acc++[bf acc o]):=by rw [ar];rfl
theorem cQ:∀(l:List Oper) (acc:List Nat),(ar l acc).length=acc.length+l.length
 |[],acc=>rfl
 |o :: l,acc=>by rw [dJ,cQ l];simp;omega
theorem gb:∀(l:List Oper) (acc:List Nat) (k:Nat),k<acc.length→(ar l acc)[k]?=acc[k]?
 |[],acc,k,_=>rfl
 |o :: l,acc,k,h=>by
  rw [dJ,gb l _ k (by simp;omega),List.getElem?_append_left h]
theorem pX:∀(l:List Oper) (acc:List Nat) (k:Nat) (o:Oper),l[k]?=some o→
  ∃acc':List Nat,(∀m,m<acc.length+k→acc'[m]?=(ar l acc)[m]?)∧acc'.length=acc.length+k∧(ar l acc)[acc.length+k]?=some (bf acc' o)
 |[],_,_,_,h=>by simp at h
 |o' :: l,acc,0,o,h=>by
  simp only [List.getElem?_cons_zero,Option.some.injEq] at h
  subst h
  refine ⟨acc,fun m hm=>?_,rfl,?_⟩
  ·rw [dJ,gb l _ m (by simp;omega),List.getElem?_append_left (by omega)]
  ·rw [dJ,gb l _ _ (by simp)];simp
 |o' :: l,acc,k+1,o,h=>by
  obtain ⟨acc',h1,h2,h3⟩:=pX l (acc++[bf acc o']) k o (by simpa using h)
  simp only [List.length_append,List.length_cons,List.length_nil] at h1 h2 h3
  refine ⟨acc',fun m hm=>?_,by omega,?_⟩
  ·rw [dJ];exact h1 m (by omega)
  ·rw [dJ,show acc.length+(k+1)=acc.length+(0+1)+k by omega];exact h3
theorem DJ {acc:List Nat}{o:Oper}{i:Nat}(h:(bf acc o).testBit i=true):∃e∈o.after.toList,cB e=true∧(e.on=i∨(acc.getD e.on 0).testBit i=true):=by
 unfold bf at h
 have key:∀(l:List Edge) (s:Nat),(l.foldl (fun s e=>bif cB e then s ||| 2 ^ e.on ||| acc.getD e.on 0 else s) s).testBit i=true→
   s.testBit i=true∨∃e∈l,cB e=true∧(e.on=i∨(acc.getD e.on 0).testBit i=true):=by
  intro l
  induction l with
  |nil=>intro s h;exact .inl h
  |cons e l ih=>
   intro s h
   simp only [List.foldl_cons] at h
   rcases ih _ h with h|⟨e',h1,h2⟩
   ·cases hb:cB e with
    |false=>rw [hb] at h;exact .inl (by simpa using h)
    |true=>
     rw [hb] at h
     simp only [cond,Nat.testBit_or,Bool.or_eq_true,Nat.testBit_two_pow,decide_eq_true_eq] at h
     rcases h with (h|h)|h
     ·exact .inl h
     ·exact .inr ⟨e,List.mem_cons_self,hb,.inl h⟩
     ·exact .inr ⟨e,List.mem_cons_self,hb,.inr h⟩
   ·exact .inr ⟨e',List.mem_cons_of_mem _ h1,h2⟩
 rcases key _ 0 h with h|h
 ·simp at h
 ·exact h
def mM (ops:List Oper)(i j:Nat):Prop:=((ar ops []).getD j 0).testBit i=true
theorem mM.edge {i j:Nat}(h:mM ops i j):∃o,ops[j]?=some o∧∃e∈o.after.toList,cB e=true∧(e.on=i∨mM ops i e.on):=by
 unfold mM at h
 cases ho:ops[j]? with
 |none=>
  have:(ar ops [])[j]?=none:=by
   rw [List.getElem?_eq_none_iff] at ho ⊢
   rw [cQ];simpa using ho
  rw [List.getD_eq_getElem?_getD,this] at h
  simp at h
 |some o=>
  obtain ⟨acc,h1,h2,h3⟩:=pX ops [] j o ho
  simp only [List.length_nil,Nat.zero_add] at h1 h2 h3
  rw [List.getD_eq_getElem?_getD,h3] at h
  obtain ⟨e,e1,e2,e3⟩:=DJ h
  refine ⟨o,rfl,e,e1,e2,?_⟩
  rcases e3 with e3|e3
  ·exact .inl e3
  ·refine .inr ?_
   unfold mM
   rw [List.getD_eq_getElem?_getD] at e3 ⊢
   by_cases hlt:e.on<j
   ·rw [←h1 _ hlt];exact e3
   ·rw [List.getElem?_eq_none (by omega)] at e3;simp at e3
def fK (ops:List Oper)(D:Nat→Prop):Prop:=∀j,D j→∀i,mM ops i j→D i
theorem fK.ready {D:Nat→Prop}(hc:fK ops D){j:Nat}{o:Oper}(ho:ops[j]?=some o)(hr:∀e∈o.after.toList,cB e=true→D e.on):∀i,mM ops i j→D i:=by
 intro i h
 obtain ⟨o',h1,e,h2,h3,h4⟩:=h.edge
 rw [ho] at h1;cases h1
 rcases h4 with h4|h4
 ·rw [←h4];exact hr e h2 h3
 ·exact hc _ (hr e h2 h3) i h4
theorem fB {k:Nat}{l:List Nat}:nj k l=true↔k∈l:=by
 induction l with
 |nil=>simp [nj]
 |cons m l ih=>
  simp only [nj,Bool.or_eq_true,ih,List.mem_cons]
  constructor
  ·rintro (h|h)
   ·exact .inl (Nat.eq_of_beq_eq_true h).symm
   ·exact .inr h
  ·rintro (rfl|h)
   ·exact .inl (by simp)
   ·exact .inr h
theorem iV:∀{l:List Oper}{i:Nat},ja i l=true→∀k o,l[k]?=some o→∀e∈o.after.toList,cB e=true→e.on<i+k
 |[],_,_,k,o,h,_,_,_=>by simp at h
 |p :: l,i,h,k,o,ho,e,he,hb=>by
  simp only [ja,Bool.and_eq_true] at h
  cases k with
  |zero=>
   simp only [List.getElem?_cons_zero,Option.some.injEq] at ho
   subst ho
   have:=List.all_eq_true.1 h.1 e he
   rw [hb] at this
   have h2:Nat.blt e.on i=true:=by simpa using this
   exact Nat.le_of_ble_eq_true h2
  |succ k=>
   have:=iV h.2 k o (by simpa using ho) e he hb
   omega
theorem eE {i j:Nat}(h:(!Nat.beq i j)=true):i≠j:=fun e=>by subst e;simp at h
theorem oj:∀{l:List Oper},jS l=true→∀(i j:Nat) (x y:Oper) (d:Nat),l[i]?=some x→l[j]?=some y→x.dst=some d→y.dst=some d→i=j:=by
 have lt:∀{l:List Oper},jS l=true→∀(i j:Nat) (x y:Oper) (d:Nat),i<j→l[i]?=some x→l[j]?=some y→x.dst=some d→y.dst=some d→False:=by
  intro l
  induction l with
  |nil=>intro _ i j x y d _ h;simp at h
  |cons p l ih=>
   intro h i j x y d hij hx hy hxd hyd
   simp only [jS,Bool.and_eq_true] at h
   cases j with
   |zero=>omega
   |succ j=>
    cases i with
    |zero=>
     simp only [List.getElem?_cons_zero,Option.some.injEq] at hx
     subst hx
     rw [hxd] at h
     have:=List.all_eq_true.1 h.1 y (List.mem_of_getElem? (by simpa using hy))
     rw [hyd] at this
     exact eE this rfl
    |succ i=>exact ih h.2 i j x y d (by omega) (by simpa using hx) (by simpa using hy) hxd hyd
 intro l h i j x y d hx hy hxd hyd
 rcases Nat.lt_trichotomy i j with h1|h1|h1
 ·exact (lt h i j x y d h1 hx hy hxd hyd).elim
 ·exact h1
 ·exact (lt h j i y x d h1 hy hx hyd hxd).elim
theorem lw:∀{l:List Oper},tQ ops l=true→∀(i j:Nat) (x y:Oper) (d:Nat),i≤j→l[i]?=some x→l[j]?=some y→y.dst=some d→d ∉ bG ops x
 |[],_,_,_,_,_,_,_,h,_,_=>by simp at h
 |p :: l,h,i,j,x,y,d,hij,hx,hy,hyd=>by
  simp only [tQ,Bool.and_eq_true] at h
  cases i with
  |zero=>
   simp only [List.getElem?_cons_zero,Option.some.injEq] at hx
   subst hx
   intro hm
   have h1:=List.all_eq_true.1 h.1 d hm
   have:=List.all_eq_true.1 h1 y (List.mem_of_getElem? hy)
   rw [hyd] at this
   exact eE this rfl
  |succ i=>
   cases j with
   |zero=>omega
   |succ j=>exact lw h.2 i j x y d (by omega) (by simpa using hx) (by simpa using hy) hyd
theorem lU {pks:FuncId→List PK}{bs:List Nat}:∀{l:List Oper}{j:Nat},mJ pks ops bs j l=true→∀k i x y,l[k]?=some y→i<j+k→ops[i]?=some x→
  (bs.getD (j+k) 0).testBit i=true∨(hO ops x y=true∧pw pks ops i (j+k) x=true)
 |[],_,_,_,_,_,_,h,_,_=>by simp at h
 |p :: l,j,h,k,i,x,y,hy,hij,hx=>by
  simp only [mJ,Bool.and_eq_true] at h
  cases k with
  |zero=>
   simp only [List.getElem?_cons_zero,Option.some.injEq] at hy
   subst hy
   have hm:(x,i)∈(ops.take j).zipIdx:=List.mem_zipIdx_iff_getElem?.2 (by simp only [List.getElem?_take];rw [if_pos (by omega)];exact hx)
   have:=List.all_eq_true.1 h.1 _ hm
   simpa using this
  |succ k=>
   have:=lU h.2 k i x y (by simpa using hy) (by omega) hx
   rwa [show j+1+k=j+(k+1) by omega] at this
theorem eR {x y:Oper}(h:hO ops x y=true):(∀d,x.dst=some d→d ∉ bG ops y)∧(∀d,y.dst=some d→d ∉ bG ops x):=by
 simp only [hO,Bool.and_eq_true] at h
 refine ⟨fun d hd hm=>?_,fun d hd hm=>?_⟩
 ·have h1:=h.1
  rw [hd] at h1
  simp only [Bool.and_eq_true] at h1
  rw [fB.2 hm] at h1
  simp at h1
 ·have h1:=h.2
  rw [hd] at h1
  simp only at h1
  rw [fB.2 hm] at h1
  simp at h1
theorem mf {pks:FuncId→List PK}:∀{l:List Oper},dO pks ops l=true→∀o∈l,qD pks ops o=true
 |[],_,o,h=>by simp at h
 |p :: l,h,o,ho=>by
  simp only [dO,Bool.and_eq_true] at h
  rcases List.mem_cons.mp ho with rfl|ho
  ·exact h.1
  ·exact mf h.2 o ho
theorem qL {pks:FuncId→List PK}{j k:Nat}{o:Oper}(h:dO pks ops (ops.take (j+1))=true)(hk:k≤j)(ho:ops[k]?=some o):qD pks ops o=true:=
 mf h o (List.mem_of_getElem? (i:=k) (by rw [List.getElem?_take,if_pos (by omega)];exact ho))
theorem jR {b d:Nat}(h:d∈dk ops b):∃i o,ops[i]?=some o∧o.dst=some d∧b.testBit i=true:=by
 unfold dk at h
 obtain ⟨p,hp,hq⟩:=List.mem_filterMap.1 h
 have:=List.mem_zipIdx_iff_getElem?.1 (show (p.1,p.2)∈ops.zipIdx from hp)
 cases hb:b.testBit p.2 with
 |false=>rw [hb] at hq;cases hq
 |true=>rw [hb] at hq;exact ⟨p.2,p.1,this,hq,hb⟩
theorem nR {d:Nat}:∀{l:List (Nat×ae)},fh d l=true→∀s r,look s l=some r→s≠d∧∀b,ah.av b∈r.cs→b.names d=false
 |[],_,s,r,h=>by simp [look] at h
 |(i,q) :: l,h,s,r,hl=>by
  simp only [fh,Bool.and_eq_true] at h
  simp only [look] at hl
  cases e:Nat.beq i s with
  |true=>
   rw [e] at hl
   simp only [cond,Option.some.injEq] at hl
   subst hl
   have:=Nat.eq_of_beq_eq_true e
   subst this
   refine ⟨eE h.1.1,fun b hb=>?_⟩
   have:=List.all_eq_true.1 h.1.2 _ hb
   simpa using this
  |false=>rw [e] at hl;exact nR h.2 s r hl
theorem pi {d:Nat}:∀{l:List (Nat×ae)},fh d l=true→∀s r,(s,r)∈l→s≠d∧∀b,ah.av b∈r.cs→b.names d=false
 |[],_,s,r,h=>by simp at h
 |(i,q) :: l,h,s,r,hl=>by
  simp only [fh,Bool.and_eq_true] at h
  rcases List.mem_cons.mp hl with e|hl
  ·cases e
   refine ⟨eE h.1.1,fun b hb=>?_⟩
   have:=List.all_eq_true.1 h.1.2 _ hb
   simpa using this
  ·exact pi h.2 s r hl
theorem iC {S:St}{p:AV→Bool}(h:S.tmps.all (fun q=>p q.2)=true)(hu:p .und=true)(t:Nat):p (S.tmp t)=true:=by
 unfold St.tmp
 cases hl:look t S.tmps with
 |none=>exact hu
 |some b=>exact List.all_eq_true.1 h _ (pu hl)
theorem ik {S:St}:∀{l:List Oper},gn S l=true→∀o∈l,∀d,o.dst=some d→(∀t,(S.tmp t).names d=false)∧∀s r,S.root s=some r→s≠d∧∀b,ah.av b∈r.cs→b.names d=false
 |[],_,o,h,_,_=>by simp at h
 |p :: l,h,o,ho,d,hd=>by
  simp only [gn,Bool.and_eq_true] at h
  rcases List.mem_cons.mp ho with rfl|ho
  ·rw [hd] at h
   have h1:=h.1
   simp only [tq,Bool.and_eq_true] at h1
   refine ⟨fun t=>?_,fun s r hr=>nR h1.2 s r hr⟩
   have:=iC (p:=fun a=>!a.names d) h1.1 (by simp [AV.names]) t
   simpa using this
  ·exact ik h.2 o ho d hd
end
section
variable {E:dE}{lv:Lv E.sig}{fz:Nat→Bool}{ops:List Oper}
theorem jt:∀(l:List (Nat×ae)) (S:St),(bE S l).tmp=S.tmp
 |[],_=>rfl
 |(d,r) :: l,S=>by simp only [bE];rw [jt l];rfl
theorem ib:∀(l:List (Nat×ae)) (S:St) {s:Nat}{r:ae},(bE S l).root s=some r→(s,r)∈l∨S.root s=some r
 |[],_,_,_,h=>.inr h
 |(d,q) :: l,S,s,r,h=>by
  simp only [bE] at h
  rcases ib l _ h with h|h
  ·exact .inl (List.mem_cons_of_mem _ h)
  ·rw [bQ] at h
   by_cases e:s=d
   ·subst e;rw [if_pos rfl] at h;cases h;exact .inl List.mem_cons_self
   ·rw [if_neg e] at h;exact .inr h
theorem j8:∀(l:List (Nat×ae)) {S S':St},S'.roots=S.roots→(bE S' l).roots=(bE S l).roots
 |[],_,_,h=>h
 |(d,r) :: l,S,S',h=>j8 l (S:=S.setRoot d r) (S':=S'.setRoot d r) (by show lC d r S'.roots=lC d r S.roots;rw [h])
theorem AN {ss:List Nat}{nw:List (Nat×ae)}{o:Oper}{S:St}(h:kb o=false):drawS ss nw o S=S:=by unfold drawS;rw [h];rfl
theorem rl {ss:List Nat}{nw:List (Nat×ae)}{o:Oper}{S:St}:(drawS ss nw o S).tmp=S.tmp:=by
 unfold drawS
 cases kb o
 ·rfl
 ·exact jt _ S
theorem nC {ss:List Nat}{nw:List (Nat×ae)}{o:Oper}{S S':St}(h:S'.roots=S.roots):(drawS ss nw o S').roots=(drawS ss nw o S).roots:=by
 unfold drawS
 cases kb o
 ·exact h
 ·exact j8 _ h
theorem mt {ss:List Nat}{nw:List (Nat×ae)}{o:Oper}{S:St}(x:Operand):(drawS ss nw o S).ev x=S.ev x:=by
 cases x<;>simp only [St.ev]
 rw [rl]
structure wE (E:dE)(lv:Lv E.sig)(fz:Nat→Bool)(ops:List Oper)(b:Nat)(o:Oper)(S:St)(nw:List (Nat×ae))(S1:St)(nw1:List (Nat×ae)):Prop where
 roots:S1.roots=S.roots
 tm:∀t,o.dst≠some t→S1.tmp t=S.tmp t
 done:(bk ops o S∧∃av rt,aC E lv o (drawS (dk ops b) nw o S) q0=some (av,rt)∧(∀d,o.dst=some d→S1.tmp d=av)∧
   (∀p∈nw,p.1∈dk ops b∨(av.names p.1=false∧∀r,rt=some r→∀c,ah.av c∈r.cs→c.names p.1=false))∧
   ((rt=none∧nw1=nw)∨∃r d,rt=some r∧o.dst=some d∧nw1=(d,sr fz d r) :: nw∧(∀t,(S.tmp t).names d=false)∧fh d nw=true))∨
  (bk.not ops o S∧(∀d,o.dst=some d→S1.tmp d=.tup [])∧nw1=nw)
theorem sK {ss:List Nat}{nw:List (Nat×ae)}{S:St}{av:AV}{rt:Option ae}{d:Nat}(h:iM ss nw S av rt d=true):
  (∀p∈nw,p.1∈ss∨(av.names p.1=false∧∀r,rt=some r→∀c,ah.av c∈r.cs→c.names p.1=false))∧∀r,rt=some r→(∀t,(S.tmp t).names d=false)∧fh d nw=true:=by
 simp only [iM,Bool.and_eq_true] at h
 refine ⟨fun p hp=>?_,fun r hr=>?_⟩
 ·have:=List.all_eq_true.1 h.1 p hp
  simp only [Bool.or_eq_true,Bool.and_eq_true,Bool.not_eq_true'] at this
  rcases this with h1|⟨h1,h2⟩
  ·exact .inl (fB.1 h1)
  ·refine .inr ⟨h1,fun r hr c hc=>?_⟩
   subst hr
   have:=List.all_eq_true.1 h2 _ hc
   simpa using this
 ·subst hr
  have h2:=h.2
  simp only [Bool.and_eq_true] at h2
  refine ⟨fun t=>?_,h2.2⟩
  have:=iC (p:=fun a=>!a.names d) h2.1 (by simp [AV.names]) t
  simpa using this
theorem ky {S S':St}(h:pQ S S')(x:Operand):S'.ev x=S.ev x:=by
 cases x<;>simp [St.ev,h.tm]
theorem lg {R:Type}{κ:St→Option R}{r:R}:∀(rest:List Oper) (i:Nat) (S:St) (nw:List (Nat×ae)),ops.drop i=rest→i≤ops.length→gC E lv fz ops rest ((ar ops []).drop i) nw S κ=some r→
  ∃(st:Nat→St) (nws:Nat→List (Nat×ae)) (m:Nat),i≤m∧m≤ops.length∧st i=S∧nws i=nw∧
   (∀k o,i≤k→k<m→ops[k]?=some o→qD E.pks ops o=true∧wE E lv fz ops ((ar ops []).getD k 0) o (st k) (nws k) (st (k+1)) (nws (k+1)))∧
   ((m=ops.length∧κ (bE (st m) (nws m))=some r)∨∃o ps,ops[m]?=some o∧qD E.pks ops o=false∧cf (ar ops []) (st m) m 0 (ops.take m)=some ps∧gP E lv fz ops ps (ops.drop m) (bE (st m) (nws m)) κ=some r)
 |[],i,S,nw,hi,hle,h=>by
  have:ops.length≤i:=by
   have:=congrArg List.length hi
   simp at this;omega
  refine ⟨fun _=>S,fun _=>nw,i,Nat.le_refl _,hle,rfl,rfl,fun k o h1 h2=>by omega,.inl ⟨by omega,?_⟩⟩
  cases hb:(ar ops []).drop i<;>rw [hb] at h<;>exact h
 |o :: rest,i,S,nw,hi,hle,h=>by
  have hoi:ops[i]?=some o:=by
   have:=congrArg List.head? hi
   simpa [List.head?_drop] using this
  have hlt:i<ops.length:=(List.getElem?_eq_some_iff.mp hoi).1
  have hdr:ops.drop (i+1)=rest:=by
   have:=congrArg List.tail hi
   simpa [List.tail_drop] using this
  have hbl:i<(ar ops []).length:=by rw [cQ];simpa using hlt
  have hb:(ar ops []).drop i=(ar ops []).getD i 0 :: (ar ops []).drop (i+1):=by
   rw [List.drop_eq_getElem_cons hbl]
   congr 1
   rw [List.getD_eq_getElem?_getD,List.getElem?_eq_getElem hbl];rfl
  rw [hb] at h
  simp only [gC] at h
  cases hq:qD E.pks ops o with
  |false=>
   rw [hq] at h
   have hlen:ops.length - (rest.length+1)=i:=by
    have:=congrArg List.length hi
    simp at this;omega
   rw [hlen] at h
   simp only [cond] at h
   split at h
   ·rename_i ps hps
    refine ⟨fun _=>S,fun _=>nw,i,Nat.le_refl _,hle,rfl,rfl,fun k o h1 h2=>by omega,.inr ⟨o,ps,hoi,hq,hps,?_⟩⟩
    rw [hi];exact h
   ·cases h
  |true=>
   rw [hq] at h
   simp only [cond] at h
   -- one step, and the rest
   have fin:∀(S1:St) (nw1:List (Nat×ae)),wE E lv fz ops ((ar ops []).getD i 0) o S nw S1 nw1→gC E lv fz ops rest ((ar ops []).drop (i+1)) nw1 S1 κ=some r→
     ∃(st:Nat→St) (nws:Nat→List (Nat×ae)) (m:Nat),i≤m∧m≤ops.length∧st i=S∧nws i=nw∧
      (∀k o,i≤k→k<m→ops[k]?=some o→qD E.pks ops o=true∧wE E lv fz ops ((ar ops []).getD k 0) o (st k) (nws k) (st (k+1)) (nws (k+1)))∧
      ((m=ops.length∧κ (bE (st m) (nws m))=some r)∨∃o ps,ops[m]?=some o∧qD E.pks ops o=false∧cf (ar ops []) (st m) m 0 (ops.take m)=some ps∧gP E lv fz ops ps (ops.drop m) (bE (st m) (nws m)) κ=some r):=by
    intro S1 nw1 hs hrun
    obtain ⟨st,nws,m,h1,h2,h3,h4,h5,h6⟩:=lg rest (i+1) S1 nw1 hdr (by omega) hrun
    refine ⟨fun k=>if k=i then S else st k,fun k=>if k=i then nw else nws k,m,by omega,h2,if_pos rfl,if_pos rfl,fun k o' hk1 hk2 ho'=>?_,?_⟩
    ·by_cases hki:k=i
     ·subst hki
      rw [hoi] at ho';cases ho'
      have e:¬(k+1=k):=by omega
      simp only [if_true,if_neg e]
      rw [h3,h4]
      exact ⟨hq,hs⟩
     ·have e:¬(k+1=i):=by omega
      simp only [if_neg hki,if_neg e]
      exact h5 k o' (by omega) hk2 ho'
    ·have e:¬(m=i):=by omega
     simp only [if_neg e]
     exact h6
   obtain ⟨S',hsame,hcase⟩:=fY h
   have tput:∀(av:AV),∀t,o.dst≠some t→(S'.putO o.dst av).tmp t=S.tmp t:=fun av t ht=>by rw [cz,if_neg ht,hsame.tm]
   have dput:∀(av:AV),∀d,o.dst=some d→(S'.putO o.dst av).tmp d=av:=fun av d hd=>by rw [cz,if_pos hd]
   have rput:∀(av:AV),(S'.putO o.dst av).roots=S.roots:=fun av=>by cases o.dst<;>exact hsame.rt
   rcases hcase with ⟨h1,hw⟩|⟨h1,hw⟩
   ·rw [gk] at h1
    have e1:aC E lv o (drawS (dk ops ((ar ops []).getD i 0)) nw o S') q0=aC E lv o (drawS (dk ops ((ar ops []).getD i 0)) nw o S) q0:=gW (nC hsame.rt) fun x _=>(mt x).trans ((ky hsame x).trans (mt x).symm)
    rw [e1] at h1
    cases hst:aC E lv o (drawS (dk ops ((ar ops []).getD i 0)) nw o S) q0 with
    |none=>rw [hst] at h1;cases h1
    |some p=>
     obtain ⟨av,rt⟩:=p
     rw [hst] at h1
     simp only [Option.bind_some,q2] at h1
     have fitT:∀{d:Nat},iM (dk ops ((ar ops []).getD i 0)) nw S' av rt d=true→(∀p∈nw,p.1∈dk ops ((ar ops []).getD i 0)∨(av.names p.1=false∧∀r,rt=some r→∀c,ah.av c∈r.cs→c.names p.1=false))∧
       ∀r,rt=some r→(∀t,(S.tmp t).names d=false)∧fh d nw=true:=by
      intro d hf
      obtain ⟨q1,q2⟩:=sK hf
      exact ⟨q1,fun r hr=>⟨fun t=>by rw [←hsame.tm];exact (q2 r hr).1 t,(q2 r hr).2⟩⟩
     cases rt with
     |none=>
      simp only at h1
      cases hf:iM (dk ops ((ar ops []).getD i 0)) nw S' av none 0 with
      |false=>rw [hf] at h1;cases h1
      |true=>
       rw [hf] at h1
       exact fin _ _ ⟨rput av,tput av,.inl ⟨hw,av,none,hst,dput av,(fitT hf).1,.inl ⟨rfl,rfl⟩⟩⟩ h1
     |some q=>
      cases hd:o.dst with
      |none=>rw [hd] at h1;cases h1
      |some d=>
       rw [hd] at h1
       simp only at h1
       cases hf:iM (dk ops ((ar ops []).getD i 0)) nw S' av (some q) d with
       |false=>rw [hf] at h1;cases h1
       |true=>
        rw [hf] at h1
        have hp:=rput av
        have hp2:=tput av
        have hp3:=dput av
        rw [hd] at hp hp2 hp3
        obtain ⟨f1,f2⟩:=fitT hf
        obtain ⟨f3,f4⟩:=f2 q rfl
        exact fin _ _ ⟨hp,by rw [hd];exact hp2,.inl ⟨hw,av,some q,hst,by rw [hd];exact hp3,f1,.inr ⟨q,d,rfl,hd,rfl,f3,f4⟩⟩⟩ h1
   ·exact fin _ _ ⟨rput _,tput _,.inr ⟨hw,dput _,rfl⟩⟩ h1
structure oQ (E:dE)(lv:Lv E.sig)(fz:Nat→Bool)(ops:List Oper)(o:Oper)(S S1:St):Prop where
 tm:∀t,o.dst≠some t→S1.tmp t=S.tmp t
 done:(bk ops o S∧∃av rt rs ks,step1 E lv o S w0=some (av,rt,rs,ks)∧(∀d,o.dst=some d→S1.tmp d=av)∧(rt≠none→∃d,o.dst=some d∧∀t,(S.tmp t).names d=false)∧
   (∀s∈ks,∀t,(S.tmp t).namesB s=false)∧∀s,S1.root s=(St.gain fz (St.clearB ⟨S.tmps,rs⟩ ks) o av rt).root s)∨
  (bk.not ops o S∧(∀d,o.dst=some d→S1.tmp d=.tup [])∧S1.roots=S.roots)
theorem xk {ks:List Nat}{b:AV}(h:∀s∈ks,b.namesB s=false):b.killBs ks=b:=by
 induction ks with
 |nil=>rfl
 |cons s ks ih=>
  have e:b.killB s=b:=by unfold AV.killB;rw [h s List.mem_cons_self];rfl
  simp only [AV.killBs,e]
  exact ih fun s' hs=>h s' (List.mem_cons_of_mem _ hs)
theorem wP {d:Nat}{b:AV}(h:b.names d=false):b.kill d=b:=by unfold AV.kill;rw [h];rfl
theorem kz {o:Oper}{av:AV}{rt:Option ae}{T T':List (Nat×AV)}{rs:List (Nat×ae)}{ks:List Nat}(s:Nat):
  (St.gain fz (St.clearB ⟨T,rs⟩ ks) o av rt).root s=(St.gain fz (St.clearB ⟨T',rs⟩ ks) o av rt).root s:=by
 have e:∀i,(St.clearB ⟨T,rs⟩ ks).root i=(St.clearB ⟨T',rs⟩ ks).root i:=fun i=>by rw [eB,eB];rfl
 cases rt with
 |none=>simp only [St.gain,b7];exact e s
 |some r=>
  simp only [St.gain]
  cases o.dst with
  |none=>simp only [dh,e]
  |some d=>simp only [fE,bQ,dh,e]
theorem mD {o:Oper}{av:AV}{rt:Option ae}{S:St}{rs:List (Nat×ae)}{ks:List Nat}(h1:rt≠none→∃d,o.dst=some d∧∀t,(S.tmp t).names d=false)(h2:∀s∈ks,∀t,(S.tmp t).namesB s=false)(t:Nat):
  (St.gain fz (St.clearB ⟨S.tmps,rs⟩ ks) o av rt).tmp t=if o.dst=some t then av else S.tmp t:=by
 have e:∀i,(St.clearB ⟨S.tmps,rs⟩ ks).tmp i=S.tmp i:=fun i=>by
  rw [lz]
  exact xk fun s hs=>h2 s hs i
 cases rt with
 |none=>simp only [St.gain,cz,e]
 |some r=>
  obtain ⟨d,hd,hnm⟩:=h1 (by simp)
  simp only [St.gain,hd,gK,en,iK,e,Option.some.injEq,eq_comm (a:=d)]
  by_cases ht:t=d
  ·simp [ht]
  ·simp only [if_neg ht];exact wP (hnm t)
theorem lS {S:St}{o:Oper}{av:AV}{rt:Option ae}(hb:eJ o=true)(h:aC E lv o S q0=some (av,rt)):rt=none:=by
 have e:aC E lv o S q0=bY E.ty o S q0:=by
  unfold aC
  unfold eJ at hb
  split
  ·rename_i c ho;rw [ho] at hb;cases hb
  ·rfl
 rw [e] at h
 unfold eJ at hb
 unfold bY at h
 have bd:∀{x:Option AV},(x.bind fun a=>q0 a none)=some (av,rt)→rt=none:=by
  intro x hx
  cases x with
  |none=>cases hx
  |some a=>simp [q0] at hx;exact hx.2.symm
 cases ho:o.op<;>rw [ho] at hb h<;>try (cases hb;done)
 case binOp op T x y c=>simp only at h;rw [mW] at h;exact bd h
 case unOp op T x=>simp only at h;rw [pL] at h;exact bd h
 case index T x i=>
  simp only [cond_eq_ite] at h
  split at h
  ·split at h
   ·rename_i b _
    generalize rd _ _=z at h
    cases z with
    |none=>cases h
    |some c=>simp [q0] at h;exact h.2.symm
   ·cases h
  ·cases h
 all_goals
  simp only [cond_eq_ite,q0] at h
  repeat' (first|(cases h;done)|(simp at h;exact h.2.symm)|split at h)
theorem oo {pks:FuncId→List PK}{o:Oper}(h:eJ o=true):bV pks o=true:=by
 unfold eJ at h
 unfold bV
 cases ho:o.op<;>rw [ho] at h<;>first|rfl|cases h
theorem od {ks:List Nat}:∀{l:List ah},(∀a,ah.av a∈l→∀s∈ks,a.namesB s=false)→killBs ks l=l:=by
 have one:∀(s:Nat) (l:List ah),(∀a,ah.av a∈l→a.namesB s=false)→bK s l=l:=by
  intro s l
  induction l with
  |nil=>intro _;rfl
  |cons c l ih=>
   intro h
   simp only [bK]
   rw [ih fun a ha=>h a (List.mem_cons_of_mem _ ha)]
   cases c with
   |av a=>simp only [ah.killB,AV.killB,h a List.mem_cons_self,cond]
   |sl t fz xs=>rfl
 induction ks with
 |nil=>intro l _;rfl
 |cons s ks ih=>
  intro l h
  simp only [killBs]
  rw [one s l fun a ha=>h a ha s List.mem_cons_self]
  exact ih fun a ha s' hs=>h a ha s' (List.mem_cons_of_mem _ hs)
theorem nV {d:Nat}:∀{l:List ah},(∀a,ah.av a∈l→a.names d=false)→killC d l=l
 |[],_=>rfl
 |c :: l,h=>by
  simp only [killC]
  rw [nV fun a ha=>h a (List.mem_cons_of_mem _ ha)]
  cases c with
  |av a=>simp only [ah.kill,AV.kill,h a List.mem_cons_self,cond]
  |sl t fz xs=>rfl
theorem lF {ps:List Nat}{S:St}{o:Oper}{bs:List Nat}(h:ww ps S o.dst bs=true){av:AV}{rt:Option ae}{rs:List (Nat×ae)}{ks:List Nat}{T:List (Nat×AV)}(hn:rt≠none→∃d,o.dst=some d)
  (hks:∀k∈ks,k∈bs) (hrs:∀s∈ps,look s rs=look s S.roots):∀s∈ps,(St.gain fz (St.clearB ⟨T,rs⟩ ks) o av rt).root s=S.root s:=by
 intro s hs
 unfold ww at h
 rw [Bool.and_eq_true] at h
 obtain ⟨h1,h2⟩:=h
 have h3:=List.all_eq_true.1 h2 s hs
 have hc:∀r,S.root s=some r→∀a,ah.av a∈r.cs→(∀d,o.dst=some d→a.names d=false)∧∀k∈ks,a.namesB k=false:=by
  intro r hr a ha
  rw [hr] at h3
  have h4:=List.all_eq_true.1 h3 _ ha
  simp only [Bool.and_eq_true] at h4
  refine ⟨fun d hd=>?_,fun k hk=>?_⟩
  ·have:=h4.1;rw [hd] at this;simpa using this
  ·have:=List.all_eq_true.1 h4.2 k (hks k hk);simpa using this
 have e:(St.clearB ⟨T,rs⟩ ks).root s=S.root s:=by
  rw [eB]
  show (look s rs).map _=_
  rw [hrs s hs]
  show (S.root s).map _=S.root s
  cases hr:S.root s with
  |none=>rfl
  |some r=>simp only [Option.map_some];rw [od fun a ha=>(hc r hr a ha).2]
 cases rt with
 |none=>simp only [St.gain,b7];exact e
 |some q=>
  obtain ⟨d,hd⟩:=hn (by simp)
  rw [hd] at h1
  have hne:s≠d:=by
   rintro rfl
   simp only [fB.2 hs] at h1
   cases h1
  simp only [St.gain,hd,fE,bQ,if_neg hne,dh,e]
  cases hr:S.root s with
  |none=>rfl
  |some r=>simp only [Option.map_some];rw [nV fun a ha=>(hc r hr a ha).1 d hd]
theorem kL {S:St}:∀{ks:List PK}{as:List AV},ks.all jr=true→du S ks as=[]
 |[],_,_=>by simp [du]
 |_ :: _,[],_=>by simp [du]
 |k :: ks,a :: l,h=>by
  rw [List.all_cons,Bool.and_eq_true] at h
  simp only [du]
  rw [kL h.2,List.append_nil]
  have leaf:∀(k:LK) (a:AV),(match k with|.own ..=>false|_=>true)=true→oH k a=[]:=by
   intro k a hk;cases k<;>first|rfl|cases hk
  have leaves:∀(ks:List LK) (l:List AV),(ks.all fun k=>match k with|.own ..=>false|_=>true)=true→f7 ks l=[]:=by
   intro ks
   induction ks with
   |nil=>intro l _;simp [f7]
   |cons k ks ih=>
    intro l hk
    rw [List.all_cons,Bool.and_eq_true] at hk
    cases l with
    |nil=>simp [f7]
    |cons a l=>simp only [f7];rw [leaf k a hk.1,ih l hk.2];rfl
  have box:∀(s:Nat) (ks:List LK) (j:Nat) (l:List ah),(ks.all fun k=>match k with|.own ..=>false|_=>true)=true→jq s j ks l=[]:=by
   intro s ks
   induction ks with
   |nil=>intro j l _;simp [jq]
   |cons k ks ih=>
    intro j l hk
    rw [List.all_cons,Bool.and_eq_true] at hk
    cases l with
    |nil=>simp [jq]
    |cons c l=>
     cases c with
     |av a=>simp only [jq];rw [leaf k a hk.1,ih (j+1) l hk.2];rfl
     |sl t fz xs=>cases k<;>first|(cases hk.1;done)|(simp only [jq];exact ih (j+1) l hk.2)
  cases k with
  |one k=>cases k<;>first|rfl|(cases h.1;done)
  |agg ks=>cases a<;>first|rfl|(simp only [mO];exact leaves ks _ h.1)
  |rw ks=>
   simp only [jr] at h
   cases a with
   |ref s off=>
    cases off with
    |zero=>
     simp only [mO]
     split
     ·exact box _ ks 0 _ h.1
     ·rfl
    |succ off=>rfl
   |_=>rfl
  |_=>rfl
theorem pZ {S S':St}{lend:El→Bool}:∀{ks:List PK}{as:List AV}{args:List kh}{os:List fH},ks.all jr=true→dw lend S S' ks as=some (args,os)→dN os=[]∧aN os=bF ks as
 |[],[],args,os,_,h=>by
  simp only [dw,Option.some.injEq,Prod.mk.injEq] at h
  obtain ⟨_,rfl⟩:=h
  exact ⟨rfl,rfl⟩
 |[],_ :: _,_,_,_,h=>by simp [dw] at h
 |_ :: _,[],_,_,_,h=>by simp [dw] at h
 |k :: ks,a :: l,args,os,hk,h=>by
  rw [List.all_cons,Bool.and_eq_true] at hk
  simp only [dw] at h
  cases hp:qC lend S S' k a with
  |none=>rw [hp] at h;cases h
  |some p=>
   rw [hp] at h
   simp only [Option.bind_some] at h
   cases hq:dw lend S S' ks l with
   |none=>rw [hq] at h;cases h
   |some q=>
    rw [hq] at h
    simp only [Option.map_some,Option.some.injEq,Prod.mk.injEq] at h
    obtain ⟨_,rfl⟩:=h
    obtain ⟨i1,i2⟩:=pZ hk.2 hq
    have leaf:∀(k:LK) (a:AV) {r},(match k with|.own ..=>false|_=>true)=true→gr S k a=some r→r.2=none:=by
     intro k a r hk h
     unfold gr at h
     split at h
     ·cases hk
     ·cases hk
     ·cases hx:e7 jc S k a with
      |none=>rw [hx] at h;cases h
      |some b=>rw [hx] at h;simp at h;rw [←h]
    have box:∀(s:Nat) (ks:List LK) (j:Nat) (l:List ah) {r},(ks.all fun k=>match k with|.own ..=>false|_=>true)=true→aA S s j ks l=some r→r.2.filterMap id=[]:=by
     intro s ks
     induction ks with
     |nil=>
      intro j l r _ h
      cases l with
      |nil=>simp [aA] at h;rw [←h];rfl
      |cons c l=>simp [aA] at h
     |cons k ks ih=>
      intro j l r hk h
      rw [List.all_cons,Bool.and_eq_true] at hk
      cases l with
      |nil=>simp [aA] at h
      |cons c l'=>
       cases c with
       |av a'=>
        simp only [aA] at h
        cases hx:gr S k a' with
        |none=>rw [hx] at h;cases h
        |some p=>
         rw [hx] at h
         simp only [Option.bind_some] at h
         cases hy:aA S s (j+1) ks l' with
         |none=>rw [hy] at h;cases h
         |some q=>
          rw [hy] at h
          simp at h
          rw [←h]
          simp only [leaf k a' hk.1 hx]
          simpa using ih (j+1) l' hk.2 hy
       |sl u fz xs=>
        cases k with
        |list t=>
         cases fz with
         |false=>simp [aA] at h
         |true=>
          simp only [aA] at h
          split at h
          ·cases hy:aA S s (j+1) ks l' with
           |none=>rw [hy] at h;cases h
           |some q=>
            rw [hy] at h
            simp at h
            rw [←h]
            simpa using ih (j+1) l' hk.2 hy
          ·cases h
        |own t fz=>cases hk.1
        |_=>simp [aA] at h
    have hone:p.2.srcs.filterMap id=[]∧((match p.2.box with|some s=>s :: aN q.2|none=>aN q.2)=bF (k :: ks) (a :: l)):=by
     unfold qC at hp
     cases hkq:k.quiet with
     |true=>
      rw [hkq] at hp
      simp only [cond] at hp
      cases hx:qf lend S' k a with
      |none=>rw [hx] at hp;cases hp
      |some b=>
       rw [hx] at hp
       simp at hp
       rw [←hp]
       refine ⟨rfl,?_⟩
       cases k<;>first|(cases hkq;done)|exact i2
     |false=>
      rw [hkq] at hp
      simp only [cond] at hp
      cases k with
      |rw ks'=>
       cases a with
       |ref s off=>
        cases off with
        |zero=>
         simp only at hp
         split at hp
         ·rename_i cs hroot
          cases hx:aA S s 0 ks' cs with
          |none=>rw [hx] at hp;cases hp
          |some r=>
           rw [hx] at hp
           simp at hp
           rw [←hp]
           exact ⟨box s ks' 0 cs hk.1 hx,by simp only [bF];rw [i2]⟩
         ·cases hp
        |succ off=>cases hp
       |_=>cases hp
      |_=>simp only [jr] at hk;rw [hkq] at hk;cases hk.1
    refine ⟨?_,?_⟩
    ·simp only [dN];rw [hone.1,i1];rfl
    ·simp only [aN];exact hone.2
theorem jL {os:List fH}{s:Nat}(hs:s ∉ aN os):∀{l:List (Nat×List ah)}{S S':St},cE S os l=some S'→look s S'.roots=look s S.roots
 |[],S,S',h=>by simp only [cE,Option.some.injEq] at h;rw [h]
 |(i,cs) :: l,S,S',h=>by
  simp only [cE] at h
  split at h
  ·rename_i b x hx
   rw [jL hs h]
   show look s (lC b _ S.roots)=_
   rw [cX,if_neg]
   rintro rfl
   apply hs
   have:∀{os:List fH}{i:Nat},os[i]?=some ⟨some s,x⟩→s∈aN os:=by
    intro os
    induction os with
    |nil=>intro i h;simp at h
    |cons o os ih=>
     intro i h
     simp only [aN]
     cases i with
     |zero=>simp at h;rw [h];simp
     |succ i=>
      have:=ih (i:=i) (by simpa using h)
      split
      ·exact List.mem_cons_of_mem _ this
      ·exact this
   exact this hx
  ·cases h
theorem kZ {s:Nat}:∀{bs:List Nat}{l:List (Nat×ae)},s ∉ bs→look s (dd bs l)=look s l
 |[],_,_=>rfl
 |b :: bs,l,h=>by
  simp only [dd]
  rw [kZ fun hm=>h (List.mem_cons_of_mem _ hm),iN,if_neg fun e=>h (by rw [e];exact List.mem_cons_self)]
theorem og {E:dE}{lv:Lv E.sig}{d:Nat}{S:St}{f:FuncId}{as:List AV}{av:AV}{rt:Option ae}{rs:List (Nat×ae)}{ks:List Nat}(hk:(E.pks f).all jr=true)
  (h:iE E.sig E.pks lv d S f as w0=some (av,rt,rs,ks)):ks=bF (E.pks f) as∧∀s,s ∉ bF (E.pks f) as→look s rs=look s S.roots:=by
 unfold iE at h
 rw [kL hk] at h
 simp only [frzAll] at h
 split at h
 ·rename_i args os ha
  obtain ⟨e1,e2⟩:=pZ hk ha
  simp only [cond_eq_ite] at h
  split at h
  ·cases hr:lv f args with
   |none=>rw [hr] at h;cases h
   |some r=>
    rw [hr] at h
    simp only [Option.bind_some] at h
    split at h
    ·rename_i S'' hb
     simp only [w0,Option.some.injEq,Prod.mk.injEq] at h
     obtain ⟨_,_,rfl,rfl⟩:=h
     refine ⟨e2,fun s hs=>?_⟩
     rw [jL (by rw [e2];exact hs) hb,e1]
     simp only [em]
     exact kZ hs
    ·cases h
  ·cases h
 ·cases h
theorem wb {ps:List Nat}{S:St}{o:Oper}{av:AV}{rt:Option ae}{rs:List (Nat×ae)}{ks:List Nat}{T:List (Nat×AV)}(hk:oL E.pks ps S o=true)(h:step1 E lv o S w0=some (av,rt,rs,ks))(hn:rt≠none→∃d,o.dst=some d):
  ∀s∈ps,(St.gain fz (St.clearB ⟨T,rs⟩ ks) o av rt).root s=S.root s:=by
 intro s hs
 unfold oL at hk
 rw [Bool.or_eq_true,Bool.or_eq_true] at hk
 have quiet:bV E.pks o=true→∃a r,aC E lv o S q0=some (a,r)∧av=a∧rt=r∧rs=S.roots∧ks=[]:=by
  intro hq
  unfold step1 at h
  rw [hq] at h
  simp only [cond] at h
  rw [gk] at h
  cases hst:aC E lv o S q0 with
  |none=>rw [hst] at h;cases h
  |some p=>
   obtain ⟨a,r⟩:=p
   rw [hst] at h
   simp only [Option.bind_some,q2,w0,Option.some.injEq,Prod.mk.injEq] at h
   obtain ⟨rfl,rfl,rfl,rfl⟩:=h
   exact ⟨_,_,rfl,rfl,rfl,rfl,rfl⟩
 rcases hk with hk|hk|hk
 ·have:ps=[]:=by simpa using hk
  subst this;simp at hs
 ·obtain ⟨a,r,hst,rfl,rfl,rfl,rfl⟩:=quiet (oo hk)
  have:=lS hk hst
  subst this
  simp only [St.gain,b7]
  rfl
 ·cases ho:o.op<;>rw [ho] at hk<;>try (cases hk;done)
  case store T' b x=>
   simp only at hk
   have hq:bV E.pks o=false:=by unfold bV;rw [ho]
   unfold step1 at h
   rw [hq] at h
   simp only [cond] at h
   unfold iy at h
   rw [ho] at h
   simp only at h
   split at h
   ·cases hc:Nat.beq (S.ev x).leaves.length _&&dR (S.ev x).leaves with
    |false=>rw [hc] at h;cases h
    |true=>
     rw [hc] at h
     simp only [cond] at h
     unfold gf at h
     split at hk
     ·rename_i s' off hb
      rw [hb] at h
      simp only at h
      split at h
      ·simp only [cond_eq_ite] at h
       split at h
       ·simp only [w0,Option.some.injEq,Prod.mk.injEq] at h
        obtain ⟨rfl,rfl,rfl,rfl⟩:=h
        have hne:s≠s':=by
         rintro rfl
         rw [fB.2 hs] at hk;cases hk
        simp only [St.gain,b7]
        show look s (lC s' _ S.roots)=look s S.roots
        rw [cX,if_neg hne]
       ·cases h
      ·cases h
     ·cases hk
   ·cases h
  case buildSlice=>
   obtain ⟨a,r,hst,rfl,rfl,rfl,rfl⟩:=quiet (by unfold bV;rw [ho])
   exact lF hk hn (fun k hk=>by cases hk) (fun _ _=>rfl) s hs
  case call c=>
   simp only at hk
   split at hk
   ·rename_i f hcal
    rw [Bool.and_eq_true,Bool.and_eq_true] at hk
    obtain ⟨⟨k1,k2⟩,k3⟩:=hk
    cases hq:bV E.pks o with
    |true=>
     obtain ⟨a,r,hst,rfl,rfl,rfl,rfl⟩:=quiet hq
     exact lF k3 hn (fun k hk=>by cases hk) (fun _ _=>rfl) s hs
    |false=>
     have hcl:cj S c=some (f,evL S c.args.toList):=by
      unfold cj
      rw [hcal]
      simp [St.ev]
     unfold step1 at h
     rw [hq] at h
     simp only [cond] at h
     unfold iy at h
     rw [ho] at h
     simp only [hcal,hcl] at h
     have key:∀{d},iE E.sig E.pks lv d S f (evL S c.args.toList) w0=some (av,rt,rs,ks)→(St.gain fz (St.clearB ⟨T,rs⟩ ks) o av rt).root s=S.root s:=by
      intro d hcw
      obtain ⟨e1,e2⟩:=og k1 hcw
      refine lF k3 hn (fun k hk=>by rw [←e1];exact hk) (fun s' hs'=>e2 s' fun hm=>?_) s hs
      have:=List.all_eq_true.1 k2 s' hm
      rw [fB.2 hs'] at this;cases this
     split at h
     ·rename_i e _
      rw [e] at k1;cases k1
     ·rename_i e _
      rw [e] at k1;cases k1
     ·exact key h
   ·cases hk
theorem kQ {R:Type}{κ:St→Option R}{r:R}{ps:List (Nat×Nat)}:∀(rest:List Oper) (i:Nat) (S:St),ops.drop i=rest→i≤ops.length→gP E lv fz ops ps rest S κ=some r→
  ∃(lt:Nat→St),lt i=S∧(∀k o,i≤k→ops[k]?=some o→oQ E lv fz ops o (lt k) (lt (k+1))∧∀s∈s9 ps k,(lt (k+1)).root s=(lt k).root s)∧κ (lt ops.length)=some r
 |[],i,S,hi,hle,h=>by
  have hl:ops.length≤i:=by
   have:=congrArg List.length hi
   simp at this;omega
  refine ⟨fun _=>S,rfl,fun k o h1 h2=>?_,h⟩
  have:=(List.getElem?_eq_some_iff.mp h2).1
  omega
 |o :: rest,i,S,hi,hle,h=>by
  have hoi:ops[i]?=some o:=by
   have:=congrArg List.head? hi
   simpa [List.head?_drop] using this
  have hlt:i<ops.length:=(List.getElem?_eq_some_iff.mp hoi).1
  have hdr:ops.drop (i+1)=rest:=by
   have:=congrArg List.tail hi
   simpa [List.tail_drop] using this
  simp only [gP] at h
  have fin:∀S1:St,oQ E lv fz ops o S S1∧(∀s∈s9 ps i,S1.root s=S.root s)→gP E lv fz ops ps rest S1 κ=some r→
    ∃(lt:Nat→St),lt i=S∧(∀k o,i≤k→ops[k]?=some o→oQ E lv fz ops o (lt k) (lt (k+1))∧∀s∈s9 ps k,(lt (k+1)).root s=(lt k).root s)∧κ (lt ops.length)=some r:=by
   intro S1 hs hrun
   obtain ⟨lt,h1,h2,h3⟩:=kQ rest (i+1) S1 hdr (by omega) hrun
   refine ⟨fun k=>if k=i then S else lt k,if_pos rfl,fun k o' hk ho'=>?_,?_⟩
   ·by_cases hki:k=i
    ·subst hki
     rw [hoi] at ho';cases ho'
     have e:¬(k+1=k):=by omega
     simp only [if_true,if_neg e]
     rw [h1];exact hs
    ·have e:¬(k+1=i):=by omega
     simp only [if_neg hki,if_neg e]
     exact h2 k o' (by omega) ho'
   ·have e:¬(ops.length=i):=by omega
    simp only [if_neg e]
    exact h3
  obtain ⟨S',hsame,hcase⟩:=fY h
  rcases hcase with ⟨h1,hw⟩|⟨h1,hw⟩
  ·rw [o4] at h1
   have e1:step1 E lv o S' w0=step1 E lv o S w0:=gU hsame.rt fun x _=>ky hsame x
   rw [e1] at h1
   cases hst:step1 E lv o S w0 with
   |none=>rw [hst] at h1;cases h1
   |some p=>
    obtain ⟨av,rt,rs,ks⟩:=p
    rw [hst] at h1
    simp only [Option.bind_some,w4] at h1
    have hidx:ops.length - (rest.length+1)=i:=by
     have:=congrArg List.length hi
     simp at this;omega
    rw [hidx] at h1
    cases hc0:nu S' o rt ks&&oL E.pks (s9 ps i) S' o with
    |false=>rw [hc0] at h1;cases h1
    |true=>
     rw [hc0] at h1
     rw [Bool.and_eq_true] at hc0
     obtain ⟨hc,hkeep⟩:=hc0
     unfold nu at hc
     rw [Bool.and_eq_true] at hc
     simp only [cond] at h1
     have n1:rt≠none→∃d,o.dst=some d∧∀t,(S'.tmp t).names d=false:=by
      intro hrt
      cases rt with
      |none=>exact absurd rfl hrt
      |some q=>
       have hc1:=hc.1
       cases hd:o.dst with
       |none=>rw [hd] at hc1;cases hc1
       |some d=>
        rw [hd] at hc1
        refine ⟨d,rfl,fun t=>?_⟩
        have:=iC (p:=fun a=>!a.names d) hc1 (by simp [AV.names]) t
        simpa using this
     have n2:∀s∈ks,∀t,(S'.tmp t).namesB s=false:=by
      intro s hs t
      have:=iC (p:=fun a=>!a.namesB s) (List.all_eq_true.1 hc.2 s hs) (by simp [AV.namesB]) t
      simpa using this
     have gt:=mD (fz:=fz) (av:=av) (rs:=rs) n1 n2
     refine fin _ ⟨⟨fun t ht=>?_,.inl ⟨hw,av,rt,rs,ks,hst,fun d hd=>?_,fun hrt=>?_,fun s hs t=>?_,fun s=>?_⟩⟩,fun s hs=>?_⟩ h1
     ·rw [gt,if_neg ht,hsame.tm]
     ·rw [gt,if_pos hd]
     ·obtain ⟨d,h1,h2⟩:=n1 hrt
      exact ⟨d,h1,fun t=>by rw [←hsame.tm];exact h2 t⟩
     ·rw [←hsame.tm];exact n2 s hs t
     ·exact kz s
     ·have:=wb (fz:=fz) (T:=S'.tmps) hkeep (e1.trans hst) (fun hrt=>let ⟨d,h1,_⟩:=n1 hrt;⟨d,h1⟩) s hs
      rw [this]
      show look s S'.roots=look s S.roots
      rw [hsame.rt]
  ·refine fin _ ⟨⟨fun t ht=>?_,.inr ⟨hw,fun d hd=>?_,?_⟩⟩,fun s _=>?_⟩ h1
   ·rw [cz,if_neg ht,hsame.tm]
   ·rw [cz,if_pos hd]
   ·cases o.dst<;>exact hsame.rt
   ·rw [b7]
    show look s S'.roots=look s S.roots
    rw [hsame.rt]
end
end Go.Proofs.YtjkokaockhecnaaGreatDoorA

namespace Go.Proofs.YtjkokaockhecnaaGreatDoorA
open Go
section
variable {aa:aM}{n:Nat}{w w' w'':World}{g g' g'':Gh}{S S':St}{a:Act}{P:Program}
open Classical in
noncomputable def fP (U:Nat→Prop)(S:St):St:=⟨S.tmps.map fun p=>(p.1,if U p.1 then .und else p.2),S.roots⟩
open Classical in
theorem cu (U:Nat→Prop)(S:St)(t:Nat):(fP U S).tmp t=if U t then .und else S.tmp t:=by
 unfold St.tmp fP
 simp only
 have key:∀l:List (Nat×AV),look t (l.map fun p=>(p.1,if U p.1 then AV.und else p.2))=(look t l).map fun b=>if U t then AV.und else b:=by
  intro l
  induction l with
  |nil=>rfl
  |cons p l ih=>
   obtain ⟨i,b⟩:=p
   simp only [List.map_cons,look]
   cases e:Nat.beq i t with
   |true=>rw [←Nat.eq_of_beq_eq_true e];rfl
   |false=>simpa using ih
 rw [key]
 cases look t S.tmps with
 |none=>simp
 |some b=>rfl
theorem aV.quiet_none (hS:aV aa n w g S a){o:Oper}{av:AV}{v:Value}{d:Nat}(hd:∀d,o.dst=some d→d<n)(hq:fR w g w' g' d)(hv:RepA w' g' av v)(hn:g'.hs=g.hs∧g'.hb=g.hb)
  (htm:∀t,S'.tmp t=if o.dst=some t then av else S.tmp t) (hrt:S'.roots=S.roots):aV aa n w' g' S' (a.put o.dst v):=by
 have hsz:∀d,o.dst=some d→d<a.tmps.size:=fun d e=>by rw [hS.size];exact hd d e
 have hga:GA w g g' fun _ _=>False:=⟨hq.gch.imm,hq.gch.bor,fun _ _ _=>by rw [hn.1],fun _ _=>by rw [hn.2]⟩
 refine ⟨by rw [iH];exact hS.size,by rw [fe];exact hS.df,hS.tb.quiet hq,fun t=>?_,fun s r hr=>?_⟩
 ·rw [htm,iv _ _ _ hsz]
  by_cases e:o.dst=some t
  ·rw [if_pos e,if_pos e];exact hv
  ·rw [if_neg e,if_neg e]
   exact (hS.tm t).pres hq.chg (fun _ _ _ h=>h.elim) hga (aG _)
 ·rw [bz hrt] at hr
  exact (hS.rt s r hr).pres (M:=fun _ _=>False) (hq.chg.mono fun _ _ _ h=>h.elim) hga (fun _ _ _ h=>h.elim) (fun b o x hb e=>(hq.who b o hb).trans e) (fun _ h=>h) (fun b _=>aG b)
theorem aB.quiet {d s:Nat}{r:ae}(hq:fR w g w' g' d)(h:aB aa w g s r)(hs:s≠d)(hn:∀b,ah.av b∈r.cs→b.names d=false):aB aa w' g' s r:=
 h.pres (M:=fun _ _=>False) (hq.chg.mono fun _ _ _ h=>h.elim) hq.gch.ga (fun _ _ _ h=>h.elim) (fun b o x hb e=>(hq.who b o hb).trans e) (fun _=>hs) (fun b hb=>fL d b (hn b hb))
theorem aB.quiet_none {d s:Nat}{r:ae}(hq:fR w g w' g' d)(hn:g'.hs=g.hs∧g'.hb=g.hb)(h:aB aa w g s r):aB aa w' g' s r:=
 h.pres (M:=fun _ _=>False) (N:=fun _ _=>False) (hq.chg.mono fun _ _ _ h=>h.elim) ⟨hq.gch.imm,hq.gch.bor,fun _ _ _=>by rw [hn.1],fun _ _=>by rw [hn.2]⟩ (fun _ _ _ h=>h.elim) (fun b o x hb e=>(hq.who b o hb).trans e) (fun _ h=>h) (fun b _=>aG b)
theorem aV.quiet_some (hS:aV aa n w g S a){o:Oper}{av:AV}{v:Value}{d:Nat}(ho:o.dst=some d)(hd:d<n)(hq:fR w g w' g' d)(hv:RepA w' g' av v)
  (htm:∀t,S'.tmp t=if o.dst=some t then av else S.tmp t) (hrt:S'.roots=S.roots) (hna:∀t,t≠d→(S.tmp t).names d=false) (hnr:∀s r,S.root s=some r→s≠d∧∀b,ah.av b∈r.cs→b.names d=false):
  aV aa n w' g' S' (a.put o.dst v):=by
 have hsz:∀d,o.dst=some d→d<a.tmps.size:=fun d' e=>by rw [hS.size];rw [ho] at e;cases e;exact hd
 refine ⟨by rw [iH];exact hS.size,by rw [fe];exact hS.df,hS.tb.quiet hq,fun t=>?_,fun s r hr=>?_⟩
 ·rw [htm,iv _ _ _ hsz]
  by_cases e:o.dst=some t
  ·rw [if_pos e,if_pos e];exact hv
  ·rw [if_neg e,if_neg e]
   exact (hS.tm t).quiet hq (fL d _ (hna t fun h=>e (by rw [ho,h])))
 ·rw [bz hrt] at hr
  exact (hS.rt s r hr).quiet hq (hnr s r hr).1 (hnr s r hr).2
theorem aV.frz {d:Nat}(hS:aV aa n w g S a)(hf:xx g g' d)(hnr:S.root d=none):aV aa n w g' S a:=
 ⟨hS.size,hS.df,hS.tb.inv (hf.inv w),fun t=>(hS.tm t).frz hf,fun s r hr=>(hS.rt s r hr).frz hf fun e=>by subst e;rw [hnr] at hr;cases hr⟩
theorem aV.drawS (hS:aV aa n w g S a){ss:List Nat}{nw:List (Nat×ae)}{o:Oper}(hn:∀p∈nw,p.1∈ss→aB aa w g p.1 p.2):aV aa n w g (drawS ss nw o S) a:=by
 refine ⟨hS.size,hS.df,hS.tb,fun t=>by rw [rl];exact hS.tm t,fun s r hr=>?_⟩
 unfold _root_.Go.Proofs.YtjkokaockhecnaaGreatDoorA.drawS at hr
 cases hc:kb o with
 |false=>rw [hc] at hr;exact hS.rt s r hr
 |true=>
  rw [hc] at hr
  rcases ib _ S hr with h|h
  ·obtain ⟨h1,h2⟩:=List.mem_filter.1 h
   exact hn _ h1 (fB.1 h2)
  ·exact hS.rt s r h
structure DR {R:Type}(P:Program)(aa:aM)(E:dE)(lv:Lv E.sig)(fz:Nat→Bool)(arr:Array Oper)(n:Nat)(S0:St)(κ:St→Option R)(r:R)(st:Nat→St)(nws:Nat→List (Nat×ae))(m:Nat)(lt:Nat→St):Prop where
 hE:rz P aa E
 hlv:ir P aa E.sig lv
 hn:n≤1000
 hdst:gd n arr.toList=true
 he:ja 0 arr.toList=true
 hd:jS arr.toList=true
 hw:tQ arr.toList (fr E.pks arr.toList arr.toList)=true
 hp:mJ E.pks arr.toList (ar arr.toList []) 0 arr.toList=true
 hf:gn S0 arr.toList=true
 st0:st 0=S0
 nw0:nws 0=[]
 hm:m≤arr.toList.length
 q:∀k o,k<m→arr.toList[k]?=some o→qD E.pks arr.toList o=true∧wE E lv fz arr.toList ((ar arr.toList []).getD k 0) o (st k) (nws k) (st (k+1)) (nws (k+1))
 lt0:lt m=bE (st m) (nws m)
 l:∀k o,m≤k→arr.toList[k]?=some o→oQ E lv fz arr.toList o (lt k) (lt (k+1))
 nq:m<arr.toList.length→∃o,arr.toList[m]?=some o∧qD E.pks arr.toList o=false
 calm:∀k o,k<m→arr.toList[k]?=some o→eH o=true→(∀j,m≤j→j<arr.toList.length→mM arr.toList k j)∨
  ∀av rt,aC E lv o (st k) q0=some (av,rt)→∀j,m≤j→j≤arr.toList.length→(∀j',m≤j'→j'<j→¬mM arr.toList k j')→∀S',(∀x∈o.op.operands,S'.ev x=(st k).ev x)→S'.roots=(lt j).roots→aC E lv o S' q0=some (av,none)
 fin:κ (lt arr.toList.length)=some r
section
variable {R:Type}{E:dE}{lv:Lv E.sig}{fz:Nat→Bool}{arr:Array Oper}{S0:St}{κ:St→Option R}{r:R}{st:Nat→St}{nws:Nat→List (Nat×ae)}{m:Nat}{lt:Nat→St}
theorem DR.op (_h:DR P aa E lv fz arr n S0 κ r st nws m lt){k:Nat}(hk:k<arr.toList.length):∃o,arr.toList[k]?=some o:=⟨_,List.getElem?_eq_getElem hk⟩
theorem DR.st_roots (h:DR P aa E lv fz arr n S0 κ r st nws m lt):∀k,k≤m→(st k).roots=S0.roots
 |0,_=>by rw [h.st0]
 |k+1,hk=>by
  obtain ⟨o,ho⟩:=h.op (k:=k) (by have:=h.hm;omega)
  rw [(h.q k o (by omega) ho).2.roots]
  exact h.st_roots k (by omega)
theorem DR.st_keep (h:DR P aa E lv fz arr n S0 κ r st nws m lt){j t:Nat}:∀k,j≤k→k≤m→(∀i o,j≤i→i<k→arr.toList[i]?=some o→o.dst≠some t)→(st k).tmp t=(st j).tmp t
 |0,hj,_,_=>by
  have:j=0:=by omega
  rw [this]
 |k+1,hj,hk,hno=>by
  by_cases e:j=k+1
  ·rw [e]
  ·obtain ⟨o,ho⟩:=h.op (k:=k) (by have:=h.hm;omega)
   rw [(h.q k o (by omega) ho).2.tm t (hno k o (by omega) (by omega) ho)]
   exact h.st_keep k (by omega) (by omega) fun i o h1 h2=>hno i o h1 (by omega)
theorem DR.lt_keep (h:DR P aa E lv fz arr n S0 κ r st nws m lt){j t:Nat}(hmj:m≤j):∀k,j≤k→k≤arr.toList.length→(∀i o,j≤i→i<k→arr.toList[i]?=some o→o.dst≠some t)→(lt k).tmp t=(lt j).tmp t
 |0,hj,_,_=>by
  have:j=0:=by omega
  rw [this]
 |k+1,hj,hk,hno=>by
  by_cases e:j=k+1
  ·rw [e]
  ·obtain ⟨o,ho⟩:=h.op (k:=k) (by omega)
   rw [(h.l k o (by omega) ho).tm t (hno k o (by omega) (by omega) ho)]
   exact h.lt_keep hmj k (by omega) (by omega) fun i o h1 h2=>hno i o h1 (by omega)
theorem DR.lt_m (h:DR P aa E lv fz arr n S0 κ r st nws m lt)(t:Nat):(lt m).tmp t=(st m).tmp t:=by rw [h.lt0,jt]
theorem DR.uniq (h:DR P aa E lv fz arr n S0 κ r st nws m lt){i j:Nat}{x y:Oper}{d:Nat}(hx:arr.toList[i]?=some x)(hy:arr.toList[j]?=some y)(hxd:x.dst=some d)(hyd:y.dst=some d):i=j:=
 oj h.hd i j x y d hx hy hxd hyd
theorem DR.dlt (h:DR P aa E lv fz arr n S0 κ r st nws m lt){i:Nat}{x:Oper}(hx:arr.toList[i]?=some x):∀d,x.dst=some d→d<n:=fun _ hd=>lA h.hdst (List.mem_of_getElem? hx) hd
theorem DR.st_val (h:DR P aa E lv fz arr n S0 κ r st nws m lt){i k:Nat}{x:Oper}{d:Nat}(hx:arr.toList[i]?=some x)(hd:x.dst=some d)(hik:i<k)(hk:k≤m):(st k).tmp d=(st (i+1)).tmp d:=
 h.st_keep k (by omega) hk fun j o h1 h2 ho e=>by have:=h.uniq hx ho hd e;omega
theorem DR.pair (h:DR P aa E lv fz arr n S0 κ r st nws m lt){i j:Nat}{x y:Oper}(hx:arr.toList[i]?=some x)(hy:arr.toList[j]?=some y)(hij:i<j):mM arr.toList i j∨(hO arr.toList x y=true∧pw E.pks arr.toList i j x=true):=by
 have:=lU h.hp j i x y hy (by omega) hx
 rwa [Nat.zero_add] at this
def bL (arr:Array Oper)(m:Nat)(D:Nat→Prop)(t:Nat):Prop:=∃k o,k<m∧arr.toList[k]?=some o∧o.dst=some t∧¬D k
theorem jk {pks:FuncId→List PK}{ops:List Oper}:∀{l:List Oper}{k:Nat},(∀i o,i≤k→l[i]?=some o→qD pks ops o=true)→(fr pks ops l)[k]?=l[k]?
 |[],_,_=>rfl
 |o :: l,0,h=>by
  simp only [fr,h 0 o (Nat.le_refl _) rfl,cond,List.getElem?_cons_zero]
 |o :: l,k+1,h=>by
  simp only [fr,h 0 o (by omega) rfl,cond,List.getElem?_cons_succ]
  exact jk fun i o' hi ho=>h (i+1) o' (by omega) (by simpa using ho)
def eZ (D:Nat→Prop)(i:Nat)(k:Nat):Prop:=k=i∨D k
theorem DR.undone_with (h:DR P aa E lv fz arr n S0 κ r st nws m lt){D:Nat→Prop}{i:Nat}{o:Oper}(ho:arr.toList[i]?=some o)(t:Nat):bL arr m (eZ D i) t↔bL arr m D t∧o.dst≠some t:=by
 constructor
 ·rintro ⟨k,x,h0,h1,h2,h3⟩
  refine ⟨⟨k,x,h0,h1,h2,fun hd=>h3 (.inr hd)⟩,fun e=>h3 (.inl (h.uniq h1 ho h2 e))⟩
 ·rintro ⟨⟨k,x,h0,h1,h2,h3⟩,h4⟩
  refine ⟨k,x,h0,h1,h2,?_⟩
  rintro (rfl|hd)
  ·rw [ho] at h1;cases h1;exact h4 h2
  ·exact h3 hd
theorem DR.war (h:DR P aa E lv fz arr n S0 κ r st nws m lt){i k:Nat}{o x:Oper}{t:Nat}(hik:i≤k)(hkm:k<m)(ho:arr.toList[i]?=some o)(hx:arr.toList[k]?=some x)(hd:x.dst=some t):t ∉ bG arr.toList o:=by
 have hq:∀j,j<m→(fr E.pks arr.toList arr.toList)[j]?=arr.toList[j]?:=fun j hj=>jk fun i o hi ho=>(h.q i o (by omega) ho).1
 exact lw h.hw i k o x t hik (by rw [hq i (by omega)];exact ho) (by rw [hq k hkm];exact hx) hd
theorem DR.looks (h:DR P aa E lv fz arr n S0 κ r st nws m lt){D:Nat→Prop}{i:Nat}{o:Oper}(ho:arr.toList[i]?=some o)(hr:∀k,mM arr.toList k i→D k){t:Nat}(ht:t∈bG arr.toList o):¬bL arr m D t:=by
 rintro ⟨k,x,h0,h1,h2,h3⟩
 by_cases hik:i≤k
 ·exact h.war hik h0 ho h1 h2 ht
 ·rcases h.pair h1 ho (by omega) with hb|⟨hb,_⟩
  ·exact h3 (hr k hb)
  ·exact (eR hb).1 t h2 ht
theorem DR.no_later (h:DR P aa E lv fz arr n S0 κ r st nws m lt){i:Nat}{o:Oper}(ho:arr.toList[i]?=some o){t:Nat}(ht:t∈bG arr.toList o):∀k x,i≤k→k<m→arr.toList[k]?=some x→x.dst≠some t:=
 fun _ _ hik hkm hx e=>h.war hik hkm ho hx e ht
theorem k7 {ops:List Oper}{o:Oper}{t:Nat}(h:Operand.tmp t∈o.op.operands):t∈bG ops o:=
 List.mem_append_left _ (List.mem_filterMap.2 ⟨.tmp t,by simpa using h,rfl⟩)
theorem om {ops:List Oper}{o:Oper}{j:Nat}{want:Bool}{t:Nat}(hg:o.guard=some (j,want))(h:(ops[j]?).bind (·.dst)=some t):t∈bG ops o:=by
 refine List.mem_append_right _ ?_
 rw [hg]
 simp only [h,List.mem_singleton]
theorem kn {ops:List Oper}{o:Oper}{S S':St}(h:∀t∈bG ops o,S'.tmp t=S.tmp t):∀x∈o.op.operands,S'.ev x=S.ev x:=by
 intro x hx
 cases x with
 |tmp t=>exact h t (k7 hx)
 |_=>rfl
theorem bk.looks {ops:List Oper}{o:Oper}{S S':St}(h:∀t∈bG ops o,S'.tmp t=S.tmp t)(hw:bk ops o S):bk ops o S':=
 fun j want e=>let ⟨t,h1,h2⟩:=hw j want e;⟨t,h1,(h t (om e h1)).trans h2⟩
theorem bk.not_looks {ops:List Oper}{o:Oper}{S S':St}(h:∀t∈bG ops o,S'.tmp t=S.tmp t)(hw:bk.not ops o S):bk.not ops o S':=
 let ⟨j,want,t,h0,h1,h2⟩:=hw;⟨j,want,t,h0,h1,by rw [h t (om h0 h1)];exact h2⟩
def un (arr:Array Oper)(nws:Nat→List (Nat×ae))(m i d:Nat)(q:ae):Prop:=∃o,arr.toList[i]?=some o∧i<m∧o.dst=some d∧nws (i+1)=(d,q) :: nws i
structure P1 (aa:aM)(arr:Array Oper)(n:Nat)(st:Nat→St)(nws:Nat→List (Nat×ae))(m:Nat)(D:Nat→Prop)(w:World)(g:Gh)(a:Act):Prop where
 rel:aV aa n w g (fP (bL arr m D) (st m)) a
 new:∀i d q,D i→un arr nws m i d q→aB aa w g d q
 lo:∀k,D k→k<m
structure P2 (aa:aM)(arr:Array Oper)(n:Nat)(m:Nat)(lt:Nat→St)(D:Nat→Prop)(j:Nat)(w:World)(g:Gh)(a:Act):Prop where
 mj:m<j
 jn:j≤arr.toList.length
 rel:aV aa n w g (fP (bL arr m D) (lt j)) a
 late:∀k,m≤k→(D k↔k<j)
 nb:∀k o,k<m→arr.toList[k]?=some o→cJ o=false→D k
open Classical in
theorem DR.mask_with (h:DR P aa E lv fz arr n S0 κ r st nws m lt){D:Nat→Prop}{i:Nat}{o:Oper}(ho:arr.toList[i]?=some o){B:St}{av:AV}(hB:∀d,o.dst=some d→B.tmp d=av)(t:Nat):
  (fP (bL arr m (eZ D i)) B).tmp t=if o.dst=some t then av else (fP (bL arr m D) B).tmp t:=by
 rw [cu,cu]
 by_cases e:o.dst=some t
 ·rw [if_neg (fun hu=>((h.undone_with ho t).1 hu).2 e),if_pos e];exact hB t e
 ·rw [if_neg e]
  by_cases hu:bL arr m D t
  ·rw [if_pos hu,if_pos ((h.undone_with ho t).2 ⟨hu,e⟩)]
  ·rw [if_neg hu,if_neg fun h'=>hu ((h.undone_with ho t).1 h').1]
theorem eu {P:Program}{arr:Array Oper}{Q:Exit→Act→World→Prop}{i:Nat}{K:Act→World→Prop}{o:Oper}(ho:arr.toList[i]?=some o)(hw:Region.wanted o (yielded arr a.tmps)=true)(h:o.wp P a w K Q):wpOp P arr Q i K a w:=by
 have hai:arr[i]?=some o:=by simpa using ho
 unfold wpOp
 rw [hai]
 simp only
 rw [if_pos hw]
 exact .inl h
theorem kk {P:Program}{arr:Array Oper}{Q:Exit→Act→World→Prop}{i:Nat}{K:Act→World→Prop}{o:Oper}(ho:arr.toList[i]?=some o)(hw:Region.wanted o (yielded arr a.tmps)=false)(h:K (a.put o.dst undef) w):wpOp P arr Q i K a w:=by
 have hai:arr[i]?=some o:=by simpa using ho
 unfold wpOp
 rw [hai]
 simp only
 rw [if_neg (by rw [hw];simp)]
 exact h
theorem DR.gains_at (h:DR P aa E lv fz arr n S0 κ r st nws m lt){k:Nat}:∀i,i≤m→∀p∈nws i,∃j,j<i∧un arr nws m j p.1 p.2
 |0,_,p,hp=>by rw [h.nw0] at hp;simp at hp
 |i+1,hi,p,hp=>by
  obtain ⟨o,ho⟩:=h.op (k:=i) (by have:=h.hm;omega)
  have hq:=(h.q i o (by omega) ho).2
  have old:p∈nws i→∃j,j<i+1∧un arr nws m j p.1 p.2:=fun hp=>let ⟨j,h1,h2⟩:=h.gains_at (k:=k) i (by omega) p hp;⟨j,by omega,h2⟩
  rcases hq.done with ⟨_,av,rt,_,_,_,(⟨_,e⟩|⟨q,d,_,hd,e,_⟩)⟩|⟨_,_,e⟩
  ·rw [e] at hp;exact old hp
  ·rw [e] at hp
   rcases List.mem_cons.mp hp with rfl|hp
   ·exact ⟨i,by omega,o,ho,by omega,hd,e⟩
   ·exact old hp
  ·rw [e] at hp;exact old hp
theorem DR.gains_mem (h:DR P aa E lv fz arr n S0 κ r st nws m lt){j d:Nat}{q:ae}(hg:un arr nws m j d q):∀i,j<i→i≤m→(d,q)∈nws i
 |0,hj,_=>by omega
 |i+1,hj,hi=>by
  obtain ⟨o',ho',hjm,hd,e⟩:=hg
  by_cases hji:j=i
  ·subst hji;rw [e];exact List.mem_cons_self
  ·have ih:=h.gains_mem ⟨o',ho',hjm,hd,e⟩ i (by omega) (by omega)
   obtain ⟨o,ho⟩:=h.op (k:=i) (by have:=h.hm;omega)
   have hq:=(h.q i o (by omega) ho).2
   rcases hq.done with ⟨_,av,rt,_,_,_,(⟨_,e⟩|⟨q',d',_,_,e,_⟩)⟩|⟨_,_,e⟩
   ·rw [e];exact ih
   ·rw [e];exact List.mem_cons_of_mem _ ih
   ·rw [e];exact ih
theorem vF {fz:Nat→Bool}{d' d:Nat}{q:ae}(h:∀c,ah.av c∈q.cs→c.names d=false):∀c,ah.av c∈(sr fz d' q).cs→c.names d=false:=by
 intro c hc
 simp only [sr] at hc
 have hk:∀(l:List ah),ah.av c∈killC d' l→∃b,ah.av b∈l∧c=b.kill d':=by
  intro l
  induction l with
  |nil=>intro h;simp [killC] at h
  |cons x l ih=>
   intro h
   simp only [killC,List.mem_cons] at h
   rcases h with h|h
   ·cases x with
    |av a=>simp only [ah.kill,ah.av.injEq] at h;exact ⟨a,by simp,h⟩
    |sl t fz xs=>simp [ah.kill] at h
   ·obtain ⟨b,h1,h2⟩:=ih h;exact ⟨b,List.mem_cons_of_mem _ h1,h2⟩
 have hf:∀(z:Bool) (l:List ah) (b:AV),ah.av b∈fV z l→ah.av b∈l:=by
  intro z l
  induction l with
  |nil=>intro b h;simp [fV] at h
  |cons x l ih=>
   intro b h
   cases x with
   |av a=>
    simp only [fV,List.mem_cons] at h ⊢
    rcases h with h|h
    ·exact .inl h
    ·exact .inr (ih b h)
   |sl t f xs=>
    simp only [fV,List.mem_cons] at h ⊢
    rcases h with h|h
    ·cases h
    ·exact .inr (ih b h)
 obtain ⟨b,h1,rfl⟩:=hk _ hc
 have:=h b (hf _ _ _ h1)
 unfold AV.kill
 cases b.names d' with
 |true=>simp [AV.names]
 |false=>exact this
theorem DR.step1 (h:DR P aa E lv fz arr n S0 κ r st nws m lt){D:Nat→Prop}(hc:fK arr.toList D){i:Nat}{o:Oper}(ho:arr.toList[i]?=some o)(him:i<m)(hnd:¬D i)(hr:∀k,mM arr.toList k i→D k)
  (h1:P1 aa arr n st nws m D w g a) {Q:Exit→Act→World→Prop}{K:Act→World→Prop} (hK:∀w' g' a',eS w g w' g'→P1 aa arr n st nws m (eZ D i) w' g' a'→K a' w'):wpOp P arr Q i K a w:=by
 obtain ⟨hquiet,hq⟩:=h.q i o him ho
 have hdn:=h.dlt ho
 have hlook:∀t∈bG arr.toList o,(fP (bL arr m D) (st m)).tmp t=(st i).tmp t:=by
  intro t ht
  classical
  rw [cu,if_neg (h.looks ho hr ht)]
  exact h.st_keep m (by omega) (Nat.le_refl _) fun k x h1 h2 hx=>h.no_later ho ht k x h1 h2 hx
 have hroots:(fP (bL arr m D) (st m)).roots=(st i).roots:=by
  rw [h.st_roots i (by omega)];exact h.st_roots m (Nat.le_refl _)
 have hlo:∀k,eZ D i k→k<m:=by
  rintro k (rfl|hk)
  ·exact him
  ·exact h1.lo k hk
 have hval:∀d,o.dst=some d→(st m).tmp d=(st (i+1)).tmp d:=fun d hd=>h.st_val ho hd him (Nat.le_refl _)
 rcases hq.done with ⟨hw,av,rt,hst,hav,hfit,hgain⟩|⟨hw,hav,hgain⟩
 ·-- carried out
  refine eu ho ((hw.looks hlook).wanted h1.rel) ?_
  rw [←gW (nC hroots) (fun x hx=>(mt x).trans ((kn hlook x hx).trans (mt x).symm))] at hst
  have hrelS:=h1.rel.drawS (ss:=dk arr.toList ((ar arr.toList []).getD i 0)) (nw:=nws i) (o:=o) fun p hp hs=>by
   obtain ⟨j,hj,hg⟩:=h.gains_at (k:=i) i (by omega) p hp
   obtain ⟨i',o',ho',hd',hb⟩:=jR hs
   obtain ⟨x,hx,hxm,hxd,_⟩:=id hg
   have e:=h.uniq hx ho' hxd hd'
   subst e
   exact h1.new j p.1 p.2 (hr j hb) hg
  have hmw:=h.mask_with (D:=D) ho (B:=st m) (av:=av) (fun d hd=>(hval d hd).trans (hav d hd))
  refine gY h.hE h.hlv hst hrelS K Q fun av' rt' v w' g' hκ hqt hv hn hnew=>?_
  simp only [q0,Option.some.injEq,Prod.mk.injEq] at hκ
  obtain ⟨rfl,rfl⟩:=hκ
  have hdd:(match o.dst with|some d=>d|none=>0)<1000:=eY h.hn hdn
  rcases hgain with ⟨rfl,enw⟩|⟨q,d,rfl,hd,enw,hnm,hfr⟩
  ·refine hK w' g' _ (hqt.inv hdd) ⟨h1.rel.quiet_none hdn hqt hv (hn rfl) hmw rfl,fun k d q hk hg=>?_,hlo⟩
   rcases hk with rfl|hk
   ·obtain ⟨o',ho',_,_,e⟩:=hg
    rw [enw] at e
    have:=congrArg List.length e
    simp at this
   ·exact (h1.new k d q hk hg).quiet_none hqt (hn rfl)
  ·rw [hd] at hqt hnew hdd
   simp only at hqt hnew hdd
   obtain ⟨g2,hf,hR⟩:=(hnew q rfl).freeze (fz d)
   have hR':aB aa w' g2 d (sr fz d q):=by simp only [sr,←je];exact hR
   -- nothing names the new slot
   obtain ⟨hfresh1,hfresh2⟩:=ik h.hf o (List.mem_of_getElem? ho) d hd
   have hgi:un arr nws m i d (sr fz d q):=⟨o,ho,him,hd,enw⟩
   have hnames:∀t,t≠d→((fP (bL arr m D) (st m)).tmp t).names d=false:=by
    intro t htd
    classical
    rw [cu]
    by_cases hu:bL arr m D t
    ·rw [if_pos hu];simp [AV.names]
    ·rw [if_neg hu]
     by_cases hex:∃(k:Nat) (x:Oper),k<m∧arr.toList[k]?=some x∧x.dst=some t
     ·obtain ⟨k,x,hkm,hx,hxd⟩:=hex
      have hDk:D k:=Classical.byContradiction fun hnk=>hu ⟨k,x,hkm,hx,hxd,hnk⟩
      rw [h.st_val hx hxd hkm (Nat.le_refl _)]
      rcases Nat.lt_trichotomy k i with hki|hki|hki
      ·rw [←h.st_val hx hxd hki (by omega)];exact hnm t
      ·subst hki;exact absurd hDk hnd
      ·obtain ⟨_,hqk⟩:=h.q k x hkm hx
       rcases hqk.done with ⟨_,avk,rtk,_,hak,hfk,_⟩|⟨_,hak,_⟩
       ·rw [hak t hxd]
        rcases hfk _ (h.gains_mem hgi k hki (by omega)) with hs|⟨hs,_⟩
        ·obtain ⟨i',o',ho',hd',hb⟩:=jR hs
         have:=h.uniq ho' ho hd' hd
         subst this
         exact absurd (hc k hDk _ hb) hnd
        ·exact hs
       ·rw [hak t hxd];simp [AV.names,AV.names.namesL]
     ·rw [h.st_keep m (Nat.zero_le _) (Nat.le_refl _) (fun k x _ hk hx e=>hex ⟨k,x,hk,hx,e⟩),h.st0]
      exact hfresh1 t
   have hnr:∀s r,(fP (bL arr m D) (st m)).root s=some r→s≠d∧∀b,ah.av b∈r.cs→b.names d=false:=by
    intro s r hr
    refine hfresh2 s r ?_
    rw [←hr]
    exact (bz (h.st_roots m (Nat.le_refl _)) s).symm
   have hrel:=h1.rel.quiet_some hd (hdn d hd) hqt hv hmw rfl hnames hnr
   have hrd:(fP (bL arr m (eZ D i)) (st m)).root d=none:=by
    cases hx:(fP (bL arr m (eZ D i)) (st m)).root d with
    |none=>rfl
    |some r0=>exact absurd rfl (hnr d r0 hx).1
   refine hK w' g2 _ ((hqt.inv hdd).trans (hf.inv w')) ⟨hrel.frz hf hrd,fun k d' q' hk hg=>?_,hlo⟩
   rcases hk with rfl|hk
   ·obtain ⟨o',ho',_,hd',e⟩:=hg
    rw [enw] at e
    cases e
    exact hR'
   ·obtain ⟨x,hx,hkm,hxd,e⟩:=id hg
    have hki:k≠i:=fun e=>hnd (e ▸ hk)
    have hdd':d'≠d:=fun e=>hki (h.uniq hx ho (e ▸ hxd) hd)
    have hq'n:∀c,ah.av c∈q'.cs→c.names d=false:=by
     rcases Nat.lt_or_ge k i with hlt|hge
     ·exact (pi hfr d' q' (h.gains_mem hg i hlt (by omega))).2
     ·have hki':i<k:=by omega
      obtain ⟨_,hqk⟩:=h.q k x hkm hx
      rcases hqk.done with ⟨_,avk,rtk,_,_,hfk,(⟨_,e2⟩|⟨q2,d2,hrt2,hd2,e2,_⟩)⟩|⟨_,_,e2⟩
      ·rw [e2] at e;have:=congrArg List.length e;simp at this
      ·rw [e2] at e
       cases e
       rcases hfk _ (h.gains_mem hgi k hki' (by omega)) with hs|⟨_,hs⟩
       ·obtain ⟨i',o',ho',hd'',hb⟩:=jR hs
        have:=h.uniq ho' ho hd'' hd
        subst this
        exact absurd (hc k hk _ hb) hnd
       ·exact vF (hs q2 hrt2)
      ·rw [e2] at e;have:=congrArg List.length e;simp at this
    exact ((h1.new k d' q' hk hg).quiet hqt hdd' hq'n).frz hf hdd'
 ·-- skipped
  refine kk ho (bk.not_wanted (bk.not_looks hlook hw) h1.rel) ?_
  have hmw:=h.mask_with (D:=D) ho (B:=st m) (av:=.tup []) (fun d hd=>(hval d hd).trans (hav d hd))
  refine hK w g _ (.refl _ _) ⟨(h1.rel.skip hdn).ext (fun t=>?_) (fun s=>?_),fun k d q hk hg=>?_,hlo⟩
  ·rw [hmw,cz]
  ·rw [b7];rfl
  ·rcases hk with rfl|hk
   ·obtain ⟨o',ho',_,_,e⟩:=hg
    rw [hgain] at e
    have:=congrArg List.length e
    simp at this
   ·exact h1.new k d q hk hg
theorem rr {o:Oper}{av:AV}{rt:Option ae}{S:St}(hb:eH o=true)(h:aC E lv o S q0=some (av,rt)):rt=none:=by
 cases ho:o.op<;>(unfold eH at hb;rw [ho] at hb)<;>try (cases hb;done)
 case call c=>
  simp only at hb
  split at hb
  ·rename_i hc
   have e:aC E lv o S q0=bY E.ty o S q0:=by
    unfold aC
    rw [ho]
    simp only [hc]
   rw [e] at h
   unfold bY at h
   rw [ho] at h
   simp only [hc] at h
   split at h
   ·rw [mX] at h
    obtain ⟨l,_,h⟩:=Option.bind_eq_some_iff.1 h
    simp [q0] at h;exact h.2.symm
   ·cases h
  ·cases hb
 rename_i T x
 have e:aC E lv o S q0=bY E.ty o S q0:=by
  unfold aC
  rw [ho]
 rw [e] at h
 unfold bY at h
 rw [ho] at h
 simp only at h
 split at h
 ·rw [lK] at h
  obtain ⟨l,_,h⟩:=Option.bind_eq_some_iff.1 h
  split at h
  ·simp [q0] at h;exact h.2.symm
  ·cases h
 ·cases h
theorem rh {o:Oper}{av:AV}{rt:Option ae}{S:St}(hb:cJ o=true)(h:aC E lv o S q0=some (av,rt)):rt=none:=by
 unfold cJ at hb
 rw [Bool.or_eq_true] at hb
 rcases hb with hb|hb
 ·exact lS hb h
 ·exact rr hb h
theorem DR.step2 (h:DR P aa E lv fz arr n S0 κ r st nws m lt){D:Nat→Prop}{j i:Nat}{o:Oper}(hc:fK arr.toList D)(ho:arr.toList[i]?=some o)(him:i<m)(hcv:kb o=false)(hnd:¬D i)(hb:∀av rt,aC E lv o (st i) q0=some (av,rt)→∀S',(∀x∈o.op.operands,S'.ev x=(st i).ev x)→S'.roots=(lt j).roots→aC E lv o S' q0=some (av,none))(hr:∀k,mM arr.toList k i→D k)
  (h2:P2 aa arr n m lt D j w g a) {Q:Exit→Act→World→Prop}{K:Act→World→Prop} (hK:∀w' g' a',eS w g w' g'→P2 aa arr n m lt (eZ D i) j w' g' a'→K a' w'):wpOp P arr Q i K a w:=by
 obtain ⟨hquiet,hq⟩:=h.q i o him ho
 have hdn:=h.dlt ho
 have hmj:=h2.mj
 have hjn:=h2.jn
 have hlook:∀t∈bG arr.toList o,(fP (bL arr m D) (lt j)).tmp t=(st i).tmp t:=by
  intro t ht
  classical
  rw [cu,if_neg (h.looks ho hr ht),h.lt_keep (Nat.le_refl m) j (by omega) hjn (fun k x h1 hkj hx e=>?_),h.lt_m]
  ·exact h.st_keep m (by omega) (Nat.le_refl _) fun k x h1 h2 hx=>h.no_later ho ht k x h1 h2 hx
  ·rcases h.pair ho hx (by omega) with hbit|⟨hap,_⟩
   ·exact hnd (hc k ((h2.late k h1).2 hkj) i hbit)
   ·exact (eR hap).2 t e ht
 have hval:∀d,o.dst=some d→(lt j).tmp d=(st (i+1)).tmp d:=fun d hd=>by
  rw [h.lt_keep (Nat.le_refl m) j (by omega) hjn (fun k x h1 _ hx e=>by have:=h.uniq hx ho e hd;omega),h.lt_m]
  exact h.st_val ho hd him (Nat.le_refl _)
 have hlate:∀k,m≤k→(eZ D i k↔k<j):=by
  intro k hk
  rw [←h2.late k hk]
  constructor
  ·rintro (rfl|h)
   ·omega
   ·exact h
  ·exact .inr
 have hnb:∀k o,k<m→arr.toList[k]?=some o→cJ o=false→eZ D i k:=fun k o h1 h3 h4=>.inr (h2.nb k o h1 h3 h4)
 rcases hq.done with ⟨hw,av,rt,hst,hav,_,_⟩|⟨hw,hav,_⟩
 ·refine eu ho ((hw.looks hlook).wanted h2.rel) ?_
  rw [AN hcv] at hst
  replace hst:=hb av rt hst (fP (bL arr m D) (lt j)) (kn hlook) rfl
  have hmw:=h.mask_with (D:=D) ho (B:=lt j) (av:=av) (fun d hd=>(hval d hd).trans (hav d hd))
  refine gY h.hE h.hlv hst h2.rel K Q fun av' rt' v w' g' hκ hqt hv hn hnew=>?_
  simp only [q0,Option.some.injEq,Prod.mk.injEq] at hκ
  obtain ⟨rfl,rfl⟩:=hκ
  exact hK w' g' _ (hqt.inv (eY h.hn hdn)) ⟨hmj,hjn,h2.rel.quiet_none hdn hqt hv (hn rfl) hmw rfl,hlate,hnb⟩
 ·refine kk ho (bk.not_wanted (bk.not_looks hlook hw) h2.rel) ?_
  have hmw:=h.mask_with (D:=D) ho (B:=lt j) (av:=.tup []) (fun d hd=>(hval d hd).trans (hav d hd))
  refine hK w g _ (.refl _ _) ⟨hmj,hjn,(h2.rel.skip hdn).ext (fun t=>?_) (fun s=>?_),hlate,hnb⟩
  ·rw [hmw,cz]
  ·rw [b7];rfl
theorem DR.step3 (h:DR P aa E lv fz arr n S0 κ r st nws m lt){D:Nat→Prop}{j:Nat}{o:Oper}(ho:arr.toList[j]?=some o)(hmj:m≤j)(hr:∀k,mM arr.toList k j→D k)
  (hrel:aV aa n w g (fP (bL arr m D) (lt j)) a) (hlate:∀k,m≤k→(D k↔k<j)) (hnb:∀k o,k<m→arr.toList[k]?=some o→cJ o=false→D k)
  {Q:Exit→Act→World→Prop}{K:Act→World→Prop} (hK:∀w' g' a',eS w g w' g'→P2 aa arr n m lt (eZ D j) (j+1) w' g' a'→K a' w'):wpOp P arr Q j K a w:=by
 have hl:=h.l j o hmj ho
 have hjl:=(List.getElem?_eq_some_iff.mp ho).1
 have hdn:=h.dlt ho
 have hlook:∀t∈bG arr.toList o,(fP (bL arr m D) (lt j)).tmp t=(lt j).tmp t:=by
  intro t ht
  classical
  rw [cu,if_neg (h.looks ho hr ht)]
 have hlate':∀k,m≤k→(eZ D j k↔k<j+1):=by
  intro k hk
  constructor
  ·rintro (rfl|hd)
   ·omega
   ·have:=(hlate k hk).1 hd;omega
  ·intro hlt
   by_cases e:k=j
   ·exact .inl e
   ·exact .inr ((hlate k hk).2 (by omega))
 have hnb':∀k o,k<m→arr.toList[k]?=some o→cJ o=false→eZ D j k:=fun k o h1 h3 h4=>.inr (hnb k o h1 h3 h4)
 -- the masked state behind it
 have hmask:∀(av:AV),(∀d,o.dst=some d→(lt (j+1)).tmp d=av)→∀t,(fP (bL arr m (eZ D j)) (lt (j+1))).tmp t=if o.dst=some t then av else (fP (bL arr m D) (lt j)).tmp t:=by
  intro av hav t
  classical
  rw [h.mask_with (D:=D) ho hav t]
  by_cases e:o.dst=some t
  ·rw [if_pos e,if_pos e]
  ·rw [if_neg e,if_neg e,cu,cu,hl.tm t e]
 rcases hl.done with ⟨hw,av,rt,rs,ks,hst,hav,n1,n2,hroot⟩|⟨hw,hav,hroot⟩
 ·refine eu ho ((hw.looks hlook).wanted hrel) ?_
  rw [←gU (S:=lt j) (S':=fP (bL arr m D) (lt j)) rfl (kn hlook)] at hst
  refine jZ h.hE h.hlv (eY h.hn hdn) hst hrel K Q fun av' v rt' rs' ks' w' g' hκ hok=>?_
  simp only [w0,Option.some.injEq,Prod.mk.injEq] at hκ
  obtain ⟨rfl,rfl,rfl,rfl⟩:=hκ
  obtain ⟨g2,hS2,hinv⟩:=hrel.gain (fz:=fz) hok hdn
  have m1:rt'≠none→∃d,o.dst=some d∧∀t,((fP (bL arr m D) (lt j)).tmp t).names d=false:=by
   intro hrt
   obtain ⟨d,h1,h2⟩:=n1 hrt
   refine ⟨d,h1,fun t=>?_⟩
   classical
   rw [cu]
   split
   ·simp [AV.names]
   ·exact h2 t
  have m2:∀s∈ks',∀t,((fP (bL arr m D) (lt j)).tmp t).namesB s=false:=by
   intro s hs t
   classical
   rw [cu]
   split
   ·simp [AV.namesB]
   ·exact n2 s hs t
  refine hK w' g2 _ hinv ⟨by omega,by omega,hS2.ext (fun t=>?_) (fun s=>?_),hlate',hnb'⟩
  ·rw [mD m1 m2,hmask _ hav]
  ·show (lt (j+1)).root s=_
   rw [hroot s]
   exact kz s
 ·refine kk ho (bk.not_wanted (bk.not_looks hlook hw) hrel) ?_
  refine hK w g _ (.refl _ _) ⟨by omega,by omega,(hrel.skip hdn).ext (fun t=>?_) (fun s=>?_),hlate',hnb'⟩
  ·rw [hmask _ hav,cz]
  ·rw [b7]
   show (lt (j+1)).root s=(lt j).root s
   exact bz hroot s
theorem DR.turn (h:DR P aa E lv fz arr n S0 κ r st nws m lt){D:Nat→Prop}(h1:P1 aa arr n st nws m D w g a)(hnb:∀k o,k<m→arr.toList[k]?=some o→cJ o=false→D k):
  aV aa n w g (fP (bL arr m D) (lt m)) a:=by
 refine ⟨h1.rel.size,h1.rel.df,h1.rel.tb,fun t=>?_,fun s q hq=>?_⟩
 ·have e:(fP (bL arr m D) (lt m)).tmp t=(fP (bL arr m D) (st m)).tmp t:=by
   classical
   rw [cu,cu,h.lt_m]
  rw [e];exact h1.rel.tm t
 ·have hq':(bE (st m) (nws m)).root s=some q:=by rw [←h.lt0];exact hq
  rcases ib _ _ hq' with hm|hm
  ·obtain ⟨i,_,hg⟩:=h.gains_at (k:=0) m (Nat.le_refl _) _ hm
   obtain ⟨o,ho,him,hd,e⟩:=id hg
   refine h1.new i s q (hnb i o him ho ?_) hg
   cases hb:cJ o with
   |false=>rfl
   |true=>
    obtain ⟨_,hqi⟩:=h.q i o him ho
    rcases hqi.done with ⟨_,av,rt,hst,_,_,(⟨_,e2⟩|⟨q2,d2,hrt2,_⟩)⟩|⟨_,_,e2⟩
    ·rw [e2] at e;have:=congrArg List.length e;simp at this
    ·have:=rh hb hst
     rw [hrt2] at this;cases this
    ·rw [e2] at e;have:=congrArg List.length e;simp at this
  ·exact h1.rel.rt s q hm
end
end
end Go.Proofs.YtjkokaockhecnaaGreatDoorA

namespace Go.Proofs.YtjkokaockhecnaaGreatDoorA
open Go
section
variable {aa:aM}{n:Nat}{w w' w'':World}{g g' g'':Gh}{S S':St}{a:Act}{P:Program}
variable {R:Type}{E:dE}{lv:Lv E.sig}{fz:Nat→Bool}{arr:Array Oper}{S0:St}{κ:St→Option R}{r:R}{st:Nat→St}{nws:Nat→List (Nat×ae)}{m:Nat}{lt:Nat→St}
theorem kw (e:Edge):Region.binds .any e=cB e:=by
 unfold Region.binds cB
 cases e.ground<;>rfl
theorem nr {p q:Nat→Bool}{i:Nat}:∀{l:List Nat},i∈l→p i=true→q i=false→(∀x,q x=true→p x=true)→l.countP q<l.countP p
 |[],h,_,_,_=>by simp at h
 |x :: l,h,h1,h2,hpq=>by
  have hle:∀l:List Nat,l.countP q≤l.countP p:=fun l=>List.countP_mono_left fun x _=>hpq x
  simp only [List.countP_cons]
  rcases List.mem_cons.mp h with rfl|h
  ·rw [h1,h2]
   have:=hle l
   simp only [if_true,Bool.false_eq_true,if_false]
   omega
  ·have:=nr (l:=l) h h1 h2 hpq
   cases hq:q x with
   |false=>simp only [Bool.false_eq_true,if_false];omega
   |true=>rw [hpq x hq];simp only [if_true];omega
def Dn (listed:Array Bool)(k:Nat):Prop:=listed.getD k false=true
theorem Dn.set {listed:Array Bool}{i:Nat}(hi:i<listed.size):Dn (listed.setIfInBounds i true)=eZ (Dn listed) i:=by
 funext k
 apply propext
 unfold Dn eZ
 by_cases e:k=i
 ·subst e;simp [hi]
 ·rw [getD_set_ne false (Ne.symm e)]
  simp [e]
theorem DR.nonquiet (h:DR P aa E lv fz arr n S0 κ r st nws m lt){j:Nat}(hm:m<arr.toList.length)(hj:m≤j):dO E.pks arr.toList (arr.toList.take (j+1))=false:=by
 obtain ⟨o,ho,hq⟩:=h.nq hm
 cases hx:dO E.pks arr.toList (arr.toList.take (j+1)) with
 |false=>rfl
 |true=>rw [qL hx hj ho] at hq;cases hq
theorem jP {pks:FuncId→List PK}{ops:List Oper}{i j:Nat}{x:Oper}(h:pw pks ops i j x=true):dO pks ops (ops.take (j+1))=true∨(cJ x=true∧dO pks ops (ops.take (i+1))=true):=by
 simp only [pw,Bool.or_eq_true,Bool.and_eq_true] at h
 exact h
theorem DR.ready_late (h:DR P aa E lv fz arr n S0 κ r st nws m lt){D:Nat→Prop}{i:Nat}{o:Oper}(ho:arr.toList[i]?=some o)(hmi:m≤i)(hr:∀k,mM arr.toList k i→D k):
  (∀k,m≤k→k<i→D k)∧∀k x,k<m→arr.toList[k]?=some x→cJ x=false→D k:=by
 have hil:=(List.getElem?_eq_some_iff.mp ho).1
 have hml:m<arr.toList.length:=by omega
 refine ⟨fun k hmk hki=>?_,fun k x hkm hx hb=>?_⟩
 ·obtain ⟨x,hx⟩:=h.op (k:=k) (by omega)
  rcases h.pair hx ho hki with hb|⟨_,hf⟩
  ·exact hr k hb
  ·rcases jP hf with hq|⟨_,hq⟩
   ·rw [h.nonquiet hml hmi] at hq;cases hq
   ·rw [h.nonquiet hml hmk] at hq;cases hq
 ·rcases h.pair hx ho (by omega) with hb'|⟨_,hf⟩
  ·exact hr k hb'
  ·rcases jP hf with hq|⟨hq,_⟩
   ·rw [h.nonquiet hml hmi] at hq;cases hq
   ·rw [hq] at hb;cases hb
theorem DR.any (h:DR P aa E lv fz arr n S0 κ r st nws m lt){Q:Exit→Act→World→Prop}:∀(fuel:Nat) (listed:Array Bool) (a:Act) (w:World) (g:Gh),listed.size=arr.toList.length→fK arr.toList (Dn listed)→
  (P1 aa arr n st nws m (Dn listed) w g a∨∃j,P2 aa arr n m lt (Dn listed) j w g a)→(List.range arr.toList.length).countP (fun k=>!listed.getD k false)≤fuel→
  (∀S' w' g' a',κ S'=some r→aV aa n w' g' S' a'→eS w g w' g'→Q .normal a' w')→wpAny P .any arr Q fuel listed a w:=by
 intro fuel
 -- all done
 have iO:∀(listed:Array Bool) (a:Act) (w:World) (g:Gh),(∀k,k<arr.toList.length→Dn listed k)→(P1 aa arr n st nws m (Dn listed) w g a∨∃j,P2 aa arr n m lt (Dn listed) j w g a)→
   (∀S' w' g' a',κ S'=some r→aV aa n w' g' S' a'→eS w g w' g'→Q .normal a' w')→Q .normal a w:=by
  intro listed a w g hall hph hQ
  have hno:∀t,¬bL arr m (Dn listed) t:=fun t ⟨k,o,_,h1,_,h3⟩=>h3 (hall k (List.getElem?_eq_some_iff.mp h1).1)
  have fin:∀B:St,κ B=some r→aV aa n w g (fP (bL arr m (Dn listed)) B) a→Q .normal a w:=by
   intro B hB hrel
   refine hQ B w g a hB (hrel.ext (fun t=>?_) (fun s=>rfl)) (.refl _ _)
   classical
   rw [cu,if_neg (hno t)]
  rcases hph with h1|⟨j,h2⟩
  ·have hmN:m=arr.toList.length:=by
    rcases Nat.lt_or_ge m arr.toList.length with hlt|hge
    ·have:=h1.lo m (hall m hlt);omega
    ·have:=h.hm;omega
   exact fin (lt m) (by rw [hmN];exact h.fin) (h.turn h1 fun k o hk ho _=>hall k (List.getElem?_eq_some_iff.mp ho).1)
  ·have hjN:j=arr.toList.length:=by
    rcases Nat.lt_or_ge j arr.toList.length with hlt|hge
    ·have:=(h2.late j (by have:=h2.mj;omega)).1 (hall j hlt);omega
    ·have:=h2.jn;omega
   have:=h2.rel
   exact fin (lt j) (by rw [hjN];exact h.fin) this
 have rdy:∀(listed:Array Bool),listed.size=arr.toList.length→∀j,j∈Region.ready .any arr listed→¬Dn listed j∧∃o,arr.toList[j]?=some o∧∀e∈o.after.toList,cB e=true→Dn listed e.on:=by
  intro listed hsz j hj
  obtain ⟨h0,o,ho,hall⟩:=mem_ready.1 hj
  refine ⟨fun hd=>?_,o,by simpa using ho,fun e he hb=>hall e (by simpa using he) (by rw [kw];exact hb)⟩
  unfold Dn at hd
  rw [Array.getD_eq_getD_getElem?] at h0 hd
  cases hx:listed[j]? with
  |none=>rw [hx] at h0;simp at h0
  |some b=>rw [hx] at h0 hd;simp at h0 hd;rw [h0] at hd;cases hd
 have alld:∀(listed:Array Bool),listed.size=arr.toList.length→Region.ready .any arr listed=[]→∀k,k<arr.toList.length→Dn listed k:=by
  intro listed hsz hre k
  induction k using Nat.strongRecOn with
  |_ k ih=>
   intro hk
   apply Classical.byContradiction
   intro hnd
   obtain ⟨o,ho⟩:=h.op hk
   have:k∈Region.ready .any arr listed:=by
    rw [mem_ready]
    refine ⟨?_,o,by simpa using ho,fun e he hb=>?_⟩
    ·unfold Dn at hnd
     rw [Array.getD_eq_getD_getElem?] at hnd ⊢
     have hk':k<listed.size:=by omega
     rw [Array.getElem?_eq_getElem hk'] at hnd ⊢
     simpa using hnd
    ·have hlt:=iV h.he k o ho e (by simpa using he) (by rw [←kw];exact hb)
     rw [Nat.zero_add] at hlt
     exact ih e.on hlt (by omega)
   rw [hre] at this
   simp at this
 induction fuel with
 |zero=>
  intro listed a w g hsz hc hph hcnt hQ
  have hall:∀k,k<arr.toList.length→Dn listed k:=by
   intro k hk
   have h0:(List.range arr.toList.length).countP (fun k=>!listed.getD k false)=0:=by omega
   have:=List.countP_eq_zero.1 h0 k (List.mem_range.2 hk)
   unfold Dn
   simpa using this
  refine ⟨?_,iO listed a w g hall hph hQ⟩
  apply List.eq_nil_iff_forall_not_mem.2
  intro j hj
  obtain ⟨h1,o,ho,_⟩:=rdy listed hsz j hj
  exact h1 (hall j (List.getElem?_eq_some_iff.mp ho).1)
 |succ fuel ih=>
  intro listed a w g hsz hc hph hcnt hQ
  refine ⟨fun hre=>iO listed a w g (alld listed hsz hre) hph hQ,fun i hi=>?_⟩
  obtain ⟨hnd,o,ho,hedge⟩:=rdy listed hsz i hi
  have hil:=(List.getElem?_eq_some_iff.mp ho).1
  have hr:=hc.ready ho hedge
  have hset:=Dn.set (listed:=listed) (i:=i) (by omega)
  have hc':fK arr.toList (eZ (Dn listed) i):=by
   rintro j (rfl|hj) k hb
   ·exact .inr (hr k hb)
   ·exact .inr (hc j hj k hb)
  have hcnt':(List.range arr.toList.length).countP (fun k=>!(listed.setIfInBounds i true).getD k false)≤fuel:=by
   have:(List.range arr.toList.length).countP (fun k=>!(listed.setIfInBounds i true).getD k false)<(List.range arr.toList.length).countP (fun k=>!listed.getD k false):=by
    refine nr (i:=i) (List.mem_range.2 hil) ?_ ?_ fun x hx=>?_
    ·unfold Dn at hnd;simpa using hnd
    ·have:Dn (listed.setIfInBounds i true) i:=by rw [hset];exact .inl rfl
     unfold Dn at this
     simpa using this
    ·have hx':¬Dn (listed.setIfInBounds i true) x:=by unfold Dn;simpa using hx
     rw [hset] at hx'
     have:¬Dn listed x:=fun h=>hx' (.inr h)
     unfold Dn at this
     simpa using this
   omega
  have hsz':(listed.setIfInBounds i true).size=arr.toList.length:=by simpa using hsz
  -- on
  have next:∀w' g' a',eS w g w' g'→(P1 aa arr n st nws m (eZ (Dn listed) i) w' g' a'∨∃j,P2 aa arr n m lt (eZ (Dn listed) i) j w' g' a')→wpAny P .any arr Q fuel (listed.setIfInBounds i true) a' w':=by
   intro w' g' a' hinv hph'
   exact ih _ a' w' g' hsz' (by rw [hset];exact hc') (by rw [hset];exact hph') hcnt' fun S' w'' g'' a'' q1 q2 q3=>hQ S' w'' g'' a'' q1 q2 (hinv.trans q3)
  rcases hph with h1|⟨j,h2⟩
  ·by_cases him:i<m
   ·exact h.step1 hc ho him hnd hr h1 fun w' g' a' hinv hp=>next w' g' a' hinv (.inl hp)
   ·obtain ⟨r1,r2⟩:=h.ready_late ho (by omega) hr
    have him':i=m:=by
     rcases Nat.lt_or_ge m i with hlt|hge
     ·have:=h1.lo m (r1 m (Nat.le_refl _) hlt);omega
     ·omega
    subst him'
    refine h.step3 ho (Nat.le_refl _) hr (h.turn h1 r2) (fun k hk=>?_) r2 fun w' g' a' hinv hp=>next w' g' a' hinv (.inr ⟨_,hp⟩)
    constructor
    ·intro hd;exact h1.lo k hd
    ·intro hlt;omega
  ·have hmj:=h2.mj
   have hjn:=h2.jn
   by_cases him:i<m
   ·have hml:m<arr.toList.length:=by omega
    obtain ⟨x,hx⟩:=h.op hml
    have hb0:cJ o=true:=by
     rcases h.pair ho hx him with hb|⟨_,hf⟩
     ·exact absurd (hc m ((h2.late m (Nat.le_refl _)).2 hmj) i hb) hnd
     ·rcases jP hf with hq|⟨hq,_⟩
      ·rw [h.nonquiet hml (Nat.le_refl _)] at hq;cases hq
      ·exact hq
    have hb:∀av rt,aC E lv o (st i) q0=some (av,rt)→∀S',(∀x∈o.op.operands,S'.ev x=(st i).ev x)→S'.roots=(lt j).roots→aC E lv o S' q0=some (av,none):=by
     intro av rt hst S' he hroots
     unfold cJ at hb0
     rw [Bool.or_eq_true] at hb0
     rcases hb0 with hb|hb
     ·have:=lS hb hst
      subst this
      rw [nO hb he];exact hst
     ·rcases h.calm i o him ho hb with hbit|hst'
      ·exact absurd (hc m ((h2.late m (Nat.le_refl _)).2 hmj) i (hbit m (Nat.le_refl _) hml)) hnd
      ·exact hst' av rt hst j (by omega) hjn (fun j' h1 h2' hbit=>hnd (hc j' ((h2.late j' h1).2 h2') i hbit)) S' he hroots
    have hcv:kb o=false:=by
     unfold cJ eJ eH at hb0
     unfold kb
     cases hx:o.op with
     |convert _ _ _=>rw [hx] at hb0;simp at hb0
     |buildSlice _ _ _=>rw [hx] at hb0;simp at hb0
     |call c=>
      rw [hx] at hb0
      simp only [Bool.false_or] at hb0
      cases hcc:c.callee with
      |value x=>rw [hcc] at hb0;simp at hb0
      |_=>show (match c.callee with|.value _=>true|_=>false)=false;rw [hcc]
     |_=>rfl
    exact h.step2 hc ho him hcv hnd hb hr h2 fun w' g' a' hinv hp=>next w' g' a' hinv (.inr ⟨_,hp⟩)
   ·obtain ⟨r1,r2⟩:=h.ready_late ho (by omega) hr
    have hji:j≤i:=by
     rcases Nat.lt_or_ge i j with hlt|hge
     ·exact absurd ((h2.late i (by omega)).2 hlt) hnd
     ·exact hge
    have hij:i=j:=by
     rcases Nat.lt_or_ge j i with hlt|hge
     ·have:=(h2.late j (by omega)).1 (r1 j (by omega) hlt);omega
     ·omega
    subst hij
    exact h.step3 ho (by omega) hr h2.rel h2.late r2 fun w' g' a' hinv hp=>next w' g' a' hinv (.inr ⟨_,hp⟩)
theorem mU (w:World)(k:Nat):gy w { w with drawn:=k } fun _ _=>False:=⟨rfl,rfl,rfl,Nat.le_refl _,fun _ _ _=>rfl,fun _ _ _ _=>rfl,fun _ _ _ _=>rfl,fun _ _=>rfl⟩
theorem eS.drawn (w:World)(g:Gh)(k:Nat):eS w g { w with drawn:=k } g:=⟨(mU w k).mono fun _ _ _ h=>h.elim,fun _ _ _ h=>h,fun _ _ _ h=>h,fun _ _ _ h=>h,fun _ _=>rfl⟩
theorem aV.drawn (hS:aV aa n w g S a)(k:Nat):aV aa n { w with drawn:=k } g S a:=
 ⟨hS.size,hS.df,hS.tb.inv (eS.drawn w g k),fun t=>(hS.tm t).same (mU w k) fun _ _ _ h=>h.elim,fun s r hr=>(hS.rt s r hr).same (mU w k) fun _ _ _ h=>h.elim⟩
end
theorem ka:∀(l:List (Nat×ae)) (S:St) {s:Nat},(∀p∈l,p.1≠s)→(bE S l).root s=S.root s
 |[],_,_,_=>rfl
 |(d,r) :: l,S,s,h=>by
  simp only [bE]
  rw [ka l _ fun p hp=>h p (List.mem_cons_of_mem _ hp),bQ,if_neg fun e=>h (d,r) List.mem_cons_self e.symm]
theorem qQ (bs:List Nat)(i m:Nat):dm bs i m=bs.length∨(m≤dm bs i m∧(bs.getD (dm bs i m) 0).testBit i=true):=by
 unfold dm
 split
 ·rename_i j hj
  right
  have h1:=List.find?_some hj
  have h2:=List.mem_of_find?_eq_some hj
  rw [List.mem_drop_iff_getElem] at h2
  obtain ⟨q,hq,e⟩:=h2
  rw [List.getElem_range] at e
  exact ⟨by omega,h1⟩
 ·exact .inl rfl
theorem zn {ps:List (Nat×Nat)}{s j0 k:Nat}(h:(s,j0)∈ps)(hk:k<j0):s∈s9 ps k:=by
 unfold s9
 refine List.mem_map.2 ⟨(s,j0),List.mem_filter.2 ⟨h,?_⟩,rfl⟩
 exact Nat.ble_eq_true_of_le hk
def zR (ps:List (Nat×Nat))(j0:Nat):AV→Prop
 |.ref s _=>(s,j0)∈ps
 |.vp _|.vi _|.tup _=>True
 |_=>False
def ix (ps:List (Nat×Nat))(j0:Nat)(S:St)(o:Oper):Prop:=
 ∃x,((∃T,o.op=.load T x)∧zR ps j0 (S.ev x))∨((∃c,o.op=.call c∧c.callee=.builtin .len∧c.args.toList=[x])∧∀s j,S.ev x≠.al s j)
theorem ix.operand {ps:List (Nat×Nat)}{j0:Nat}{S S':St}{o:Oper}(h:ix ps j0 S o)(he:∀x∈o.op.operands,S'.ev x=S.ev x):ix ps j0 S' o:=by
 obtain ⟨x,⟨⟨T,h1⟩,h2⟩|⟨⟨c,h1,h2,h3⟩,h4⟩⟩:=h
 ·exact ⟨x,.inl ⟨⟨T,h1⟩,by rw [he x (by rw [h1];simp [Op.operands])];exact h2⟩⟩
 ·have hx:x∈o.op.operands:=by
   rw [h1]
   have:x∈c.args.toList:=by rw [h3];simp
   simp [Op.operands,Call.operands,h2]
   simpa using this
  exact ⟨x,.inr ⟨⟨c,h1,h2,h3⟩,by rw [he x hx];exact h4⟩⟩
theorem gj {bs:List Nat}{S:St}{m:Nat}:∀{l:List Oper}{i:Nat}{ps:List (Nat×Nat)},cf bs S m i l=some ps→∀k o,l[k]?=some o→eH o=true→
  (∀j,m≤j→j<bs.length→(bs.getD j 0).testBit (i+k)=true)∨ix ps (dm bs (i+k) m) S o
 |[],_,_,_,k,o,hk,_=>by simp at hk
 |y :: l,i,ps,h,k,o,hk,hl=>by
  simp only [cf] at h
  cases hb:!eH y||pI bs i m with
  |true=>
   rw [hb] at h
   simp only [cond] at h
   cases k with
   |zero=>
    simp only [List.getElem?_cons_zero,Option.some.injEq] at hk
    subst hk
    rw [hl] at hb
    simp only [Bool.not_true,Bool.false_or] at hb
    refine .inl fun j hj hjl=>?_
    unfold pI at hb
    have:=List.all_eq_true.1 hb j (by
     rw [List.mem_drop_iff_getElem]
     exact ⟨j - m,by simp;omega,by simp;omega⟩)
    rw [Nat.add_zero];exact this
   |succ k=>
    rcases gj h k o (by simpa using hk) hl with h1|h1
    ·exact .inl fun j a b=>by rw [show i+(k+1)=i+1+k by omega];exact h1 j a b
    ·exact .inr (by rw [show i+(k+1)=i+1+k by omega];exact h1)
  |false=>
   rw [hb] at h
   simp only [cond] at h
   have rest:∀ps',cf bs S m (i+1) l=some ps'→(∀s,s∈ps'→s∈ps)→ix ps (dm bs i m) S y→(∀j,m≤j→j<bs.length→(bs.getD j 0).testBit (i+k)=true)∨ix ps (dm bs (i+k) m) S o:=by
    intro ps' hc hsub hat
    cases k with
    |zero=>
     simp only [List.getElem?_cons_zero,Option.some.injEq] at hk
     subst hk
     exact .inr hat
    |succ k=>
     rcases gj hc k o (by simpa using hk) hl with h1|⟨x',⟨h1,h2⟩|h1⟩
     ·exact .inl fun j a b=>by rw [show i+(k+1)=i+1+k by omega];exact h1 j a b
     ·refine .inr ⟨x',.inl ⟨h1,?_⟩⟩
      rw [show i+(k+1)=i+1+k by omega]
      generalize S.ev x'=av at h2
      cases av<;>first|trivial|exact h2.elim|exact hsub _ h2
     ·exact .inr ⟨x',.inr h1⟩
   cases ho:y.op<;>rw [ho] at h<;>try (cases h;done)
   case load T x=>
    simp only at h
    have rest2:∀ps',cf bs S m (i+1) l=some ps'→(∀s,s∈ps'→s∈ps)→zR ps (dm bs i m) (S.ev x)→_:=fun ps' h1 h2 h3=>rest ps' h1 h2 ⟨x,.inl ⟨⟨T,ho⟩,h3⟩⟩
    generalize hx:S.ev x=av at h rest2
    cases av<;>simp only at h<;>try (cases h;done)
    case ref s off=>
     cases hc:cf bs S m (i+1) l with
     |none=>rw [hc] at h;cases h
     |some ps'=>
      rw [hc] at h
      simp only [Option.map_some,Option.some.injEq] at h
      subst h
      exact rest2 ps' hc (fun s' hs=>List.mem_cons_of_mem _ hs) List.mem_cons_self
    all_goals exact rest2 ps h (fun _ h=>h) trivial
   case call c=>
    simp only at h
    have hlen:c.callee=.builtin .len:=by
     cases hl':eH y with
     |false=>rw [hl'] at hb;cases hb
     |true=>
      unfold eH at hl'
      rw [ho] at hl'
      simp only at hl'
      split at hl'
      ·assumption
      ·cases hl'
    split at h
    ·rename_i x hargs
     split at h
     ·cases h
     ·rename_i hal
      exact rest ps h (fun _ h=>h) ⟨x,.inr ⟨⟨c,ho,hlen,hargs⟩,hal⟩⟩
    ·cases h
theorem yd {E:dE}{lv:Lv E.sig}{o:Oper}{S S':St}{c:Call}{x:Operand}(ho:o.op=.call c)(hc:c.callee=.builtin .len)(hx:c.args.toList=[x])(he:S'.ev x=S.ev x)(hal:∀s j,S.ev x≠.al s j):
  aC E lv o S' q0=aC E lv o S q0:=by
 have e:∀S:St,aC E lv o S q0=bY E.ty o S q0:=fun S=>by unfold aC;rw [ho];simp only [hc]
 rw [e,e]
 unfold bY
 rw [ho]
 simp only [hc,hx]
 split
 ·rename_i x' T h1 h2
  cases h1
  rw [he]
  unfold qe
  generalize hav:S.ev x=a at*
  cases a<;>first|rfl|exact absurd rfl (hal _ _)
 ·rfl
theorem vt {E:dE}{lv:Lv E.sig}{o:Oper}{S S':St}{T:TypeId}{x:Operand}{av:AV}(ho:o.op=.load T x)(he:S'.ev x=S.ev x)(hr:∀s off,S.ev x=.ref s off→S.root s≠none→S'.root s=S.root s)
  (hst:aC E lv o S q0=some (av,none)) (hcl:∀s j sz i off,S.ev x≠.eref s j sz i off) (hcl2:∀s i,S.ev x≠.bref s i):aC E lv o S' q0=aC E lv o S q0:=by
 have e:∀S:St,aC E lv o S q0=bY E.ty o S q0:=fun S=>by unfold aC;rw [ho]
 rw [e] at hst
 rw [e,e]
 unfold bY at hst ⊢
 rw [ho] at hst ⊢
 simp only at hst ⊢
 rw [he]
 cases hT:E.ty T with
 |none=>rfl
 |some i=>
  rw [hT] at hst
  simp only at hst ⊢
  unfold g8 at hst ⊢
  generalize hx:S.ev x=a at*
  cases a with
  |ref s off=>
   simp only at hst ⊢
   rw [hr s off rfl]
   intro hn
   rw [hn] at hst
   cases hst
  |eref s j sz i off=>exact absurd rfl (hcl s j sz i off)
  |bref s i=>exact absurd rfl (hcl2 s i)
  |_=>rfl
def A8 (P:Program)(aa:aM)(n:Nat)(E:dE)(lv:Lv E.sig):Prop:=
 ∀{R:Type} (fz:Nat→Bool) (id:Nat) (ops:Array Oper) (S:St) (a:Act) (w:World) (g:Gh) (κ:St→Option R) (r:R) (Q:Exit→Act→World→Prop),
  gd n ops.toList=true→sq E.pks ops.toList=true→gn S ops.toList=true→gC E lv fz ops.toList ops.toList (ar ops.toList []) [] S κ=some r→aV aa n w g S a→
  (∀S' w' g' a',κ S'=some r→aV aa n w' g' S' a'→eS w g w' g'→Q .normal a' w')→(Code.region id ops true).wp P Q a w
theorem Ad {P:Program}{aa:aM}{E:dE}(hE:rz P aa E)(hmix:P.follows .mixedOrders=true)(lv:Lv E.sig)(hlv:ir P aa E.sig lv)(n:Nat)(hn:n≤1000):A8 P aa n E lv:=by
 intro R fz id ops S a w g κ r Q hdst hok hfresh hrun hS hQ
 simp only [sq,Bool.and_eq_true] at hok
 obtain ⟨⟨⟨h1,h2⟩,h3⟩,h4⟩:=hok
 obtain ⟨st,nws,m,e1,e2,e3,e4,e5,e6⟩:=lg (lv:=lv) ops.toList 0 S [] rfl (Nat.zero_le _) (by rw [List.drop_zero];exact hrun)
 have sroots:∀k,k≤m→(st k).roots=S.roots:=by
  intro k
  induction k with
  |zero=>intro _;rw [e3]
  |succ k ih=>
   intro hk
   rw [(e5 k _ (Nat.zero_le _) (by omega) (List.getElem?_eq_getElem (show k<ops.toList.length by omega))).2.roots]
   exact ih (by omega)
 obtain ⟨lt,l1,l2,l3,l4,l5⟩:∃lt:Nat→St,lt m=bE (st m) (nws m)∧(∀k o,m≤k→ops.toList[k]?=some o→oQ E lv fz ops.toList o (lt k) (lt (k+1)))∧
   (m<ops.toList.length→∃o,ops.toList[m]?=some o∧qD E.pks ops.toList o=false)∧κ (lt ops.toList.length)=some r∧
   (m<ops.toList.length→∃ps,cf (ar ops.toList []) (st m) m 0 (ops.toList.take m)=some ps∧∀k o,m≤k→ops.toList[k]?=some o→∀s∈s9 ps k,(lt (k+1)).root s=(lt k).root s):=by
  rcases e6 with ⟨hm,hκ⟩|⟨o,ps,ho,hq,hps,hlate⟩
  ·refine ⟨fun _=>bE (st m) (nws m),rfl,fun k o hk ho=>?_,fun h=>by omega,hκ,fun h=>by omega⟩
   have:=(List.getElem?_eq_some_iff.mp ho).1
   omega
  ·obtain ⟨lt,q1,q2,q3⟩:=kQ (ops.toList.drop m) m _ rfl e2 hlate
   exact ⟨lt,q1,fun k o hk ho=>(q2 k o hk ho).1,fun _=>⟨o,ho,hq⟩,q3,fun _=>⟨ps,hps,fun k o hk ho=>(q2 k o hk ho).2⟩⟩
 have hnwd:∀i,i≤m→∀p∈nws i,∃o∈ops.toList,o.dst=some p.1:=by
  intro i
  induction i with
  |zero=>intro _ p hp;rw [e4] at hp;simp at hp
  |succ i ih=>
   intro hi p hp
   have hoi:=List.getElem?_eq_getElem (show i<ops.toList.length by omega)
   rcases (e5 i _ (Nat.zero_le _) (by omega) hoi).2.done with ⟨_,av,rt,_,_,_,(⟨_,e⟩|⟨q,d,_,hd,e,_⟩)⟩|⟨_,_,e⟩
   ·rw [e] at hp;exact ih (by omega) p hp
   ·rw [e] at hp
    rcases List.mem_cons.mp hp with rfl|hp
    ·exact ⟨_,List.getElem_mem _,hd⟩
    ·exact ih (by omega) p hp
   ·rw [e] at hp;exact ih (by omega) p hp
 have calm:∀k o,k<m→ops.toList[k]?=some o→eH o=true→(∀j,m≤j→j<ops.toList.length→mM ops.toList k j)∨
   ∀av rt,aC E lv o (st k) q0=some (av,rt)→∀j,m≤j→j≤ops.toList.length→(∀j',m≤j'→j'<j→¬mM ops.toList k j')→∀S',(∀x∈o.op.operands,S'.ev x=(st k).ev x)→S'.roots=(lt j).roots→aC E lv o S' q0=some (av,none):=by
  intro k o hkm ho hl
  by_cases hml:m<ops.toList.length
  ·obtain ⟨ps,hps,hkeep⟩:=l5 hml
   rcases gj hps k o (by rw [List.getElem?_take,if_pos hkm];exact ho) hl with hbits|hsl
   ·left
    intro j hj hjl
    rw [Nat.zero_add] at hbits
    exact hbits j hj (by rw [cQ];simpa using hjl)
   ·right
    intro av rt hst j hj hjl hnob S' he hroots
    have hj0:j≤dm (ar ops.toList []) (0+k) m:=by
     rcases qQ (ar ops.toList []) (0+k) m with h|⟨h1,h2⟩
     ·rw [h,cQ];simpa using hjl
     ·rcases Nat.lt_or_ge (dm (ar ops.toList []) (0+k) m) j with hlt|hge
      ·rw [Nat.zero_add] at h1 h2 hlt
       exact absurd h2 (hnob _ h1 hlt)
      ·exact hge
    have hrt:=rr hl hst
    subst hrt
    rw [←hst]
    have hev:∀x∈o.op.operands,(st k).ev x=(st m).ev x:=by
     intro x hxo
     cases x with
     |tmp t=>
      have hlk:t∈bG ops.toList o:=k7 hxo
      -- no operation from k on writes it
      have keep:∀i,k≤i→i≤m→(st i).tmp t=(st k).tmp t:=by
       intro i
       induction i with
       |zero=>
        intro h1 _
        have:k=0:=by omega
        rw [this]
       |succ i ih=>
        intro h1 h2
        by_cases hki:k=i+1
        ·rw [hki]
        ·have hoi:=List.getElem?_eq_getElem (show i<ops.toList.length by omega)
         rw [(e5 i _ (Nat.zero_le _) (by omega) hoi).2.tm t (fun e=>?_)]
         ·exact ih (by omega) (by omega)
         ·have hq:∀q,q<m→(fr E.pks ops.toList ops.toList)[q]?=ops.toList[q]?:=fun q hq=>jk fun a b ha hb=>(e5 a b (Nat.zero_le _) (by omega) hb).1
          exact lw h3 k i o _ t (by omega) (by rw [hq k (by omega)];exact ho) (by rw [hq i (by omega)];exact hoi) e hlk
      exact (keep m (by omega) (Nat.le_refl _)).symm
     |_=>rfl
    obtain ⟨x,hcase⟩:=hsl.operand hev
    have hroot:∀s,(s,dm (ar ops.toList []) (0+k) m)∈ps→(st k).root s≠none→S'.root s=(st k).root s:=by
     intro s hs hne
     have e1:S'.root s=(lt j).root s:=by show look s S'.roots=look s (lt j).roots;rw [hroots]
     have e2':∀q,m≤q→q≤j→(lt q).root s=(lt m).root s:=by
      intro q
      induction q with
      |zero=>
       intro h1 _
       have:m=0:=by omega
       rw [this]
      |succ q ih=>
       intro h1 h2
       by_cases hmq:m=q+1
       ·rw [hmq]
       ·rw [hkeep q _ (by omega) (List.getElem?_eq_getElem (show q<ops.toList.length by omega)) s (zn hs (by omega))]
        exact ih (by omega) (by omega)
     have e3':(st k).root s=S.root s:=by show look s (st k).roots=look s S.roots;rw [sroots k (by omega)]
     have e4':(lt m).root s=(st m).root s:=by
      rw [l1]
      refine ka _ _ fun p hp e=>?_
      obtain ⟨y,hy,hyd⟩:=hnwd m (Nat.le_refl _) p hp
      rw [e3'] at hne
      cases hr:S.root s with
      |none=>exact hne hr
      |some q=>exact ((ik hfresh y hy p.1 hyd).2 s q hr).1 e.symm
     have e5':(st m).root s=S.root s:=by show look s (st m).roots=look s S.roots;rw [sroots m (Nat.le_refl _)]
     rw [e1,e2' j hj (Nat.le_refl _),e4',e5',e3']
    rcases hcase with ⟨⟨T,hox⟩,hax⟩|⟨⟨c,h1,h2,h3⟩,h4⟩
    ·have hxo:x∈o.op.operands:=by rw [hox];simp [Op.operands]
     exact vt hox (he x hxo) (fun s off hso=>hroot s (by rw [hso] at hax;exact hax)) hst (fun s j sz i off e=>by rw [e] at hax;exact hax) (fun s i e=>by rw [e] at hax;exact hax)
    ·have hx:x∈o.op.operands:=by
      rw [h1]
      have:x∈c.args.toList:=by rw [h3];simp
      simp [Op.operands,Call.operands,h2]
      simpa using this
     exact yd h1 h2 h3 (he x hx) h4
  ·left
   intro j hj hjl
   omega
 have hDR:DR P aa E lv fz ops n S κ r st nws m lt:=
  ⟨hE,hlv,hn,hdst,h1,h2,h3,h4,hfresh,e3,e4,e2,fun k o hk ho=>e5 k o (Nat.zero_le _) hk ho,l1,l2,l3,calm,l4⟩
 refine wp_region_any hmix ?_
 have hS1:=hS.drawn (w.drawn+1)
 have hfalse:∀k,¬Dn (Array.replicate ops.size false) k:=by
  intro k hk
  unfold Dn at hk
  rw [Array.getD_eq_getD_getElem?,Array.getElem?_replicate] at hk
  split at hk<;>simp at hk
 refine hDR.any ops.size _ a _ g (by simp) (fun j hj=>absurd hj (hfalse j)) (.inl ⟨?_,fun i d q hd=>absurd hd (hfalse i),fun k hk=>absurd hk (hfalse k)⟩) ?_ fun S' w' g' a' q1 q2 q3=>hQ S' w' g' a' q1 q2 ((eS.drawn w g _).trans q3)
 ·-- nothing is done yet
  refine ⟨hS1.size,hS1.df,hS1.tb,fun t=>?_,fun s r hr=>?_⟩
  ·classical
   rw [cu]
   split
   ·exact .und _
   ·rename_i hu
    have hno:∀(k:Nat) (o:Oper),k<m→ops.toList[k]?=some o→o.dst≠some t:=fun k o hk ho e=>hu ⟨k,o,hk,ho,e,hfalse k⟩
    rw [hDR.st_keep m (Nat.zero_le _) (Nat.le_refl _) (fun k o _ hk ho=>hno k o hk ho),e3]
    exact hS1.tm t
  ·have hr':(st m).root s=some r:=hr
   rw [bz (hDR.st_roots m (Nat.le_refl _))] at hr'
   exact hS1.rt s r hr'
 ·have:∀l:List Nat,l.countP (fun k=>!(Array.replicate ops.size false).getD k false)≤l.length:=fun l=>List.countP_le_length
  have:=this (List.range ops.toList.length)
  simpa using this
end Go.Proofs.YtjkokaockhecnaaGreatDoorA

namespace Go.Proofs.YtjkokaockhecnaaGreatDoorA
open Go
section
variable {aa:aM}{n:Nat}{w w' w'':World}{g g' g'':Gh}{S S':St}{a:Act}{P:Program}
variable {E:dE}{lv:Lv E.sig}{fz:Nat→Bool}{ops:List Oper}
theorem wN {o:Oper}(h:cT ops o=true)(he:dZ o=false):(cJ o||gx o)=true:=by unfold cT at h;rw [he,Bool.or_false,Bool.and_eq_true] at h;exact h.1
theorem pS {o:Oper}(h:dZ o=true):∃T ps,o.op=.buildSlice T 0 ps∧ps=#[]:=by
 unfold dZ at h
 split at h
 ·rename_i T n ps ho
  rw [Bool.and_eq_true] at h
  have h1:=Nat.eq_of_beq_eq_true h.1
  subst h1
  exact ⟨T,ps,ho,by simpa using h.2⟩
 ·cases h
theorem vE {ty:TypeId→Option gA}{o:Oper}(h:dZ o=true):ca ty o S=some none:=by
 obtain ⟨T,ps,ho,_⟩:=pS h
 unfold ca;rw [ho]
theorem px {o:Oper}{av:AV}(h:dZ o=true)(hst:aC E lv o S q0=some (av,none)):False:=by
 obtain ⟨T,ps,ho,rfl⟩:=pS h
 have e:aC E lv o S q0=bY E.ty o S q0:=by unfold aC;rw [ho]
 rw [e] at hst
 unfold bY at hst
 rw [ho] at hst
 simp only at hst
 split at hst
 ·split at hst
  ·split at hst
   ·simp only [cond_eq_ite] at hst
    split at hst
    ·cases hst
    ·cases hst
   ·cases hst
  ·cases hst
 ·cases hst
theorem tA {T:TypeId→Option gA}(hE:∀t i,T t=some i→eX P aa t i){o:Oper}(he:dZ o=true)(ht:mm T o=true){d:Nat}:gv aa P w g a o d q0 (AV.emp,none):=by
 obtain ⟨t0,ps,ho,rfl⟩:=pS he
 unfold mm at ht
 rw [ho] at ht
 simp only at ht
 cases hi:T t0 with
 |none=>rw [hi] at ht;cases ht
 |some i=>
  rw [hi] at ht
  simp only at ht
  obtain ⟨t,ht⟩:=Option.isSome_iff_exists.1 ht
  obtain ⟨hu,hid,hok⟩:=(hE t0 i hi).elem t ht
  obtain ⟨inf,z,i1,i2,i3,i4,i5,_⟩:=hok.inf
  have hrun:(Instr.buildSlice t0 0 #[]).run P w=.ok (.slice (some ⟨w.heap.size,0,none⟩) 0 0) (w.alloc (.cells #[] i.elemT)):=by
   simp [Instr.buildSlice,run_underlying hu,sizeOf,typeInfo,i1,newRow,Instr.fill]
   rw [show Array.map (fun x=>(default:Value)) (Array.range 0)=#[] by simp]
  have hg:w.grownBy (w.alloc (.cells #[] i.elemT)) none:=World.grownBy_alloc _ _ _
  refine ⟨.emp,none,.slice (some ⟨w.heap.size,0,none⟩) 0 0,w.alloc (.cells #[] i.elemT),g,rfl,?_,⟨.of_below ⟨hg.os,hg.tape,hg.output,hg.size,fun b hb=>hg.block b hb (by simp)⟩ _,.refl _ _ _,fun _ _ _=>rfl⟩,.emp _,fun _=>⟨rfl,rfl⟩,fun q hq=>(by cases hq)⟩
  unfold execOp;rw [ho]
  exact aD (by simpa using hrun)
theorem km {d:Nat}:∀{l:List Oper},ew ops d l=false→∀(i k:Nat) (x y:Oper),i≤k→l[i]?=some x→l[k]?=some y→(∀i' x',i'<k→l[i']?=some x'→x'.dst≠some d)→d ∉ bG ops x
 |[],_,_,_,_,_,_,h,_,_=>by simp at h
 |p :: l,h,i,k,x,y,hik,hx,hy,huq=>by
  simp only [ew,Bool.or_eq_false_iff] at h
  obtain ⟨h1,h2⟩:=h
  cases i with
  |zero=>
   simp only [List.getElem?_cons_zero,Option.some.injEq] at hx
   subst hx
   intro hm;rw [fB.2 hm] at h1;cases h1
  |succ i=>
   cases k with
   |zero=>omega
   |succ k=>
    have hp:p.dst≠some d:=huq 0 p (by omega) rfl
    have h3:ew ops d l=false:=by
     cases hpd:p.dst with
     |none=>rw [hpd] at h2;exact h2
     |some e=>
      rw [hpd] at h2
      simp only at h2
      cases he:Nat.beq e d with
      |true=>exact absurd (by rw [hpd,Nat.eq_of_beq_eq_true he]) hp
      |false=>rw [he] at h2;exact h2
    exact km h3 i k x y (by omega) (by simpa using hx) (by simpa using hy) fun i' x' hi' hx'=>huq (i'+1) x' (by omega) (by simpa using hx')
theorem D6 {o:Oper}{d:Nat}(h:cT ops o=true)(hd:o.dst=some d):ew ops d ops=false:=by
 unfold cT at h
 rw [Bool.and_eq_true,hd] at h
 simpa using h.2
theorem nI {bs:List Nat}:∀{l:List Oper}{j:Nat},ql ops bs j l=true→∀k i x y,l[k]?=some y→i<j+k→ops[i]?=some x→
  (bs.getD (j+k) 0).testBit i=true∨(hO ops x y=true∧(cT ops x=true∨cT ops y=true))
 |[],_,_,_,_,_,_,h,_,_=>by simp at h
 |p :: l,j,h,k,i,x,y,hy,hij,hx=>by
  simp only [ql,Bool.and_eq_true] at h
  cases k with
  |zero=>
   simp only [List.getElem?_cons_zero,Option.some.injEq] at hy
   subst hy
   have hm:(x,i)∈(ops.take j).zipIdx:=List.mem_zipIdx_iff_getElem?.2 (by simp only [List.getElem?_take];rw [if_pos (by omega)];exact hx)
   have:=List.all_eq_true.1 h.1 _ hm
   simpa using this
  |succ k=>
   have:=nI h.2 k i x y (by simpa using hy) (by omega) hx
   rwa [show j+1+k=j+(k+1) by omega] at this
theorem uV {pks:FuncId→List PK}{o:Oper}(h:eH o=true):bV pks o=true:=by
 unfold eH at h
 unfold bV
 split at h
 ·rename_i ho;rw [ho]
 ·rename_i c ho
  rw [ho]
  simp only
  split at h
  ·rename_i hc;rw [hc]
  ·cases h
 ·cases h
theorem vh {pks:FuncId→List PK}{o:Oper}(h:gx o=true):bV pks o=true:=by
 unfold gx at h
 unfold bV
 split at h
 ·rename_i ho;rw [ho]
 ·rename_i ho;rw [ho]
 ·cases h
theorem x5 {o:Oper}{av:AV}{rt:Option ae}{S:St}(hv:gx o=true)(h:aC E lv o S q0=some (av,rt)):rt=none:=by
 unfold gx at hv
 split at hv
 ·rename_i T x i ho
  have e:aC E lv o S q0=bY E.ty o S q0:=by unfold aC;rw [ho]
  rw [e] at h
  unfold bY at h
  rw [ho] at h
  simp only at h
  split at h
  ·rw [fJ] at h
   obtain ⟨a,_,h⟩:=Option.bind_eq_some_iff.1 h
   simp [q0] at h;exact h.2.symm
  ·cases h
 ·rename_i T x lo hi ho
  have e:aC E lv o S q0=bY E.ty o S q0:=by unfold aC;rw [ho]
  rw [e] at h
  unfold bY at h
  rw [ho] at h
  simp only [b9,cond_eq_ite,q0] at h
  repeat' (first|(cases h;done)|(simp at h;exact h.2.symm)|split at h)
 ·cases hv
theorem vU {pks:FuncId→List PK}{o:Oper}(h:(cJ o||gx o)=true):bV pks o=true:=by
 unfold cJ at h
 rw [Bool.or_eq_true,Bool.or_eq_true] at h
 rcases h with (h|h)|h
 ·exact oo h
 ·exact uV h
 ·exact vh h
theorem j5 {o:Oper}(hq:bV E.pks o=true){av:AV}{rt:Option ae}{rs:List (Nat×ae)}{ks:List Nat}(h:step1 E lv o S w0=some (av,rt,rs,ks)):aC E lv o S q0=some (av,rt)∧rs=S.roots∧ks=[]:=by
 unfold step1 at h
 rw [hq] at h
 simp only [cond] at h
 rw [gk] at h
 cases hst:aC E lv o S q0 with
 |none=>rw [hst] at h;cases h
 |some p=>
  obtain ⟨a,r⟩:=p
  rw [hst] at h
  simp only [Option.bind_some,q2,w0,Option.some.injEq,Prod.mk.injEq] at h
  obtain ⟨rfl,rfl,rfl,rfl⟩:=h
  exact ⟨rfl,rfl,rfl⟩
theorem uN {o:Oper}(hc:(cJ o||gx o)=true){av:AV}{rt:Option ae}{rs:List (Nat×ae)}{ks:List Nat}(h:step1 E lv o S w0=some (av,rt,rs,ks)):aC E lv o S q0=some (av,none)∧rt=none∧rs=S.roots∧ks=[]:=by
 obtain ⟨h1,h2,h3⟩:=j5 (vU hc) h
 have:rt=none:=by
  rw [Bool.or_eq_true] at hc
  rcases hc with hc|hc
  ·exact rh hc h1
  ·exact x5 hc h1
 subst this
 exact ⟨h1,rfl,h2,h3⟩
theorem bk.excl {o:Oper}{S:St}(h:bk ops o S)(h':bk.not ops o S):False:=by
 obtain ⟨j,want,t,h1,h2,h3⟩:=h'
 obtain ⟨t',h4,h5⟩:=h j want h1
 rw [h2] at h4;cases h4
 rcases h3 with h3|h3<;>rw [h5] at h3
 ·cases want<;>simp at h3
 ·cases h3
def cr (S:St)(s off n:Nat):Option (Bool×Nat×List (Option ah)):=(S.root s).map fun r=>(r.box,r.cs.length,(List.range n).map fun k=>r.cs[off+k]?)
def ct (f:nc)(S S':St):Prop:=match f with|none=>S'.roots=S.roots|some none=>True|some (some (s,off,n))=>cr S' s off n=cr S s off n
theorem ct.refl (f:nc)(S:St):ct f S S:=by unfold ct;split<;>trivial
theorem ct.trans {f:nc}{S S' S'':St}(h:ct f S S')(h':ct f S' S''):ct f S S'':=by
 unfold ct at*
 split
 ·exact h'.trans h
 ·trivial
 ·exact h'.trans h
theorem ct.symm {f:nc}{S S':St}(h:ct f S S'):ct f S' S:=by
 unfold ct at*
 split
 ·exact h.symm
 ·trivial
 ·exact h.symm
theorem ct.same {f:nc}{S S':St}(h:S'.roots=S.roots):ct f S S':=by
 have hr:∀s,S'.root s=S.root s:=fun s=>by unfold St.root;rw [h]
 unfold ct
 split
 ·exact h
 ·trivial
 ·unfold cr;rw [hr]
theorem kF {S S':St}{s off n:Nat}(h:cr S' s off n=cr S s off n):(S.root s=none∧S'.root s=none)∨∃r r',S.root s=some r∧S'.root s=some r'∧r'.box=r.box∧r'.cs.length=r.cs.length∧∀k,k<n→r'.cs[off+k]?=r.cs[off+k]?:=by
 unfold cr at h
 cases hr:S.root s with
 |none=>rw [hr] at h;cases hr':S'.root s with
  |none=>exact .inl ⟨rfl,rfl⟩
  |some r'=>rw [hr'] at h;cases h
 |some r=>
  rw [hr] at h
  cases hr':S'.root s with
  |none=>rw [hr'] at h;cases h
  |some r'=>
   rw [hr'] at h
   simp only [Option.map_some,Option.some.injEq,Prod.mk.injEq] at h
   obtain ⟨h1,h2,h3⟩:=h
   refine .inr ⟨r,r',rfl,rfl,h1,h2,fun k hk=>?_⟩
   have:=congrArg (·[k]?) h3
   simp only [List.getElem?_map] at this
   rw [List.getElem?_range hk] at this
   simpa using this
theorem sM {S S':St}{s off n:Nat}{r r':ae}(h:S.root s=some r)(h':S'.root s=some r')(hb:r'.box=r.box)(hl:r'.cs.length=r.cs.length)(hc:∀k,k<n→r'.cs[off+k]?=r.cs[off+k]?):cr S' s off n=cr S s off n:=by
 unfold cr
 rw [h,h']
 simp only [Option.map_some,hb,hl]
 congr 3
 exact List.map_congr_left fun k hk=>hc k (List.mem_range.1 hk)
theorem x1 {r r':ae}{s off n:Nat}(hl:r'.cs.length=r.cs.length)(hc:∀k,k<n→r'.cs[off+k]?=r.cs[off+k]?):bD (a8 s 0 r'.cs) off n=bD (a8 s 0 r.cs) off n:=by
 unfold bD
 rw [bO,bO,hl]
 cases Nat.ble (off+n) r.cs.length
 ·rfl
 ·simp only [cond]
  congr 1
  apply List.ext_getElem?
  intro k
  simp only [List.getElem?_take,List.getElem?_drop,fA]
  by_cases hk:k<n
  ·rw [if_pos hk,if_pos hk,hc k hk]
  ·rw [if_neg hk,if_neg hk]
theorem sw {S S':St}{s j:Nat}(h:cr S' s j 1=cr S s j 1):S'.cell s j=S.cell s j:=by
 unfold St.cell
 rcases kF h with ⟨h1,h2⟩|⟨r,r',h1,h2,h3,h4,h5⟩
 ·rw [h1,h2]
 ·rw [h1,h2]
  have:=h5 0 (by omega)
  simpa using this
theorem xI {o:Oper}{S S':St}(hv:gx o=true)(he:∀x∈o.op.operands,S'.ev x=S.ev x)(hf:ct (ca E.ty o S) S S'):aC E lv o S' q0=aC E lv o S q0:=by
 unfold gx at hv
 split at hv
 ·rename_i T x i ho
  have e:∀S:St,aC E lv o S q0=bY E.ty o S q0:=fun S=>by unfold aC;rw [ho]
  have hx:S'.ev x=S.ev x:=he x (by rw [ho];simp [Op.operands])
  have hi:S'.ev i=S.ev i:=he i (by rw [ho];simp [Op.operands])
  unfold ca at hf
  rw [ho] at hf
  simp only at hf
  rw [e,e]
  unfold bY
  rw [ho]
  simp only [hx,hi]
  generalize S.ev x=b at*
  unfold cL
  cases b<;>first|rfl|(simp only [sw hf])
 ·rename_i T x lo hi ho
  have e:∀S:St,aC E lv o S q0=bY E.ty o S q0:=fun S=>by unfold aC;rw [ho]
  have hx:S'.ev x=S.ev x:=he x (by rw [ho];simp [Op.operands])
  have hlo:∀y,lo=some y→S'.ev y=S.ev y:=fun y e=>he y (by rw [ho];subst e;simp [Op.operands])
  have hhi:∀y,hi=some y→S'.ev y=S.ev y:=fun y e=>he y (by rw [ho];subst e;simp [Op.operands])
  unfold ca at hf
  rw [ho] at hf
  simp only at hf
  rw [e,e]
  unfold bY
  rw [ho]
  simp only [hx,gB hlo,gB hhi]
  generalize S.ev x=b at*
  cases b<;>first|rfl|(simp only [sw hf])
 ·cases hv
theorem xp {o:Oper}{S S':St}{av:AV}(hc:(cJ o||gx o)=true)(he:∀x∈o.op.operands,S'.ev x=S.ev x)(hf:ct (ca E.ty o S) S S')(hst:aC E lv o S q0=some (av,none)):aC E lv o S' q0=some (av,none):=by
 unfold cJ at hc
 rw [Bool.or_eq_true,Bool.or_eq_true] at hc
 rcases hc with (hb|hl)|hv
 ·rw [nO hb he];exact hst
 rotate_left
 ·exact (xI hv he hf).trans hst
 by_cases hn:ca E.ty o S=none
 ·rw [hn] at hf
  rw [gW hf he];exact hst
 rw [←hst]
 unfold eH at hl
 split at hl
 ·rename_i T x ho
  have e:∀S:St,aC E lv o S q0=bY E.ty o S q0:=fun S=>by unfold aC;rw [ho]
  have hx:S'.ev x=S.ev x:=he x (by rw [ho];simp [Op.operands])
  rw [e,e]
  unfold bY
  rw [ho]
  simp only
  rw [hx]
  unfold ca at hf hn
  rw [ho] at hf hn
  simp only at hf hn
  cases hT:E.ty T with
  |none=>rfl
  |some i=>
   rw [hT] at hf hn
   simp only
   unfold g8
   generalize S.ev x=b at*
   cases b<;>first|rfl|(exact absurd rfl hn)|skip
   rotate_left
   ·simp only at hf
    simp only [sw hf]
   rename_i s off
   simp only [Option.map_some] at hf
   rcases kF hf with ⟨h1,h2⟩|⟨r,r',h1,h2,h3,h4,h5⟩
   ·simp only [h1,h2]
   ·obtain ⟨bx,cs⟩:=r
    obtain ⟨bx',cs'⟩:=r'
    simp only at h3 h4 h5
    subst h3
    cases bx' with
    |false=>simp only [h1,h2]
    |true=>
     have:=x1 (r:=⟨true,cs⟩) (r':=⟨true,cs'⟩) (s:=s) h4 h5
     simp only at this
     simp only [h1,h2,this]
 ·rename_i c ho
  split at hl
  ·rename_i hcal
   have e:∀S:St,aC E lv o S q0=bY E.ty o S q0:=fun S=>by unfold aC;rw [ho];simp only [hcal]
   rw [e,e]
   unfold bY
   rw [ho]
   simp only [hcal]
   unfold ca at hf hn
   rw [ho] at hf hn
   simp only at hf hn
   split
   ·rename_i x T h1 h2
    rw [h1] at hf hn
    simp only at hf hn
    have hx:S'.ev x=S.ev x:=by
     refine he x ?_
     rw [ho]
     have:x∈c.args.toList:=by rw [h1];simp
     simp [Op.operands,Call.operands,hcal]
     simpa using this
    rw [hx]
    unfold qe
    cases hT:E.ty T with
    |none=>rfl
    |some i=>
     simp only
     generalize S.ev x=b at*
     cases b<;>first|rfl|skip
     rename_i s j
     simp only at hf
     have hcell:S'.cell s j=S.cell s j:=by
      unfold St.cell
      rcases kF hf with ⟨h1,h2⟩|⟨r,r',h1,h2,h3,h4,h5⟩
      ·rw [h1,h2]
      ·rw [h1,h2]
       have:=h5 0 (by omega)
       simpa using this
     simp only [hcell]
   ·rfl
  ·cases hl
 ·cases hl
theorem vO {d:Nat}(h:yK d S.roots=true){s:Nat}{r:ae}(hr:S.root s=some r):∀b,ah.av b∈r.cs→b.names d=false:=by
 intro b hb
 have:=List.all_eq_true.1 h _ (pu hr)
 have:=List.all_eq_true.1 this _ hb
 simpa using this
theorem eA {o:Oper}{av:AV}{rt:Option ae}{T:List (Nat×AV)}{rs:List (Nat×ae)}{s off n:Nat}{S1:St}(hS1:∀q,S1.root q=(St.gain fz (St.clearB ⟨T,rs⟩ []) o av rt).root q)
  (hv:cr ⟨T,rs⟩ s off n=cr S s off n) {l:List (Nat×Option (Nat×Nat))} (hl:cO o S rt=some l) (hf:io (some (some (s,off,n))) (some l)=true) (hn:rt≠none→∃d,o.dst=some d):cr S1 s off n=cr S s off n:=by
 rw [←hv]
 cases rt with
 |none=>
  have e:S1.root s=(⟨T,rs⟩:St).root s:=by
   rw [hS1 s];simp only [St.gain,b7];rfl
  unfold cr;rw [e]
 |some q=>
  obtain ⟨d,hd⟩:=hn (by simp)
  unfold cO at hl
  rw [hd] at hl
  simp only at hl
  cases hdf:yK d S.roots with
  |false=>rw [hdf] at hl;cases hl
  |true=>
   rw [hdf] at hl
   simp only [cond,Option.some.injEq] at hl
   subst hl
   simp only [io,List.all_cons,List.all_nil,Bool.or_false,Bool.and_true] at hf
   have hsd:s≠d:=fun e=>by subst e;simp at hf
   have e:S1.root s=((⟨T,rs⟩:St).root s).map fun r=>⟨r.box,killC d r.cs⟩:=by
    rw [hS1 s]
    simp only [St.gain,hd,fE,bQ,if_neg hsd,dh]
    rfl
   rcases kF hv with ⟨h1,h2⟩|⟨r,r',h1,h2,h3,h4,h5⟩
   ·unfold cr;rw [e,h2];rfl
   ·rw [h2] at e
    refine sM h2 e rfl (eN _ _) fun k hk=>?_
    simp only
    rw [cS,h5 k hk]
    cases hc:r.cs[off+k]? with
    |none=>rfl
    |some c=>
     cases c with
     |sl t f xs=>rfl
     |av b=>
      have:=vO hdf h1 b (List.mem_of_getElem? hc)
      simp only [Option.map_some,ah.kill,wP this]
theorem iQ {o:Oper}{rt:Option ae}{l:List (Nat×Option (Nat×Nat))}{p:Nat×Option (Nat×Nat)}{f:Nat×Nat×Nat}(h:(cO o S rt).map (p :: ·)=some l)(hf:io (some (some f)) (some l)=true):
  ∃m,cO o S rt=some m∧io (some (some f)) (some m)=true∧(p.1≠f.1∨∃q m,p.2=some (q,m)∧(q+m≤f.2.1∨f.2.1+f.2.2≤q)):=by
 cases hm:cO o S rt with
 |none=>rw [hm] at h;cases h
 |some m=>
  rw [hm] at h
  simp only [Option.map_some,Option.some.injEq] at h
  subst h
  obtain ⟨s,off,n⟩:=f
  simp only [io,List.all_cons,Bool.and_eq_true] at hf
  refine ⟨m,rfl,hf.2,?_⟩
  have h1:=hf.1
  rw [Bool.or_eq_true] at h1
  rcases h1 with h1|h1
  ·exact .inl (eE h1)
  ·obtain ⟨q1,q2⟩:=p
   cases q2 with
   |none=>cases h1
   |some qm=>
    obtain ⟨q,m'⟩:=qm
    simp only [Bool.or_eq_true] at h1
    exact .inr ⟨q,m',rfl,h1.imp Nat.le_of_ble_eq_true Nat.le_of_ble_eq_true⟩
theorem mr {s' j:Nat}{c:ah}{s off n:Nat}(h:s'≠s∨j+1≤off∨off+n≤j)(T:List (Nat×AV)):cr ⟨T,(S.setCell s' j c).roots⟩ s off n=cr S s off n:=by
 cases hr:S.root s' with
 |none=>
  have:S.setCell s' j c=S:=by unfold St.setCell;rw [hr]
  rw [this];rfl
 |some r=>
  have hroot:(⟨T,(S.setCell s' j c).roots⟩:St).root s=if s=s' then some ⟨r.box,r.cs.set j c⟩ else S.root s:=aZ hr s
  by_cases e:s=s'
  ·subst e
   rw [if_pos rfl] at hroot
   refine sM hr hroot rfl (by simp) fun k hk=>?_
   simp only
   have hne:j≠off+k:=by
    rcases h with h|h|h
    ·exact absurd rfl h
    ·omega
    ·omega
   rw [List.getElem?_set_ne hne]
  ·rw [if_neg e] at hroot
   unfold cr;rw [hroot]
theorem vB {bs:List Nat}(h:CL bs S.roots=true){s:Nat}{r:ae}(hr:S.root s=some r):∀b,ah.av b∈r.cs→∀k∈bs,b.namesB k=false:=by
 intro b hb k hk
 have:=List.all_eq_true.1 h _ (pu hr)
 have:=List.all_eq_true.1 this _ hb
 have:=List.all_eq_true.1 this k hk
 simpa using this
theorem xQ {o:Oper}{av:AV}{rt:Option ae}{rs:List (Nat×ae)}{ks:List Nat}(h:step1 E lv o S w0=some (av,rt,rs,ks))(hk:ks≠[]){s off n:Nat}(hf:io (some (some (s,off,n))) (oM E.pks o S rt)=true)
  {T:List (Nat×AV)}{S1:St} (hn:rt≠none→∃d,o.dst=some d) (hS1:∀q,S1.root q=(St.gain fz (St.clearB ⟨T,rs⟩ ks) o av rt).root q):cr S1 s off n=cr S s off n:=by
 have hq:bV E.pks o=false:=by
  cases hq:bV E.pks o with
  |false=>rfl
  |true=>exact absurd (j5 hq h).2.2 hk
 unfold oM at hf
 split at hf
 ·rename_i c ho
  split at hf
  ·rename_i f hcal
   simp only [cond_eq_ite] at hf
   split at hf
   ·rename_i hc
    rw [Bool.and_eq_true,Bool.and_eq_true] at hc
    obtain ⟨⟨c0,c1⟩,c2⟩:=hc
    have hcl:cj S c=some (f,evL S c.args.toList):=by unfold cj;rw [hcal];simp [St.ev]
    unfold step1 at h
    rw [hq] at h
    simp only [cond] at h
    unfold iy at h
    rw [ho] at h
    simp only [hcal,hcl] at h
    have key:∀{d},iE E.sig E.pks lv d S f (evL S c.args.toList) w0=some (av,rt,rs,ks)→cr S1 s off n=cr S s off n:=by
     intro d hcw
     obtain ⟨e1,e2⟩:=og c1 hcw
     rw [←e1] at hf c2 e2
     cases hm:(cO o S rt).map fun l=>ks.map (fun b=>(b,(none:Option (Nat×Nat))))++l with
     |none=>rw [hm] at hf;cases hf
     |some l=>
      rw [hm] at hf
      cases hl:cO o S rt with
      |none=>rw [hl] at hm;cases hm
      |some l'=>
       rw [hl] at hm
       simp only [Option.map_some,Option.some.injEq] at hm
       subst hm
       simp only [io,List.all_append,Bool.and_eq_true] at hf
       have hs:s ∉ ks:=by
        intro hs
        have:=List.all_eq_true.1 hf.1 (s,none) (List.mem_map.2 ⟨s,hs,rfl⟩)
        simp at this
       have hv:cr ⟨T,(St.clearB ⟨T,rs⟩ ks).roots⟩ s off n=cr S s off n:=by
        have e:(⟨T,(St.clearB ⟨T,rs⟩ ks).roots⟩:St).root s=S.root s:=by
         show (St.clearB ⟨T,rs⟩ ks).root s=S.root s
         rw [eB]
         show (look s rs).map _=_
         rw [e2 s hs]
         show (S.root s).map _=S.root s
         cases hr:S.root s with
         |none=>rfl
         |some r=>simp only [Option.map_some];rw [od fun a ha=>vB c2 hr a ha]
        unfold cr;rw [e]
       refine eA (fz:=fz) (av:=av) (fun q=>?_) hv hl (by simp only [io];exact hf.2) hn
       rw [hS1 q]
       cases rt with
       |none=>simp only [St.gain,b7];rfl
       |some r=>
        obtain ⟨d',hd⟩:=hn (by simp)
        simp only [St.gain,hd,fE,bQ,dh]
        rfl
    split at h
    ·rename_i e _;rw [e] at c0;cases c0
    ·rename_i e _;rw [e] at c0;cases c0
    ·exact key h
   ·cases hf
  ·cases hf
 ·cases hf
theorem ze {o:Oper}{av:AV}{rt:Option ae}{rs:List (Nat×ae)}{ks:List Nat}(h:step1 E lv o S w0=some (av,rt,rs,ks)){s off n:Nat}(hf:io (some (some (s,off,n))) (f9 E.pks o S rt ks)=true)
  {T:List (Nat×AV)}{S1:St} (hn:rt≠none→∃d,o.dst=some d) (hS1:∀q,S1.root q=(St.gain fz (St.clearB ⟨T,rs⟩ ks) o av rt).root q):cr S1 s off n=cr S s off n:=by
 unfold f9 at hf
 cases hk:ks.isEmpty with
 |false=>
  rw [hk] at hf
  exact xQ h (fun e=>by rw [e] at hk;cases hk) hf hn hS1
 |true=>
  rw [hk] at hf
  have:ks=[]:=by simpa using hk
  subst this
  simp only [Bool.not_true,cond] at hf
  cases hq:bV E.pks o with
  |true=>
   rw [hq] at hf
   simp only at hf
   obtain ⟨_,h2,_⟩:=j5 hq h
   subst h2
   cases hl:cO o S rt with
   |none=>rw [hl] at hf;cases hf
   |some l=>rw [hl] at hf;exact eA hS1 rfl hl hf hn
  |false=>
   rw [hq] at hf
   simp only at hf
   unfold step1 at h
   rw [hq] at h
   simp only [cond] at h
   unfold iy at h
   split at hf
   ·-- a store
    rename_i T' b x ho
    rw [ho] at h
    simp only at h
    split at h
    ·rename_i i hT
     cases hc:Nat.beq (S.ev x).leaves.length i.size&&dR (S.ev x).leaves with
     |false=>rw [hc] at h;cases h
     |true=>
      rw [hc] at h
      simp only [cond] at h
      unfold gf at h
      split at hf
      ·rename_i s' off' hb
       rw [hb] at h
       simp only at h
       split at h
       ·rename_i cs hroot
        cases hle:Nat.ble (off'+(S.ev x).leaves.length) cs.length with
        |false=>rw [hle] at h;cases h
        |true=>
         rw [hle] at h
         simp only [w0,Option.some.injEq,Prod.mk.injEq] at h
         obtain ⟨rfl,rfl,rfl,_⟩:=h
         have hle':=Nat.le_of_ble_eq_true hle
         cases hm:(cO o S none).map ((s',some (off',(S.ev x).leaves.length)) :: ·) with
         |none=>rw [hm] at hf;cases hf
         |some l=>
          rw [hm] at hf
          obtain ⟨m,h1,h2,h3⟩:=iQ hm hf
          refine eA hS1 ?_ h1 h2 hn
          have hlen:(bU (S.ev x).leaves).length=(S.ev x).leaves.length:=by simp [bU]
          have hroot':(⟨T,lC s' ⟨true,setRange cs off' (bU (S.ev x).leaves)⟩ S.roots⟩:St).root s=if s=s' then some ⟨true,setRange cs off' (bU (S.ev x).leaves)⟩ else S.root s:=cX _ _ _ _
          by_cases e:s=s'
          ·subst e
           rw [if_pos rfl] at hroot'
           refine sM hroot hroot' rfl (dn _ _ _ (by rw [hlen];exact hle')) fun k hk=>?_
           simp only
           rw [de _ _ _ (by rw [hlen];exact hle'),if_neg]
           rw [hlen]
           rcases h3 with h3|⟨q,m',h3,h4⟩
           ·exact absurd rfl h3
           ·cases h3;simp only at h4;omega
          ·rw [if_neg e] at hroot'
           unfold cr;rw [hroot']
       ·cases h
      ·rename_i s' j sz i' off' hb
       rw [hb] at h
       simp only at h
       split at h
       ·rename_i t xs hcell
        cases hsz:Nat.beq sz t.size with
        |false=>rw [hsz] at h;cases h
        |true=>
         rw [hsz] at h
         simp only [cond] at h
         obtain ⟨y,hy,h⟩:=Option.bind_eq_some_iff.1 h
         split at h
         ·rename_i z hz
          cases hle:Nat.ble (off'+(S.ev x).leaves.length) t.size with
          |false=>rw [hle] at h;cases h
          |true=>
           rw [hle] at h
           simp only [w0,Option.some.injEq,Prod.mk.injEq] at h
           obtain ⟨rfl,rfl,rfl,_⟩:=h
           cases hm:(cO o S none).map ((s',some (j,1)) :: ·) with
           |none=>rw [hm] at hf;cases hf
           |some l=>
            rw [hm] at hf
            obtain ⟨m,h1,h2,h3⟩:=iQ hm hf
            refine eA hS1 (mr ?_ T) h1 h2 hn
            rcases h3 with h3|⟨q,m',h3,h4⟩
            ·exact .inl h3
            ·cases h3;simp only at h4;omega
         ·cases h
       ·cases h
      ·cases hf
    ·cases h
   ·-- a call
    rename_i c ho
    rw [ho] at h
    simp only at h
    split at hf
    ·rename_i b rest hcal hargs
     simp only [hcal,hargs] at h
     split at h
     ·rename_i b' x T1 T2 hargs' _
      simp only [List.cons.injEq] at hargs'
      obtain ⟨rfl,rfl⟩:=hargs'
      split at h
      ·split at h
       ·split at h
        ·rename_i i _ t _ ys _
         split at hf
         ·rename_i hb
          rw [hb] at h
          simp only [cond_eq_ite] at h
          split at h
          ·simp only [w0,Option.some.injEq,Prod.mk.injEq] at h
           obtain ⟨rfl,rfl,rfl,_⟩:=h
           cases hl:cO o S (some _) with
           |none=>rw [hl] at hf;cases hf
           |some l=>rw [hl] at hf;exact eA hS1 rfl hl hf hn
          ·cases h
         ·rename_i hb
          rw [hb] at h
          simp only [cond_eq_ite] at h
          split at h
          ·split at h
           ·simp only [w0,Option.some.injEq,Prod.mk.injEq] at h
            obtain ⟨rfl,rfl,rfl,_⟩:=h
            exact eA hS1 rfl rfl hf hn
           ·simp only [w0,Option.some.injEq,Prod.mk.injEq] at h
            obtain ⟨rfl,rfl,rfl,_⟩:=h
            cases hl:cO o S (some _) with
            |none=>rw [hl] at hf;cases hf
            |some l=>rw [hl] at hf;exact eA hS1 rfl hl hf hn
          ·cases h
         ·rename_i s' j hb
          rw [hb] at h
          simp only at h
          split at h
          ·split at h
           ·simp only [cond_eq_ite] at h
            split at h
            ·simp only [w0,Option.some.injEq,Prod.mk.injEq] at h
             obtain ⟨rfl,rfl,rfl,_⟩:=h
             cases hm:(cO o S (some _)).map ((s',some (j,1)) :: ·) with
             |none=>rw [hm] at hf;cases hf
             |some l=>
              rw [hm] at hf
              obtain ⟨m,h1,h2,h3⟩:=iQ hm hf
              refine eA hS1 (mr ?_ T) h1 h2 hn
              rcases h3 with h3|⟨q,m',h3,h4⟩
              ·exact .inl h3
              ·cases h3;simp only at h4;omega
            ·cases h
           ·cases h
          ·cases h
         ·cases hf
        ·cases h
       ·cases h
      ·cases h
     ·cases h
    ·cases hf
   ·cases hf
end
end Go.Proofs.YtjkokaockhecnaaGreatDoorA

namespace Go.Proofs.YtjkokaockhecnaaGreatDoorA
open Go
section
variable {aa:aM}{n:Nat}{w w' w'':World}{g g' g'':Gh}{S S':St}{a:Act}{P:Program}
section
variable {E:dE}{lv:Lv E.sig}{fz:Nat→Bool}{ops:List Oper}
structure DG (E:dE)(lv:Lv E.sig)(ops:List Oper)(o:Oper)(S S1:St):Prop where
 tm:∀t,o.dst≠some t→S1.tmp t=S.tmp t
 rt:S1.roots=S.roots
 done:(bk ops o S∧∃av,aC E lv o S q0=some (av,none)∧∀d,o.dst=some d→S1.tmp d=av)∨(bk.not ops o S∧∀d,o.dst=some d→S1.tmp d=.tup [])∨(bk ops o S∧dZ o=true∧mm E.ty o=true∧∀d,o.dst=some d→S1.tmp d=.emp)
structure Ee (E:dE)(ops:List Oper)(d':Option Nat)(ks:List Nat)(e:EE)(o:Oper)(S:St)(av:AV):Prop where
 nm:∀d,d'=some d→av.names d=false
 nb:∀s∈ks,av.namesB s=false
 ft:io (ca E.ty o S) e=true
def sF (o:Oper)(rt:Option ae):Option Nat:=match rt with|some _=>o.dst|none=>none
theorem uc (h:pQ S S')(T:TypeId→Option gA)(o:Oper):ca T o S'=ca T o S:=by
 unfold ca;simp only [ky h]
theorem vm (h:pQ S S')(pks:FuncId→List PK)(o:Oper)(r:Option ae)(ks:List Nat):f9 pks o S' r ks=f9 pks o S r ks:=by
 have hL:∀l,evL S' l=evL S l:=fun l=>kB fun x _=>ky h x
 unfold f9 oM cO;simp only [ky h,hL,h.rt]
theorem sY {b:Nat}{av:AV}{f:nc}{h:yb}(hh:sn b av f h=true):b.testBit h.1=true∨((∀d,h.2.1=some d→av.names d=false)∧(∀s∈h.2.2.1,av.namesB s=false)∧io f h.2.2.2=true):=by
 unfold sn at hh
 rw [Bool.or_eq_true] at hh
 rcases hh with hh|hh
 ·exact .inl hh
 ·rw [Bool.and_eq_true,Bool.and_eq_true] at hh
  refine .inr ⟨fun d hd=>?_,fun s hs=>?_,hh.2⟩
  ·have:=hh.1.1
   rw [hd] at this
   simpa using this
  ·have:=List.all_eq_true.1 hh.1.2 s hs
   simpa using this
structure Gy (E:dE)(lv:Lv E.sig)(fz:Nat→Bool)(ops:List Oper)(i:Nat)(fs:List (Nat×nc))(hs:List yb)(st:Nat→St):Prop where
 c:∀k o,i≤k→ops[k]?=some o→cT ops o=true→DG E lv ops o (st k) (st (k+1))
 l:∀k o,i≤k→ops[k]?=some o→cT ops o=false→oQ E lv fz ops o (st k) (st (k+1))
 t1:∀f∈fs,∀k o av rt rs ks,i≤k→ops[k]?=some o→cT ops o=false→bk ops o (st k)→step1 E lv o (st k) w0=some (av,rt,rs,ks)→mM ops f.1 k∨io f.2 (f9 E.pks o (st k) rt ks)=true
 t2:∀h∈hs,∀k o av,i≤k→ops[k]?=some o→cT ops o=true→bk ops o (st k)→aC E lv o (st k) q0=some (av,none)→mM ops h.1 k∨Ee E ops h.2.1 h.2.2.1 h.2.2.2 o (st k) av
 t3:∀k o k' o' av rt rs ks,i≤k→k<k'→ops[k]?=some o→ops[k']?=some o'→cT ops o=true→cT ops o'=false→bk ops o (st k)→bk ops o' (st k')→step1 E lv o' (st k') w0=some (av,rt,rs,ks)→mM ops k k'∨io (ca E.ty o (st k)) (f9 E.pks o' (st k') rt ks)=true
 t4:∀k o k' o' av av' rt rs ks,i≤k'→k'<k→ops[k]?=some o→ops[k']?=some o'→cT ops o=true→cT ops o'=false→bk ops o (st k)→bk ops o' (st k')→aC E lv o (st k) q0=some (av,none)→
  step1 E lv o' (st k') w0=some (av',rt,rs,ks)→mM ops k' k∨Ee E ops (sF o' rt) ks (f9 E.pks o' (st k') rt ks) o (st k) av
theorem pW {R:Type}{κ:St→Option R}{r:R}:∀(rest:List Oper) (i:Nat) (S:St) (fs:List (Nat×nc)) (hs:List yb),ops.drop i=rest→i≤ops.length→jI E lv fz ops rest ((ar ops []).drop i) i fs hs S κ=some r→
  ∃st:Nat→St,st i=S∧κ (st ops.length)=some r∧Gy E lv fz ops i fs hs st
 |[],i,S,fs,hs,hi,hle,h=>by
  have hl:ops.length≤i:=by
   have:=congrArg List.length hi
   simp at this;omega
  have no:∀{k:Nat}{o:Oper},i≤k→ops[k]?=some o→False:=fun hk ho=>by have:=(List.getElem?_eq_some_iff.mp ho).1;omega
  refine ⟨fun _=>S,rfl,?_,⟨fun k o hk ho=>(no hk ho).elim,fun k o hk ho=>(no hk ho).elim,fun f _ k o av rt rs ks hk ho=>(no hk ho).elim,fun f _ k o av hk ho=>(no hk ho).elim,fun k o k' o' av rt rs ks hk _ ho=>(no hk ho).elim,fun k o k' o' av av' rt rs ks hk hkk _ ho=>(no hk ho).elim⟩⟩
  cases hb:(ar ops []).drop i<;>rw [hb] at h<;>exact h
 |o :: rest,i,S,fs,hs,hi,hle,h=>by
  have hoi:ops[i]?=some o:=by
   have:=congrArg List.head? hi
   simpa [List.head?_drop] using this
  have hlt:i<ops.length:=(List.getElem?_eq_some_iff.mp hoi).1
  have hdr:ops.drop (i+1)=rest:=by
   have:=congrArg List.tail hi
   simpa [List.tail_drop] using this
  have hbl:i<(ar ops []).length:=by rw [cQ];simpa using hlt
  have hb:(ar ops []).drop i=(ar ops []).getD i 0 :: (ar ops []).drop (i+1):=by
   rw [List.drop_eq_getElem_cons hbl]
   congr 1
   rw [List.getD_eq_getElem?_getD,List.getElem?_eq_getElem hbl];rfl
  rw [hb] at h
  simp only [jI] at h
  -- one step, and the rest
  have fin:∀(S1:St) (fs1:List (Nat×nc)) (hs1:List yb),(∀f∈fs,f∈fs1)→(∀q∈hs,q∈hs1)→
    (cT ops o=true→DG E lv ops o S S1∧(bk ops o S→(i,ca E.ty o S)∈fs1)∧∀av,bk ops o S→aC E lv o S q0=some (av,none)→∀q∈hs,mM ops q.1 i∨Ee E ops q.2.1 q.2.2.1 q.2.2.2 o S av)→
    (cT ops o=false→oQ E lv fz ops o S S1∧∀av rt rs ks,bk ops o S→step1 E lv o S w0=some (av,rt,rs,ks)→(i,sF o rt,ks,f9 E.pks o S rt ks)∈hs1∧∀f∈fs,mM ops f.1 i∨io f.2 (f9 E.pks o S rt ks)=true)→
    jI E lv fz ops rest ((ar ops []).drop (i+1)) (i+1) fs1 hs1 S1 κ=some r→∃st:Nat→St,st i=S∧κ (st ops.length)=some r∧Gy E lv fz ops i fs hs st:=by
   intro S1 fs1 hs1 hf1 hh1 hC hL hrun
   obtain ⟨st,h1,h2,h3⟩:=pW rest (i+1) S1 fs1 hs1 hdr (by omega) hrun
   refine ⟨fun k=>if k=i then S else st k,if_pos rfl,?_,?_⟩
   ·have e:¬(ops.length=i):=by omega
    simp only [if_neg e];exact h2
   have si:(fun k=>if k=i then S else st k) i=S:=if_pos rfl
   have s1:(fun k=>if k=i then S else st k) (i+1)=S1:=by
    have e:¬(i+1=i):=by omega
    simp only [if_neg e];exact h1
   have sk:∀k,i+1≤k→(fun k=>if k=i then S else st k) k=st k:=fun k hk=>by
    have e:¬(k=i):=by omega
    simp only [if_neg e]
   generalize (fun k=>if k=i then S else st k)=st' at si s1 sk
   have ci:∀{k:Nat},i≤k→k=i∨i+1≤k:=fun h=>by omega
   refine ⟨fun k x hk hx hc=>?_,fun k x hk hx hc=>?_,fun f hf k x av rt rs ks hk hx hc hw hst=>?_,fun q hq k x av hk hx hc hw hst=>?_,fun k x k' x' av rt rs ks hk hkk hx hx' hc hc' hw hw' hst=>?_,fun k x k' x' av av' rt rs ks hk hkk hx hx' hc hc' hw hw' hst hst'=>?_⟩
   ·rcases ci hk with rfl|hk
    ·rw [hoi] at hx;cases hx;rw [si,s1];exact (hC hc).1
    ·rw [sk k hk,sk (k+1) (by omega)];exact h3.c k x hk hx hc
   ·rcases ci hk with rfl|hk
    ·rw [hoi] at hx;cases hx;rw [si,s1];exact (hL hc).1
    ·rw [sk k hk,sk (k+1) (by omega)];exact h3.l k x hk hx hc
   ·rcases ci hk with rfl|hk
    ·rw [hoi] at hx;cases hx;rw [si] at hw hst ⊢;exact ((hL hc).2 _ _ _ _ hw hst).2 f hf
    ·rw [sk k hk] at hw hst ⊢;exact h3.t1 f (hf1 f hf) k x av rt rs ks hk hx hc hw hst
   ·rcases ci hk with rfl|hk
    ·rw [hoi] at hx;cases hx;rw [si] at hw hst ⊢;exact (hC hc).2.2 av hw hst q hq
    ·rw [sk k hk] at hw hst ⊢;exact h3.t2 q (hh1 q hq) k x av hk hx hc hw hst
   ·have hk':i+1≤k':=by omega
    rw [sk k' hk'] at hw' hst ⊢
    rcases ci hk with rfl|hk
    ·rw [hoi] at hx;cases hx
     rw [si] at hw ⊢
     exact h3.t1 _ ((hC hc).2.1 hw) k' x' av rt rs ks hk' hx' hc' hw' hst
    ·rw [sk k hk] at hw ⊢
     exact h3.t3 k x k' x' av rt rs ks hk hkk hx hx' hc hc' hw hw' hst
   ·have hk':i+1≤k:=by omega
    rw [sk k hk'] at hw hst ⊢
    rcases ci hk with rfl|hk
    ·rw [hoi] at hx';cases hx'
     rw [si] at hw' hst' ⊢
     exact h3.t2 _ ((hL hc').2 _ _ _ _ hw' hst').1 k x av hk' hx hc hw hst
    ·rw [sk k' hk] at hw' hst' ⊢
     exact h3.t4 k x k' x' av av' rt rs ks hk hkk hx hx' hc hc' hw hw' hst hst'
  obtain ⟨S',hsame,hcase⟩:=fY h
  have tput:∀(av:AV),∀t,o.dst≠some t→(S'.putO o.dst av).tmp t=S.tmp t:=fun av t ht=>by rw [cz,if_neg ht,hsame.tm]
  have dput:∀(av:AV),∀d,o.dst=some d→(S'.putO o.dst av).tmp d=av:=fun av d hd=>by rw [cz,if_pos hd]
  have rput:∀(av:AV),(S'.putO o.dst av).roots=S.roots:=fun av=>by cases o.dst<;>exact hsame.rt
  rcases hcase with ⟨h1,hw⟩|⟨h1,hw⟩
  ·cases hemp:dZ o with
   |true=>
    rw [hemp] at h1
    simp only [cond] at h1
    cases hce:cT ops o&&mm E.ty o with
    |false=>rw [hce] at h1;cases h1
    |true=>
     rw [hce] at h1
     rw [Bool.and_eq_true] at hce
     refine fin _ _ _ (fun f hf=>List.mem_cons_of_mem _ hf) (fun q hq=>hq) (fun _=>⟨⟨tput .emp,rput .emp,.inr (.inr ⟨hw,hemp,hce.2,dput .emp⟩)⟩,fun _=>?_,fun av' _ hst' q hq=>(px hemp hst').elim⟩) (fun hc'=>by rw [hce.1] at hc';cases hc') h1
     rw [vE hemp];exact List.mem_cons_self
   |false=>
   rw [hemp] at h1
   simp only [cond] at h1
   rw [o4] at h1
   have e1:step1 E lv o S' w0=step1 E lv o S w0:=gU hsame.rt fun x _=>ky hsame x
   rw [e1] at h1
   cases hst:step1 E lv o S w0 with
   |none=>rw [hst] at h1;cases h1
   |some p=>
    obtain ⟨av,rt,rs,ks⟩:=p
    rw [hst] at h1
    simp only [Option.bind_some,w4,uc hsame,vm hsame] at h1
    cases hc:cT ops o with
    |true=>
     rw [hc] at h1
     simp only [cond] at h1
     cases hh:hs.all (sn ((ar ops []).getD i 0) av (ca E.ty o S)) with
     |false=>rw [hh] at h1;cases h1
     |true=>
      rw [hh] at h1
      simp only at h1
      obtain ⟨q1,q2,q3,q4⟩:=uN (wN hc hemp) hst
      refine fin _ _ _ (fun f hf=>List.mem_cons_of_mem _ hf) (fun q hq=>hq) (fun _=>⟨⟨tput av,rput av,.inl ⟨hw,av,q1,dput av⟩⟩,fun _=>List.mem_cons_self,fun av' _ hst' q hq=>?_⟩) (fun hc'=>by rw [hc] at hc';cases hc') h1
      rw [q1] at hst'
      cases hst'
      rcases sY (List.all_eq_true.1 hh q hq) with h|⟨h1,h2,h3⟩
      ·exact .inl h
      ·exact .inr ⟨h1,h2,h3⟩
    |false=>
     rw [hc] at h1
     simp only [cond] at h1
     cases hc0:nu S' o rt ks&&fs.all (fun f=>((ar ops []).getD i 0).testBit f.1||io f.2 (f9 E.pks o S rt ks)) with
     |false=>rw [hc0] at h1;cases h1
     |true=>
      rw [hc0] at h1
      rw [Bool.and_eq_true] at hc0
      obtain ⟨hcl,hfs⟩:=hc0
      simp only at h1
      unfold nu at hcl
      rw [Bool.and_eq_true] at hcl
      have n1:rt≠none→∃d,o.dst=some d∧∀t,(S'.tmp t).names d=false:=by
       intro hrt
       cases rt with
       |none=>exact absurd rfl hrt
       |some q=>
        have hc1:=hcl.1
        cases hd:o.dst with
        |none=>rw [hd] at hc1;cases hc1
        |some d=>
         rw [hd] at hc1
         refine ⟨d,rfl,fun t=>?_⟩
         have:=iC (p:=fun a=>!a.names d) hc1 (by simp [AV.names]) t
         simpa using this
      have n2:∀s∈ks,∀t,(S'.tmp t).namesB s=false:=by
       intro s hs t
       have:=iC (p:=fun a=>!a.namesB s) (List.all_eq_true.1 hcl.2 s hs) (by simp [AV.namesB]) t
       simpa using this
      have gt:=mD (fz:=fz) (av:=av) (rs:=rs) n1 n2
      refine fin _ _ _ (fun f hf=>hf) (fun q hq=>List.mem_cons_of_mem _ hq) (fun hc'=>by rw [hc] at hc';cases hc') (fun _=>⟨⟨fun t ht=>?_,.inl ⟨hw,av,rt,rs,ks,hst,fun d hd=>?_,fun hrt=>?_,fun s hs t=>?_,fun s=>?_⟩⟩,fun av' rt' rs' ks' _ hst'=>?_⟩) h1
      ·rw [gt,if_neg ht,hsame.tm]
      ·rw [gt,if_pos hd]
      ·obtain ⟨d,h1,h2⟩:=n1 hrt
       exact ⟨d,h1,fun t=>by rw [←hsame.tm];exact h2 t⟩
      ·rw [←hsame.tm];exact n2 s hs t
      ·exact kz s
      ·rw [hst] at hst'
       cases hst'
       refine ⟨List.mem_cons_self,fun f hf=>?_⟩
       have:=List.all_eq_true.1 hfs f hf
       rw [Bool.or_eq_true] at this
       exact this
  ·refine fin _ _ _ (fun f hf=>hf) (fun q hq=>hq) (fun _=>⟨⟨tput _,rput _,.inr (.inl ⟨hw,dput _⟩)⟩,fun hw'=>(hw'.excl hw).elim,fun av hw'=>(hw'.excl hw).elim⟩) (fun _=>⟨⟨tput _,.inr ⟨hw,dput _,rput _⟩⟩,fun av rt rs ks hw'=>(hw'.excl hw).elim⟩) h1
end
open Classical in
noncomputable def dU (U F:Nat→Prop)(T S:St):St:=⟨(T.tmps++S.tmps).map fun p=>(p.1,if U p.1 then .und else if F p.1 then T.tmp p.1 else S.tmp p.1),S.roots⟩
open Classical in
theorem ek (U F:Nat→Prop)(T S:St)(t:Nat):(dU U F T S).tmp t=if U t then .und else if F t then T.tmp t else S.tmp t:=by
 have key:∀(v:Nat→AV) (l:List (Nat×AV)),look t (l.map fun p=>(p.1,v p.1))=(look t l).map fun _=>v t:=by
  intro v l
  induction l with
  |nil=>rfl
  |cons p l ih=>
   obtain ⟨i,b⟩:=p
   simp only [List.map_cons,look]
   cases e:Nat.beq i t with
   |true=>rw [←Nat.eq_of_beq_eq_true e];rfl
   |false=>simpa using ih
 have app:∀(l m:List (Nat×AV)),look t (l++m)=none→look t l=none∧look t m=none:=by
  intro l m
  induction l with
  |nil=>intro h;exact ⟨rfl,h⟩
  |cons p l ih=>
   obtain ⟨i,b⟩:=p
   intro h
   simp only [List.cons_append,look] at h ⊢
   cases e:Nat.beq i t with
   |true=>rw [e] at h;cases h
   |false=>rw [e] at h;exact ih h
 have h0:(dU U F T S).tmp t=match (look t (T.tmps++S.tmps)).map fun _=>(if U t then AV.und else if F t then T.tmp t else S.tmp t) with|some a=>a|none=>.und:=by
  have:=key (fun t=>if U t then AV.und else if F t then T.tmp t else S.tmp t) (T.tmps++S.tmps)
  unfold dU
  rw [St.tmp]
  simp only
  rw [this]
  rfl
 rw [h0]
 cases hl:look t (T.tmps++S.tmps) with
 |some b=>rfl
 |none=>
  obtain ⟨h1,h2⟩:=app _ _ hl
  have e1:T.tmp t=.und:=by unfold St.tmp;rw [h1]
  have e2:S.tmp t=.und:=by unfold St.tmp;rw [h2]
  simp only [Option.map_none]
  rw [e1,e2]
  split
  ·rfl
  ·split<;>rfl
structure TR {R:Type}(P:Program)(aa:aM)(E:dE)(lv:Lv E.sig)(fz:Nat→Bool)(arr:Array Oper)(n:Nat)(κ:St→Option R)(r:R)(st:Nat→St):Prop where
 hE:rz P aa E
 hlv:ir P aa E.sig lv
 hn:n≤1000
 hdst:gd n arr.toList=true
 he:ja 0 arr.toList=true
 hd:jS arr.toList=true
 hp:ql arr.toList (ar arr.toList []) 0 arr.toList=true
 tr:Gy E lv fz arr.toList 0 [] [] st
 fin:κ (st arr.toList.length)=some r
section
variable {R:Type}{E:dE}{lv:Lv E.sig}{fz:Nat→Bool}{arr:Array Oper}{κ:St→Option R}{r:R}{st:Nat→St}
theorem TR.uniq (h:TR P aa E lv fz arr n κ r st){i j:Nat}{x y:Oper}{d:Nat}(hx:arr.toList[i]?=some x)(hy:arr.toList[j]?=some y)(hxd:x.dst=some d)(hyd:y.dst=some d):i=j:=
 oj h.hd i j x y d hx hy hxd hyd
theorem TR.dlt (h:TR P aa E lv fz arr n κ r st){i:Nat}{x:Oper}(hx:arr.toList[i]?=some x):∀d,x.dst=some d→d<n:=fun _ hd=>lA h.hdst (List.mem_of_getElem? hx) hd
theorem TR.pair (h:TR P aa E lv fz arr n κ r st){i j:Nat}{x y:Oper}(hx:arr.toList[i]?=some x)(hy:arr.toList[j]?=some y)(hij:i<j):mM arr.toList i j∨(hO arr.toList x y=true∧(cT arr.toList x=true∨cT arr.toList y=true)):=by
 have:=nI h.hp j i x y hy (by omega) hx
 rwa [Nat.zero_add] at this
theorem TR.tm (h:TR P aa E lv fz arr n κ r st){k:Nat}{o:Oper}(ho:arr.toList[k]?=some o){t:Nat}(ht:o.dst≠some t):(st (k+1)).tmp t=(st k).tmp t:=by
 cases hc:cT arr.toList o with
 |true=>exact (h.tr.c k o (Nat.zero_le _) ho hc).tm t ht
 |false=>exact (h.tr.l k o (Nat.zero_le _) ho hc).tm t ht
theorem TR.keep (h:TR P aa E lv fz arr n κ r st){j t:Nat}:∀k,j≤k→k≤arr.toList.length→(∀i o,j≤i→i<k→arr.toList[i]?=some o→o.dst≠some t)→(st k).tmp t=(st j).tmp t
 |0,hj,_,_=>by
  have:j=0:=by omega
  rw [this]
 |k+1,hj,hk,hno=>by
  by_cases e:j=k+1
  ·rw [e]
  ·have ho:=List.getElem?_eq_getElem (show k<arr.toList.length by omega)
   rw [h.tm ho (hno k _ (by omega) (by omega) ho)]
   exact h.keep k (by omega) (by omega) fun i o h1 h2=>hno i o h1 (by omega)
theorem TR.val (h:TR P aa E lv fz arr n κ r st){i k:Nat}{x:Oper}{d:Nat}(hx:arr.toList[i]?=some x)(hd:x.dst=some d)(hik:i<k)(hk:k≤arr.toList.length):(st k).tmp d=(st (i+1)).tmp d:=
 h.keep k (by omega) hk fun j o h1 h2 ho e=>by have:=h.uniq hx ho hd e;omega
theorem TR.roots (h:TR P aa E lv fz arr n κ r st){j:Nat}:∀k,j≤k→k≤arr.toList.length→(∀(i:Nat) (o:Oper),j≤i→i<k→arr.toList[i]?=some o→cT arr.toList o=true)→(st k).roots=(st j).roots
 |0,hj,_,_=>by
  have:j=0:=by omega
  rw [this]
 |k+1,hj,hk,hno=>by
  by_cases e:j=k+1
  ·rw [e]
  ·have ho:=List.getElem?_eq_getElem (show k<arr.toList.length by omega)
   rw [(h.tr.c k _ (Nat.zero_le _) ho (hno k _ (by omega) (by omega) ho)).rt]
   exact h.roots k (by omega) (by omega) fun i o h1 h2=>hno i o h1 (by omega)
def FT (arr:Array Oper)(t:Nat):Prop:=∃(k:Nat) (o:Oper),arr.toList[k]?=some o∧cT arr.toList o=true∧o.dst=some t
def UT (arr:Array Oper)(D:Nat→Prop)(t:Nat):Prop:=∃(k:Nat) (o:Oper),arr.toList[k]?=some o∧cT arr.toList o=true∧o.dst=some t∧¬D k
structure PT (aa:aM)(arr:Array Oper)(n:Nat)(st:Nat→St)(D:Nat→Prop)(j:Nat)(w:World)(g:Gh)(a:Act):Prop where
 jn:j≤arr.toList.length
 rel:aV aa n w g (dU (UT arr D) (FT arr) (st arr.toList.length) (st j)) a
 late:∀(k:Nat) (o:Oper),arr.toList[k]?=some o→cT arr.toList o=false→(D k↔k<j)
theorem TR.war (h:TR P aa E lv fz arr n κ r st){i k:Nat}{o x:Oper}{t:Nat}(hik:i≤k)(ho:arr.toList[i]?=some o)(hx:arr.toList[k]?=some x)(hc:cT arr.toList x=true)(hd:x.dst=some t):t ∉ bG arr.toList o:=
 km (D6 hc hd) i k o x hik ho hx fun i' x' hi' hx' e=>by have:=h.uniq hx' hx e hd;omega
theorem TR.look (h:TR P aa E lv fz arr n κ r st){D:Nat→Prop}{j i:Nat}{o:Oper}(hc:fK arr.toList D)(ho:arr.toList[i]?=some o)(hnd:¬D i)(hr:∀k,mM arr.toList k i→D k)(hP:PT aa arr n st D j w g a){t:Nat}(ht:t∈bG arr.toList o):
  (dU (UT arr D) (FT arr) (st arr.toList.length) (st j)).tmp t=(st i).tmp t:=by
 have hil:=(List.getElem?_eq_some_iff.mp ho).1
 classical
 rw [ek]
 by_cases hF:FT arr t
 ·obtain ⟨k,x,hx,hcx,hxd⟩:=hF
  rcases Nat.lt_or_ge k i with hki|hki
  ·rcases h.pair hx ho hki with hb|⟨hb,_⟩
   ·have hDk:=hr k hb
    rw [if_neg,if_pos ⟨k,x,hx,hcx,hxd⟩,h.val hx hxd (by omega) (Nat.le_refl _),h.val hx hxd hki (by omega)]
    rintro ⟨k',x',hx',_,hxd',hn⟩
    have:=h.uniq hx hx' hxd hxd'
    subst this;exact hn hDk
   ·exact absurd ht ((eR hb).1 t hxd)
  ·exact absurd ht (h.war hki ho hx hcx hxd)
 ·have hU:¬UT arr D t:=fun ⟨k,x,h1,h2,h3,_⟩=>hF ⟨k,x,h1,h2,h3⟩
  rw [if_neg hU,if_neg hF]
  rcases Nat.le_total i j with hij|hji
  ·refine h.keep j hij hP.jn fun k x hik hkj hx hxd=>?_
   cases hcx:cT arr.toList x with
   |true=>exact hF ⟨k,x,hx,hcx,hxd⟩
   |false=>
    have hDk:=(hP.late k x hx hcx).2 hkj
    by_cases e:k=i
    ·subst e;exact hnd hDk
    ·rcases h.pair ho hx (by omega) with hb|⟨hb,_⟩
     ·exact hnd (hc k hDk i hb)
     ·exact (eR hb).2 t hxd ht
  ·refine (h.keep i hji (by omega) fun k x hjk hki hx hxd=>?_).symm
   cases hcx:cT arr.toList x with
   |true=>exact hF ⟨k,x,hx,hcx,hxd⟩
   |false=>
    rcases h.pair hx ho hki with hb|⟨hb,_⟩
    ·have:=(hP.late k x hx hcx).1 (hr k hb);omega
    ·exact (eR hb).1 t hxd ht
theorem UT.with (h:TR P aa E lv fz arr n κ r st){D:Nat→Prop}{i:Nat}{o:Oper}(ho:arr.toList[i]?=some o){t:Nat}(ht:o.dst≠some t):UT arr (eZ D i) t↔UT arr D t:=by
 constructor
 ·rintro ⟨k,x,h1,h2,h3,h4⟩
  exact ⟨k,x,h1,h2,h3,fun hd=>h4 (.inr hd)⟩
 ·rintro ⟨k,x,h1,h2,h3,h4⟩
  refine ⟨k,x,h1,h2,h3,?_⟩
  rintro (rfl|hd)
  ·rw [ho] at h1;cases h1;exact ht h3
  ·exact h4 hd
theorem TR.foot (h:TR P aa E lv fz arr n κ r st){D:Nat→Prop}{j i:Nat}{o:Oper}(hc:fK arr.toList D)(ho:arr.toList[i]?=some o)(hco:cT arr.toList o=true)(hw:bk arr.toList o (st i)){av:AV}(hst:aC E lv o (st i) q0=some (av,none))(hnd:¬D i)(hr:∀k,mM arr.toList k i→D k)
  (hj:j≤arr.toList.length) (hlate:∀(k:Nat) (o:Oper),arr.toList[k]?=some o→cT arr.toList o=false→(D k↔k<j)):ct (ca E.ty o (st i)) (st i) (st j):=by
 have hil:=(List.getElem?_eq_some_iff.mp ho).1
 -- one step
 have one:∀k x,arr.toList[k]?=some x→((i≤k∧k<j)∨(j≤k∧k<i))→ct (ca E.ty o (st i)) (st k) (st (k+1)):=by
  intro k x hx hk
  cases hcx:cT arr.toList x with
  |true=>exact .same (h.tr.c k x (Nat.zero_le _) hx hcx).rt
  |false=>
   have hl:=h.tr.l k x (Nat.zero_le _) hx hcx
   rcases hl.done with ⟨hwx,av',rt,rs,ks,hstx,_,n1,_,hroot⟩|⟨_,_,hroot⟩
   ·have hfit:io (ca E.ty o (st i)) (f9 E.pks x (st k) rt ks)=true:=by
     rcases hk with ⟨h1,h2⟩|⟨h1,h2⟩
     ·have hDk:=(hlate k x hx hcx).2 h2
      have hne:k≠i:=fun e=>hnd (e ▸ hDk)
      rcases h.tr.t3 i o k x av' rt rs ks (Nat.zero_le _) (by omega) ho hx hco hcx hw hwx hstx with hb|hb
      ·exact absurd (hc k hDk i hb) hnd
      ·exact hb
     ·have hDk:¬D k:=fun hd=>by have:=(hlate k x hx hcx).1 hd;omega
      rcases h.tr.t4 i o k x av av' rt rs ks (Nat.zero_le _) h2 ho hx hco hcx hw hwx hst hstx with hb|hb
      ·exact absurd (hr k hb) hDk
      ·exact hb.ft
    have e:=fun s off n' (hf:io (some (some (s,off,n'))) (f9 E.pks x (st k) rt ks)=true)=>ze (fz:=fz) (T:=(st k).tmps) (S1:=st (k+1)) hstx hf (fun hrt=>let ⟨d,h1,_⟩:=n1 hrt;⟨d,h1⟩) hroot
    generalize ca E.ty o (st i)=f at hfit
    unfold ct
    split
    ·cases hfit
    ·trivial
    ·exact e _ _ _ hfit
   ·exact .same hroot
 have chain:∀lo d,lo+d≤arr.toList.length→(∀k,lo≤k→k<lo+d→(i≤k∧k<j)∨(j≤k∧k<i))→ct (ca E.ty o (st i)) (st lo) (st (lo+d)):=by
  intro lo d
  induction d with
  |zero=>intro _ _;exact .refl _ _
  |succ d ih=>
   intro hl hk
   have hx:=List.getElem?_eq_getElem (show lo+d<arr.toList.length by omega)
   exact (ih (by omega) fun k h1 h2=>hk k h1 (by omega)).trans (one (lo+d) _ hx (hk _ (by omega) (by omega)))
 rcases Nat.le_total i j with hij|hji
 ·have:=chain i (j - i) (by omega) fun k h1 h2=>.inl ⟨h1,by omega⟩
  rwa [show i+(j - i)=j by omega] at this
 ·have:=chain j (i - j) (by omega) fun k h1 h2=>.inr ⟨h1,by omega⟩
  rw [show j+(i - j)=i by omega] at this
  exact this.symm
theorem TR.stepC (h:TR P aa E lv fz arr n κ r st){D:Nat→Prop}{j i:Nat}{o:Oper}(hc:fK arr.toList D)(ho:arr.toList[i]?=some o)(hco:cT arr.toList o=true)(hnd:¬D i)(hr:∀k,mM arr.toList k i→D k)(hP:PT aa arr n st D j w g a)
  {Q:Exit→Act→World→Prop}{K:Act→World→Prop} (hK:∀w' g' a',eS w g w' g'→PT aa arr n st (eZ D i) j w' g' a'→K a' w'):wpOp P arr Q i K a w:=by
 have hil:=(List.getElem?_eq_some_iff.mp ho).1
 have hdn:=h.dlt ho
 have hlook:∀t∈bG arr.toList o,(dU (UT arr D) (FT arr) (st arr.toList.length) (st j)).tmp t=(st i).tmp t:=fun t ht=>h.look hc ho hnd hr hP ht
 have hlate:∀k x,arr.toList[k]?=some x→cT arr.toList x=false→(eZ D i k↔k<j):=by
  intro k x hx hcx
  rw [←hP.late k x hx hcx]
  constructor
  ·rintro (rfl|hd)
   ·rw [ho] at hx;cases hx;rw [hco] at hcx;cases hcx
   ·exact hd
  ·exact .inr
 have htm:∀(av:AV),(∀d,o.dst=some d→(st (i+1)).tmp d=av)→∀t,(dU (UT arr (eZ D i)) (FT arr) (st arr.toList.length) (st j)).tmp t=if o.dst=some t then av else (dU (UT arr D) (FT arr) (st arr.toList.length) (st j)).tmp t:=by
  intro av hav t
  classical
  rw [ek,ek]
  by_cases e:o.dst=some t
  ·rw [if_pos e,if_neg,if_pos ⟨i,o,ho,hco,e⟩,h.val ho e (by omega) (Nat.le_refl _)]
   ·exact hav t e
   ·rintro ⟨k,x,hx,_,hxd,hn⟩
    exact hn (.inl (h.uniq hx ho hxd e))
  ·rw [if_neg e]
   simp only [UT.with h ho e]
 rcases (h.tr.c i o (Nat.zero_le _) ho hco).done with ⟨hw,av,hst,hav⟩|⟨hw,hav⟩|⟨hw,hemp,hty,hav⟩
 ·have hemp:dZ o=false:=by
   cases hx:dZ o with
   |false=>rfl
   |true=>exact (px hx hst).elim
  refine eu ho ((hw.looks hlook).wanted hP.rel) ?_
  have hfoot:=h.foot hc ho hco hw hst hnd hr hP.jn hP.late
  have hst':aC E lv o (dU (UT arr D) (FT arr) (st arr.toList.length) (st j)) q0=some (av,none):=
   xp (wN hco hemp) (kn hlook) (by
    generalize ca E.ty o (st i)=f at hfoot
    unfold ct at hfoot ⊢
    split at hfoot
    ·exact hfoot
    ·trivial
    ·exact hfoot) hst
  refine gY h.hE h.hlv hst' hP.rel K Q fun av' rt' v w' g' hκ hqt hv hn hnew=>?_
  simp only [q0,Option.some.injEq,Prod.mk.injEq] at hκ
  obtain ⟨rfl,rfl⟩:=hκ
  exact hK w' g' _ (hqt.inv (eY h.hn hdn)) ⟨hP.jn,hP.rel.quiet_none hdn hqt hv (hn rfl) (htm _ hav) rfl,hlate⟩
 ·refine kk ho (bk.not_wanted (bk.not_looks hlook hw) hP.rel) ?_
  refine hK w g _ (.refl _ _) ⟨hP.jn,(hP.rel.skip hdn).ext (fun t=>?_) (fun s=>?_),hlate⟩
  ·rw [htm _ hav,cz]
  ·rw [b7];rfl
 ·refine eu ho ((hw.looks hlook).wanted hP.rel) ?_
  have hq:ED aa P w g a o (match o.dst with|some d=>d|none=>0) q0 (AV.emp,none):=(tA (aa:=aa) (w:=w) (g:=g) (a:=a) h.hE.ty hemp hty).qok
  refine hq K Q fun av' rt' v w' g' hκ hqt hv hn hnew=>?_
  simp only [q0,Option.some.injEq,Prod.mk.injEq] at hκ
  obtain ⟨rfl,rfl⟩:=hκ
  exact hK w' g' _ (hqt.inv (eY h.hn hdn)) ⟨hP.jn,hP.rel.quiet_none hdn hqt hv (hn rfl) (htm _ hav) rfl,hlate⟩
theorem TR.stepL (h:TR P aa E lv fz arr n κ r st){D:Nat→Prop}{j i:Nat}{o:Oper}(hc:fK arr.toList D)(ho:arr.toList[i]?=some o)(hco:cT arr.toList o=false)(hnd:¬D i)(hr:∀k,mM arr.toList k i→D k)(hP:PT aa arr n st D j w g a)
  {Q:Exit→Act→World→Prop}{K:Act→World→Prop} (hK:∀w' g' a',eS w g w' g'→PT aa arr n st (eZ D i) (i+1) w' g' a'→K a' w'):wpOp P arr Q i K a w:=by
 have hil:=(List.getElem?_eq_some_iff.mp ho).1
 have hdn:=h.dlt ho
 have hji:j≤i:=by
  rcases Nat.lt_or_ge i j with hlt|hge
  ·exact absurd ((hP.late i o ho hco).2 hlt) hnd
  ·exact hge
 have hlow:∀k x,arr.toList[k]?=some x→cT arr.toList x=false→k<i→k<j:=by
  intro k x hx hcx hki
  rcases h.pair hx ho hki with hb|⟨_,hb⟩
  ·exact (hP.late k x hx hcx).1 (hr k hb)
  ·rcases hb with hb|hb
   ·rw [hcx] at hb;cases hb
   ·rw [hco] at hb;cases hb
 have hmid:∀k x,j≤k→k<i→arr.toList[k]?=some x→cT arr.toList x=true:=by
  intro k x h1 h2 hx
  cases hcx:cT arr.toList x with
  |true=>rfl
  |false=>have:=hlow k x hx hcx h2;omega
 have hroots:(dU (UT arr D) (FT arr) (st arr.toList.length) (st j)).roots=(st i).roots:=(h.roots i hji (by omega) hmid).symm
 have hlook:∀t∈bG arr.toList o,(dU (UT arr D) (FT arr) (st arr.toList.length) (st j)).tmp t=(st i).tmp t:=fun t ht=>h.look hc ho hnd hr hP ht
 have hkeep:∀t,¬FT arr t→(st i).tmp t=(st j).tmp t:=fun t hF=>h.keep i hji (by omega) fun k x h1 h2 hx hxd=>hF ⟨k,x,hx,hmid k x h1 h2 hx,hxd⟩
 have hlate:∀k x,arr.toList[k]?=some x→cT arr.toList x=false→(eZ D i k↔k<i+1):=by
  intro k x hx hcx
  constructor
  ·rintro (rfl|hd)
   ·omega
   ·have:=(hP.late k x hx hcx).1 hd;omega
  ·intro hlt
   by_cases e:k=i
   ·exact .inl e
   ·exact .inr ((hP.late k x hx hcx).2 (hlow k x hx hcx (by omega)))
 have hl:=h.tr.l i o (Nat.zero_le _) ho hco
 have hFd:∀t,o.dst=some t→¬FT arr t:=by
  rintro t e ⟨k,x,hx,hcx,hxd⟩
  have:=h.uniq hx ho hxd e
  subst this
  rw [ho] at hx;cases hx
  rw [hco] at hcx;cases hcx
 have htm:∀(av:AV),(∀d,o.dst=some d→(st (i+1)).tmp d=av)→∀t,(dU (UT arr (eZ D i)) (FT arr) (st arr.toList.length) (st (i+1))).tmp t=if o.dst=some t then av else (dU (UT arr D) (FT arr) (st arr.toList.length) (st j)).tmp t:=by
  intro av hav t
  classical
  rw [ek,ek]
  by_cases e:o.dst=some t
  ·have hF:=hFd t e
   rw [if_pos e,if_neg (fun ⟨k,x,h1,h2,h3,_⟩=>hF ⟨k,x,h1,h2,h3⟩),if_neg hF]
   exact hav t e
  ·rw [if_neg e]
   simp only [UT.with h ho e]
   by_cases hU:UT arr D t
   ·rw [if_pos hU,if_pos hU]
   ·rw [if_neg hU,if_neg hU]
    by_cases hF:FT arr t
    ·rw [if_pos hF,if_pos hF]
    ·rw [if_neg hF,if_neg hF,h.tm ho e,hkeep t hF]
 rcases hl.done with ⟨hw,av,rt,rs,ks,hst,hav,n1,n2,hroot⟩|⟨hw,hav,hroot⟩
 ·refine eu ho ((hw.looks hlook).wanted hP.rel) ?_
  have hst0:=hst
  rw [←gU (S:=st i) (S':=dU (UT arr D) (FT arr) (st arr.toList.length) (st j)) hroots (kn hlook)] at hst
  refine jZ h.hE h.hlv (eY h.hn hdn) hst hP.rel K Q fun av' v rt' rs' ks' w' g' hκ hok=>?_
  simp only [w0,Option.some.injEq,Prod.mk.injEq] at hκ
  obtain ⟨rfl,rfl,rfl,rfl⟩:=hκ
  obtain ⟨g2,hS2,hinv⟩:=hP.rel.gain (fz:=fz) hok hdn
  -- what is known names nothing that is new
  have hav':∀t,(dU (UT arr D) (FT arr) (st arr.toList.length) (st j)).tmp t=.und∨(dU (UT arr D) (FT arr) (st arr.toList.length) (st j)).tmp t=(st i).tmp t∨
    (dU (UT arr D) (FT arr) (st arr.toList.length) (st j)).tmp t=.tup []∨∃b,(dU (UT arr D) (FT arr) (st arr.toList.length) (st j)).tmp t=b∧(∀d,sF o rt'=some d→b.names d=false)∧∀s∈ks',b.namesB s=false:=by
   intro t
   classical
   rw [ek]
   by_cases hU:UT arr D t
   ·exact .inl (if_pos hU)
   ·rw [if_neg hU]
    right
    by_cases hF:FT arr t
    ·rw [if_pos hF]
     obtain ⟨k,x,hx,hcx,hxd⟩:=hF
     have hkl:=(List.getElem?_eq_some_iff.mp hx).1
     have hDk:D k:=Classical.byContradiction fun hn=>hU ⟨k,x,hx,hcx,hxd,hn⟩
     rw [h.val hx hxd (by omega) (Nat.le_refl _)]
     rcases Nat.lt_trichotomy k i with hki|hki|hki
     ·exact .inl (h.val hx hxd hki (by omega)).symm
     ·subst hki;exact absurd hDk hnd
     ·right
      rcases (h.tr.c k x (Nat.zero_le _) hx hcx).done with ⟨hwx,avx,hstx,havx⟩|⟨_,havx⟩|⟨_,_,_,havx⟩
      ·right
       rw [havx t hxd]
       rcases h.tr.t4 k x i o avx _ _ _ _ (Nat.zero_le _) hki hx ho hcx hco hwx hw hstx hst0 with hb|hb
       ·exact absurd (hc k hDk i hb) hnd
       ·exact ⟨_,rfl,hb.nm,hb.nb⟩
      ·exact .inl (havx t hxd)
      ·right
       rw [havx t hxd]
       exact ⟨_,rfl,fun _ _=>by simp [AV.names],fun _ _=>by simp [AV.namesB]⟩
    ·rw [if_neg hF]
     exact .inl (hkeep t hF).symm
  have m1:rt'≠none→∃d,o.dst=some d∧∀t,((dU (UT arr D) (FT arr) (st arr.toList.length) (st j)).tmp t).names d=false:=by
   intro hrt
   obtain ⟨d,h1,h2⟩:=n1 hrt
   refine ⟨d,h1,fun t=>?_⟩
   rcases hav' t with e|e|e|⟨b,e,h3,_⟩
   ·rw [e];simp [AV.names]
   ·rw [e];exact h2 t
   ·rw [e];simp [AV.names,AV.names.namesL]
   ·rw [e]
    refine h3 d ?_
    unfold sF
    cases rt' with
    |none=>exact absurd rfl hrt
    |some q=>exact h1
  have m2:∀s∈ks',∀t,((dU (UT arr D) (FT arr) (st arr.toList.length) (st j)).tmp t).namesB s=false:=by
   intro s hs t
   rcases hav' t with e|e|e|⟨b,e,_,h3⟩
   ·rw [e];simp [AV.namesB]
   ·rw [e];exact n2 s hs t
   ·rw [e];simp [AV.namesB,AV.namesB.namesBL]
   ·rw [e];exact h3 s hs
  refine hK w' g2 _ hinv ⟨by omega,hS2.ext (fun t=>?_) (fun s=>?_),hlate⟩
  ·rw [mD m1 m2,htm _ hav]
  ·show (st (i+1)).root s=_
   rw [hroot s]
   exact kz s
 ·refine kk ho (bk.not_wanted (bk.not_looks hlook hw) hP.rel) ?_
  refine hK w g _ (.refl _ _) ⟨by omega,(hP.rel.skip hdn).ext (fun t=>?_) (fun s=>?_),hlate⟩
  ·rw [htm _ hav,cz]
  ·rw [b7]
   show (st (i+1)).root s=(dU (UT arr D) (FT arr) (st arr.toList.length) (st j)).root s
   unfold St.root
   rw [hroot,hroots]
theorem TR.any (h:TR P aa E lv fz arr n κ r st){Q:Exit→Act→World→Prop}:∀(fuel:Nat) (listed:Array Bool) (j:Nat) (a:Act) (w:World) (g:Gh),listed.size=arr.toList.length→fK arr.toList (Dn listed)→
  PT aa arr n st (Dn listed) j w g a→(List.range arr.toList.length).countP (fun k=>!listed.getD k false)≤fuel→
  (∀S' w' g' a',κ S'=some r→aV aa n w' g' S' a'→eS w g w' g'→Q .normal a' w')→wpAny P .any arr Q fuel listed a w:=by
 intro fuel
 -- all done
 have iO:∀(listed:Array Bool) (j:Nat) (a:Act) (w:World) (g:Gh),(∀k,k<arr.toList.length→Dn listed k)→PT aa arr n st (Dn listed) j w g a→
   (∀S' w' g' a',κ S'=some r→aV aa n w' g' S' a'→eS w g w' g'→Q .normal a' w')→Q .normal a w:=by
  intro listed j a w g hall hP hQ
  have hno:∀t,¬UT arr (Dn listed) t:=fun t ⟨k,o,h1,_,_,h3⟩=>h3 (hall k (List.getElem?_eq_some_iff.mp h1).1)
  have hcalm:∀k o,j≤k→k<arr.toList.length→arr.toList[k]?=some o→cT arr.toList o=true:=by
   intro k o h1 h2 ho
   cases hco:cT arr.toList o with
   |true=>rfl
   |false=>have:=(hP.late k o ho hco).1 (hall k h2);omega
  refine hQ (st arr.toList.length) w g a h.fin (hP.rel.ext (fun t=>?_) (fun s=>?_)) (.refl _ _)
  ·classical
   rw [ek,if_neg (hno t)]
   by_cases hF:FT arr t
   ·rw [if_pos hF]
   ·rw [if_neg hF]
    exact h.keep _ hP.jn (Nat.le_refl _) fun k x h1 h2 hx hxd=>hF ⟨k,x,hx,hcalm k x h1 h2 hx,hxd⟩
  ·show (st arr.toList.length).root s=(st j).root s
   unfold St.root
   rw [h.roots arr.toList.length hP.jn (Nat.le_refl _) hcalm]
 have rdy:∀(listed:Array Bool),listed.size=arr.toList.length→∀j,j∈Region.ready .any arr listed→¬Dn listed j∧∃o,arr.toList[j]?=some o∧∀e∈o.after.toList,cB e=true→Dn listed e.on:=by
  intro listed hsz j hj
  obtain ⟨h0,o,ho,hall⟩:=mem_ready.1 hj
  refine ⟨fun hd=>?_,o,by simpa using ho,fun e he hb=>hall e (by simpa using he) (by rw [kw];exact hb)⟩
  unfold Dn at hd
  rw [Array.getD_eq_getD_getElem?] at h0 hd
  cases hx:listed[j]? with
  |none=>rw [hx] at h0;simp at h0
  |some b=>rw [hx] at h0 hd;simp at h0 hd;rw [h0] at hd;cases hd
 have alld:∀(listed:Array Bool),listed.size=arr.toList.length→Region.ready .any arr listed=[]→∀k,k<arr.toList.length→Dn listed k:=by
  intro listed hsz hre k
  induction k using Nat.strongRecOn with
  |_ k ih=>
   intro hk
   apply Classical.byContradiction
   intro hnd
   obtain ⟨o,ho⟩:∃o,arr.toList[k]?=some o:=⟨_,List.getElem?_eq_getElem hk⟩
   have:k∈Region.ready .any arr listed:=by
    rw [mem_ready]
    refine ⟨?_,o,by simpa using ho,fun e he hb=>?_⟩
    ·unfold Dn at hnd
     rw [Array.getD_eq_getD_getElem?] at hnd ⊢
     have hk':k<listed.size:=by omega
     rw [Array.getElem?_eq_getElem hk'] at hnd ⊢
     simpa using hnd
    ·have hlt:=iV h.he k o ho e (by simpa using he) (by rw [←kw];exact hb)
     rw [Nat.zero_add] at hlt
     exact ih e.on hlt (by omega)
   rw [hre] at this
   simp at this
 induction fuel with
 |zero=>
  intro listed j a w g hsz hc hP hcnt hQ
  have hall:∀k,k<arr.toList.length→Dn listed k:=by
   intro k hk
   have h0:(List.range arr.toList.length).countP (fun k=>!listed.getD k false)=0:=by omega
   have:=List.countP_eq_zero.1 h0 k (List.mem_range.2 hk)
   unfold Dn
   simpa using this
  refine ⟨?_,iO listed j a w g hall hP hQ⟩
  apply List.eq_nil_iff_forall_not_mem.2
  intro j hj
  obtain ⟨h1,o,ho,_⟩:=rdy listed hsz j hj
  exact h1 (hall j (List.getElem?_eq_some_iff.mp ho).1)
 |succ fuel ih=>
  intro listed j a w g hsz hc hP hcnt hQ
  refine ⟨fun hre=>iO listed j a w g (alld listed hsz hre) hP hQ,fun i hi=>?_⟩
  obtain ⟨hnd,o,ho,hedge⟩:=rdy listed hsz i hi
  have hil:=(List.getElem?_eq_some_iff.mp ho).1
  have hr:=hc.ready ho hedge
  have hset:=Dn.set (listed:=listed) (i:=i) (by omega)
  have hc':fK arr.toList (eZ (Dn listed) i):=by
   rintro j (rfl|hj) k hb
   ·exact .inr (hr k hb)
   ·exact .inr (hc j hj k hb)
  have hcnt':(List.range arr.toList.length).countP (fun k=>!(listed.setIfInBounds i true).getD k false)≤fuel:=by
   have:(List.range arr.toList.length).countP (fun k=>!(listed.setIfInBounds i true).getD k false)<(List.range arr.toList.length).countP (fun k=>!listed.getD k false):=by
    refine nr (i:=i) (List.mem_range.2 hil) ?_ ?_ fun x hx=>?_
    ·unfold Dn at hnd;simpa using hnd
    ·have:Dn (listed.setIfInBounds i true) i:=by rw [hset];exact .inl rfl
     unfold Dn at this
     simpa using this
    ·have hx':¬Dn (listed.setIfInBounds i true) x:=by unfold Dn;simpa using hx
     rw [hset] at hx'
     have:¬Dn listed x:=fun h=>hx' (.inr h)
     unfold Dn at this
     simpa using this
   omega
  have hsz':(listed.setIfInBounds i true).size=arr.toList.length:=by simpa using hsz
  have next:∀j w' g' a',eS w g w' g'→PT aa arr n st (eZ (Dn listed) i) j w' g' a'→wpAny P .any arr Q fuel (listed.setIfInBounds i true) a' w':=by
   intro j w' g' a' hinv hph'
   exact ih _ j a' w' g' hsz' (by rw [hset];exact hc') (by rw [hset];exact hph') hcnt' fun S' w'' g'' a'' q1 q2 q3=>hQ S' w'' g'' a'' q1 q2 (hinv.trans q3)
  cases hco:cT arr.toList o with
  |true=>exact h.stepC hc ho hco hnd hr hP fun w' g' a' hinv hp=>next _ w' g' a' hinv hp
  |false=>exact h.stepL hc ho hco hnd hr hP fun w' g' a' hinv hp=>next _ w' g' a' hinv hp
end
theorem qN {P:Program}{aa:aM}{E:dE}(hE:rz P aa E)(hmix:P.follows .mixedOrders=true)(lv:Lv E.sig)(hlv:ir P aa E.sig lv)(n:Nat)(hn:n≤1000){R:Type}{fz:Nat→Bool}{id:Nat}{ops:Array Oper}{S:St}{a:Act}{w:World}{g:Gh}{κ:St→Option R}{r:R}{Q:Exit→Act→World→Prop}
  (hdst:gd n ops.toList=true) (ht:Gf ops.toList=true) (hrun:jI E lv fz ops.toList ops.toList (ar ops.toList []) 0 [] [] S κ=some r) (hS:aV aa n w g S a)
  (hQ:∀S' w' g' a',κ S'=some r→aV aa n w' g' S' a'→eS w g w' g'→Q .normal a' w'):(Code.region id ops true).wp P Q a w:=by
 simp only [Gf,Bool.and_eq_true] at ht
 obtain ⟨⟨h1,h2⟩,h3⟩:=ht
 obtain ⟨st,e1,e2,e3⟩:=pW (lv:=lv) ops.toList 0 S [] [] rfl (Nat.zero_le _) (by rw [List.drop_zero];exact hrun)
 have hT:TR P aa E lv fz ops n κ r st:=⟨hE,hlv,hn,hdst,h1,h2,h3,e3,e2⟩
 refine wp_region_any hmix ?_
 have hS1:=hS.drawn (w.drawn+1)
 have hfalse:∀k,¬Dn (Array.replicate ops.size false) k:=by
  intro k hk
  unfold Dn at hk
  rw [Array.getD_eq_getD_getElem?,Array.getElem?_replicate] at hk
  split at hk<;>simp at hk
 refine hT.any ops.size _ 0 a _ g (by simp) (fun j hj=>absurd hj (hfalse j)) ⟨Nat.zero_le _,⟨hS1.size,hS1.df,hS1.tb,fun t=>?_,fun s r hr=>?_⟩,fun k o _ _=>⟨fun hd=>absurd hd (hfalse k),fun hk=>by omega⟩⟩ ?_ fun S' w' g' a' q1 q2 q3=>hQ S' w' g' a' q1 q2 ((eS.drawn w g _).trans q3)
 ·classical
  rw [ek]
  split
  ·exact .und _
  ·rename_i hu
   have hF:¬FT ops t:=fun ⟨k,o,h1,h2,h3⟩=>hu ⟨k,o,h1,h2,h3,hfalse k⟩
   rw [if_neg hF,e1]
   exact hS1.tm t
 ·have hr':(st 0).root s=some r:=hr
  rw [e1] at hr'
  exact hS1.rt s r hr'
 ·have:∀l:List Nat,l.countP (fun k=>!(Array.replicate ops.size false).getD k false)≤l.length:=fun l=>List.countP_le_length
  have:=this (List.range ops.toList.length)
  simpa using this
theorem uR {P:Program}{aa:aM}{E:dE}(hE:rz P aa E)(hmix:P.follows .mixedOrders=true)(lv:Lv E.sig)(hlv:ir P aa E.sig lv)(n:Nat)(hn:n≤1000):pz P aa n E lv:=by
 intro R fz id ops S a w g κ r Q hdst hrun hS hQ
 unfold yQ at hrun
 cases hok:sq E.pks ops.toList with
 |true=>
  rw [hok] at hrun
  simp only [cond] at hrun
  cases hfr:qs S ops.toList with
  |false=>rw [hfr] at hrun;cases hrun
  |true=>
   rw [hfr] at hrun
   exact Ad hE hmix lv hlv n hn fz id ops (S.purge (pE ops.toList)) a w g κ r Q hdst hok (jV (fun o ho d hd=>rc hd ho) hfr) hrun (hS.purge _) hQ
 |false=>
  rw [hok] at hrun
  simp only [cond] at hrun
  cases ht:Gf ops.toList with
  |false=>rw [ht] at hrun;cases hrun
  |true=>rw [ht] at hrun;exact qN hE hmix lv hlv n hn hdst ht hrun hS hQ
end
end Go.Proofs.YtjkokaockhecnaaGreatDoorA
