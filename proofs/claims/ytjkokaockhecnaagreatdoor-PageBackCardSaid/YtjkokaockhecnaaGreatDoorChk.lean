/- The types of the program, as the machine is told of them: a check; and calls of every level. -/
import Derived.Test.YtjkokaockhecnaaGreatDoorDraw5
namespace Go.Proofs.YtjkokaockhecnaaGreatDoorA
open Go
def DO (P:Program)(e:TypeId)(t:El)(ezero:List AV)(ebytes:Nat):Bool:=
 (match P.info? e with
  |some inf=>Nat.beq inf.size t.size&&Nat.beq inf.bytes ebytes&&(match inf.zero with|some z=>Nat.beq z.cells.size t.size&&di z.cells.toList ezero|none=>false)
  |none=>false)&&
 (match t with|.int k=>(match P.underlying e with|some (.int k')=>decide (k=k')|_=>false)|_=>true)&&(Nat.blt 0 ebytes&&!t.isByt)
def mS (P:Program):List Field→List (Nat×Nat×Nat)→Bool
 |[],[]=>true
 |fd :: fs,(off,m,U) :: l=>Nat.beq fd.offset off&&Nat.beq fd.type U&&(match P.info? U with|some inf=>Nat.beq inf.size m|none=>false)&&Nat.blt 0 m&&mS P fs l
 |_,_=>false
def rj (P:Program):Nat→List Field→List AV→Bool
 |_,[],[]=>true
 |j,fd :: fs,z :: l=>(fd.name != "_")&&Nat.beq fd.offset j&&
   (match cV z,P.underlying fd.type with|1,some (.int _)=>true|2,some .bool=>true|3,some .string=>true|_,_=>false)&&rj P (j+1) fs l
 |_,_,_=>false
def Ec (P:Program)(aa:aM)(T:TypeId)(i:gA):Bool:=
 (match P.info? T with
  |some inf=>Nat.beq inf.size i.size&&(match inf.zero with|some z=>di z.cells.toList i.zero|none=>false)
  |none=>false)&&
 (match P.underlying T with
  |some d=>
   (i.agg==match d with|.struct _|.array _ _=>true|_=>false)&&
   (match i.kind with|some k=>(match d with|.int k'=>decide (k=k')|_=>false)|none=>true)&&
   (!i.str||match d with|.string=>true|_=>false)&&
   (!i.isb||match d with|.bool=>true|_=>false)&&
   (match i.elem with|some t=>(match d with|.slice e=>Nat.beq e i.elemT|_=>false)&&Nat.beq i.elemT (aa t)&&DO P i.elemT t i.ezero i.ebytes|none=>true)&&
   (i.fields.isEmpty||match d with|.struct fs=>mS P fs.toList i.fields|_=>false)&&
   (!i.eqs||match d with|.struct fs=>rj P 0 fs.toList i.zero|_=>false)
  |none=>false)&&
 (i.agg||Nat.beq i.size 1)&&(!i.eqs||(!P.stoodInHeld T&&!P.eqGuardType P.depth T))&&(!i.bld||Nat.beq i.zero.length 2)&&(!i.ifc||match P.underlying T with|some (.interface _)=>true|_=>false)
theorem yp {P:Program}{e:TypeId}{t:El}{ezero:List AV}{ebytes:Nat}(h:DO P e t ezero ebytes=true):E6 P e t ezero ebytes:=by
 simp only [DO,Bool.and_eq_true] at h
 obtain ⟨⟨h1,h2⟩,h3⟩:=h
 refine ⟨?_,fun k hk=>?_,Nat.le_of_ble_eq_true h3.1,by simpa using h3.2⟩
 ·split at h1
  ·rename_i inf hinf
   simp only [Bool.and_eq_true] at h1
   obtain ⟨⟨q1,q2⟩,q3⟩:=h1
   split at q3
   ·rename_i z hz
    simp only [Bool.and_eq_true] at q3
    exact ⟨inf,z,hinf,Nat.eq_of_beq_eq_true q1,Nat.eq_of_beq_eq_true q2,hz,Nat.eq_of_beq_eq_true q3.1,q3.2⟩
   ·cases q3
  ·cases h1
 ·subst hk
  simp only at h2
  split at h2
  ·rename_i k' hu
   rw [of_decide_eq_true h2];exact hu
  ·cases h2
theorem j4 {P:Program}:∀{fs:List Field}{l:List (Nat×Nat×Nat)},mS P fs l=true→fs.length=l.length∧
  ∀(f off m U:Nat),l[f]?=some (off,m,U)→∃(fd:Field) (inf:TypeInfo),fs[f]?=some fd∧fd.offset=off∧fd.type=U∧P.info? U=some inf∧inf.size=m∧m≠0
 |[],[],_=>⟨rfl,fun f off m U h=>by simp at h⟩
 |fd :: fs,(off,m,U) :: l,h=>by
  simp only [mS,Bool.and_eq_true] at h
  obtain ⟨⟨⟨⟨h1,h2⟩,h3⟩,h4⟩,h5⟩:=h
  obtain ⟨e1,e2⟩:=j4 h5
  refine ⟨by simp [e1],fun f off' m' U' hf=>?_⟩
  cases f with
  |zero=>
   simp only [List.getElem?_cons_zero,Option.some.injEq,Prod.mk.injEq] at hf
   obtain ⟨rfl,rfl,rfl⟩:=hf
   split at h3
   ·rename_i inf hinf
    exact ⟨fd,inf,rfl,Nat.eq_of_beq_eq_true h1,Nat.eq_of_beq_eq_true h2,hinf,Nat.eq_of_beq_eq_true h3,by have:=Nat.le_of_ble_eq_true h4;omega⟩
   ·cases h3
  |succ f=>
   obtain ⟨fd',inf,q1,q2⟩:=e2 f off' m' U' (by simpa using hf)
   exact ⟨fd',inf,by simpa using q1,q2⟩
 |[],_ :: _,h=>by simp [mS] at h
 |_ :: _,[],h=>by simp [mS] at h
theorem qj {P:Program}:∀{fs:List Field}{l:List AV}{k:Nat},rj P k fs l=true→fs.length=l.length∧
  ∀(j:Nat) (fd:Field),fs[j]?=some fd→fd.name≠ "_" ∧fd.offset=k+j∧∃z,l[j]?=some z∧
   ((cV z=1∧∃k,P.underlying fd.type=some (.int k))∨(cV z=2∧P.underlying fd.type=some .bool)∨(cV z=3∧P.underlying fd.type=some .string))
 |[],[],_,_=>⟨rfl,fun j fd h=>by simp at h⟩
 |fd :: fs,z :: l,k,h=>by
  simp only [rj,Bool.and_eq_true] at h
  obtain ⟨⟨⟨h1,h2⟩,h3⟩,h4⟩:=h
  obtain ⟨e1,e2⟩:=qj h4
  refine ⟨by simp [e1],fun j fd' hj=>?_⟩
  cases j with
  |zero=>
   simp only [List.getElem?_cons_zero,Option.some.injEq] at hj
   subst hj
   refine ⟨by simpa using h1,Nat.eq_of_beq_eq_true h2,z,rfl,?_⟩
   split at h3
   ·rename_i e1 e2;exact .inl ⟨e1,_,e2⟩
   ·rename_i e1 e2;exact .inr (.inl ⟨e1,e2⟩)
   ·rename_i e1 e2;exact .inr (.inr ⟨e1,e2⟩)
   ·cases h3
  |succ j=>
   obtain ⟨q1,q2,q3⟩:=e2 j fd' (by simpa using hj)
   exact ⟨q1,by omega,by simpa using q3⟩
 |[],_ :: _,_,h=>by simp [rj] at h
 |_ :: _,[],_,h=>by simp [rj] at h
theorem xK {P:Program}{aa:aM}{T:TypeId}{i:gA}(h:Ec P aa T i=true):eX P aa T i:=by
 simp only [Ec,Bool.and_eq_true] at h
 obtain ⟨⟨⟨⟨⟨h1,h2⟩,h3⟩,h4⟩,h5⟩,h6⟩:=h
 split at h1
 ·rename_i inf hinf
  simp only [Bool.and_eq_true] at h1
  obtain ⟨q1,q2⟩:=h1
  split at q2
  ·rename_i z hz
   split at h2
   ·rename_i d hd
    simp only [Bool.and_eq_true] at h2
    obtain ⟨⟨⟨⟨⟨⟨r1,r2⟩,r3⟩,r4⟩,r5⟩,r6⟩,r7⟩:=h2
    refine ⟨⟨inf,hinf,Nat.eq_of_beq_eq_true q1⟩,⟨d,hd,by rw [eq_of_beq r1];cases d<;>rfl⟩,fun ha=>?_,⟨inf,z,hinf,hz,q2⟩,fun k hk=>?_,fun hs=>?_,fun hs=>?_,fun hs=>?_,fun t ht=>?_,fun f off m U hf=>?_,fun hf=>?_,fun hb=>?_,fun he=>?_⟩
    ·rw [ha] at h3;exact Nat.eq_of_beq_eq_true (by simpa using h3)
    ·rw [hk] at r2
     simp only at r2
     split at r2
     ·rename_i k'
      rw [of_decide_eq_true r2];exact hd
     ·cases r2
    ·rw [hs] at r3
     simp only [Bool.not_true,Bool.false_or] at r3
     split at r3
     ·exact hd
     ·cases r3
    ·rw [hs] at r4
     simp only [Bool.not_true,Bool.false_or] at r4
     split at r4
     ·exact hd
     ·cases r4
    ·rw [hs] at h6
     simp only [Bool.not_true,Bool.false_or] at h6
     split at h6
     ·rename_i ms hms
      simp only [Program.methodsAt,hms]
     ·cases h6
    ·rw [ht] at r5
     simp only [Bool.and_eq_true] at r5
     obtain ⟨⟨s1,s2⟩,s3⟩:=r5
     split at s1
     ·rename_i e
      refine ⟨?_,Nat.eq_of_beq_eq_true s2,yp s3⟩
      rw [←Nat.eq_of_beq_eq_true s1];exact hd
     ·cases s1
    ·have hne:i.fields.isEmpty=false:=by
      cases hh:i.fields with
      |nil=>rw [hh] at hf;simp at hf
      |cons _ _=>rfl
     rw [hne] at r6
     simp only [Bool.false_or] at r6
     split at r6
     ·rename_i fs
      obtain ⟨_,e2⟩:=j4 r6
      obtain ⟨fd,inf',t1,t2,t3,t4⟩:=e2 f off m U hf
      exact ⟨fs,fd,inf',hd,by simpa using t1,t2,t3,t4⟩
     ·cases r6
    ·have hne:i.fields.isEmpty=false:=by
      cases hh:i.fields with
      |nil=>exact absurd hh hf
      |cons _ _=>rfl
     rw [hne] at r6
     simp only [Bool.false_or] at r6
     split at r6
     ·rename_i fs
      exact ⟨fs,hd,by simpa using (j4 r6).1⟩
     ·cases r6
    ·rw [hb] at h5
     exact Nat.eq_of_beq_eq_true (by simpa using h5)
    ·rw [he] at r7 h4
     simp only [Bool.not_true,Bool.false_or,Bool.and_eq_true,Bool.not_eq_true'] at r7 h4
     split at r7
     ·rename_i fs
      obtain ⟨e1,e2⟩:=qj r7
      refine ⟨h4.1,h4.2,fs,hd,by simpa using e1,fun j fd hj=>?_⟩
      obtain ⟨t1,t2,t3⟩:=e2 j fd (by simpa using hj)
      exact ⟨t1,by omega,t3⟩
     ·cases r7
   ·cases h2
  ·cases q2
 ·cases h1
def yE {α:Type}(Q:Nat→α→Prop):List (Nat×α)→Prop
 |[]=>True
 |p :: l=>Q p.1 p.2∧yE Q l
theorem yE.look {α:Type}{Q:Nat→α→Prop}:∀{l:List (Nat×α)},yE Q l→∀k a,_root_.Go.Proofs.YtjkokaockhecnaaGreatDoorA.look k l=some a→Q k a
 |[],_,k,a,h=>by simp [_root_.Go.Proofs.YtjkokaockhecnaaGreatDoorA.look] at h
 |(i,b) :: l,hl,k,a,h=>by
  simp only [_root_.Go.Proofs.YtjkokaockhecnaaGreatDoorA.look] at h
  cases e:Nat.beq i k with
  |true=>
   rw [e] at h
   simp only [cond,Option.some.injEq] at h
   subst h
   rw [←Nat.eq_of_beq_eq_true e]
   exact hl.1
  |false=>rw [e] at h;exact hl.2.look k a h
def wL (P:Program)(aa:aM):List (Nat×gA)→Bool
 |[]=>true
 |p :: l=>Ec P aa p.1 p.2&&wL P aa l
theorem oP {P:Program}{aa:aM}:∀{l:List (Nat×gA)},wL P aa l=true→yE (eX P aa) l
 |[],_=>trivial
 |p :: l,h=>by
  simp only [wL,Bool.and_eq_true] at h
  exact ⟨xK h.1,oP h.2⟩
def sV (fW fS T e f:Nat):List PK→Bool
 |[.bw T',.one .str]=>Nat.beq f fW&&Nat.beq T' T
 |[.br T' e']=>Nat.beq f fS&&(Nat.beq T' T&&Nat.beq e' e)
 |_=>true
def qB (fW fS T e:Nat):List (Nat×List PK)→Bool
 |[]=>true
 |p :: l=>sV fW fS T e p.1 p.2&&qB fW fS T e l
theorem nN {fW fS T e:Nat}:∀{l:List (Nat×List PK)}{f:Nat}{ks:List PK},qB fW fS T e l=true→look f l=some ks→sV fW fS T e f ks=true
 |[],_,_,_,h=>by cases h
 |(i,a) :: l,f,ks,hl,h=>by
  simp only [qB,Bool.and_eq_true] at hl
  simp only [look] at h
  cases e:Nat.beq i f with
  |true=>rw [e] at h;cases h;rw [←Nat.eq_of_beq_eq_true e];exact hl.1
  |false=>rw [e] at h;exact nN hl.2 h
theorem rz.bld {P:Program}{aa:aM}{E:dE}{fW fS T e:Nat}(hty:∀T i,E.ty T=some i→eX P aa T i){pks:List (Nat×List PK)}(hp:∀f,E.pks f=match look f pks with|some l=>l|none=>[])(h:qB fW fS T e pks=true)
  (hw:yY P fW T (aa (.int .u8))) (hr:zj P fS T e) (he:aa (.int .u8)=e):rz P aa E:=by
 have key:∀f,sV fW fS T e f (E.pks f)=true:=by
  intro f
  rw [hp]
  cases e:look f pks with
  |none=>rfl
  |some ks=>exact nN h e
 refine ⟨hty,fun f T' e'=>?_,fun f T' x e'=>?_⟩
 ·have:=key f
  rw [e'] at this
  simp only [sV,Bool.and_eq_true] at this
  rw [Nat.eq_of_beq_eq_true this.1,Nat.eq_of_beq_eq_true this.2]
  exact hw
 ·have:=key f
  rw [e'] at this
  simp only [sV,Bool.and_eq_true] at this
  rw [Nat.eq_of_beq_eq_true this.1,Nat.eq_of_beq_eq_true this.2.1,Nat.eq_of_beq_eq_true this.2.2]
  exact ⟨hr,he⟩
theorem DW {P:Program}{aa:aM}{E:dE}(hE:rz P aa E)(hbar:∀R x,E.bar R x=x)(hfn:∀f fi,E.fn f=some fi→aW P f fi)
  (hext:∀f args r,E.fn f=none→E.ext f args=some r→eW P aa E.sig f args r) (hmix:P.follows .mixedOrders=true):∀k,ir P aa E.sig (dl E k):=
 m5 hE hbar hfn hext fun lv hlv n hn=>uR hE hmix lv hlv n hn
end Go.Proofs.YtjkokaockhecnaaGreatDoorA
