/- Copies. Calls: freezing ahead of them, and what is handed over. Calls: the callee's view of the memory. Calls: what is handed over. Calls: all arguments; the ghosts of both sides. Calls: the caller's view of the memory behind one. Builders: what the two methods do, cell by cell. Builders: a text goes in. Builders: the text comes out. One operation: what it does is what the machine says. -/
import Derived.Test.YtjkokaockhecnaaGreatDoorW3
import Derived.Laws.IdiomCopy
import Derived.Lib.AppendStr
import Derived.Lib.UnsafeStr
namespace Go.Proofs.YtjkokaockhecnaaGreatDoorA
open Go
section
variable {aa:bb}{n:Nat}{w w' w'':World}{g g' g'':Gh}{S:St}{a:Act}{P:Program}
theorem pY (t:El)(xs ys:List t.den):flat t (xs++ys)=flat t xs++flat t ys:=by simp [flat]
theorem oy (t:El)(x:t.den)(xs:List t.den):flat t (x :: xs)=t.cells x++flat t xs:=rfl
theorem mZ {t:El}(h1:t.size=1):∀(xs:List t.den) (k:Nat),flat t (xs.take k)=(flat t xs).take k
 |[],k=>by simp [flat]
 |x :: xs,0=>by simp [flat]
 |x :: xs,k+1=>by
  obtain ⟨c,hc⟩:=List.length_eq_one_iff.1 (show (t.cells x).length=1 by rw [bg,h1])
  rw [List.take_succ_cons,oy,oy,mZ h1 xs k,hc];rfl
theorem sp {t:El}(h1:t.size=1):∀(xs:List t.den) (k:Nat),flat t (xs.drop k)=(flat t xs).drop k
 |[],k=>by simp [flat]
 |x :: xs,0=>by simp [flat]
 |x :: xs,k+1=>by
  obtain ⟨c,hc⟩:=List.length_eq_one_iff.1 (show (t.cells x).length=1 by rw [bg,h1])
  rw [List.drop_succ_cons,oy,sp h1 xs k,hc];rfl
theorem pq {R:Type}{o:Oper}{κ:AV→Option ak→List (Nat×ak)→List Nat→Option R}{r:R}{c:Call}{d:Nat}{b x:Operand}{T:TypeId}{s j lo m:Nat}{t:El}{i:iC}{E:TypeId→Option iC}
  (hE:∀T i,E T=some i→gi P aa T i) (ho:o.op=.call c) (hb:c.callee=.builtin .copy) (hargs:c.args.toList=[b,x]) (htys:c.argTypes.toList=[T,T]) (hi:E T=some i) (ht:i.elem=some t)
  (hbv:af w g (.als s j t.size lo m) (a.eval b)) (h:kx S s j lo m t (S.ev x) (fun a rs=>κ a none rs [])=some r) (hS:bi aa n w g S a):qa aa P w g a o d κ r:=by
 unfold kx at h
 split at h
 ·rename_i t' xs hcell
  split at h
  ·rename_i htt
   subst htt
   cases hq:Nat.beq t'.size 1&&Nat.ble (lo+m) xs.length with
   |false=>rw [hq] at h;cases h
   |true=>
    rw [hq] at h
    simp only [cond] at h
    simp only [Bool.and_eq_true,Nat.ble_eq] at hq
    obtain ⟨hsz,hle⟩:=hq
    have hsz:=Nat.eq_of_beq_eq_true hsz
    split at h
    ·rename_i ys hys
     obtain ⟨hu,hid,hok⟩:=(hE T i hi).elem t' ht
     obtain ⟨inf,z,i1,i2,i3,i4,i5,i6⟩:=hok.inf
     obtain ⟨ad,cap,news,e2,hcap,hnr,hnl,hn1,hnc⟩:=pT (lG hys hS (hS.ev x))
     have hinf:(P.info? i.elemT).map (·.size)=some 1:=by rw [i1];simp [i2,hsz]
     have hrun:∀v' w',(Builtin.copy_ #[T,T] o.type #[a.eval b,a.eval x]).run P w=.ok v' w'→(execOp a.eval o).run P w=.ok (.value v') w':=by
      intro v' w' hr
      refine eX ho hb (s:=Builtin.copy_ #[T,T] o.type #[a.eval b,a.eval x]) (fun k=>?_) hr
      rw [uK hargs,tg htys];rfl
     obtain ⟨root,hroot,hcj⟩:=cm hcell
     have hR:=hS.root hroot
     have hs:=hS.cell hcell
     have hmin:min ys.length m=Nat.min ys.length m:=rfl
     by_cases hz:Nat.min ys.length m=0
     ·-- nothing
      have hzs:xs.take lo++ys.take m++xs.drop (lo+min ys.length m)=xs:=by
       have:ys.take m=[]:=List.eq_nil_of_length_eq_zero (by rw [List.length_take,Nat.min_comm];exact hz)
       rw [this,hmin,hz,List.append_nil,Nat.add_zero,List.take_append_drop]
      rw [hzs,hmin,hz] at h
      have hdv:∃da dc,a.eval b=.slice da m dc:=by
       generalize a.eval b=bv at hbv
       cases hbv with
       |als _ _ _ _ _ b1 m1 c1 cap1 e hn=>exact ⟨_,_,rfl⟩
       |als0=>exact ⟨_,_,rfl⟩
      obtain ⟨da,dc,ed⟩:=hdv
      have hr:=run_copy_none (P:=P) w T T o.type i.elemT da ad m dc ys.length cap hu hinf hz
      rw [←ed,←e2] at hr
      refine qa.value (g':=g) h (hrun _ _ hr) (.plain (.refl w fun _ _=>False) (fun _ _ _ h=>h.elim) (.int _ _) (fun s' r' hs'=>?_))
      rw [b7 hroot] at hs'
      by_cases hss:s'=s
      ·subst hss
       rw [if_pos rfl] at hs'
       cases hs'
       exact aK.rewrite (.refl w fun _ _=>False) (fun _ _ _ h=>h.elim) hR hcj hs
      ·rw [if_neg hss] at hs'
       exact hS.rt s' r' hs'
     ·have hmpos:0<m:=by have:=Nat.min_le_right ys.length m;omega
      have hypos:0<ys.length:=by have:=Nat.min_le_left ys.length m;omega
      have hs:=hs.old (by rintro rfl;simp at hle;omega)
      obtain ⟨vals,hrow,hvl2,hvr⟩:=hs.row
      have hdv:∃b1 m1 c1 cap1,g.hs s j=.slice (some ⟨b1,0,none⟩) m1 c1∧a.eval b=.slice (some ⟨b1,lo,none⟩) m cap1:=by
       generalize a.eval b=bv at hbv
       cases hbv with
       |als _ _ _ _ _ b1 m1 c1 cap1 e hn=>exact ⟨b1,m1,c1,cap1,e,by rw [hsz,Nat.mul_one]⟩
       |als0=>omega
      obtain ⟨b1,m1,c1,dc,he,ed⟩:=hdv
      rcases hrow.2 with ⟨e,_⟩|⟨b',cap',cur,e,_⟩
      ·rw [e] at he;cases he
      ·have he2:=he
       rw [e] at he2
       cases he2
       rw [e] at hrow
       obtain ⟨hlt,hwho⟩:=hs.own _ _ _ e
       obtain ⟨b2,o2,ea,hcell2⟩:=hnc (by omega)
       have hnl':news.length=ys.length:=by rw [hnl,hsz,Nat.mul_one]
       have hvl:vals.length=xs.length:=by rw [hvl2,aM,hsz,Nat.mul_one]
       have hcl:(news.take m).length=Nat.min ys.length m:=by rw [List.length_take,hnl',Nat.min_comm]
       have hlm:Nat.min ys.length m≤m:=Nat.min_le_right _ _
       have hin:lo+(news.take m).length≤vals.length:=by rw [hcl,hvl];omega
       have hchg:=ez w b1 lo (news.take m)
       have hM:∀b3 o',b3<w.heap.size→(b3=b1∧lo≤o'∧o'<lo+(news.take m).length)→g.who b3 o'=.obj s (some j):=by
        rintro b3 o' _ ⟨rfl,h1,h2⟩
        have:=hwho o'
        simpa using this
       have hM':∀b3 o',b3<w.heap.size→(b3=b1∧lo≤o'∧o'<lo+(news.take m).length)→∃s x,g.who b3 o'=.obj s x:=fun b3 o' hb hm=>⟨_,_,hM b3 o' hb hm⟩
       have hr:=run_copy_cells (P:=P) w T T o.type i.elemT b1 lo m dc ⟨b2,o2,none⟩ ys.length cap (news.take m) hu hinf (by rw [hcl])
        (fun q u hq=>by
         rw [Addr.add_lit]
         refine hcell2 q u ?_
         rw [List.getElem?_take] at hq
         split at hq
         ·exact hq
         ·cases hq)
        (fun q hq=>by
         have hq2:lo+q<xs.length*t'.size:=by rw [hsz];omega
         rw [hrow.cellAt _ hq2,List.getElem?_eq_getElem (by omega)];rfl)
        (fun q hq=>hrow.frozenAt _) (fun v hv=>hn1 v (List.mem_of_mem_take hv))
       rw [←ed,←ea,←e2,hcl] at hr
       refine qa.value (g':=g) h (hrun _ _ hr) (.plain hchg hM' (.int _ _) (fun s' r' hs'=>?_))
       rw [b7 hroot] at hs'
       by_cases hss:s'=s
       ·subst hss
        rw [if_pos rfl] at hs'
        cases hs'
        have hyl:(ys.take m).length=Nat.min ys.length m:=by rw [List.length_take,Nat.min_comm]
        have hzl:(xs.take lo++ys.take m++xs.drop (lo+min ys.length m)).length=xs.length:=by
         rw [List.length_append,List.length_append,hyl,List.length_take,List.length_drop,hmin];omega
        have hfz:flat t' (xs.take lo++ys.take m++xs.drop (lo+min ys.length m))=setRange (flat t' xs) lo ((flat t' ys).take m):=by
         have hfl:((flat t' ys).take m).length=Nat.min ys.length m:=by rw [List.length_take,aM,hsz,Nat.mul_one,Nat.min_comm]
         unfold setRange
         rw [pY,pY,mZ hsz,mZ hsz,sp hsz,hfl,hmin]
        refine aK.rewrite hchg hM hR hcj (fz':=false) ⟨.inl ⟨⟨setRange vals lo (news.take m),?_,?_,?_⟩,?_⟩⟩
        ·rw [e,hzl]
         exact fZ _ _ _ _ hrow hin
        ·rw [dY _ _ _ hin,hvl2,aM,aM,hzl]
        ·have hvv:aX w g (flat t' xs) vals:=⟨hvl2,hvr⟩
         have:=hvv.setRange (hnr.take m) lo
         rw [←hfz] at this
         exact fun q h1 h2=>(this.2 q h1 h2).same hchg hM'
        ·intro b4 n4 cap4 e4
         obtain ⟨q1,q2⟩:=hs.own b4 n4 cap4 e4
         exact ⟨Nat.lt_of_lt_of_le q1 hchg.size,by rw [hzl];exact q2⟩
       ·rw [if_neg hss] at hs'
        exact (hS.rt s' r' hs').same hchg (fun b o' hb hm=>⟨_,_,hM b o' hb hm,fun e=>hss e.symm⟩)
    ·cases h
  ·cases h
 ·cases h
end
end Go.Proofs.YtjkokaockhecnaaGreatDoorA

namespace Go.Proofs.YtjkokaockhecnaaGreatDoorA
open Go
section
variable {aa:bb}{n:Nat}{w w' w'':World}{g g' g'':Gh}{S:St}{a:Act}{P:Program}
theorem dO (S:St)(s j:Nat)(c:aj):(S.setCell s j c).tmp=S.tmp:=by
 unfold St.setCell;cases S.root s<;>rfl
theorem bm {s j:Nat}{c:aj}{r:ak}(hr:S.root s=some r)(i:Nat):(S.setCell s j c).root i=if i=s then some ⟨r.box,r.cs.set j c⟩ else S.root i:=
 b7 hr i
theorem uE {s j:Nat}{c:aj}(hr:S.root s=none):S.setCell s j c=S:=by
 unfold St.setCell;rw [hr]
theorem bi.frzAt (hS:bi aa n w g S a)(s j:Nat):∃g',bi aa n w g' (_root_.Go.Proofs.YtjkokaockhecnaaGreatDoorA.frzAt S s j) a∧fR w g w g'∧∀b v,af w g b v→af w g' b v:=by
 unfold _root_.Go.Proofs.YtjkokaockhecnaaGreatDoorA.frzAt
 split
 ·rename_i t xs hc
  obtain ⟨r,hr,hj⟩:=cm hc
  obtain ⟨g',hf,hR⟩:=(hS.root hr).raise hj
  refine ⟨g',⟨hS.size,hS.df,hS.tb.inv (hf.inv w),fun t=>?_,fun s' r' hr'=>?_⟩,hf.inv w,fun b v h=>h.frz hf⟩
  ·rw [dO];exact (hS.tm t).frz hf
  ·rw [bm hr] at hr'
   by_cases hss:s'=s
   ·subst hss
    rw [if_pos rfl] at hr'
    cases hr'
    exact hR
   ·rw [if_neg hss] at hr'
    exact (hS.rt s' r' hr').frz hf hss
 ·exact ⟨g,hS,.refl _ _,fun _ _ h=>h⟩
theorem bi.frzAll:∀(l:List (Nat×Nat)) {g:Gh}{S:St},bi aa n w g S a→∃g',bi aa n w g' (_root_.Go.Proofs.YtjkokaockhecnaaGreatDoorA.frzAll S l) a∧fR w g w g'∧∀b v,af w g b v→af w g' b v
 |[],g,_,hS=>⟨g,hS,.refl _ _,fun _ _ h=>h⟩
 |p :: l,_,_,hS=>by
  obtain ⟨g1,h1,i1,r1⟩:=hS.frzAt p.1 p.2
  obtain ⟨g2,h2,i2,r2⟩:=bi.frzAll l h1
  exact ⟨g2,h2,i1.trans i2,fun b v h=>r2 b v (r1 b v h)⟩
end
end Go.Proofs.YtjkokaockhecnaaGreatDoorA

namespace Go.Proofs.YtjkokaockhecnaaGreatDoorA
open Go
section
variable {aa:bb}{n:Nat}{w w' w'':World}{g g' g'' gc:Gh}{S:St}{a:Act}{P:Program}
def cU (os:List gz)(i p s j:Nat):Prop:=∃o,os[i]?=some o∧o.srcs[p]?=some (some (s,j))
def bL (os:List gz)(i s:Nat):Prop:=∃o,os[i]?=some o∧o.box=some s
abbrev gx:=Nat→Nat→Nat→Nat→Prop
structure CG (L:gx)(g gc:Gh)(os:List gz):Prop where
 imm:∀b o,g.who b o=.imm→gc.who b o=.imm
 bor:∀b o,g.who b o=.bor→gc.who b o=.bor
 other:∀b o,g.who b o=.other→gc.who b o=.other
 box:∀b o s,g.who b o=.obj s none→(∀i,¬bL os i s)→gc.who b o=.bor
 lent:∀b o s j,L s j b o→g.who b o=.obj s (some j)→(∀i p,¬cU os i p s j)→gc.who b o=.imm
 src:∀i p s j,cU os i p s j→∀b o,g.who b o=.obj s (some j)→gc.who b o=.obj (1000+i) (some p)
 bx:∀i s,bL os i s→∀b o,g.who b o=.obj s none→gc.who b o=.obj (1000+i) none
 hs:∀i p s j,cU os i p s j→gc.hs (1000+i) p=g.hs s j
 hsn:∀i p o,os[i]?=some o→o.srcs[p]?=some none→gc.hs (1000+i) p=.slice none 0 0
 hb:∀i s,bL os i s→gc.hb (1000+i)=g.hb s
 from_:∀b o s' x,gc.who b o=.obj s' x→(∃i p s j,cU os i p s j∧s'=1000+i∧x=some p∧g.who b o=.obj s (some j))∨(∃i s,bL os i s∧s'=1000+i∧x=none∧g.who b o=.obj s none)
 keepo:∀b o s j,¬L s j b o→g.who b o=.obj s (some j)→(∀i p,¬cU os i p s j)→gc.who b o=.other
theorem CG.ga {L:gx}{os:List gz}(h:CG L g gc os)(w:World):GA w g gc fun _ _=>True:=
 ⟨fun b o _=>h.imm b o,fun b o _=>h.bor b o,fun _ _ hn=>absurd trivial hn,fun _ hn=>absurd trivial hn⟩
theorem af.callee {L:gx}{os:List gz}(hg:CG L g gc os){b:AV}{v:Value}(h:af w g b v)(hb:au (fun _ _=>True) b):af w gc b v:=
 h.pres (.refl w fun _ _=>False) (fun _ _ _ h=>h.elim) (hg.ga w) hb
theorem cv.L {L:gx}{os:List gz}(hg:CG L g gc os){s j:Nat}{t:El}{fz:Bool}{xs:List t.den}(h:cv aa w g s j t fz xs)
  (hl:fz=true∨((∀b n cap o,g.hs s j=.slice (some ⟨b,0,none⟩) n cap→o<xs.length*t.size→L s j b o)∧∀i p,¬cU os i p s j)):af w gc (.L t xs) (g.hs s j):=by
 rcases h.c with ⟨⟨vs,hrow,h2,h3⟩,hown⟩|⟨_,rfl,a,e⟩
 rotate_left
 ·rw [e];exact .lnil _ _ _
 rcases hrow.2 with ⟨e,hz⟩|⟨b,cap,cur,e,_,_,hcap,_⟩
 ·have:xs=[]:=List.eq_nil_of_length_eq_zero hz
  subst this
  rw [e];exact .lnil _ _ _
 ·obtain ⟨vals,_,hc⟩:=h.cells e
  obtain ⟨_,hwho⟩:=hown b _ _ e
  rw [e]
  refine .list t xs b 0 cap vals hcap (fun i hi=>?_) (fun i hi=>(hc i hi).2.callee hg (dP _ t xs _ (List.getElem_mem hi)))
  rw [Nat.zero_add]
  refine ⟨?_,(hc i hi).1⟩
  have:=hwho i
  rw [aM] at hi
  rw [if_pos hi] at this
  rcases hl with rfl|⟨hl,hn⟩
  ·exact hg.imm _ _ (by simpa using this)
  ·cases fz with
   |true=>exact hg.imm _ _ (by simpa using this)
   |false=>exact hg.lent _ _ s j (hl _ _ _ _ e hi) (by simpa using this) hn
def jC (lend:El→Bool)(L:gx)(S:St)(g:Gh)(os:List gz):Prop:=∀s j u (xs:List u.den),S.cell s j=some (.sl u false xs)→lend u=true→
 (∀b n cap o,g.hs s j=.slice (some ⟨b,0,none⟩) n cap→o<xs.length*u.size→L s j b o)∧∀i p,¬cU os i p s j
theorem mH {lend:El→Bool}{L:gx}{os:List gz}(hg:CG L g gc os)(hl:jC lend L S g os){k:LK}{b c:AV}{v:Value}(h:ge lend S k b=some c)(hS:bi aa n w g S a)(hv:af w g b v):af w gc c v:=by
 unfold ge at h
 split at h
 ·cases h;exact hv.callee hg (.bool _)
 ·split at h
  ·rename_i hk;subst hk;cases h;exact hv.callee hg (.int _ _)
  ·cases h
 ·cases h;exact hv.callee hg (.str _)
 ·cases h;exact hv.callee hg (.err _)
 ·rename_i t s j
  split at h
  ·rename_i u fz xs hc
   cases hd:fz||lend u with
   |false=>rw [hd] at h;cases h
   |true=>
    rw [hd] at h
    simp only [cond] at h
    split at h
    ·rename_i hu
     subst hu
     cases h
     rw [hv.al_inv.1]
     refine (hS.cell hc).L hg ?_
     cases fz with
     |true=>exact .inl rfl
     |false=>exact .inr (hl s j u xs hc (by simpa using hd))
    ·cases h
  ·cases h
 ·rename_i t _
  cases hx:tQ t b with
  |none=>rw [hx] at h;cases h
  |some xs=>
   rw [hx] at h
   cases h
   exact (gP hx hv).callee hg (.L _ _)
 ·split at h
  ·rename_i hu;subst hu;cases h
   exact hv.callee hg (.rm _ _ _)
  ·cases h
 ·cases h
theorem jZ {lend:El→Bool}{L:gx}{os:List gz}(hg:CG L g gc os)(hl:jC lend L S g os)(hS:bi aa n w g S a):∀{ks:List LK}{l m:List AV}{vs:List Value},bp lend S ks l=some m→aX w g l vs→aX w gc m vs
 |[],[],m,vs,h,hr=>by
  simp only [bp,Option.some.injEq] at h;subst h
  rw [hr.nil_inv];exact .nil
 |k :: ks,b :: l,m,vs,h,hr=>by
  obtain ⟨v,vs',rfl,h1,h2⟩:=hr.cons_inv
  simp only [bp] at h
  cases hb:ge lend S k b with
  |none=>rw [hb] at h;cases h
  |some c=>
   rw [hb] at h
   simp only [Option.bind_some] at h
   cases hm:bp lend S ks l with
   |none=>rw [hm] at h;cases h
   |some m'=>
    rw [hm] at h
    simp only [Option.map_some,Option.some.injEq] at h
    subst h
    exact .cons (mH hg hl hb hS h1) (jZ hg hl hS hm h2)
 |[],_ :: _,_,_,h,_=>by simp [bp] at h
 |_ :: _,[],_,_,h,_=>by simp [bp] at h
theorem zj {lend:El→Bool}{L:gx}{os:List gz}(hg:CG L g gc os)(hl:jC lend L S g os){b c:AV}{v:Value}(h:pn lend S b=some c)(hS:bi aa n w g S a)(hv:af w g b v):af w gc c v:=by
 unfold pn at h
 split at h
 ·rename_i s j
  split at h
  ·rename_i u fz xs hc
   cases hd:fz||lend u with
   |false=>rw [hd] at h;cases h
   |true=>
    rw [hd] at h
    cases h
    rw [hv.al_inv.1]
    refine (hS.cell hc).L hg ?_
    cases fz with
    |true=>exact .inl rfl
    |false=>exact .inr (hl s j u xs hc (by simpa using hd))
  ·cases h
 ·cases h;exact hv.callee hg (.bool _)
 ·cases h;exact hv.callee hg (.int _ _)
 ·cases h;exact hv.callee hg (.str _)
 ·cases h;exact hv.callee hg (.L _ _)
 ·cases h;exact hv.callee hg .nils
 ·cases h;exact hv.callee hg .nilp
 ·cases h
theorem rI {lend:El→Bool}{L:gx}{os:List gz}(hg:CG L g gc os)(hl:jC lend L S g os)(hS:bi aa n w g S a):∀{l m:List AV}{vs:List Value},ee lend S l=some m→aX w g l vs→aX w gc m vs
 |[],m,vs,h,hr=>by
  simp only [ee,Option.some.injEq] at h;subst h
  rw [hr.nil_inv];exact .nil
 |b :: l,m,vs,h,hr=>by
  obtain ⟨v,vs',rfl,h1,h2⟩:=hr.cons_inv
  simp only [ee] at h
  cases hb:pn lend S b with
  |none=>rw [hb] at h;cases h
  |some c=>
   rw [hb] at h
   simp only [Option.bind_some] at h
   cases hm:ee lend S l with
   |none=>rw [hm] at h;cases h
   |some m'=>
    rw [hm] at h
    simp only [Option.map_some,Option.some.injEq] at h
    subst h
    exact .cons (zj hg hl hb hS h1) (rI hg hl hS hm h2)
theorem af.vpOf {cs m:List AV}{b o:Nat}{vals:Nat→Value}(hl:m.length=cs.length)(hc:∀j,j<cs.length→(gc.who b (o+j)=.imm∨gc.who b (o+j)=.bor)∧w.cell? ⟨b,o+j,none⟩=some (vals j))
  (hr:aX w gc m ((List.range cs.length).map vals)):af w gc (.vp m) (.pointer (some ⟨b,o,none⟩)):=by
 refine .vp m b o vals (fun j hj=>hc j (by omega)) (fun j hj=>?_)
 have:=hr.2 j hj (by simp;omega)
 simpa using this
theorem aX.range {cs:List AV}{vals:Nat→Value}(h:∀j (h:j<cs.length),af w g (cs[j]) (vals j)):aX w g cs ((List.range cs.length).map vals):=
 ⟨by simp,fun j hj hj'=>by simp only [List.getElem_map,List.getElem_range];exact h j hj⟩
theorem lw {L:gx}{os:List gz}(hg:CG L g gc os){x:AV}{v:Value}{l:List AV}(hS:bi aa n w g S a)(hbx:∀s,S.root s≠none→∀i,¬bL os i s)(hv:af w g x v)
  (hx:(∃s off cs,x=.ref s off∧S.root s=some ⟨true,cs⟩∧l=(bu s 0 cs).drop off)∨x=.vp l∨x=.vi l):
  ∃(b o:Nat) (vals:Nat→Value),v=.pointer (some ⟨b,o,none⟩)∧(∀j,j<l.length→(gc.who b (o+j)=.imm∨gc.who b (o+j)=.bor)∧w.cell? ⟨b,o+j,none⟩=some (vals j))∧∀j (h:j<l.length),af w g (l[j]) (vals j):=by
 rcases hx with ⟨s,off,cs,rfl,hroot,rfl⟩|rfl|rfl
 ·obtain ⟨vals,hb⟩:=(hS.root hroot).box rfl
  refine ⟨_,_,fun j=>vals (off+j),hv.ref_inv,fun j hj=>?_,fun j hj=>?_⟩
  ·have hj':off+j<cs.length:=by simp [cb] at hj;omega
   obtain ⟨_,h2,h3,_,_⟩:=hb _ hj'
   rw [Nat.add_assoc]
   exact ⟨.inr (hg.box _ _ s h2 (hbx s (by rw [hroot];simp))),h3⟩
  ·have hj':off+j<cs.length:=by simp [cb] at hj;omega
   obtain ⟨_,_,_,_,h5⟩:=hb _ hj'
   have e:=gn s cs 0 (off+j)
   have hq:off+j<(bu s 0 cs).length:=by rw [cb];exact hj'
   simp only [hq,hj',List.getElem?_eq_getElem,Option.map_some,Nat.zero_add,Option.some.injEq] at e
   simp only [List.getElem_drop]
   rw [e];exact h5.cellAV
 ·cases hv with
  |vp _ b o vals hc hr=>
   refine ⟨b,o,vals,rfl,fun j hj=>⟨?_,(hc j hj).2⟩,hr⟩
   rcases (hc j hj).1 with h|h
   ·exact .inl (hg.imm _ _ h)
   ·exact .inr (hg.bor _ _ h)
 ·cases hv with
  |vi _ b o vals hc hr=>exact ⟨b,o,vals,rfl,fun j hj=>⟨.inl (hg.imm _ _ (hc j hj).1),(hc j hj).2⟩,hr⟩
theorem kz {lend:El→Bool}:∀{ks:List LK}{l m:List AV},bp lend S ks l=some m→m.length=l.length
 |[],[],m,h=>by simp only [bp,Option.some.injEq] at h;subst h;rfl
 |k :: ks,b :: l,m,h=>by
  simp only [bp] at h
  cases hb:ge lend S k b with
  |none=>rw [hb] at h;cases h
  |some c=>
   rw [hb] at h
   simp only [Option.bind_some] at h
   cases hm:bp lend S ks l with
   |none=>rw [hm] at h;cases h
   |some m'=>
    rw [hm] at h
    simp only [Option.map_some,Option.some.injEq] at h
    subst h
    simp [kz hm]
 |[],_ :: _,_,h=>by simp [bp] at h
 |_ :: _,[],_,h=>by simp [bp] at h
theorem ma {lend:El→Bool}:∀{l m:List AV},ee lend S l=some m→m.length=l.length
 |[],m,h=>by simp only [ee,Option.some.injEq] at h;subst h;rfl
 |b :: l,m,h=>by
  simp only [ee] at h
  cases hb:pn lend S b with
  |none=>rw [hb] at h;cases h
  |some c=>
   rw [hb] at h
   simp only [Option.bind_some] at h
   cases hm:ee lend S l with
   |none=>rw [hm] at h;cases h
   |some m'=>
    rw [hm] at h
    simp only [Option.map_some,Option.some.injEq] at h
    subst h
    simp [ma hm]
theorem xr {b o off k:Nat}{l m:List AV}{vals:Nat→Value}(ht:bQ l off k=some m)
  (hc:∀j,j<l.length→(gc.who b (o+j)=.imm∨gc.who b (o+j)=.bor)∧w.cell? ⟨b,o+j,none⟩=some (vals j)) (hr:∀j (h:j<l.length),af w g (l[j]) (vals j)):
  (∀j,j<m.length→(gc.who b (o+off+j)=.imm∨gc.who b (o+off+j)=.bor)∧w.cell? ⟨b,o+off+j,none⟩=some (vals (off+j)))∧∀j (h:j<m.length),af w g (m[j]) (vals (off+j)):=by
 obtain ⟨h1,h2,h3⟩:=dJ ht
 refine ⟨fun j hj=>?_,fun j hj=>?_⟩
 ·rw [Nat.add_assoc];exact hc _ (by omega)
 ·have e:=h3 j (by omega)
  have hq:off+j<l.length:=by omega
  simp only [hj,hq,List.getElem?_eq_getElem,Option.some.injEq] at e
  rw [e];exact hr _ hq
theorem BG {lend:El→Bool}{L:gx}{os:List gz}(hg:CG L g gc os)(hl:jC lend L S g os)(hS:bi aa n w g S a)(hbx:∀s,S.root s≠none→∀i,¬bL os i s){ks:List LK}{x c:AV}{v:Value}(h:Ao lend S ks x=some c)
  (hv:af w g x v):af w gc c v:=by
 have fin:∀(off:Nat) (l m m':List AV) (b o:Nat) (vals:Nat→Value),bQ l off ks.length=some m→bp lend S ks m=some m'→v=.pointer (some ⟨b,o+off,none⟩)→
   (∀j,j<l.length→(gc.who b (o+j)=.imm∨gc.who b (o+j)=.bor)∧w.cell? ⟨b,o+j,none⟩=some (vals j))→(∀j (h:j<l.length),af w g (l[j]) (vals j))→af w gc (.vp m') v:=by
  intro off l m m' b o vals ht hm hv hc hr
  obtain ⟨c1,c2⟩:=xr ht hc hr
  rw [hv]
  exact af.vpOf (kz hm) c1 (jZ hg hl hS hm (.range c2))
 unfold Ao at h
 split at h
 ·rename_i s off
  split at h
  ·rename_i cs hroot
   cases ht:bQ (bu s 0 cs) off ks.length with
   |none=>rw [ht] at h;cases h
   |some m=>
    rw [ht] at h
    simp only [Option.bind_some] at h
    cases hm:bp lend S ks m with
    |none=>rw [hm] at h;cases h
    |some m'=>
     rw [hm] at h
     cases h
     obtain ⟨vals,hb⟩:=(hS.root hroot).box rfl
     refine fin off _ m m' (g.hb s).1 (g.hb s).2 vals ht hm hv.ref_inv (fun j hj=>?_) (fun j hj=>?_)
     ·rw [cb] at hj
      obtain ⟨_,h2,h3,_,_⟩:=hb _ hj
      exact ⟨.inr (hg.box _ _ s h2 (hbx s (by rw [hroot];simp))),h3⟩
     ·have hj':j<cs.length:=by rw [cb] at hj;exact hj
      have e:=gn s cs 0 j
      simp only [hj,hj',List.getElem?_eq_getElem,Option.map_some,Nat.zero_add,Option.some.injEq] at e
      rw [e];exact (hb _ hj').2.2.2.2.cellAV
  ·cases h
 ·rename_i cs
  cases ht:bQ cs 0 ks.length with
  |none=>rw [ht] at h;cases h
  |some m=>
   rw [ht] at h
   simp only [Option.bind_some] at h
   cases hm:bp lend S ks m with
   |none=>rw [hm] at h;cases h
   |some m'=>
    rw [hm] at h
    cases h
    obtain ⟨b,o,vals,e,hc,hr⟩:=lw hg hS hbx hv (.inr (.inl rfl))
    exact fin 0 _ m m' b o vals ht hm e hc hr
 ·rename_i cs
  cases ht:bQ cs 0 ks.length with
  |none=>rw [ht] at h;cases h
  |some m=>
   rw [ht] at h
   simp only [Option.bind_some] at h
   cases hm:bp lend S ks m with
   |none=>rw [hm] at h;cases h
   |some m'=>
    rw [hm] at h
    cases h
    obtain ⟨b,o,vals,e,hc,hr⟩:=lw hg hS hbx hv (.inr (.inr rfl))
    exact fin 0 _ m m' b o vals ht hm e hc hr
 ·cases h
theorem y8 {lend:El→Bool}{L:gx}{os:List gz}(hg:CG L g gc os)(hl:jC lend L S g os)(hS:bi aa n w g S a)(hbx:∀s,S.root s≠none→∀i,¬bL os i s){x c:AV}{v:Value}(h:sa lend S x=some c)
  (hv:af w g x v):af w gc c v:=by
 have fin:∀(l m:List AV),ee lend S l=some m→(∃(b o:Nat) (vals:Nat→Value),v=.pointer (some ⟨b,o,none⟩)∧
   (∀j,j<l.length→(gc.who b (o+j)=.imm∨gc.who b (o+j)=.bor)∧w.cell? ⟨b,o+j,none⟩=some (vals j))∧∀j (h:j<l.length),af w g (l[j]) (vals j))→af w gc (.vp m) v:=by
  rintro l m hm ⟨b,o,vals,rfl,hc,hr⟩
  exact af.vpOf (ma hm) hc (rI hg hl hS hm (.range hr))
 unfold sa at h
 split at h
 ·rename_i s off
  split at h
  ·rename_i cs hroot
   cases hm:ee lend S ((bu s 0 cs).drop off) with
   |none=>rw [hm] at h;cases h
   |some m=>
    rw [hm] at h;cases h
    exact fin _ _ hm (lw hg hS hbx hv (.inl ⟨s,off,cs,rfl,hroot,rfl⟩))
  ·cases h
 ·rename_i cs
  cases hm:ee lend S cs with
  |none=>rw [hm] at h;cases h
  |some m=>rw [hm] at h;cases h;exact fin _ _ hm (lw hg hS hbx hv (.inr (.inl rfl)))
 ·rename_i cs
  cases hm:ee lend S cs with
  |none=>rw [hm] at h;cases h
  |some m=>rw [hm] at h;cases h;exact fin _ _ hm (lw hg hS hbx hv (.inr (.inr rfl)))
 ·cases h
theorem tC {lend:El→Bool}{L:gx}{os:List gz}(hg:CG L g gc os)(hl:jC lend L S g os)(hS:bi aa n w g S a)(hbx:∀s,S.root s≠none→∀i,¬bL os i s):∀{l m:List AV}{vs:List Value},mn lend S l=some m→aX w g l vs→aX w gc m vs
 |[],m,vs,h,hr=>by
  simp only [mn,Option.some.injEq] at h;subst h
  rw [hr.nil_inv];exact .nil
 |b :: l,m,vs,h,hr=>by
  obtain ⟨v,vs',rfl,h1,h2⟩:=hr.cons_inv
  simp only [mn] at h
  cases hb:sa lend S b with
  |none=>rw [hb] at h;cases h
  |some c=>
   rw [hb] at h
   simp only [Option.bind_some] at h
   cases hm:mn lend S l with
   |none=>rw [hm] at h;cases h
   |some m'=>
    rw [hm] at h
    simp only [Option.map_some,Option.some.injEq] at h
    subst h
    exact .cons (y8 hg hl hS hbx hb h1) (tC hg hl hS hbx hm h2)
theorem v8 {lend:El→Bool}{L:gx}{os:List gz}(hg:CG L g gc os)(hl:jC lend L S g os)(hS:bi aa n w g S a)(hbx:∀s,S.root s≠none→∀i,¬bL os i s){k:PK}{x:AV}{r:mo}{v:Value}(h:rN lend S k x=some r)
  (hv:af w g x v):∃c,r=.v c∧af w gc c v:=by
 unfold rN at h
 split at h
 ·rename_i k
  cases hc:ge lend S k x with
  |none=>rw [hc] at h;cases h
  |some c=>rw [hc] at h;cases h;exact ⟨c,rfl,mH hg hl hc hS hv⟩
 ·rename_i ks cs
  cases hc:bp lend S ks cs with
  |none=>rw [hc] at h;cases h
  |some m=>
   rw [hc] at h;cases h
   obtain ⟨vs,rfl,e1,e2⟩:=hv.agg_inv
   exact ⟨_,rfl,(jZ hg hl hS hc ⟨e1,e2⟩).agg⟩
 ·rename_i ks
  cases hc:Ao lend S ks x with
  |none=>rw [hc] at h;cases h
  |some c=>rw [hc] at h;cases h;exact ⟨c,rfl,BG hg hl hS hbx hc hv⟩
 ·rename_i f caps
  cases hc:mn lend S caps with
  |none=>rw [hc] at h;cases h
  |some m=>
   rw [hc] at h;cases h
   cases hv with
   |fn _ _ vs e1 e2=>
    have:=tC hg hl hS hbx hc ⟨e1,e2⟩
    exact ⟨_,rfl,.fn f m vs this.1 this.2⟩
 ·cases h
end
end Go.Proofs.YtjkokaockhecnaaGreatDoorA

namespace Go.Proofs.YtjkokaockhecnaaGreatDoorA
open Go
section
variable {aa:bb}{n:Nat}{w w' w'':World}{g g' g'' gc:Gh}{S S':St}{a:Act}{P:Program}
theorem cv.callee {L:gx}{os:List gz}(hg:CG L g gc os){s j i p:Nat}{t:El}{fz:Bool}{xs:List t.den}(h:cv aa w g s j t fz xs)(hs:cU os i p s j):cv aa w gc (1000+i) p t fz xs:=by
 have e:=hg.hs i p s j hs
 rcases h.c with ⟨⟨vs,h1,h2,h3⟩,hown⟩|⟨h1,h2,a,h3⟩
 rotate_left
 ·exact ⟨.inr ⟨h1,h2,a,e.trans h3⟩⟩
 refine ⟨.inl ⟨⟨vs,by rw [e];exact h1,h2,fun k hk hk'=>(h3 k hk hk').callee hg (dP _ t xs _ (List.getElem_mem hk))⟩,fun b m cap e'=>?_⟩⟩
 rw [e] at e'
 obtain ⟨hlt,hw⟩:=hown b m cap e'
 refine ⟨hlt,fun o=>?_⟩
 have:=hw o
 split at this
 ·rename_i ho
  rw [if_pos ho]
  cases fz with
  |true=>exact hg.imm _ _ (by simpa using this)
  |false=>exact hg.src i p s j hs b o (by simpa using this)
 ·rename_i ho
  rw [if_neg ho]
  exact hg.src i p s j hs b o this
theorem cv.empty {s j:Nat}{t:El}{fz:Bool}(h:g.hs s j=.slice none 0 0):cv aa w g s j t fz []:=by
 refine ⟨.inl ⟨⟨[],by rw [h];exact World.ownsRow_nil w 0 _ _,rfl,fun i h=>by simp [flat] at h⟩,fun b m cap e=>?_⟩⟩
 rw [h] at e;cases e
theorem o6 {L:gx}{os:List gz}(hg:CG L g gc os)(hS:bi aa n w g S a){k:LK}{b:AV}{c:aj}{x:Option (Nat×Nat)}{v:Value}(h:ii S k b=some (c,x))(hv:af w g b v)
  {i p:Nat}{o:gz} (ho:os[i]?=some o) (hx:o.srcs[p]?=some x):dk aa w gc (1000+i) p c v:=by
 have hl:jC ko L S g os:=fun _ _ _ _ _ h=>by cases h
 unfold ii at h
 split at h
 ·cases h
  have e:=hg.hsn i p o ho hx
  have ev:v=.slice none 0 0:=by cases hv;rfl
  rw [ev,←e]
  exact .sl _ _ _ (.empty e)
 ·rename_i t fz s j
  split at h
  ·rename_i u fz' xs hc
   split at h
   ·rename_i hu
    subst hu
    cases hf:fz==fz' with
    |false=>rw [hf] at h;cases h
    |true=>
     rw [hf] at h
     cases h
     have hs:cU os i p s j:=⟨o,ho,hx⟩
     rw [hv.al_inv.1,←hg.hs i p s j hs]
     exact .sl _ _ _ ((hS.cell hc).callee hg hs)
   ·cases h
  ·cases h
 ·cases hm:ge ko S k b with
  |none=>rw [hm] at h;cases h
  |some c'=>
   rw [hm] at h;cases h
   exact .av _ _ (mH hg hl hm hS hv)
theorem pv {L:gx}{os:List gz}(hg:CG L g gc os)(hS:bi aa n w g S a){i:Nat}{o:gz}(ho:os[i]?=some o):∀{ks:List LK}{l:List AV}{cs:List aj}{ys:List (Option (Nat×Nat))}{vs:List Value} (p:Nat),
  ey S ks l=some (cs,ys)→aX w g l vs→(∀q,q<ys.length→o.srcs[p+q]?=ys[q]?)→cs.length=vs.length∧∀q (hq:q<cs.length) (hq':q<vs.length),dk aa w gc (1000+i) (p+q) (cs[q]) (vs[q])
 |[],[],cs,ys,vs,p,h,hr,_=>by
  simp only [ey,Option.some.injEq] at h;cases h
  rw [hr.nil_inv]
  exact ⟨rfl,fun q hq=>by simp at hq⟩
 |k :: ks,b :: l,cs,ys,vs,p,h,hr,hp=>by
  obtain ⟨v,vs',rfl,h1,h2⟩:=hr.cons_inv
  simp only [ey] at h
  cases hb:ii S k b with
  |none=>rw [hb] at h;cases h
  |some cx=>
   obtain ⟨c,x⟩:=cx
   rw [hb] at h
   simp only [Option.bind_some] at h
   cases hm:ey S ks l with
   |none=>rw [hm] at h;cases h
   |some my=>
    obtain ⟨m,y⟩:=my
    rw [hm] at h
    simp only [Option.map_some,Option.some.injEq] at h
    cases h
    have h0:=hp 0 (by simp)
    simp only [Nat.add_zero,List.getElem?_cons_zero] at h0
    obtain ⟨e1,e2⟩:=pv hg hS ho (p+1) hm h2 (fun q hq=>by
     have:=hp (q+1) (by simp;omega)
     rw [show p+(q+1)=p+1+q by omega] at this
     simpa using this)
    refine ⟨by simp [e1],fun q hq hq'=>?_⟩
    cases q with
    |zero=>exact o6 hg hS hb h1 ho h0
    |succ q=>
     have:=e2 q (by simpa using hq) (by simpa using hq')
     rw [show p+1+q=p+(q+1) by omega] at this
     simpa using this
 |[],_ :: _,_,_,_,_,h,_,_=>by simp [ey] at h
 |_ :: _,[],_,_,_,_,h,_,_=>by simp [ey] at h
theorem nZ {L:gx}{os:List gz}(hg:CG L g gc os)(hS:bi aa n w g S a){i s:Nat}{o:gz}(ho:os[i]?=some o):∀{ks:List LK}{l cs:List aj}{ys:List (Option (Nat×Nat))}{vals:Nat→Value} (p:Nat),
  aG S s p ks l=some (cs,ys)→(∀q (hq:q<l.length),dk aa w g s (p+q) (l[q]) (vals (p+q)))→(∀q,q<ys.length→o.srcs[p+q]?=ys[q]?)→
  cs.length=l.length∧∀q (hq:q<cs.length),dk aa w gc (1000+i) (p+q) (cs[q]) (vals (p+q))
 |[],[],cs,ys,vals,p,h,hr,_=>by
  simp only [aG,Option.some.injEq] at h;cases h
  exact ⟨rfl,fun q hq=>by simp at hq⟩
 |k :: ks,c0 :: l,cs,ys,vals,p,h,hr,hp=>by
  have hr0:=hr 0 (by simp)
  simp only [Nat.add_zero,List.getElem_cons_zero] at hr0
  have hrest:∀q (hq:q<l.length),dk aa w g s (p+1+q) (l[q]) (vals (p+1+q)):=by
   intro q hq
   have:=hr (q+1) (by simp;omega)
   rw [show p+(q+1)=p+1+q by omega] at this
   simpa using this
  -- one cell, and the rest
  have fin:∀(c:aj) (x:Option (Nat×Nat)) (m:List aj) (y:List (Option (Nat×Nat))),aG S s (p+1) ks l=some (m,y)→cs=c :: m→ys=x :: y→(o.srcs[p]?=some x→dk aa w gc (1000+i) p c (vals p))→
    cs.length=(c0 :: l).length∧∀q (hq:q<cs.length),dk aa w gc (1000+i) (p+q) (cs[q]) (vals (p+q)):=by
   intro c x m y hm hcs hys hc
   subst hcs;subst hys
   have h0:=hp 0 (by simp)
   simp only [Nat.add_zero,List.getElem?_cons_zero] at h0
   obtain ⟨e1,e2⟩:=nZ hg hS ho (p+1) hm hrest (fun q hq=>by
    have:=hp (q+1) (by simp;omega)
    rw [show p+(q+1)=p+1+q by omega] at this
    simpa using this)
   refine ⟨by simp [e1],fun q hq=>?_⟩
   cases q with
   |zero=>exact hc h0
   |succ q=>
    have:=e2 q (by simpa using hq)
    rw [show p+1+q=p+(q+1) by omega] at this
    simpa using this
  cases c0 with
  |av b=>
   simp only [aG] at h
   cases hb:ii S k b with
   |none=>rw [hb] at h;cases h
   |some cx=>
    obtain ⟨c,x⟩:=cx
    rw [hb] at h
    simp only [Option.bind_some] at h
    cases hm:aG S s (p+1) ks l with
    |none=>rw [hm] at h;cases h
    |some my=>
     obtain ⟨m,y⟩:=my
     rw [hm] at h
     simp only [Option.map_some,Option.some.injEq] at h
     cases h
     exact fin c x m y hm rfl rfl fun h0=>o6 hg hS hb hr0.av_inv ho h0
  |sl u fz' xs=>
   cases k<;>try (simp [aG] at h;done)
   case own t fz=>
    simp only [aG] at h
    split at h
    ·rename_i hu
     subst hu
     cases hf:fz==fz' with
     |false=>rw [hf] at h;cases h
     |true=>
      rw [hf] at h
      simp only [cond] at h
      cases hm:aG S s (p+1) ks l with
      |none=>rw [hm] at h;cases h
      |some my=>
       obtain ⟨m,y⟩:=my
       rw [hm] at h
       simp only [Option.map_some,Option.some.injEq] at h
       cases h
       refine fin _ _ m y hm rfl rfl fun h0=>?_
       have hs:cU os i p s p:=⟨o,ho,h0⟩
       rw [hr0.sl_inv.2,←hg.hs i p s p hs]
       exact .sl _ _ _ (hr0.sl_inv.1.callee hg hs)
    ·cases h
   case list t=>
    cases fz' with
    |false=>simp [aG] at h
    |true=>
     simp only [aG] at h
     split at h
     ·rename_i hu
      subst hu
      cases hm:aG S s (p+1) ks l with
      |none=>rw [hm] at h;cases h
      |some my=>
       obtain ⟨m,y⟩:=my
       rw [hm] at h
       simp only [Option.map_some,Option.some.injEq] at h
       cases h
       refine fin _ _ m y hm rfl rfl fun _=>?_
       rw [hr0.sl_inv.2]
       exact .av _ _ (hr0.sl_inv.1.L hg (.inl rfl))
     ·cases h
 |[],_ :: _,_,_,_,_,h,_,_=>by simp [aG] at h
 |_ :: _,[],_,_,_,_,h,_,_=>by simp [aG] at h
structure EH (aa:bb)(w:World)(gc:Gh)(i:Nat)(r:mo)(v:Value):Prop where
 val:∀k b,look k (cY i [r])=some b→k=i∧af w gc b v
 root:∀s q,look s (dI i [r])=some q→aK aa w gc s q
theorem kT {w:World}{g:Gh}{s:Nat}:∀{cs:List aj}{vs:List Value} (p:Nat),cs.length=vs.length→(∀q (hq:q<cs.length) (hq':q<vs.length),dk aa w g s (p+q) (cs[q]) (vs[q]))→aX w g (bu s p cs) vs
 |[],[],_,_,_=>.nil
 |c :: cs,v :: vs,p,hl,h=>by
  refine .cons (h 0 (by simp) (by simp)).cellAV (kT (p+1) (by simpa using hl) fun q hq hq'=>?_)
  have:=h (q+1) (by simp;omega) (by simp;omega)
  rw [show p+(q+1)=p+1+q by omega] at this
  simpa using this
 |[],_ :: _,_,hl,_=>by simp at hl
 |_ :: _,[],_,hl,_=>by simp at hl
theorem aK.ofCells {w:World}{g:Gh}{s:Nat}{cs:List aj}{vs:List Value}(hl:cs.length=vs.length)(h:∀q (hq:q<cs.length) (hq':q<vs.length),dk aa w g s q (cs[q]) (vs[q])):aK aa w g s ⟨false,cs⟩:=by
 refine ⟨fun _ j t fz xs hj=>?_,fun e=>by cases e⟩
 obtain ⟨h1,h2⟩:=List.getElem?_eq_some_iff.mp hj
 have h1':j<cs.length:=h1
 have:=h j h1' (by omega)
 simp only at h2
 rw [h2] at this
 exact this.sl_inv.1
theorem zq {lend:El→Bool}{L:gx}{os:List gz}(hg:CG L g gc os)(hl:jC lend L S' g os)(hS:bi aa n w g S a)(hS':bi aa n w g S' a)(hbx:∀s,S'.root s≠none→∀i,¬bL os i s)
  {k:PK}{b:AV}{r:mo}{x:gz}{v:Value} (h:qH lend S S' k b=some (r,x)) (hlf:lend≠ko→k.quiet=true) (hv:af w g b v) {i:Nat} (ho:os[i]?=some x):EH aa w gc i r v:=by
 unfold qH at h
 cases hq:k.quiet with
 |true=>
  rw [hq] at h
  simp only [cond] at h
  cases hm:rN lend S' k b with
  |none=>rw [hm] at h;cases h
  |some r'=>
   rw [hm] at h
   cases h
   obtain ⟨c,rfl,hc⟩:=v8 hg hl hS' hbx hm hv
   refine ⟨fun k b hk=>?_,fun s q hs=>by simp [dI,look] at hs⟩
   simp only [cY,look] at hk
   cases e:Nat.beq i k with
   |false=>rw [e] at hk;cases hk
   |true=>rw [e] at hk;cases hk;exact ⟨(Nat.eq_of_beq_eq_true e).symm,hc⟩
 |false=>
  have hlf':lend=ko:=Classical.byContradiction fun e=>by
   have:=hlf e;rw [hq] at this;cases this
  subst hlf'
  rw [hq] at h
  simp only [cond] at h
  have single:∀(b':AV) (c0:AV) (k0:Nat),look k0 [(i,c0)]=some b'→k0=i∧b'=c0:=by
   intro b' c0 k0 hk
   simp only [look] at hk
   cases e:Nat.beq i k0 with
   |false=>rw [e] at hk;cases hk
   |true=>rw [e] at hk;cases hk;exact ⟨(Nat.eq_of_beq_eq_true e).symm,rfl⟩
  have singleR:∀(q:ak) (c0:ak) (k0:Nat),look k0 [(1000+i,c0)]=some q→k0=1000+i∧q=c0:=by
   intro q c0 k0 hk
   simp only [look] at hk
   cases e:Nat.beq (1000+i) k0 with
   |false=>rw [e] at hk;cases hk
   |true=>rw [e] at hk;cases hk;exact ⟨(Nat.eq_of_beq_eq_true e).symm,rfl⟩
  split at h
  ·rename_i k
   cases hm:ii S k b with
   |none=>rw [hm] at h;cases h
   |some cx=>
    rw [hm] at h
    cases h
    have hc:=o6 hg hS hm hv ho (p:=0) (by simp)
    refine ⟨fun k b hk=>?_,fun s q hs=>?_⟩
    ·obtain ⟨e1,e2⟩:=single _ _ _ hk
     subst e2;exact ⟨e1,hc.cellAV⟩
    ·obtain ⟨e1,e2⟩:=singleR _ _ _ hs
     subst e1;subst e2
     exact aK.ofCells (vs:=[v]) rfl fun q hq hq'=>by
      have:q=0:=by simp at hq;omega
      subst this
      simpa using hc
  ·rename_i ks cs
   cases hm:ey S ks cs with
   |none=>rw [hm] at h;cases h
   |some cy=>
    obtain ⟨l,y⟩:=cy
    rw [hm] at h
    cases h
    obtain ⟨vs,rfl,e1,e2⟩:=hv.agg_inv
    obtain ⟨f1,f2⟩:=pv hg hS ho 0 hm ⟨e1,e2⟩ (fun q hq=>by simp)
    simp only [Nat.zero_add] at f2
    refine ⟨fun k b hk=>?_,fun s q hs=>?_⟩
    ·obtain ⟨q1,q2⟩:=single _ _ _ hk
     subst q2
     exact ⟨q1,(kT 0 f1 (by simpa using f2)).agg⟩
    ·obtain ⟨q1,q2⟩:=singleR _ _ _ hs
     subst q1;subst q2
     exact aK.ofCells f1 f2
  ·rename_i ks s
   split at h
   ·rename_i cs hroot
    cases hm:aG S s 0 ks cs with
    |none=>rw [hm] at h;cases h
    |some cy=>
     obtain ⟨l,y⟩:=cy
     rw [hm] at h
     cases h
     have hbat:bL os i s:=⟨_,ho,rfl⟩
     obtain ⟨vals,hvv⟩:=(hS.root hroot).box rfl
     obtain ⟨f1,f2⟩:=nZ hg hS ho (s:=s) (vals:=vals) 0 hm (fun q hq=>by rw [Nat.zero_add];exact (hvv q hq).2.2.2.2) (fun q hq=>by simp)
     refine ⟨fun k b hk=>?_,fun s' q hs=>?_⟩
     ·obtain ⟨q1,q2⟩:=single _ _ _ hk
      subst q2
      refine ⟨q1,?_⟩
      rw [hv.ref_inv,←hg.hb i s hbat]
      exact .ref _ _
     ·obtain ⟨q1,q2⟩:=singleR _ _ _ hs
      subst q1;subst q2
      refine ⟨fun e=>(by cases e),fun _=>⟨vals,fun j hj=>?_⟩⟩
      have hj':j<cs.length:=by rw [←f1];exact hj
      obtain ⟨h1,h2,h3,h4,_⟩:=hvv j hj'
      rw [hg.hb i s hbat]
      refine ⟨h1,hg.bx i s hbat _ _ h2,h3,h4,?_⟩
      have:=f2 j hj
      rwa [Nat.zero_add] at this
   ·cases h
  ·cases h
end
end Go.Proofs.YtjkokaockhecnaaGreatDoorA

namespace Go.Proofs.YtjkokaockhecnaaGreatDoorA
open Go
section
variable {aa:bb}{n:Nat}{w w' w'':World}{g g' g'' gc:Gh}{S S':St}{a:Act}{P:Program}
theorem pO {α:Type}(k:Nat)(l m:List (Nat×α)):look k (l++m)=match look k l with|some a=>some a|none=>look k m:=by
 induction l with
 |nil=>rfl
 |cons p l ih=>
  obtain ⟨i,a⟩:=p
  simp only [List.cons_append,look]
  cases Nat.beq i k with
  |true=>rfl
  |false=>simpa using ih
theorem vE (i:Nat)(r:mo)(l:List mo):cY i (r :: l)=cY i [r]++cY (i+1) l:=by
 cases r<;>rfl
theorem vR (i:Nat)(r:mo)(l:List mo):dI i (r :: l)=dI i [r]++dI (i+1) l:=by
 cases r<;>rfl
theorem tp {lend:El→Bool}{L:gx}{os:List gz}(hg:CG L g gc os)(hl:jC lend L S' g os)(hS:bi aa n w g S a)(hS':bi aa n w g S' a)(hbx:∀s,S'.root s≠none→∀i,¬bL os i s):
  ∀{ks:List PK}{as:List AV}{args:List mo}{xs:List gz}{vals:List Value} (i0:Nat),ej lend S S' ks as=some (args,xs)→aX w g as vals→(∀q,q<xs.length→os[i0+q]?=xs[q]?)→(lend≠ko→∀k∈ks,k.quiet=true)→
   args.length=vals.length∧(∀k b,look k (cY i0 args)=some b→∃q v,k=i0+q∧vals[q]?=some v∧af w gc b v)∧∀s r,look s (dI i0 args)=some r→aK aa w gc s r
 |[],[],args,xs,vals,i0,h,hr,_,_=>by
  simp only [ej,Option.some.injEq] at h;cases h
  rw [hr.nil_inv]
  exact ⟨rfl,fun k b hk=>by simp [cY,look] at hk,fun s r hs=>by simp [dI,look] at hs⟩
 |k :: ks,b :: as,args,xs,vals,i0,h,hr,hx,hq=>by
  obtain ⟨v,vs,rfl,h1,h2⟩:=hr.cons_inv
  simp only [ej] at h
  cases hb:qH lend S S' k b with
  |none=>rw [hb] at h;cases h
  |some rx=>
   obtain ⟨r,x⟩:=rx
   rw [hb] at h
   simp only [Option.bind_some] at h
   cases hm:ej lend S S' ks as with
   |none=>rw [hm] at h;cases h
   |some my=>
    obtain ⟨m,y⟩:=my
    rw [hm] at h
    simp only [Option.map_some,Option.some.injEq] at h
    cases h
    have h0:=hx 0 (by simp)
    simp only [Nat.add_zero,List.getElem?_cons_zero] at h0
    have ha:=zq hg hl hS hS' hbx hb (fun h=>hq h k List.mem_cons_self) h1 h0
    obtain ⟨e1,e2,e3⟩:=tp hg hl hS hS' hbx (i0+1) hm h2 (fun q hq=>by
     have:=hx (q+1) (by simp;omega)
     rw [show i0+(q+1)=i0+1+q by omega] at this
     simpa using this) (fun h k hk=>hq h k (List.mem_cons_of_mem _ hk))
    refine ⟨by simp [e1],fun k' b' hk=>?_,fun s q hs=>?_⟩
    ·rw [vE,pO] at hk
     cases hl1:look k' (cY i0 [r]) with
     |some b1=>
      rw [hl1] at hk;cases hk
      obtain ⟨q1,q2⟩:=ha.val _ _ hl1
      exact ⟨0,v,by omega,by simp,q2⟩
     |none=>
      rw [hl1] at hk
      obtain ⟨q,v',q1,q2,q3⟩:=e2 _ _ hk
      exact ⟨q+1,v',by omega,by simpa using q2,q3⟩
    ·rw [vR,pO] at hs
     cases hl1:look s (dI i0 [r]) with
     |some b1=>rw [hl1] at hs;cases hs;exact ha.root _ _ hl1
     |none=>rw [hl1] at hs;exact e3 _ _ hs
 |[],_ :: _,_,_,_,_,h,_,_,_=>by simp [ej] at h
 |_ :: _,[],_,_,_,_,h,_,_,_=>by simp [ej] at h
theorem AE {p:Nat×Nat}{l:List (Nat×Nat)}:BJ p l=true↔p∈l:=by
 induction l with
 |nil=>simp [BJ]
 |cons q l ih=>
  simp only [BJ,Bool.or_eq_true,Bool.and_eq_true,ih,List.mem_cons]
  constructor
  ·rintro (⟨h1,h2⟩|h)
   ·exact .inl (Prod.ext (Nat.eq_of_beq_eq_true h1).symm (Nat.eq_of_beq_eq_true h2).symm)
   ·exact .inr h
  ·rintro (rfl|h)
   ·exact .inl (by simp)
   ·exact .inr h
theorem qz {l:List (Nat×Nat)}:ll l=true↔l.Nodup:=by
 induction l with
 |nil=>simp [ll]
 |cons p l ih=>
  simp only [ll,Bool.and_eq_true,Bool.not_eq_true',ih,List.nodup_cons]
  rw [←Bool.not_eq_true,AE]
theorem wz {l:List Nat}:oP l=true↔l.Nodup:=by
 induction l with
 |nil=>simp [oP]
 |cons p l ih=>
  simp only [oP,Bool.and_eq_true,ih,List.nodup_cons,List.all_eq_true,Bool.not_eq_true']
  constructor
  ·rintro ⟨h1,h2⟩
   refine ⟨fun hm=>?_,h2⟩
   have:=h1 p hm;simp at this
  ·rintro ⟨h1,h2⟩
   exact ⟨fun m hm=>wR fun e=>h1 (e ▸ hm),h2⟩
theorem wi {l:List (Option (Nat×Nat))}(h:(l.filterMap id).Nodup){p q:Nat}{x:Nat×Nat}(hp:l[p]?=some (some x))(hq:l[q]?=some (some x)):p=q:=by
 induction l generalizing p q with
 |nil=>simp at hp
 |cons y l ih=>
  have hmem:∀k,l[k]?=some (some x)→x∈l.filterMap id:=fun k hk=>List.mem_filterMap.2 ⟨some x,List.mem_of_getElem? hk,rfl⟩
  cases y with
  |none=>
   simp only [List.filterMap_cons,id] at h
   cases p with
   |zero=>simp at hp
   |succ p=>
    cases q with
    |zero=>simp at hq
    |succ q=>have e:=ih h (p:=p) (q:=q) (by simpa using hp) (by simpa using hq);omega
  |some y=>
   simp only [List.filterMap_cons,id,List.nodup_cons] at h
   cases p with
   |zero=>
    cases q with
    |zero=>rfl
    |succ q=>
     simp at hp;subst hp
     exact absurd (hmem q (by simpa using hq)) h.1
   |succ p=>
    cases q with
    |zero=>
     simp at hq;subst hq
     exact absurd (hmem p (by simpa using hp)) h.1
    |succ q=>have e:=ih h.2 (p:=p) (q:=q) (by simpa using hp) (by simpa using hq);omega
theorem ot {os:List gz}{i p s j:Nat}(h:cU os i p s j):(s,j)∈eH os:=by
 obtain ⟨o,h1,h2⟩:=h
 induction os generalizing i with
 |nil=>simp at h1
 |cons y os ih=>
  simp only [eH,List.mem_append]
  cases i with
  |zero=>simp at h1;subst h1;exact .inl (List.mem_filterMap.2 ⟨_,List.mem_of_getElem? h2,rfl⟩)
  |succ i=>exact .inr (ih (by simpa using h1))
theorem wL {os:List gz}(h:(eH os).Nodup){i p i' p' s j:Nat}(h1:cU os i p s j)(h2:cU os i' p' s j):i=i'∧p=p':=by
 induction os generalizing i i' with
 |nil=>obtain ⟨o,h1,_⟩:=h1;simp at h1
 |cons y os ih=>
  simp only [eH,List.nodup_append] at h
  obtain ⟨n1,n2,n3⟩:=h
  have tail:∀{i p},cU (y :: os) (i+1) p s j→cU os i p s j:=fun ⟨o,q1,q2⟩=>⟨o,by simpa using q1,q2⟩
  have head:∀{p},cU (y :: os) 0 p s j→y.srcs[p]?=some (some (s,j)):=by
   rintro p ⟨o,q1,q2⟩;simp at q1;subst q1;exact q2
  have hm:∀{p},cU (y :: os) 0 p s j→(s,j)∈y.srcs.filterMap id:=fun h=>List.mem_filterMap.2 ⟨_,List.mem_of_getElem? (head h),rfl⟩
  cases i with
  |zero=>
   cases i' with
   |zero=>exact ⟨rfl,wi n1 (head h1) (head h2)⟩
   |succ i'=>exact absurd rfl (n3 _ (hm h1) _ (ot (tail h2)))
  |succ i=>
   cases i' with
   |zero=>exact absurd rfl (n3 _ (hm h2) _ (ot (tail h1)))
   |succ i'=>
    obtain ⟨e1,e2⟩:=ih n2 (tail h1) (tail h2)
    exact ⟨by rw [e1],e2⟩
theorem oi {os:List gz}{i s:Nat}(h:bL os i s):s∈aW os:=by
 obtain ⟨o,h1,h2⟩:=h
 induction os generalizing i with
 |nil=>simp at h1
 |cons y os ih=>
  simp only [aW]
  cases i with
  |zero=>simp at h1;subst h1;rw [h2];simp
  |succ i=>
   have:=ih (i:=i) (by simpa using h1)
   cases y.box<;>simp [this]
theorem qI {os:List gz}(h:(aW os).Nodup){i i' s:Nat}(h1:bL os i s)(h2:bL os i' s):i=i':=by
 induction os generalizing i i' with
 |nil=>obtain ⟨o,h1,_⟩:=h1;simp at h1
 |cons y os ih=>
  have tail:∀{i},bL (y :: os) (i+1) s→bL os i s:=fun ⟨o,q1,q2⟩=>⟨o,by simpa using q1,q2⟩
  have head:bL (y :: os) 0 s→y.box=some s:=by
   rintro ⟨o,q1,q2⟩;simp at q1;subst q1;exact q2
  have ht:(aW os).Nodup∧(y.box=some s→s ∉ aW os):=by
   simp only [aW] at h
   cases hy:y.box with
   |none=>rw [hy] at h;exact ⟨h,fun e=>by cases e⟩
   |some s'=>
    rw [hy] at h
    simp only [List.nodup_cons] at h
    exact ⟨h.2,fun e=>by cases e;exact h.1⟩
  cases i with
  |zero=>
   cases i' with
   |zero=>rfl
   |succ i'=>exact absurd (oi (tail h2)) (ht.2 (head h1))
  |succ i=>
   cases i' with
   |zero=>exact absurd (oi (tail h1)) (ht.2 (head h2))
   |succ i'=>rw [ih ht.1 (tail h1) (tail h2)]
theorem y7 {os:List gz}{i p s j s' j':Nat}(h1:cU os i p s j)(h2:cU os i p s' j'):s=s'∧j=j':=by
 obtain ⟨o,a1,a2⟩:=h1
 obtain ⟨o',b1,b2⟩:=h2
 rw [a1] at b1;cases b1
 rw [a2] at b2;cases b2
 exact ⟨rfl,rfl⟩
theorem s5 {os:List gz}{i s s':Nat}(h1:bL os i s)(h2:bL os i s'):s=s':=by
 obtain ⟨o,a1,a2⟩:=h1
 obtain ⟨o',b1,b2⟩:=h2
 rw [a1] at b1;cases b1
 rw [a2] at b2;cases b2
 rfl
open Classical in
noncomputable def mL (L:gx)(g:Gh)(os:List gz):Gh where
 who b o:=
  match g.who b o with
  |.obj s (some j)=>if h:∃ip:Nat×Nat,cU os ip.1 ip.2 s j then .obj (1000+h.choose.1) (some h.choose.2) else if L s j b o then .imm else .other
  |.obj s none=>if h:∃i,bL os i s then .obj (1000+h.choose) none else .bor
  |q=>q
 hs s' p:=if h:∃x:Nat×Nat×Nat,s'=1000+x.1∧cU os x.1 p x.2.1 x.2.2 then g.hs h.choose.2.1 h.choose.2.2 else .slice none 0 0
 hb s':=if h:∃x:Nat×Nat,s'=1000+x.1∧bL os x.1 x.2 then g.hb h.choose.2 else (0,0)
theorem CG.of {L:gx}{os:List gz}(h1:(eH os).Nodup)(h2:(aW os).Nodup):CG L g (mL L g os) os:=by
 refine ⟨?_,?_,?_,?_,?_,?_,?_,?_,?_,?_,?_,?_⟩
 ·intro b o e;simp [mL,e]
 ·intro b o e;simp [mL,e]
 ·intro b o e;simp [mL,e]
 ·intro b o s e hn
  have:¬∃i,bL os i s:=fun ⟨i,h⟩=>hn i h
  simp [mL,e,this]
 ·intro b o s j hl e hn
  have:¬∃ip:Nat×Nat,cU os ip.1 ip.2 s j:=fun ⟨ip,h⟩=>hn _ _ h
  simp only [mL,e]
  rw [dif_neg this,if_pos hl]
 ·intro i p s j hs b o e
  have hex:∃ip:Nat×Nat,cU os ip.1 ip.2 s j:=⟨(i,p),hs⟩
  simp only [mL,e]
  rw [dif_pos hex]
  obtain ⟨e1,e2⟩:=wL h1 hex.choose_spec hs
  rw [e1,e2]
 ·intro i s hb b o e
  have hex:∃i,bL os i s:=⟨i,hb⟩
  simp only [mL,e]
  rw [dif_pos hex,qI h2 hex.choose_spec hb]
 ·intro i p s j hs
  have hex:∃x:Nat×Nat×Nat,1000+i=1000+x.1∧cU os x.1 p x.2.1 x.2.2:=⟨(i,s,j),rfl,hs⟩
  simp only [mL]
  rw [dif_pos hex]
  obtain ⟨q1,q2⟩:=hex.choose_spec
  have q3:i=hex.choose.1:=by omega
  rw [←q3] at q2
  obtain ⟨e1,e2⟩:=y7 q2 hs
  rw [e1,e2]
 ·intro i p o ho hn
  have:¬∃x:Nat×Nat×Nat,1000+i=1000+x.1∧cU os x.1 p x.2.1 x.2.2:=by
   rintro ⟨x,q1,o',q2,q3⟩
   have:i=x.1:=by omega
   rw [←this,ho] at q2;cases q2
   rw [hn] at q3;cases q3
  simp only [mL]
  rw [dif_neg this]
 ·intro i s hb
  have hex:∃x:Nat×Nat,1000+i=1000+x.1∧bL os x.1 x.2:=⟨(i,s),rfl,hb⟩
  simp only [mL]
  rw [dif_pos hex]
  obtain ⟨q1,q2⟩:=hex.choose_spec
  have q3:i=hex.choose.1:=by omega
  rw [←q3] at q2
  rw [s5 q2 hb]
 ·intro b o s' x e
  simp only [mL] at e
  cases hw:g.who b o with
  |imm=>rw [hw] at e;cases e
  |bor=>rw [hw] at e;cases e
  |other=>rw [hw] at e;cases e
  |obj s y=>
   rw [hw] at e
   cases y with
   |none=>
    simp only at e
    split at e
    ·rename_i h
     cases e
     exact .inr ⟨_,s,h.choose_spec,rfl,rfl,rfl⟩
    ·cases e
   |some j=>
    simp only at e
    split at e
    ·rename_i h
     cases e
     exact .inl ⟨_,_,s,j,h.choose_spec,rfl,rfl,rfl⟩
    ·split at e<;>cases e
 ·intro b o s j hl e hn
  have:¬∃ip:Nat×Nat,cU os ip.1 ip.2 s j:=fun ⟨ip,h⟩=>hn _ _ h
  simp only [mL,e]
  rw [dif_neg this,if_neg hl]
structure rQ (aa:bb)(w:World)(g:Gh)(s:bq)(r:s.den)(v:Value):Prop where
 val:af w g (lA (ek.inj 0 0 s.res (s.res1 r)).1) v
 own:aK aa w g 0 ⟨false,(ek.inj 0 0 s.res (s.res1 r)).2⟩
 back:∀i cs,(i,cs)∈dz.cells s.back (s.back1 r)→aK aa w g (1000+i) ⟨true,cs⟩
structure fO (aa:bb)(w:World)(g:Gh)(args:List mo)(vals:List Value):Prop where
 len:args.length=vals.length
 tb:iI aa w g
 val:∀k b,look k (cY 0 args)=some b→∃v,vals[k]?=some v∧af w g b v
 root:∀s r,look s (dI 0 args)=some r→aK aa w g s r
def kr (P:Program)(f:FuncId):Prop:=∃fn,P.funcs[f]?=some fn∧(fn.name== "runtime.NumGoroutine")=false∧fn.body.isNone=false
def jf (P:Program)(aa:bb)(sig:FuncId→bq)(lv:Lv sig):Prop:=
 ∀f args r,lv f args=some r→kr P f∧∀w g vals,fO aa w g args vals→
  Calls P f vals.toArray w fun e w'=>∃v g',e=.returned v∧fR w g w' g'∧rQ aa w' g' (sig f) r v
end
end Go.Proofs.YtjkokaockhecnaaGreatDoorA

namespace Go.Proofs.YtjkokaockhecnaaGreatDoorA
open Go
section
variable {aa:bb}{n:Nat}{w w' w'':World}{g g' g'' gc gc':Gh}{S S':St}{a:Act}{P:Program}
inductive fk:AV→Prop
 |bool (b:Bool):fk (.bool b)
 |int (k:IntKind) (n:Int):fk (.int k n)
 |str (l:List UInt8):fk (.str l)
 |err (b:Bool):fk (.err b)
 |nils:fk .nils
 |L (t:El) (xs:List t.den):fk (.L t xs)
 |optp (t:El) (x:Option t.den):fk (.optp t x)
 |vi (cs:List AV) (h:∀a,a∈cs→fk a):fk (.vi cs)
 |rm (t:El) (xs ys:List t.den):fk (.rm t xs ys)
theorem iS (t:El)(x:t.den):∀a,a∈t.cells x→fk a:=by
 intro a ha
 cases t<;>simp [El.cells] at ha<;>(first|(subst ha;constructor)|(rcases ha with h|h|h|h|h|h|h<;>subst h<;>constructor)|(rcases ha with h|h|h|h<;>subst h<;>constructor)|(rcases ha with h|h|h<;>subst h<;>constructor))
theorem ie (t:El)(xs:List t.den):∀a,a∈flat t xs→fk a:=by
 intro a ha
 simp only [flat,List.mem_flatMap] at ha
 obtain ⟨x,_,hx⟩:=ha
 exact iS t x a hx
theorem af.plain (hi:∀b o v,w.cell? ⟨b,o,none⟩=some v→g.who b o=.imm→g'.who b o=.imm){b:AV}{v:Value}(h:af w g b v):fk b→af w g' b v:=by
 induction h with
 |list t xs b o cap vals hcap hcc hr ih=>
  intro _
  exact .list t xs b o cap vals hcap (fun j hj=>⟨hi _ _ _ (hcc j hj).2 (hcc j hj).1,(hcc j hj).2⟩) (fun j hj=>ih j hj (ie t xs _ (List.getElem_mem hj)))
 |lnil t a cap=>intro _;exact .lnil t a cap
 |bool b=>intro _;constructor
 |int k n=>intro _;constructor
 |str l=>intro _;constructor
 |err0=>intro _;exact .err0
 |err1 te pe=>intro _;exact .err1 te pe
 |nils=>intro _;constructor
 |emp=>intro h;cases h
 |und=>intro h;cases h
 |al=>intro h;cases h
 |ref=>intro h;cases h
 |eref=>intro h;cases h
 |bs=>intro h;cases h
 |bref=>intro h;cases h
 |bal=>intro h;cases h
 |rm0 t a cap=>intro _;exact .rm0 t a cap
 |rm t xs ys b o cap vals hcap hcc hr ih=>
  intro _
  exact .rm t xs ys b o cap vals hcap (fun j hj=>⟨hi _ _ _ (hcc j hj).2 (hcc j hj).1,(hcc j hj).2⟩) (fun j hj=>ih j hj (ie t _ _ (List.getElem_mem hj)))
 |als=>intro h;cases h
 |als0=>intro h;cases h
 |bad0=>intro h;cases h
 |bad1=>intro h;cases h
 |refT=>intro h;cases h
 |fzs0=>intro h;cases h
 |fzs=>intro h;cases h
 |vp=>intro h;cases h
 |vi cs b o vals hcc hr ih=>
  intro h
  cases h with
  |vi _ h=>exact .vi cs b o vals (fun j hj=>⟨hi _ _ _ (hcc j hj).2 (hcc j hj).1,(hcc j hj).2⟩) (fun j hj=>ih j hj (h _ (List.getElem_mem hj)))
 |nilp=>intro h;cases h
 |opt0 t=>intro _;exact .opt0 t
 |opt1 t x v h ih=>intro _;exact .opt1 t x v (ih (.vi _ (iS t x)))
 |nq=>intro h;cases h
 |agg=>intro h;cases h
 |tup=>intro h;cases h
 |fn=>intro h;cases h
def rz (c:aj):Prop:=∀a,c=.av a→fk a
theorem LK.plain (k:LK)(x:k.den):rz (k.cell x):=by
 intro a h
 cases k<;>simp [LK.cell] at h<;>subst h<;>constructor
theorem eO.plain:∀(ks:List LK) (x:eO.den ks),∀c∈eO.cells ks x,rz c
 |[],_,c,h=>by simp [eO.cells] at h
 |[k],x,c,h=>by simp [eO.cells] at h;subst h;exact k.plain x
 |k :: k' :: ks,x,c,h=>by
  simp only [eO.cells,List.mem_cons] at h
  rcases h with rfl|h
  ·exact k.plain _
  ·exact eO.plain (k' :: ks) x.2 c h
theorem dz.plain:∀(bs:List (Nat×List LK)) (x:dz.den bs),∀i cs,(i,cs)∈dz.cells bs x→∀c∈cs,rz c
 |[],_,i,cs,h=>by simp [dz.cells] at h
 |[(j,ks)],x,i,cs,h=>by
  simp only [dz.cells,List.mem_singleton,Prod.mk.injEq] at h
  obtain ⟨_,rfl⟩:=h
  exact eO.plain ks x
 |(j,ks) :: b :: bs,x,i,cs,h=>by
  simp only [dz.cells,List.mem_cons,Prod.mk.injEq] at h
  rcases h with ⟨_,rfl⟩|h
  ·exact eO.plain ks x.1
  ·exact dz.plain (b :: bs) x.2 i cs (by simpa using h)
inductive Rn (d:Nat)(G:Bool):AV→AV→Prop
 |same (a:AV) (h:fk a):Rn d G a a
 |al (j:Nat) (h:G=true):Rn d G (.al 0 j) (.al d j)
 |agg (l m:List AV) (hl:l.length=m.length) (h:∀i (h1:i<l.length) (h2:i<m.length),Rn d G (l[i]) (m[i])):Rn d G (.agg l) (.agg m)
 |tup (l m:List AV) (hl:l.length=m.length) (h:∀i (h1:i<l.length) (h2:i<m.length),Rn d G (l[i]) (m[i])):Rn d G (.tup l) (.tup m)
def xN (d:Nat)(G:Bool)(l m:List AV):Prop:=l.length=m.length∧∀i (h1:i<l.length) (h2:i<m.length),Rn d G (l[i]) (m[i])
theorem xN.nil {d:Nat}{G:Bool}:xN d G [] []:=⟨rfl,fun i h=>by simp at h⟩
theorem xN.cons {d:Nat}{G:Bool}{a b:AV}{l m:List AV}(h:Rn d G a b)(hl:xN d G l m):xN d G (a :: l) (b :: m):=by
 refine ⟨by simp [hl.1],fun i h1 h2=>?_⟩
 cases i with
 |zero=>exact h
 |succ i=>exact hl.2 i (by simpa using h1) (by simpa using h2)
theorem xN.same {d:Nat}{G:Bool}{l:List AV}(h:∀a∈l,fk a):xN d G l l:=⟨rfl,fun i h1 _=>.same _ (h _ (List.getElem_mem h1))⟩
theorem Rn.rep {d:Nat}{G:Bool}(hi:∀b o v,w.cell? ⟨b,o,none⟩=some v→g.who b o=.imm→g'.who b o=.imm)(hs:G=true→∀j,g'.hs d j=g.hs 0 j){b c:AV}(h:Rn d G b c):
  ∀{v:Value},af w g b v→af w g' c v:=by
 induction h with
 |same a h=>intro v hv;exact hv.plain hi h
 |al j hG=>
  intro v hv
  cases hv with
  |al _ _ a m c h=>exact .al d j a m c ((hs hG j).trans h)
 |agg l m hl h ih=>
  intro v hv
  obtain ⟨vs,rfl,e1,e2⟩:=hv.agg_inv
  exact .agg m vs (e1.trans hl) fun j h1 h2=>ih j (by omega) h1 (e2 j (by omega) h2)
 |tup l m hl h ih=>
  intro v hv
  cases hv with
  |tup _ vs e1 e2=>exact .tup m vs (e1.trans hl) fun j h1 h2=>ih j (by omega) h1 (e2 j (by omega) h2)
theorem eS (l m:List aj):cA (l++m)=(cA l||cA m):=by
 induction l with
 |nil=>rfl
 |cons c l ih=>cases c<;>simp [cA,ih]
theorem yp {d j:Nat}{G:Bool}{c:aj}(hc:rz c)(hG:cA [c]=true→G=true):Rn d G (cellAV 0 j c) (cellAV d j c):=by
 cases c with
 |av a=>exact .same a (hc a rfl)
 |sl t fz xs=>exact .al j (hG rfl)
theorem vT {d:Nat}{G:Bool}:∀(j:Nat) {cs:List aj},(∀c∈cs,rz c)→(cA cs=true→G=true)→xN d G (bu 0 j cs) (bu d j cs)
 |_,[],_,_=>.nil
 |j,c :: cs,hc,hG=>by
  have h1:cA (c :: cs)=(cA [c]||cA cs):=by rw [←eS];rfl
  refine .cons (yp (hc c List.mem_cons_self) fun h=>hG (by rw [h1,h];rfl)) (vT (j+1) (fun c hm=>hc c (List.mem_cons_of_mem _ hm)) fun h=>hG (by rw [h1,h];simp))
theorem RK.rn {d j:Nat}{G:Bool}(k:RK)(x:k.den)(hG:cA (k.inj d j x).2=true→G=true):Rn d G (k.inj 0 j x).1 (k.inj d j x).1:=by
 cases k with
 |one k=>exact yp (k.plain x) hG
 |agg ks=>
  have:=vT (d:=d) (G:=G) j (eO.plain ks x) hG
  exact .agg _ _ this.1 this.2
 |el t=>
  have hc:=iS t x
  cases t with
  |int k=>exact .same _ (.int _ _)
  |bool=>exact .same _ (.bool _)
  |str=>exact .same _ (.str _)
  |list e=>exact .same _ (.L _ _)
  |node=>have:=xN.same (d:=d) (G:=G) hc;exact .agg _ _ this.1 this.2
  |arr=>have:=xN.same (d:=d) (G:=G) hc;exact .agg _ _ this.1 this.2
  |col=>have:=xN.same (d:=d) (G:=G) hc;exact .agg _ _ this.1 this.2
  |blk=>have:=xN.same (d:=d) (G:=G) hc;exact .agg _ _ this.1 this.2
 |ptr t=>exact .same _ (.optp t x)
theorem RK.inj_two (d j j':Nat)(k:RK)(x:k.den):(k.inj d j x).2=(k.inj 0 j' x).2:=by
 cases k<;>rfl
theorem ek.inj_two (d:Nat):∀(j j':Nat) (ks:List RK) (x:ek.den ks),(ek.inj d j ks x).2=(ek.inj 0 j' ks x).2
 |_,_,[],_=>rfl
 |j,j',[k],x=>k.inj_two d j j' x
 |j,j',k :: k' :: ks,x=>by
  simp only [ek.inj]
  rw [k.inj_two d j j' x.1,ek.inj_two d _ (j'+(k.inj 0 j' x.1).2.length) (k' :: ks) x.2]
theorem ek.rn {d:Nat}{G:Bool}:∀(j:Nat) (ks:List RK) (x:ek.den ks),(cA (ek.inj d j ks x).2=true→G=true)→xN d G (ek.inj 0 j ks x).1 (ek.inj d j ks x).1
 |_,[],_,_=>.nil
 |j,[k],x,hG=>.cons (k.rn x hG) .nil
 |j,k :: k' :: ks,x,hG=>by
  simp only [ek.inj,eS] at hG ⊢
  have e:=k.inj_two d j j x.1
  rw [e] at hG ⊢
  refine .cons (k.rn x.1 fun h=>hG (by rw [←e,h];rfl)) ?_
  exact ek.rn _ (k' :: ks) x.2 fun h=>hG (by rw [h];simp)
theorem Aq {d:Nat}{G:Bool}{l m:List AV}(h:xN d G l m):Rn d G (lA l) (lA m):=by
 obtain ⟨h1,h2⟩:=h
 match l,m,h1,h2 with
 |[],[],_,_=>exact .tup [] [] rfl fun i h=>by simp at h
 |[a],[b],_,h2=>exact h2 0 (by simp) (by simp)
 |a :: b :: l,c :: e :: m,h1,h2=>exact .tup _ _ h1 h2
 |[],_ :: _,h1,_=>simp at h1
 |_ :: _,[],h1,_=>simp at h1
 |[_],_ :: _ :: _,h1,_=>simp at h1
 |_ :: _ :: _,[_],h1,_=>simp at h1
inductive vM:AV→Prop
 |bool (b:Bool):vM (.bool b)
 |int (k:IntKind) (n:Int):vM (.int k n)
 |str (l:List UInt8):vM (.str l)
theorem af.dull {b:AV}{v:Value}(h:af w g b v)(hb:vM b):af w' g' b v:=by
 cases hb<;>cases h<;>constructor
def FA (d:Nat)(G:Bool)(a b:AV):Prop:=(vM a∧b=a)∨(G=true∧∃j,a=.al 0 j∧b=.al d j)
def LD (d:Nat)(G:Bool)(a b:AV):Prop:=FA d G a b∨∃l m:List AV,a=.agg l∧b=.agg m∧l.length=m.length∧∀(i:Nat) (x y:AV),l[i]?=some x→m[i]?=some y→FA d G x y
theorem FA.rep {d:Nat}{G:Bool}(hs:G=true→∀j,g'.hs d j=g.hs 0 j){a b:AV}(h:FA d G a b){v:Value}(hv:af w g a v):af w' g' b v:=by
 rcases h with ⟨h,rfl⟩|⟨hG,j,rfl,rfl⟩
 ·exact hv.dull h
 ·cases hv with
  |al _ _ a m c h=>exact .al d j a m c ((hs hG j).trans h)
theorem LD.rep {d:Nat}{G:Bool}(hs:G=true→∀j,g'.hs d j=g.hs 0 j){a b:AV}(h:LD d G a b){v:Value}(hv:af w g a v):af w' g' b v:=by
 rcases h with h|⟨l,m,rfl,rfl,hl,h⟩
 ·exact h.rep hs hv
 ·cases hv with
  |agg _ vs e1 e2=>exact .agg m vs (e1.trans hl) fun j h1 h2=>(h j _ _ (List.getElem?_eq_getElem (by omega)) (List.getElem?_eq_getElem h1)).rep hs (e2 j (by omega) h2)
def Af (c:aj):Prop:=∀t fz xs,c=.sl t fz xs→t.dull=true∧fz=false
def LC (c:aj):Prop:=(∃a,c=.av a∧vM a)∨∃(t:El) (xs:List t.den),c=.sl t false xs∧t.dull=true
theorem LC.dull {c:aj}(h:LC c):Af c:=by
 intro t fz xs e
 rcases h with ⟨a,rfl,_⟩|⟨t',xs',rfl,h⟩
 ·cases e
 ·cases e;exact ⟨h,rfl⟩
theorem LK.lc {k:LK}(h:k.lends=true)(x:k.den):LC (k.cell x):=by
 cases k<;>simp [LK.lends] at h
 all_goals (first
  |exact .inl ⟨_,rfl,by constructor⟩
  |skip)
 rename_i t fz
 cases fz with
 |true=>simp [LK.lends] at h
 |false=>exact .inr ⟨t,x,rfl,h⟩
theorem eO.lc:∀(ks:List LK) (x:eO.den ks),ks.all LK.lends=true→∀c∈eO.cells ks x,LC c
 |[],_,_,c,h=>by simp [eO.cells] at h
 |[k],x,hk,c,h=>by
  simp [eO.cells] at h;subst h
  exact LK.lc (by simpa using hk) x
 |k :: k' :: ks,x,hk,c,h=>by
  rw [List.all_cons,Bool.and_eq_true] at hk
  simp only [eO.cells,List.mem_cons] at h
  rcases h with rfl|h
  ·exact LK.lc hk.1 _
  ·exact eO.lc (k' :: ks) x.2 hk.2 c h
theorem x5 {d j:Nat}{G:Bool}{c:aj}(hc:LC c)(hG:cA [c]=true→G=true):FA d G (cellAV 0 j c) (cellAV d j c):=by
 rcases hc with ⟨a,rfl,h⟩|⟨t,xs,rfl,_⟩
 ·exact .inl ⟨h,rfl⟩
 ·exact .inr ⟨hG rfl,j,rfl,rfl⟩
theorem vG {d:Nat}{G:Bool}:∀(j:Nat) {cs:List aj},(∀c∈cs,LC c)→(cA cs=true→G=true)→
  (bu 0 j cs).length=(bu d j cs).length∧∀(i:Nat) (x y:AV),(bu 0 j cs)[i]?=some x→(bu d j cs)[i]?=some y→FA d G x y
 |_,[],_,_=>⟨rfl,fun i x y h=>by simp [bu] at h⟩
 |j,c :: cs,hc,hG=>by
  have h1:cA (c :: cs)=(cA [c]||cA cs):=by rw [←eS];rfl
  obtain ⟨q1,q2⟩:=vG (d:=d) (G:=G) (j+1) (cs:=cs) (fun c hm=>hc c (List.mem_cons_of_mem _ hm)) fun h=>hG (by rw [h1,h];simp)
  refine ⟨by simp only [bu,List.length_cons,q1],fun i x y h2 h3=>?_⟩
  simp only [bu] at h2 h3
  cases i with
  |zero=>simp only [List.getElem?_cons_zero,Option.some.injEq] at h2 h3;subst h2;subst h3;exact x5 (hc c List.mem_cons_self) fun h=>hG (by rw [h1,h];rfl)
  |succ i=>exact q2 i x y (by simpa using h2) (by simpa using h3)
theorem RK.ld {k:RK}(h:k.lends=true)(d j:Nat)(G:Bool)(x:k.den)(hG:cA (k.inj d j x).2=true→G=true):LD d G (k.inj 0 j x).1 (k.inj d j x).1∧∀c∈(k.inj d j x).2,Af c:=by
 cases k with
 |one k=>
  have hc:=LK.lc (k:=k) h x
  exact ⟨.inl (x5 hc hG),fun c hm=>by simp [RK.inj] at hm;subst hm;exact hc.dull⟩
 |agg ks=>
  have hc:=eO.lc ks x h
  obtain ⟨q1,q2⟩:=vG (d:=d) (G:=G) j hc hG
  exact ⟨.inr ⟨_,_,rfl,rfl,q1,q2⟩,fun c hm=>(hc c hm).dull⟩
 |el t=>simp [RK.lends] at h
 |ptr t=>simp [RK.lends] at h
def HZ (d:Nat)(G:Bool)(l m:List AV):Prop:=l.length=m.length∧∀(i:Nat) (a b:AV),l[i]?=some a→m[i]?=some b→LD d G a b
theorem ek.ld (d:Nat)(G:Bool):∀(j:Nat) (ks:List RK) (x:ek.den ks),ks.all RK.lends=true→(cA (ek.inj d j ks x).2=true→G=true)→
  HZ d G (ek.inj 0 j ks x).1 (ek.inj d j ks x).1∧∀c∈(ek.inj d j ks x).2,Af c
 |_,[],_,_,_=>by
  refine ⟨⟨rfl,fun i a b h=>?_⟩,fun c h=>?_⟩
  ·simp only [ek.inj,List.getElem?_nil] at h;cases h
  ·simp only [ek.inj,List.not_mem_nil] at h
 |j,[k],x,h,hG=>by
  simp only [List.all_cons,List.all_nil,Bool.and_true] at h
  obtain ⟨h1,h2⟩:=RK.ld h d j G x hG
  refine ⟨⟨rfl,fun i a b q1 q2=>?_⟩,h2⟩
  simp only [ek.inj] at q1 q2
  cases i with
  |zero=>simp only [List.getElem?_cons_zero,Option.some.injEq] at q1 q2;subst q1;subst q2;exact h1
  |succ i=>simp at q1
 |j,k :: k' :: ks,x,h,hG=>by
  rw [List.all_cons,Bool.and_eq_true] at h
  simp only [ek.inj,eS] at hG ⊢
  obtain ⟨h1,h2⟩:=RK.ld h.1 d j G x.1 fun e=>hG (by rw [e];rfl)
  obtain ⟨⟨q1,q2⟩,q3⟩:=ek.ld d G (j+(k.inj d j x.1).2.length) (k' :: ks) x.2 h.2 fun e=>hG (by rw [e];simp)
  rw [←k.inj_two d j j x.1]
  refine ⟨⟨by simp only [List.length_cons,q1],fun i a b r1 r2=>?_⟩,fun c hc=>?_⟩
  ·cases i with
   |zero=>simp only [List.getElem?_cons_zero,Option.some.injEq] at r1 r2;subst r1;subst r2;exact h1
   |succ i=>exact q2 i a b (by simpa using r1) (by simpa using r2)
  ·rcases List.mem_append.1 hc with hc|hc
   ·exact h2 c hc
   ·exact q3 c hc
theorem Au {d:Nat}{G:Bool}{l m:List AV}(hs:G=true→∀j,g'.hs d j=g.hs 0 j)(h:HZ d G l m){v:Value}(hv:af w g (lA l) v):af w' g' (lA m) v:=by
 obtain ⟨hl,h⟩:=h
 match l,m,hl,h,hv with
 |[],[],_,_,hv=>
  cases hv with
  |tup _ vs e1 e2=>exact .tup [] vs e1 fun j h=>by simp at h
 |[a],[b],_,h,hv=>exact (h 0 a b rfl rfl).rep hs hv
 |a :: b :: l,c :: e :: m,hl,h,hv=>
  cases hv with
  |tup _ vs e1 e2=>exact .tup _ vs (e1.trans hl) fun j h1 h2=>(h j _ _ (List.getElem?_eq_getElem (by omega)) (List.getElem?_eq_getElem h1)).rep hs (e2 j (by omega) h2)
 |[],_ :: _,hl,_,_=>simp at hl
 |_ :: _,[],hl,_,_=>simp at hl
 |[_],_ :: _ :: _,hl,_,_=>simp at hl
 |_ :: _ :: _,[_],hl,_,_=>simp at hl
theorem yV {t:El}(ht:t.dull=true)(xs:List t.den):∀a,a∈flat t xs→vM a:=by
 intro a ha
 simp only [flat,List.mem_flatMap] at ha
 obtain ⟨x,_,hx⟩:=ha
 cases t<;>simp [El.dull] at ht<;>simp [El.cells] at hx<;>subst hx<;>constructor
def oQ (os:List gz)(s:Nat)(x:Option Nat):Prop:=(x=none∧∃i,bL os i s)∨∃i p j,x=some j∧cU os i p s j
open Classical in
noncomputable def nD (os:List gz)(d:Nat)(G:Bool):A8→A8
 |.imm=>.imm
 |.obj s x=>if s=0∧G=true then .obj d x else if h:∃p:Nat×Nat,s=1000+p.1∧bL os p.1 p.2 then .obj h.choose.2 x else .other
 |_=>.other
open Classical in
noncomputable def fH (w:World)(g gc':Gh)(os:List gz)(d:Nat)(G:Bool):Gh where
 who b o:=if b<w.heap.size then (match g.who b o with|.obj s x=>if oQ os s x then nD os d G (gc'.who b o) else .obj s x|q=>q) else nD os d G (gc'.who b o)
 hs s j:=if s=d∧G=true then gc'.hs 0 j else if h:∃i,bL os i s then gc'.hs (1000+h.choose) j else g.hs s j
 hb:=g.hb
section
variable {L:gx}{os:List gz}{d:Nat}{G:Bool}
theorem qX (x:Option Nat):nD os d true (.obj 0 x)=.obj d x:=by simp [nD]
theorem tf {i s:Nat}(h:bL os i s)(x:Option Nat):nD os d G (.obj (1000+i) x)=.obj s x:=by
 have hex:∃p:Nat×Nat,1000+i=1000+p.1∧bL os p.1 p.2:=⟨(i,s),rfl,h⟩
 simp only [nD]
 rw [if_neg (by omega),dif_pos hex]
 obtain ⟨h1,h2⟩:=hex.choose_spec
 have h3:i=hex.choose.1:=by omega
 rw [←h3] at h2
 rw [s5 h2 h]
theorem nN (hg:CG L g gc os)(hi:fR w gc w' gc')(hf:∀s j b o,¬L s j b o){b o:Nat}{q:A8}(hq:gc'.who b o=q)(hq':q=.imm∨∃s x,q=.obj s x):(fH w g gc' os d G).who b o=nD os d G q:=by
 simp only [fH]
 by_cases hb:b<w.heap.size
 ·rw [if_pos hb]
  cases hw:g.who b o with
  |imm=>
   have:=hi.imm b o hb (hg.imm b o hw)
   rw [hq] at this;subst this;rfl
  |bor=>
   have:=hi.bor b o hb (hg.bor b o hw)
   rw [hq] at this;subst this
   rcases hq' with h|⟨_,_,h⟩<;>cases h
  |other=>
   have:=hi.other b o hb (hg.other b o hw)
   rw [hq] at this;subst this
   rcases hq' with h|⟨_,_,h⟩<;>cases h
  |obj s x=>
   by_cases hh:oQ os s x
   ·simp only [hh,if_true];rw [hq]
   ·exfalso
    cases x with
    |none=>
     have:=hi.bor b o hb (hg.box b o s hw fun i h=>hh (.inl ⟨rfl,i,h⟩))
     rw [hq] at this;subst this
     rcases hq' with h|⟨_,_,h⟩<;>cases h
    |some j=>
     have:=hi.other b o hb (hg.keepo b o s j (hf s j b o) hw fun i p h=>hh (.inr ⟨i,p,j,rfl,h⟩))
     rw [hq] at this;subst this
     rcases hq' with h|⟨_,_,h⟩<;>cases h
 ·rw [if_neg hb,hq]
theorem ui (hg:CG L g gc os)(hi:fR w gc w' gc')(hf:∀s j b o,¬L s j b o):∀b o v,w'.cell? ⟨b,o,none⟩=some v→gc'.who b o=.imm→(fH w g gc' os d G).who b o=.imm:=
 fun b o _ _ h=>nN hg hi hf h (.inl rfl)
theorem cv.aft (hg:CG L g gc os)(hi:fR w gc w' gc')(hf:∀s j b o,¬L s j b o){s0 s1 j:Nat}{t:El}{fz:Bool}{xs:List t.den}(h:cv aa w' gc' s0 j t fz xs)
  (hs:(fH w g gc' os d G).hs s1 j=gc'.hs s0 j) (hb:∀x,nD os d G (.obj s0 x)=.obj s1 x):cv aa w' (fH w g gc' os d G) s1 j t fz xs:=by
 rcases h.c with ⟨⟨vs,h1,h2,h3⟩,hown⟩|⟨h1,h2,a,h3⟩
 rotate_left
 ·exact ⟨.inr ⟨h1,h2,a,hs.trans h3⟩⟩
 refine ⟨.inl ⟨⟨vs,by rw [hs];exact h1,h2,fun i h h'=>(h3 i h h').plain (ui hg hi hf) (ie t xs _ (List.getElem_mem h))⟩,fun b m cap e=>?_⟩⟩
 rw [hs] at e
 obtain ⟨hlt,hw⟩:=hown b m cap e
 refine ⟨hlt,fun o=>?_⟩
 have:=hw o
 split at this
 ·rename_i ho
  rw [if_pos ho]
  cases fz with
  |true=>exact nN hg hi hf (by simpa using this) (.inl rfl)
  |false=>
   rw [nN hg hi hf (q:=.obj s0 (some j)) (by simpa using this) (.inr ⟨_,_,rfl⟩)]
   exact hb _
 ·rename_i ho
  rw [if_neg ho,nN hg hi hf this (.inr ⟨_,_,rfl⟩)]
  exact hb _
theorem cv.aftD (hg:CG L g gc os)(hi:fR w gc w' gc')(hos:os=[]){s0 s1 j:Nat}{t:El}{xs:List t.den}(ht:t.dull=true)(h:cv aa w' gc' s0 j t false xs)
  (hs:(fH w g gc' os d G).hs s1 j=gc'.hs s0 j) (hb:∀x,nD os d G (.obj s0 x)=.obj s1 x):cv aa w' (fH w g gc' os d G) s1 j t false xs:=by
 have who:∀b o,gc'.who b o=.obj s0 (some j)→(fH w g gc' os d G).who b o=.obj s1 (some j):=by
  intro b o hq
  simp only [fH]
  by_cases hlt:b<w.heap.size
  ·exfalso
   cases hw:g.who b o with
   |imm=>have:=hi.imm b o hlt (hg.imm b o hw);rw [hq] at this;cases this
   |bor=>have:=hi.bor b o hlt (hg.bor b o hw);rw [hq] at this;cases this
   |other=>have:=hi.other b o hlt (hg.other b o hw);rw [hq] at this;cases this
   |obj s x=>
    cases x with
    |none=>have:=hi.bor b o hlt (hg.box b o s hw fun i ⟨o,h,_⟩=>by subst hos;simp at h);rw [hq] at this;cases this
    |some j'=>
     have hns:∀i p,¬cU os i p s j':=fun i p ⟨o,h,_⟩=>by subst hos;simp at h
     by_cases hL:L s j' b o
     ·have:=hi.imm b o hlt (hg.lent b o s j' hL hw hns);rw [hq] at this;cases this
     ·have:=hi.other b o hlt (hg.keepo b o s j' hL hw hns);rw [hq] at this;cases this
  ·rw [if_neg hlt,hq];exact hb _
 rcases h.c with ⟨⟨vs,h1,h2,h3⟩,hown⟩|⟨h1,h2,a,h3⟩
 rotate_left
 ·exact ⟨.inr ⟨h1,h2,a,hs.trans h3⟩⟩
 refine ⟨.inl ⟨⟨vs,by rw [hs];exact h1,h2,fun i h h'=>(h3 i h h').dull (yV ht xs _ (List.getElem_mem h))⟩,fun b m cap e=>?_⟩⟩
 rw [hs] at e
 obtain ⟨hlt,hw⟩:=hown b m cap e
 refine ⟨hlt,fun o=>?_⟩
 have:=hw o
 split at this
 ·rename_i ho
  rw [if_pos ho]
  exact who b o (by simpa using this)
 ·rename_i ho
  rw [if_neg ho]
  exact who b o this
inductive NS:AV→Prop
 |dull (b:AV) (h:vM b):NS b
 |L (t:El) (xs:List t.den) (h:t.noStr=true):NS (.L t xs)
theorem uN {t:El}(ht:t.noStr=true)(x:t.den):∀a,a∈t.cells x→NS a:=by
 intro a ha
 cases t<;>simp [El.noStr] at ht<;>simp [El.cells] at ha
 ·subst ha;exact .dull _ (.int _ _)
 ·subst ha;exact .dull _ (.bool _)
 ·subst ha;exact .L _ _ ht
 ·rcases ha with h|h|h<;>subst h<;>first|exact .dull _ (.int _ _)|exact .dull _ (.bool _)
 ·rcases ha with h|h|h|h|h|h|h<;>subst h<;>first|exact .dull _ (.int _ _)|exact .dull _ (.str _)|exact .L _ _ rfl
 ·rcases ha with h|h|h|h<;>subst h<;>exact .dull _ (.int _ _)
theorem Ci {t:El}(ht:t.noStr=true)(xs:List t.den):∀a,a∈flat t xs→NS a:=by
 intro a ha
 simp only [flat,List.mem_flatMap] at ha
 obtain ⟨x,_,hx⟩:=ha
 exact uN ht x a hx
theorem xC {t:El}(ht:t.noStr=true){xs:List t.den}(h:0<(flat t xs).length){v:Value}(hv:af w g ((flat t xs)[0]) v)(l:ByteArray):v≠.string l:=by
 rintro rfl
 cases xs with
 |nil=>simp [flat] at h
 |cons x xs=>
  have e:∃a r,flat t (x :: xs)=a :: r∧((∃k n,a=.int k n)∨(∃b,a=.bool b)∨∃u ys,a=.L u ys):=by
   cases t<;>simp [El.noStr] at ht<;>first|exact ⟨_,_,rfl,.inl ⟨_,_,rfl⟩⟩|exact ⟨_,_,rfl,.inr (.inl ⟨_,rfl⟩)⟩|exact ⟨_,_,rfl,.inr (.inr ⟨_,_,rfl⟩)⟩
  obtain ⟨a,r,e,hne⟩:=e
  have e2:(flat t (x :: xs))[0]=a:=by simp [e]
  rw [e2] at hv
  rcases hne with ⟨k,n,rfl⟩|⟨b,rfl⟩|⟨u,ys,rfl⟩<;>cases hv
def CM (w:World)(g:Gh)(L:gx):Prop:=∀s j b o,L s j b o→∀o',o'≤o→L s j b o'∧g.who b o'=.obj s (some j)∧b<w.heap.size∧∃l,w.cell? ⟨b,o',none⟩=some (.string l)
theorem af.ns (hg:CG L g gc [])(hi:fR w gc w' gc')(hL:CM w g L){b:AV}{v:Value}(h:af w' gc' b v):NS b→af w' (fH w g gc' [] d G) b v:=by
 induction h with
 |list t xs b o cap vals hcap hcc hr ih=>
  intro hb
  have ht:t.noStr=true:=by
   cases hb with
   |dull _ h=>cases h
   |L _ _ h=>exact h
  refine .list t xs b o cap vals hcap (fun j hj=>⟨?_,(hcc j hj).2⟩) (fun j hj=>ih j hj (Ci ht xs _ (List.getElem_mem hj)))
  have hq:=(hcc j hj).1
  simp only [fH]
  by_cases hlt:b<w.heap.size
  ·rw [if_pos hlt]
   have hns:∀s j' i p,¬cU [] i p s j':=fun s j' i p ⟨o,h,_⟩=>by simp at h
   cases hw:g.who b (o+j) with
   |imm=>rfl
   |bor=>have:=hi.bor b _ hlt (hg.bor b _ hw);rw [hq] at this;cases this
   |other=>have:=hi.other b _ hlt (hg.other b _ hw);rw [hq] at this;cases this
   |obj s x=>
    exfalso
    cases x with
    |none=>have:=hi.bor b _ hlt (hg.box b _ s hw fun i ⟨o,h,_⟩=>by simp at h);rw [hq] at this;cases this
    |some j'=>
     by_cases hl:L s j' b (o+j)
     ·obtain ⟨l1,l2,_,l,l3⟩:=hL s j' b (o+j) hl o (by omega)
      have h0:0<(flat t xs).length:=by omega
      have himm:=hg.lent b o s j' l1 l2 (hns s j')
      have hcel:w'.cell? ⟨b,o,none⟩=some (.string l):=by
       rw [hi.chg.cel b o hlt (fun ⟨s,x,e⟩=>by rw [himm] at e;cases e)];exact l3
      have h1:=(hcc 0 h0).2
      rw [Nat.add_zero,hcel] at h1
      exact xC ht h0 (hr 0 h0) l (Option.some.inj h1).symm
     ·have:=hi.other b _ hlt (hg.keepo b _ s j' hl hw (hns s j'));rw [hq] at this;cases this
  ·rw [if_neg hlt,hq];rfl
 |lnil t a cap=>intro _;exact .lnil t a cap
 |bool b=>intro _;constructor
 |int k n=>intro _;constructor
 |str l=>intro _;constructor
 |opt1 t x v h ih=>intro h;cases h with|dull _ h=>cases h
 |_=>intro h;cases h with|dull _ h=>cases h
theorem RK.ns {k:RK}(h:k.lendsS=true)(d j:Nat)(x:k.den):(k.inj d j x).2.length≤1∧cA (k.inj d j x).2=false∧(k.inj d j x).1=(k.inj 0 j x).1∧(NS (k.inj d j x).1∨∃l,(k.inj d j x).1=.agg l∧∀a∈l,NS a):=by
 cases k with
 |one k=>cases k<;>simp [RK.lendsS] at h<;>exact ⟨by simp [RK.inj],rfl,rfl,.inl (.dull _ (by constructor))⟩
 |agg ks=>simp [RK.lendsS] at h
 |el t=>
  refine ⟨by simp [RK.inj],rfl,rfl,?_⟩
  have hc:=uN (t:=t) h x
  cases t with
  |int k=>exact .inl (.dull _ (.int _ _))
  |bool=>exact .inl (.dull _ (.bool _))
  |str=>cases h
  |list e=>exact .inl (.L _ _ h)
  |node=>exact .inr ⟨_,rfl,hc⟩
  |arr=>exact .inr ⟨_,rfl,hc⟩
  |col=>cases h
  |blk=>exact .inr ⟨_,rfl,hc⟩
 |ptr t=>simp [RK.lendsS] at h
theorem ek.ns (d:Nat):∀(j:Nat) (ks:List RK) (x:ek.den ks),ks.all RK.lendsS=true→cA (ek.inj d j ks x).2=false∧(ek.inj d j ks x).1=(ek.inj 0 j ks x).1∧∀a∈(ek.inj d j ks x).1,NS a∨∃l,a=.agg l∧∀b∈l,NS b
 |_,[],_,_=>⟨rfl,rfl,fun a h=>by simp [ek.inj] at h⟩
 |j,[k],x,h=>by
  simp only [List.all_cons,List.all_nil,Bool.and_true] at h
  obtain ⟨_,h1,h2,h3⟩:=RK.ns h d j x
  exact ⟨h1,by simp only [ek.inj,h2],fun a ha=>by simp [ek.inj] at ha;subst ha;exact h3⟩
 |j,k :: k' :: ks,x,h=>by
  rw [List.all_cons,Bool.and_eq_true] at h
  obtain ⟨_,h1,h2,h3⟩:=RK.ns h.1 d j x.1
  obtain ⟨q1,q2,q3⟩:=ek.ns d (j+(k.inj d j x.1).2.length) (k' :: ks) x.2 h.2
  refine ⟨?_,?_,fun a ha=>?_⟩
  ·simp only [ek.inj,eS,h1,q1,Bool.or_false]
  ·simp only [ek.inj,h2,q2]
   rw [k.inj_two d j j x.1]
  ·simp only [ek.inj,List.mem_cons] at ha
   rcases ha with rfl|ha
   ·exact h3
   ·exact q3 a ha
theorem Ba (hg:CG L g gc [])(hi:fR w gc w' gc')(hL:CM w g L){l:List AV}(h:∀a∈l,NS a∨∃m,a=.agg m∧∀b∈m,NS b){v:Value}(hv:af w' gc' (lA l) v):af w' (fH w g gc' [] d G) (lA l) v:=by
 have one:∀{a:AV}{v:Value},(NS a∨∃m,a=.agg m∧∀b∈m,NS b)→af w' gc' a v→af w' (fH w g gc' [] d G) a v:=by
  intro a v h hv
  rcases h with h|⟨m,rfl,h⟩
  ·exact hv.ns hg hi hL h
  ·obtain ⟨vs,rfl,e1,e2⟩:=hv.agg_inv
   exact .agg m vs e1 fun j h1 h2=>(e2 j h1 h2).ns hg hi hL (h _ (List.getElem_mem h1))
 match l,h,hv with
 |[],_,hv=>
  cases hv with
  |tup _ vs e1 e2=>exact .tup [] vs e1 fun j h=>by simp at h
 |[a],h,hv=>exact one (h a (by simp)) hv
 |a :: b :: l,h,hv=>
  cases hv with
  |tup _ vs e1 e2=>exact .tup _ vs e1 fun j h1 h2=>one (h _ (List.getElem_mem h1)) (e2 j h1 h2)
theorem wF (hn:(aW os).Nodup){i s:Nat}(h:bL os i s)(hd:¬(s=d∧G=true))(j:Nat):(fH w g gc' os d G).hs s j=gc'.hs (1000+i) j:=by
 have hex:∃i,bL os i s:=⟨i,h⟩
 simp only [fH]
 rw [if_neg hd,dif_pos hex,qI hn hex.choose_spec h]
theorem mE {s j:Nat}(hd:¬(s=d∧G=true))(h:∀i,¬bL os i s):(fH w g gc' os d G).hs s j=g.hs s j:=by
 simp only [fH]
 rw [if_neg hd,dif_neg fun ⟨i,hi⟩=>h i hi]
theorem uo (hg:CG L g gc os)(hi:fR w gc w' gc'):jb w w' fun b o=>∃s x,g.who b o=.obj s x∧oQ os s x:=by
 refine hi.chg.mono ?_
 rintro b o _ ⟨s',x,e⟩
 rcases hg.from_ b o s' x e with ⟨i,p,s,j,h1,_,_,h2⟩|⟨i,s,h1,_,_,h2⟩
 ·exact ⟨_,_,h2,.inr ⟨i,p,j,rfl,h1⟩⟩
 ·exact ⟨_,_,h2,.inl ⟨rfl,i,h1⟩⟩
theorem fJ {b o:Nat}(hb:b<w.heap.size){q:A8}(h:g.who b o=q)(hq:∀s x,q=.obj s x→¬oQ os s x):(fH w g gc' os d G).who b o=q:=by
 simp only [fH]
 rw [if_pos hb,h]
 cases q with
 |obj s x=>simp only;rw [if_neg (hq s x rfl)]
 |_=>rfl
theorem zp {os:List gz}{s:Nat}(h:s∈aW os):∃i,bL os i s:=by
 induction os with
 |nil=>simp [aW] at h
 |cons y os ih=>
  have up:(∃i,bL os i s)→∃i,bL (y :: os) i s:=fun ⟨i,o,h1,h2⟩=>⟨i+1,o,by simpa using h1,h2⟩
  simp only [aW] at h
  cases hy:y.box with
  |none=>rw [hy] at h;exact up (ih h)
  |some s'=>
   rw [hy] at h
   rcases List.mem_cons.mp h with rfl|h
   ·exact ⟨0,y,rfl,hy⟩
   ·exact up (ih h)
theorem E3:GA w g (fH w g gc' os d G) fun s x=>(s=d∧G=true)∨(s∈aW os∧x≠none):=by
 refine ⟨fun b o hb h=>fJ hb h (fun s x e=>by cases e),fun b o hb h=>fJ hb h (fun s x e=>by cases e),fun s j h=>?_,fun s _=>rfl⟩
 refine mE (fun e=>h (.inl e)) fun i hb=>h (.inr ⟨oi hb,by simp⟩)
theorem Cj (hg:CG L g gc os)(hi:fR w gc w' gc'):fR w g w' (fH w g gc' os d G):=
 ⟨(uo hg hi).mono fun _ _ _ ⟨s,x,h,_⟩=>⟨s,x,h⟩,fun b o hb h=>fJ hb h (fun s x e=>by cases e),fun b o hb h=>fJ hb h (fun s x e=>by cases e),
  fun b o hb h=>fJ hb h (fun s x e=>by cases e),fun _ _=>rfl⟩
theorem x9 {sg:bq}{r:sg.den}{v:Value}{rs:List (Nat×ak)}(hg:CG L g gc os)(hn:(aW os).Nodup)(hi:fR w gc w' gc')(hr:rQ aa w' gc' sg r v)
  (hmode:(∀s j b o,¬L s j b o)∨(os=[]∧(sg.lends=true∨(sg.lendsS=true∧CM w g L))))
  (hrs:∀s q,look s rs=some q→(∃i,bL os i s∧(i,q.cs)∈dz.cells sg.back (sg.back1 r)∧q.box=true)∨
   (aK aa w g s q∧(∀i,¬bL os i s)∧∀i p j,cU os i p s j→∀t fz xs,q.cs[j]?≠some (.sl t fz xs)))
  (hG:G=cA (ek.inj d 0 sg.res (sg.res1 r)).2):
  eG aa w g w' (fH w g gc' os d G) d (lA (ek.inj d 0 sg.res (sg.res1 r)).1) v (bif G then some ⟨false,(ek.inj d 0 sg.res (sg.res1 r)).2⟩ else none) rs (aW os):=by
 have hga:=E3 (w:=w) (g:=g) (gc':=gc') (os:=os) (d:=d) (G:=G)
 have hchg:=uo hg hi
 have hM:∀b o,b<w.heap.size→(∃s x,g.who b o=.obj s x∧oQ os s x)→∃s x,g.who b o=.obj s x:=fun _ _ _ ⟨s,x,h,_⟩=>⟨s,x,h⟩
 -- results that lend
 have hld:sg.lends=true→_:=fun hl=>ek.ld d G 0 sg.res (sg.res1 r) (by
  unfold bq.lends at hl
  rw [Bool.and_eq_true] at hl
  exact hl.2) fun h=>hG.trans h
 have hls:sg.lendsS=true→_:=fun hl=>ek.ns d 0 sg.res (sg.res1 r) (by
  unfold bq.lendsS at hl
  rw [Bool.and_eq_true] at hl
  exact hl.2)
 -- the roots
 have hroots:∀s q,look s rs=some q→¬(s=d∧G=true)→∀k:List aj→List aj,(∀cs,∀{j:Nat}{t:El}{fz:Bool}{xs:List t.den},(k cs)[j]?=some (aj.sl t fz xs)↔cs[j]?=some (aj.sl t fz xs))→
   (∀cs b,aj.av b∈k (killBs (aW os) cs)→au (fun s x=>(s=d∧G=true)∨(s∈aW os∧x≠none)) b)→
   (∀{w:World}{g:Gh}{b cs},aK aa w g s ⟨b,cs⟩→aK aa w g s ⟨b,k cs⟩)→aK aa w' (fH w g gc' os d G) s ⟨q.box,k (killBs (aW os) q.cs)⟩:=by
  intro s q hq hsd k hk hka hkr
  rcases hrs s q hq with ⟨i,hb,hm,hbox⟩|⟨hR,hnb,hns⟩
  ·-- a box that came back
   have hf:∀s j b o,¬L s j b o:=by
    rcases hmode with h|⟨h,_⟩
    ·exact h
    ·obtain ⟨_,h',_⟩:=hb;rw [h] at h';simp at h'
   have hR:=hr.back i _ hm
   have hpl:=dz.plain _ _ i _ hm
   rw [hbox]
   refine hkr (aK.killBs _ ?_)
   refine ⟨fun h=>(by cases h),fun _=>?_⟩
   obtain ⟨vals,hv⟩:=hR.box rfl
   refine ⟨vals,fun j hj=>?_⟩
   obtain ⟨h1,h2,h3,h4,h5⟩:=hv j hj
   have ehb:gc'.hb (1000+i)=g.hb s:=(hi.hb _ (by omega)).trans (hg.hb i s hb)
   rw [ehb] at h1 h2 h3 h4
   refine ⟨h1,?_,h3,h4,?_⟩
   ·show (fH w g gc' os d G).who (g.hb s).1 ((g.hb s).2+j)=_
    rw [nN hg hi hf h2 (.inr ⟨_,_,rfl⟩)]
    exact tf hb none
   ·have key:∀c v,q.cs[j]=c→dk aa w' gc' (1000+i) j c v→dk aa w' (fH w g gc' os d G) s j c v:=by
     intro c v hc h
     cases h with
     |av b v h=>exact .av b v (h.plain (ui hg hi hf) (hpl _ (by rw [←hc];exact List.getElem_mem hj) b rfl))
     |sl t fz xs h=>
      have e:=wF (w:=w) (g:=g) (gc':=gc') hn hb hsd j
      rw [←e]
      exact .sl t fz xs (h.aft hg hi hf e (tf hb))
    exact key _ _ rfl h5
  ·refine aK.pres2 hchg hga (r:=⟨q.box,k (killBs (aW os) q.cs)⟩) ?_ ?_ ?_ ?_ (hkr (aK.killBs _ hR))
   ·rintro b o _ ⟨s',x,e,hh⟩
    refine ⟨s',x,e,?_⟩
    by_cases hss:s'=s
    ·subst hss
     rcases hh with ⟨_,i,h⟩|⟨i,p,j,rfl,h⟩
     ·exact absurd h (hnb i)
     ·refine .inr ⟨j,rfl,fun t fz xs e2=>?_⟩
      exact hns i p j h t fz xs ((ol _).1 ((hk _).1 e2))
    ·exact .inl hss
   ·intro b o x hb e hx
    refine fJ hb e fun s' x' e'=>?_
    cases e'
    rintro (⟨_,i,h⟩|⟨i,p,j,rfl,h⟩)
    ·exact hnb i h
    ·obtain ⟨t,fz,xs,e2⟩:=hx j rfl
     exact hns i p j h t fz xs ((ol _).1 ((hk _).1 e2))
   ·rintro x (h|⟨h,_⟩)
    ·exact hsd h
    ·have:∃i,bL os i s:=by
      exact zp h
     obtain ⟨i,hi⟩:=this
     exact hnb i hi
   ·exact fun b hb=>hka _ b hb
 refine ⟨Cj hg hi,?_,?_,?_,?_,?_⟩
 ·intro b u hb hd hks
  refine hb.pres hchg hM hga ?_
  cases hGv:G with
  |false=>
   refine hks.mono fun s x h=>?_
   rcases h with ⟨_,h⟩|h
   ·cases h
   ·exact h
  |true=>
   rw [hGv] at hd
   rcases hd with h|h
   ·cases h
   ·refine h.or hks fun s x h=>?_
    rcases h with ⟨h,_⟩|h
    ·exact .inl h
    ·exact .inr h
 ·rcases hmode with hl|⟨rfl,hl|⟨hl,hL⟩⟩
  ·refine (Aq (ek.rn 0 sg.res (sg.res1 r) (d:=d) (G:=G) fun h=>hG.trans h)).rep (ui hg hi hl) (fun hGt j=>?_) hr.val
   simp [fH,hGt]
  ·exact Au (fun hGt j=>by simp [fH,hGt]) (hld hl).1 hr.val
  ·obtain ⟨_,h2,h3⟩:=hls hl
   have:=hr.val
   rw [←h2] at this
   exact Ba hg hi hL h3 this
 ·intro hnone s q hq
  have hGf:G=false:=by
   cases hGv:G with
   |false=>rfl
   |true=>rw [hGv] at hnone;cases hnone
  refine hroots s q hq (by rw [hGf];simp) id (fun _=>Iff.rfl) (fun cs b hb=>?_) (fun h=>h)
  obtain ⟨c,_,rfl⟩:=mT _ hb
  refine (d6 (aW os) c).mono fun s x h=>?_
  rcases h with ⟨_,h⟩|h
  ·rw [hGf] at h;cases h
  ·exact h
 ·intro _ s q hq hsd
  refine hroots s q hq (fun h=>hsd h.1) (killC d) (fun _=>uL) (fun cs b hb=>?_) (fun h=>h.kill d)
  have h1:=f9 hb
  have h2:∃c,aj.av c∈killBs (aW os) cs∧b=c.kill d:=by
   clear h1
   generalize killBs (aW os) cs=l at hb
   induction l with
   |nil=>simp [killC] at hb
   |cons c l ih=>
    simp only [killC,List.mem_cons] at hb
    rcases hb with h|h
    ·cases c with
     |av a=>simp only [aj.kill,aj.av.injEq] at h;exact ⟨a,by simp,h⟩
     |sl t fz xs=>simp [aj.kill] at h
    ·obtain ⟨c',q1,q2⟩:=ih h;exact ⟨c',List.mem_cons_of_mem _ q1,q2⟩
  obtain ⟨c,h3,rfl⟩:=h2
  obtain ⟨c',_,rfl⟩:=mT _ h3
  refine h1.or ((d6 (aW os) c').kill d) fun s x h=>?_
  rcases h with ⟨h,_⟩|h
  ·exact .inl h
  ·exact .inr h
 ·intro q hq
  have hGt:G=true:=by
   cases hGv:G with
   |true=>rfl
   |false=>rw [hGv] at hq;cases hq
  rw [hGt] at hq
  cases hq
  refine aK.kill d (r:=⟨false,_⟩) ⟨fun _ j t fz xs hj=>?_,fun h=>by cases h⟩
  have hj':(ek.inj 0 0 sg.res (sg.res1 r)).2[j]?=some (.sl t fz xs):=by rw [←ek.inj_two d 0 0];exact hj
  rcases hmode with hl|⟨hos,hl|⟨hl,_⟩⟩
  ·refine (hr.own.apart rfl j t fz xs hj').aft hg hi hl ?_ ?_
   ·simp [fH,hGt]
   ·intro x;rw [hGt];exact qX x
  ·obtain ⟨ht,rfl⟩:=(hld hl).2 _ (List.mem_of_getElem? hj) t fz xs rfl
   refine (hr.own.apart rfl j t false xs hj').aftD hg hi hos ht ?_ ?_
   ·simp [fH,hGt]
   ·intro x;rw [hGt];exact qX x
  ·rw [hG,(hls hl).1] at hGt;cases hGt
end
end
end Go.Proofs.YtjkokaockhecnaaGreatDoorA

namespace Go.Proofs.YtjkokaockhecnaaGreatDoorA
open Go
def GT (w w':World)(v v':Value)(n m:Nat):Prop:=
 (v'=v∧w'=w)∨(∃b cap,v=.slice (some ⟨b,0,none⟩) n cap∧v'=.slice (some ⟨b,0,none⟩) m cap∧w.grownBy w' (some b))∨
  (∃cap,v'=.slice (some ⟨w.heap.size,0,none⟩) m cap∧w.grownBy w' none)
structure Hf (P:Program)(f T e:Nat):Prop where
 bod:kr P f
 run:∀(w:World) (b:Nat) (p:Option Addr) (v:Value) (s:ByteArray) (n:Nat) (xs:List Value),
  w.shape? b=some (T,2)→w.cell? ⟨b,0,none⟩=some (.pointer p)→(p=none∨p=some ⟨b,0,none⟩)→w.frozen? ⟨b,0,none⟩=false→w.frozen? ⟨b,1,none⟩=false→
  w.cell? ⟨b,1,none⟩=some v→w.ownsRow 0 e 1 v n xs→v.ownBlock≠some b→n+s.size≤140737488355328→
  Calls P f #[.pointer (some ⟨b,0,none⟩),.string s] w fun ex w'=>∃r v' w1 w2,ex=.returned r∧(w1=w∧p=some ⟨b,0,none⟩∨w1=w.setCell ⟨b,0,none⟩ (.pointer (some ⟨b,0,none⟩)))∧
   w2.ownsRow 0 e 1 v' (n+s.size) (xs++Lib.strCells s)∧GT w1 w2 v v' n (n+s.size)∧w'=w2.setCell ⟨b,1,none⟩ v'
structure FI (P:Program)(f T e:Nat):Prop where
 bod:kr P f
 nil:∀(w:World) (b:Nat) (ad:Option Addr) (c:Nat),w.cell? ⟨b,1,none⟩=some (.slice ad 0 c)→(∀q,ad=some q→(w.shape? q.block).isSome=true)→
  Calls P f #[.pointer (some ⟨b,0,none⟩)] w fun ex w'=>ex=.returned (.string ⟨#[]⟩)∧RowKit.Below w.heap.size w w'
 some:∀(w:World) (b g k c:Nat) (l:List Int),l≠[]→w.cell? ⟨b,1,none⟩=some (.slice (some ⟨g,0,none⟩) l.length c)→l.length≤c→c≤maxLen→w.shape? g=some (e,k)→l.length≤k→
  (∀j x,l[j]?=some x→w.cell? ⟨g,j,none⟩=some (.int .u8 x))→
  Calls P f #[.pointer (some ⟨b,0,none⟩)] w fun ex w'=>ex=.returned (.string ⟨(aD l).toArray⟩)∧w'=w.drew.freeze ⟨g,0,none⟩ l.length
section
variable {aa:bb}{n:Nat}{w w' w'':World}{g g' g'':Gh}{S S':St}{a:Act}{P:Program}
theorem uQ {o:Oper}{c:Call}{x:Operand}{f:FuncId}{caps:Array Value}(ho:o.op=.call c)(hc:c.callee=.value x)(hx:a.eval x=.func (.func f) #[] caps)(hb:kr P f):
  (execOp a.eval o).run P w=.ok (.enter f (c.args.map a.eval++caps)) w:=by
 obtain ⟨fn,h1,h2,h3⟩:=hb
 unfold execOp;rw [ho]
 simp only [resolve,hc,hx,Deferred.ofValue]
 have h2':fn.name≠ "runtime.NumGoroutine" :=by simpa using h2
 have h3':fn.body≠none:=by intro e;rw [e] at h3;simp at h3
 simp [invoke,callFunc,h1,h2',h3']
theorem jP {c:Call}{f:FuncId}{as:List AV}(h:cV S c=some (f,as))(hS:bi aa n w g S a):
  ∃vals:List Value,aX w g as vals∧∀o:Oper,o.op=.call c→kr P f→(execOp a.eval o).run P w=.ok (.enter f vals.toArray) w:=by
 unfold cV at h
 split at h
 ·rename_i x hx
  split at h
  ·rename_i f' caps hev
   cases h
   have hv:=hS.ev x
   rw [hev] at hv
   generalize hu:a.eval x=u at hv
   cases hv with
   |fn _ _ vs e1 e2=>
    refine ⟨c.args.toList.map a.eval++vs,(hS.evL _).append ⟨e1,e2⟩,fun o ho hb=>?_⟩
    rw [uQ ho hx hu hb]
    congr 2
    apply Array.toList_inj.mp
    simp
  ·cases h
 ·cases h
end
end Go.Proofs.YtjkokaockhecnaaGreatDoorA

namespace Go.Proofs.YtjkokaockhecnaaGreatDoorA
open Go
theorem mb {w w':World}{e:TypeId}{size n:Nat}{v:Value}{xs:List Value}(h:w.ownsRow 0 e size v n xs)(hb:∀g,v.ownBlock=some g→w'.heap[g]?=w.heap[g]?):w'.ownsRow 0 e size v n xs:=by
 refine ⟨h.1,?_⟩
 rcases h.2 with h|⟨g,cap,cur,rfl,h1,h2,h3⟩
 ·exact .inl h
 ·exact .inr ⟨g,cap,cur,rfl,h1,(hb g rfl).trans h2,h3⟩
theorem Aw {w w':World}{v v':Value}{n m:Nat}{e:TypeId}{xs ys:List Value}(hrow:w.ownsRow 0 e 1 v n xs)(hrow':w'.ownsRow 0 e 1 v' m ys)(hpre:∀j,j<n→ys[j]?=xs[j]?)(hnm:n≤m)
  (h:GT w w' v v' n m):jb w w' fun b o=>v.ownBlock=some b∧n≤o:=by
 rcases h with ⟨_,rfl⟩|⟨b,cap,rfl,rfl,hg⟩|⟨cap,rfl,hg⟩
 ·exact .refl _ _
 ·refine ⟨hg.os,hg.tape,hg.output,hg.size,fun k hk hn=>hg.block k hk (fun e=>?_),fun k o hk hn=>?_,fun k o hk hn=>?_,fun k hk=>?_⟩
  ·cases e;exact hn n ⟨rfl,Nat.le_refl _⟩
  ·by_cases hkb:k=b
   ·subst hkb
    have ho:o<n:=Nat.lt_of_not_le fun h=>hn ⟨rfl,h⟩
    rw [hrow'.cellAt o (by omega),hrow.cellAt o (by omega),hpre o ho]
   ·exact World.cell?_of_block (hg.block k hk (by simpa using hkb))
  ·by_cases hkb:k=b
   ·subst hkb
    rw [hrow'.frozenAt,hrow.frozenAt]
   ·exact World.frozen?_of_block (hg.block k hk (by simpa using hkb))
  ·by_cases hkb:k=b
   ·subst hkb
    rcases hrow.2 with ⟨e,_⟩|⟨b',cap',cur,e,_,h1,_,_,h2,_⟩
    ·cases e
    ·cases e
     rcases hrow'.2 with ⟨e,_⟩|⟨b',cap',cur',e,_,h1',_,_,h2',_⟩
     ·cases e
     ·cases e
      unfold World.shape?
      rw [h1,h1']
      simp [h2,h2']
   ·unfold World.shape?
    rw [hg.block k hk (by simpa using hkb)]
 ·exact .of_below ⟨hg.os,hg.tape,hg.output,hg.size,fun b hb=>hg.block b hb (by simp)⟩ _
section
variable {aa:bb}{n:Nat}{w w' w'':World}{g g' g'':Gh}{S:St}{a:Act}{P:Program}
theorem AX {xs:List Int}{vals:List Value}(hl:vals.length=(flat (.int .u8) xs).length)
  (h:∀i (h:i<(flat (.int .u8) xs).length) (h':i<vals.length),af w g ((flat (.int .u8) xs)[i]) (vals[i])):vals=xs.map (Value.int .u8):=by
 refine List.ext_getElem (by rw [hl,jG];simp) fun i h1 h2=>?_
 have h3:i<(flat (.int .u8) xs).length:=by rw [←hl];exact h1
 have:=h i h3 h1
 simp only [jG,List.getElem_map] at this
 rw [this.int_inv,List.getElem_map]
theorem A4 {xs:List Int}:∀i (h:i<(flat (.int .u8) xs).length) (h':i<(xs.map (Value.int .u8)).length),af w g ((flat (.int .u8) xs)[i]) ((xs.map (Value.int .u8))[i]):=by
 intro i h h'
 simp only [jG,List.getElem_map]
 exact .int _ _
theorem tU {s:Nat}{c:aj}{v:Value}{xs:List Int}(hc:dk aa w g s 1 c v)(h:yn c=some xs):
  w.ownsRow 0 (aa (.int .u8)) 1 v xs.length (xs.map (Value.int .u8))∧∀b m cap,v=.slice (some ⟨b,0,none⟩) m cap→b<w.heap.size∧∀o,g.who b o=.obj s (some 1):=by
 unfold yn at h
 split at h
 ·cases h
  cases hc with
  |av _ _ hv=>
   have e:v=.slice none 0 0:=by cases hv;rfl
   subst e
   exact ⟨World.ownsRow_nil w 0 _ 1,fun b m cap e=>by cases e⟩
 ·cases h
  obtain ⟨hs,e⟩:=hc.sl_inv
  subst e
  rcases hs.c with ⟨⟨vals,h1,h2,h3⟩,h4⟩|⟨h,_⟩
  rotate_left
  ·exact absurd rfl h
  rw [AX h2 h3] at h1
  refine ⟨h1,fun b m cap e=>?_⟩
  obtain ⟨q1,q2⟩:=h4 b m cap e
  exact ⟨q1,fun o=>by have:=q2 o;simpa using this⟩
 ·cases h
theorem CS {s b:Nat}{c:AV}{v:Value}(hb:g.hb s=(b,0))(h:qC s c=true)(hv:af w g c v):∃p,v=.pointer p∧(p=none∨p=some ⟨b,0,none⟩):=by
 unfold qC at h
 split at h
 ·cases hv;exact ⟨none,rfl,.inl rfl⟩
 ·have e:=Nat.eq_of_beq_eq_true h
  subst e
  cases hv with
  |bad0=>exact ⟨none,rfl,.inl rfl⟩
  |bad1=>rw [hb];exact ⟨_,rfl,.inr rfl⟩
 ·simp only [Bool.and_eq_true] at h
  have e:=Nat.eq_of_beq_eq_true h.1
  have e2:=Nat.eq_of_beq_eq_true h.2
  subst e;subst e2
  cases hv with
  |ref=>rw [hb];exact ⟨_,rfl,.inr rfl⟩
 ·cases h
theorem rZ (x:List UInt8):Lib.strCells ⟨x.toArray⟩=(fX x).map (Value.int .u8):=by
 simp [Lib.strCells,fX]
def uI (w:World)(g:Gh)(s:Nat)(v:Value):Gh:=
 ⟨fun b o=>if b<w.heap.size then g.who b o else .obj s (some 1),fun q j=>if q=s∧j=1 then v else g.hs q j,g.hb⟩
theorem zk {R:Type}{o:Oper}{κ:AV→Option ak→List (Nat×ak)→List Nat→Option R}{r:R}{c:Call}{f:FuncId}{d s T:Nat}{x:List UInt8}(hbw:Hf P f T (aa (.int .u8)))
  (ho:o.op=.call c) (hc:cV S c=some (f,[.refT s T,.str x])) (h:Ds S s x (fun rs=>κ .und none rs [s])=some r) (hS:bi aa n w g S a):qa aa P w g a o d κ r:=by
 obtain ⟨vals,hvals,hrun⟩:=jP (P:=P) hc hS
 obtain ⟨v1,vs1,e1,hv1,hvals⟩:=hvals.cons_inv
 obtain ⟨v2,vs2,e2,hv2,hvals⟩:=hvals.cons_inv
 have e3:=hvals.nil_inv
 subst e3;subst e2;subst e1
 have ev2:=hv2.str_inv
 subst ev2
 unfold Ds at h
 split at h
 ·rename_i a0 c0 hroot
  cases hbad:qC s a0 with
  |false=>rw [hbad] at h;cases h
  |true=>
   rw [hbad] at h
   simp only [cond] at h
   split at h
   ·rename_i xs hbuf
    cases hlen:decide (xs.length+x.length≤140737488355328) with
    |false=>rw [hlen] at h;cases h
    |true=>
     rw [hlen] at h
     simp only at h
     have hlen:=of_decide_eq_true hlen
     cases hv1 with
     |refT _ _ b hb hsh=>
      have hR:=hS.root hroot
      obtain ⟨vv,hvv⟩:=hR.box rfl
      obtain ⟨q1,q2,q3,q4,q5⟩:=hvv 0 (by simp)
      obtain ⟨p1,p2,p3,p4,p5⟩:=hvv 1 (by simp)
      rw [hb] at q1 q2 q3 q4 p1 p2 p3 p4
      simp only [Nat.zero_add,List.getElem_cons_zero,List.getElem_cons_succ] at q1 q2 q3 q4 q5 p1 p2 p3 p4 p5
      obtain ⟨hrow,hown⟩:=tU p5 hbuf
      obtain ⟨p,ep,hp⟩:=CS (v:=vv 0) hb hbad (by cases q5 with|av _ _ h=>exact h)
      rw [ep] at q3
      have hob:∀b' o',(vv 1).ownBlock=some b'→b'<w.heap.size∧g.who b' o'=.obj s (some 1):=by
       intro b' o' e
       rcases hrow.2 with ⟨e2,_⟩|⟨g2,cap,cur,e2,_⟩
       ·rw [e2] at e;cases e
       ·rw [e2] at e;cases e
        obtain ⟨k1,k2⟩:=hown _ _ _ e2
        exact ⟨k1,k2 o'⟩
      have hnb:(vv 1).ownBlock≠some b:=by
       intro e
       have:=(hob b 0 e).2
       rw [q2] at this;cases this
      have hxs:(⟨x.toArray⟩:ByteArray).size=x.length:=gf x
      have hcall:=hbw.run w b p (vv 1) ⟨x.toArray⟩ xs.length (xs.map (Value.int .u8)) hsh q3 hp q4 p4 p3 hrow hnb (by rw [hxs];exact hlen)
      intro K Q hK
      unfold Oper.wp
      rw [hrun o ho hbw.bod]
      show Calls P f _ w _
      refine Calls.mono hcall ?_
      rintro ex w3 ⟨r0,v',w1,w2,rfl,hw1,hrow2,happ,rfl⟩
      rw [hxs,rZ,←List.map_append] at hrow2
      rw [hxs] at happ
      -- the world ahead of the append
      have hchg1:jb w w1 fun b' o'=>b'=b∧o'<1:=by
       rcases hw1 with ⟨rfl,_⟩|rfl
       ·exact .refl _ _
       ·have:=ez w b 0 [.pointer (some ⟨b,0,none⟩)]
        exact this.mono fun b' o' _ ⟨h1,_,h2⟩=>⟨h1,by simpa using h2⟩
      have hcell0:w1.cell? ⟨b,0,none⟩=some (.pointer (some ⟨b,0,none⟩)):=by
       rcases hw1 with ⟨rfl,rfl⟩|rfl
       ·exact q3
       ·exact World.cell?_setCell_same _ _ _ q3
      have hsz1:w1.heap.size=w.heap.size:=by
       rcases hw1 with ⟨rfl,_⟩|rfl
       ·rfl
       ·simp
      have hrow1:w1.ownsRow 0 (aa (.int .u8)) 1 (vv 1) xs.length (xs.map (Value.int .u8)):=by
       refine mb hrow fun k hk=>?_
       rcases hw1 with ⟨rfl,_⟩|rfl
       ·rfl
       ·exact fB b [.pointer (some ⟨b,0,none⟩)] 0 w k (fun e=>hnb (by rw [hk,e]))
      have hchg2:=Aw hrow1 hrow2 (fun j hj=>by rw [List.map_append,List.getElem?_append_left (by simpa using hj)]) (by omega) happ
      have hchg3:=ez w2 b 1 [v']
      have hchg:jb w (w2.setCell ⟨b,1,none⟩ v') fun b' o'=>(b'=b∧o'<2)∨((vv 1).ownBlock=some b'∧xs.length≤o'):=by
       refine ((hchg1.trans hchg2).trans hchg3).mono fun b' o' _ hm=>?_
       rcases hm with (⟨h1,h2⟩|h1)|⟨h1,h2,h3⟩
       ·exact .inl ⟨h1,by omega⟩
       ·exact .inr h1
       ·exact .inl ⟨h1,by simpa using h3⟩
      have hM:∀b' o',b'<w.heap.size→((b'=b∧o'<2)∨((vv 1).ownBlock=some b'∧xs.length≤o'))→∃y,g.who b' o'=.obj s y:=by
       rintro b' o' _ (⟨rfl,h2⟩|⟨h1,_⟩)
       ·rcases (by omega:o'=0∨o'=1) with rfl|rfl
        ·exact ⟨_,q2⟩
        ·exact ⟨_,p2⟩
       ·exact ⟨_,(hob b' o' h1).2⟩
      have hM':∀b' o',b'<w.heap.size→((b'=b∧o'<2)∨((vv 1).ownBlock=some b'∧xs.length≤o'))→∃s' y,g.who b' o'=.obj s' y:=fun b' o' hb hm=>let ⟨y,e⟩:=hM b' o' hb hm;⟨s,y,e⟩
      have hwho:∀b' o',b'<w.heap.size→(uI w g s v').who b' o'=g.who b' o':=fun b' o' hb=>by simp [uI,hb]
      have hga:GA w g (uI w g s v') fun q y=>q=s∧y=some 1:=by
       refine ⟨fun b' o' hb e=>(hwho b' o' hb).trans e,fun b' o' hb e=>(hwho b' o' hb).trans e,fun q j hn=>?_,fun _ _=>rfl⟩
       show (if q=s∧j=1 then v' else g.hs q j)=_
       rw [if_neg fun ⟨h1,h2⟩=>hn ⟨h1,by rw [h2]⟩]
      have hAv:∀{b:AV},au (fun q x=>q∈[s]∧x≠none) b→au (fun q x=>q=s∧x=some 1) b:=fun h=>h.mono fun q x ⟨e1,e2⟩=>⟨by rw [e1];simp,by rw [e2];simp⟩
      have hkill:∀{cs':List aj}{b:AV},aj.av b∈bz s cs'→au (fun q x=>q=s∧x=some 1) b:=by
       intro cs' b hb
       obtain ⟨c,_,rfl⟩:=mI hb
       exact (jR s c).mono fun q x ⟨e1,e2⟩=>⟨e1,by rw [e2];simp⟩
      have hw2sz:w.heap.size≤w2.heap.size:=by rw [←hsz1];exact hchg2.size
      have hc20:w2.cell? ⟨b,0,none⟩=some (.pointer (some ⟨b,0,none⟩)):=
       (hchg2.cel b 0 (by rw [hsz1];exact q1) (fun hm=>hnb hm.1)).trans hcell0
      have hc21:w2.cell? ⟨b,1,none⟩=some (vv 1):=
       (hchg2.cel b 1 (by rw [hsz1];exact q1) (fun hm=>hnb hm.1)).trans ((hchg1.cel b 1 q1 (fun hm=>by omega)).trans p3)
      have hf2:∀j,j<2→w2.frozen? ⟨b,j,none⟩=false:=by
       intro j hj
       rw [hchg2.frz b j (by rw [hsz1];exact q1) (fun hm=>hnb hm.1)]
       have hw1f:w1.frozen? ⟨b,j,none⟩=w.frozen? ⟨b,j,none⟩:=by
        rcases hw1 with ⟨rfl,_⟩|rfl
        ·rfl
        ·exact World.frozen?_setCell _ _ _ _
       rw [hw1f]
       rcases (by omega:j=0∨j=1) with rfl|rfl
       ·exact q4
       ·exact p4
      refine hK _ _ _ _ _ _ _ h ⟨⟨hchg.mono hM',hga.imm,hga.bor,fun b' o' hb e=>(hwho b' o' hb).trans e,fun _ _=>rfl⟩,fun b' u hb' _ hav=>hb'.pres hchg hM' hga (hAv hav),.und _,fun _ q rq hq=>?_,fun h=>absurd rfl h,fun q h=>by cases h⟩
      rw [dC] at hq
      show aK aa _ _ q ⟨rq.box,bz s rq.cs⟩
      by_cases hqs:q=s
      ·subst hqs
       rw [if_pos rfl] at hq
       cases hq
       refine ⟨fun e=>(by cases e),fun _=>⟨fun j=>if j=0 then .pointer (some ⟨b,0,none⟩) else v',fun j hj=>?_⟩⟩
       have hbg:(uI w g q v').hb q=(b,0):=hb
       rw [hbg]
       simp only [Nat.zero_add]
       have hj2:j<2:=by simpa [bz,aj.killB] using hj
       have hbsz:b<(w2.setCell ⟨b,1,none⟩ v').heap.size:=by simp;omega
       rcases (by omega:j=0∨j=1) with rfl|rfl
       ·refine ⟨hbsz,(hwho _ _ q1).trans q2,?_,(World.frozen?_setCell _ _ _ _).trans (hf2 0 (by omega)),?_⟩
        ·rw [if_pos rfl,World.cell?_setCell_other _ _ _ _ (by simp)]
         exact hc20
        ·have:=af.bad1 (w:=w2.setCell ⟨b,1,none⟩ v') (g:=uI w g q v') q
         rw [hbg] at this
         exact .av _ _ this
       ·refine ⟨hbsz,(hwho _ _ q1).trans p2,?_,(World.frozen?_setCell _ _ _ _).trans (hf2 1 (by omega)),?_⟩
        ·rw [if_neg (by omega)]
         exact World.cell?_setCell_same _ _ _ hc21
        ·have hhs:v'=(uI w g q v').hs q 1:=by simp [uI]
         rw [if_neg (by omega)]
         have hsl:cv aa (w2.setCell ⟨b,1,none⟩ v') (uI w g q v') q 1 (.int .u8) false (xs++fX x):=by
          have hv'b:v'.ownBlock≠some b:=by
           intro e
           rcases happ with ⟨rfl,_⟩|⟨b',cap,e1,e2,_⟩|⟨cap,e2,_⟩
           ·exact hnb e
           ·rw [e2] at e;rw [e1] at hnb;exact hnb e
           ·rw [e2] at e
            simp only [Value.ownBlock,Option.some.injEq] at e
            omega
          have hlen2:(xs++fX x).length=xs.length+x.length:=by simp [fX]
          refine ⟨.inl ⟨⟨_,?_,by rw [jG];simp,A4⟩,fun b' m cap e=>?_⟩⟩
          ·rw [←hhs,hlen2]
           exact mb hrow2 fun k hk=>fB b [v'] 1 w2 k (fun e=>hv'b (by rw [hk,e]))
          ·rw [←hhs] at e
           have hblk:b'<w2.heap.size:=by
            rcases hrow2.2 with ⟨e2,_⟩|⟨b2,cap',cur,e2,_,hh,_⟩
            ·rw [e2] at e;cases e
            ·rw [e2] at e;cases e
             exact (Array.getElem?_eq_some_iff.mp hh).1
           refine ⟨by simpa using hblk,fun o'=>?_⟩
           simp only [Bool.false_eq_true,if_false,ite_self]
           show (if b'<w.heap.size then g.who b' o' else .obj q (some 1))=_
           split
           ·rename_i hlt
            rcases happ with ⟨e1,_⟩|⟨b3,cap3,e1,e2,_⟩|⟨cap3,e2,_⟩
            ·exact (hob b' o' (by rw [←e1,e];rfl)).2
            ·rw [e2] at e;cases e
             exact (hob b' o' (by rw [e1];rfl)).2
            ·rw [e2] at e;cases e
             omega
           ·rfl
         have:=dk.sl (aa:=aa) _ _ _ hsl
         rw [←hhs] at this
         exact this
      ·rw [if_neg hqs] at hq
       refine ((hS.rt q rq hq).killB (b:=rq.box) (cs:=rq.cs) s).pres hchg hga (fun b' o' hb hm=>?_) (fun b' o' y hb e=>(hwho b' o' hb).trans e) (fun y e=>hqs e.1) (fun b' hb'=>hkill hb')
       obtain ⟨y,e⟩:=hM b' o' hb hm
       exact ⟨s,y,e,fun e=>hqs e.symm⟩
   ·cases h
 ·cases h
end
end Go.Proofs.YtjkokaockhecnaaGreatDoorA

namespace Go.Proofs.YtjkokaockhecnaaGreatDoorA
open Go
theorem pV (w:World)(b n:Nat)(hn:n≠0){c:Array Value}{T lo hi:Nat}(h:w.heap[b]?=some (.cells c T (lo,hi)))(k:Nat):
  (w.freeze ⟨b,0,none⟩ n).heap[k]?=if k=b then some (.cells c T (if lo==hi then (0,n) else (min lo 0,max hi n))) else w.heap[k]?:=by
 unfold World.freeze
 rw [if_neg hn]
 simp only [Array.getElem?_modify]
 by_cases hk:b=k
 ·subst hk
  rw [if_pos rfl,if_pos rfl,h]
  simp
 ·rw [if_neg hk,if_neg fun e=>hk e.symm]
section
variable {aa:bb}{n:Nat}{w w' w'':World}{g g' g'':Gh}{S:St}{a:Act}{P:Program}
theorem xd (w:World)(b m k e:Nat)(hs:w.shape? b=some (e,k))(h0:m≠0)(hf:∀j,j<m→w.frozen? ⟨b,j,none⟩=true)(M:Nat→Nat→Prop):jb w (w.drew.freeze ⟨b,0,none⟩ m) M:=by
 unfold World.shape? at hs
 cases hb:w.heap[b]? with
 |none=>rw [hb] at hs;cases hs
 |some ob=>
  rw [hb] at hs
  cases ob with
  |cells c T fz=>
   obtain ⟨lo,hi⟩:=fz
   have h1:=hf 0 (by omega)
   have h2:=hf (m - 1) (by omega)
   unfold World.frozen? at h1 h2
   simp only [hb,Bool.and_eq_true,decide_eq_true_eq] at h1 h2
   have hh:∀k:Nat,(w.drew.freeze ⟨b,0,none⟩ m).heap[k]?=w.heap[k]?:=by
    intro k
    rw [pV w.drew b m h0 (c:=c) (T:=T) (lo:=lo) (hi:=hi) hb]
    split
    ·rename_i hk
     subst hk
     rw [hb]
     have:(lo==hi)=false:=by simp;omega
     rw [this]
     simp only [Bool.false_eq_true,if_false]
     rw [show min lo 0=lo by omega,show max hi m=hi by omega]
    ·rfl
   have hfr:∀x:World,(x.freeze ⟨b,0,none⟩ m).os=x.os∧(x.freeze ⟨b,0,none⟩ m).tape=x.tape∧(x.freeze ⟨b,0,none⟩ m).output=x.output∧(x.freeze ⟨b,0,none⟩ m).heap.size=x.heap.size:=by
    intro x
    unfold World.freeze
    rw [if_neg h0]
    exact ⟨rfl,rfl,rfl,by simp⟩
   obtain ⟨f1,f2,f3,f4⟩:=hfr w.drew
   refine ⟨f1,f2,f3,by rw [f4];exact Nat.le_refl _,fun b _ _=>hh b,fun b o _ _=>?_,fun b o _ _=>?_,fun b _=>?_⟩
   ·unfold World.cell?;simp only [hh]
   ·unfold World.frozen?;simp only [hh]
   ·unfold World.shape?;simp only [hh]
  |_=>cases hs
theorem xI (w:World)(b m e:Nat){c:Array Value}(hb:w.heap[b]?=some (.cells c e (0,0)))(h0:m≠0):
  jb w (w.drew.freeze ⟨b,0,none⟩ m) (fun b' o=>b'=b∧o<m)∧(∀o,(w.drew.freeze ⟨b,0,none⟩ m).cell? ⟨b,o,none⟩=w.cell? ⟨b,o,none⟩)∧∀j,j<m→(w.drew.freeze ⟨b,0,none⟩ m).frozen? ⟨b,j,none⟩=true:=by
 have hh:=pV w.drew b m h0 (c:=c) (T:=e) (lo:=0) (hi:=0) hb
 have hfr:∀x:World,(x.freeze ⟨b,0,none⟩ m).os=x.os∧(x.freeze ⟨b,0,none⟩ m).tape=x.tape∧(x.freeze ⟨b,0,none⟩ m).output=x.output∧(x.freeze ⟨b,0,none⟩ m).heap.size=x.heap.size:=by
  intro x
  unfold World.freeze
  rw [if_neg h0]
  exact ⟨rfl,rfl,rfl,by simp⟩
 obtain ⟨f1,f2,f3,f4⟩:=hfr w.drew
 have hcel:∀b' o,(w.drew.freeze ⟨b,0,none⟩ m).cell? ⟨b',o,none⟩=w.cell? ⟨b',o,none⟩:=by
  intro b' o
  unfold World.cell?
  simp only [hh]
  by_cases hk:b'=b
  ·subst hk;simp [hb]
  ·rw [if_neg hk];rfl
 refine ⟨⟨f1,f2,f3,by rw [f4];exact Nat.le_refl _,fun b' _ hn=>?_,fun b' o _ _=>hcel b' o,fun b' o _ hn=>?_,fun b' _=>?_⟩,fun o=>hcel b o,fun j hj=>?_⟩
 ·rw [hh,if_neg fun e=>hn 0 ⟨e,by omega⟩];rfl
 ·unfold World.frozen?
  simp only [hh]
  by_cases hk:b'=b
  ·subst hk
   have:¬o<m:=fun h=>hn ⟨rfl,h⟩
   simp [hb,this]
  ·rw [if_neg hk];rfl
 ·unfold World.shape?
  rw [hh]
  by_cases hk:b'=b
  ·subst hk;simp [hb]
  ·rw [if_neg hk];rfl
 ·unfold World.frozen?
  simp only [hh]
  simp [hj]
def H4 (g:Gh)(b m:Nat):Gh:=⟨fun b' o=>if b'=b∧o<m then .imm else g.who b' o,g.hs,g.hb⟩
theorem rh (s:Nat)(cs:List aj):killBs [s] cs=bz s cs:=rfl
theorem yf {w:World}{g:Gh}{s:Nat}{a0:AV}{c0:aj}{b:AV}{M:Nat→Nat→Prop}(hR:aK aa w g s ⟨true,[.av a0,c0]⟩)(hc:jb w w' M)(hga:GA w g g' fun _ _=>False)
  (hM:∀b o,b<w.heap.size→M b o→∃j,g.who b o=.obj s (some j)) (hwho:∀b o s',b<w.heap.size→g.who b o=.obj s' none→g'.who b o=.obj s' none)
  (hv:∀v,w.cell? ⟨(g.hb s).1,(g.hb s).2+1,none⟩=some v→dk aa w g s 1 c0 v→af w' g' b v) (hb:b.namesB s=false):aK aa w' g' s ⟨true,bz s [.av a0,.av b]⟩:=by
 obtain ⟨vv,hvv⟩:=hR.box rfl
 have hM1:∀b o,b<w.heap.size→M b o→∃s' x,g.who b o=.obj s' x:=fun b o hb hm=>let ⟨j,e⟩:=hM b o hb hm;⟨s,some j,e⟩
 have hhb:g'.hb s=g.hb s:=hga.hb s id
 refine ⟨fun e=>(by cases e),fun _=>⟨vv,fun j hj=>?_⟩⟩
 have hj2:j<2:=by simpa [bz,aj.killB] using hj
 have hvj:=hvv j (by simpa using hj2)
 obtain ⟨q1,q2,q3,q4,q5⟩:=hvj
 have hnm:¬M (g.hb s).1 ((g.hb s).2+j):=fun hm=>by obtain ⟨j',e⟩:=hM _ _ q1 hm;rw [q2] at e;cases e
 rw [hhb]
 refine ⟨Nat.lt_of_lt_of_le q1 hc.size,hwho _ _ _ q1 q2,(hc.cel _ _ q1 hnm).trans q3,(hc.frz _ _ q1 hnm).trans q4,?_⟩
 rcases (by omega:j=0∨j=1) with rfl|rfl
 ·simp only [List.getElem_cons_zero] at q5
  cases q5 with
  |av _ _ h=>
   have:=((h.pres hc hM1 hga (aT a0)).killB s)
   exact .av _ _ this
 ·simp only [List.getElem_cons_succ,List.getElem_cons_zero] at q5
  have:=hv _ q3 q5
  simp only [bz,aj.killB,AV.killB,hb,List.getElem_cons_succ,List.getElem_cons_zero,cond]
  exact .av _ _ this
theorem ze {R:Type}{o:Oper}{κ:AV→Option ak→List (Nat×ak)→List Nat→Option R}{r:R}{c:Call}{f:FuncId}{d s T e:Nat}(hbr:FI P f T e)(he:aa (.int .u8)=e)
  (ho:o.op=.call c) (hc:cV S c=some (f,[.refT s T])) (h:B7 S s e (fun av rs=>κ av none rs [s])=some r) (hS:bi aa n w g S a):qa aa P w g a o d κ r:=by
 obtain ⟨vals,hvals,hrun⟩:=jP (P:=P) hc hS
 obtain ⟨v1,vs1,e1,hv1,hvals⟩:=hvals.cons_inv
 have e3:=hvals.nil_inv
 subst e3;subst e1
 -- nothing but the cursor has moved
 have fin:∀{a0:AV}{c0:aj}{b:Nat}{b':AV}{w':World}{l:List UInt8}{ex:Ending},S.root s=some ⟨true,[.av a0,c0]⟩→κ (.str l) none (mN s ⟨true,[.av a0,.av b']⟩ S.roots) [s]=some r→
   jb w w' (fun _ _=>False)→(∀v,dk aa w g s 1 c0 v→af w' g b' v)→b'.namesB s=false→eG aa w g w' g d (.str l) (.string ⟨l.toArray⟩) none (mN s ⟨true,[.av a0,.av b']⟩ S.roots) [s]:=by
  intro a0 c0 b b' w' l ex hroot hκ hchg hv hb
  have hga:GA w g g fun _ _=>False:=(nU.refl w g fun _ _=>False).ga
  refine ⟨⟨hchg.mono fun _ _ _ h=>h.elim,fun _ _ _ h=>h,fun _ _ _ h=>h,fun _ _ _ h=>h,fun _ _=>rfl⟩,fun b u hb _ _=>hb.pres hchg (fun _ _ _ h=>h.elim) hga (aT b),.str _,fun _ q rq hq=>?_,fun h=>absurd rfl h,fun q h=>by cases h⟩
  rw [dC] at hq
  rw [rh]
  by_cases hqs:q=s
  ·subst hqs
   rw [if_pos rfl] at hq
   cases hq
   exact yf (hS.root hroot) hchg hga (fun _ _ _ h=>h.elim) (fun _ _ _ _ e=>e) (fun v _=>hv v) hb
  ·rw [if_neg hqs] at hq
   exact ((hS.rt q rq hq).killB (b:=rq.box) (cs:=rq.cs) s).pres hchg hga (fun _ _ _ h=>h.elim) (fun _ _ _ _ e=>e) (fun _=>id) (fun b _=>aT b)
 cases hv1 with
 |refT _ _ b hb hsh=>
  unfold B7 at h
  split at h
  ·rename_i a0 c0 hroot
   have hR:=hS.root hroot
   obtain ⟨vv,hvv⟩:=hR.box rfl
   obtain ⟨p1,p2,p3,p4,p5⟩:=hvv 1 (by simp)
   rw [hb] at p1 p2 p3 p4
   simp only [Nat.zero_add,List.getElem_cons_zero,List.getElem_cons_succ] at p1 p2 p3 p4 p5
   split at h
   ·-- it has been read
    rename_i e' l
    cases hee:Nat.beq e' e with
    |false=>rw [hee] at h;cases h
    |true=>
     rw [hee] at h
     have:=Nat.eq_of_beq_eq_true hee
     subst this
     simp only [cond] at h
     cases p5 with
     |av _ _ hrep=>
      have hkeep:∀{w':World},jb w w' (fun _ _=>False)→∀v,dk aa w g s 1 (.av (.fzs e' l)) v→af w' g (.fzs e' l) v:=by
       intro w' hchg v hv
       cases hv with
       |av _ _ hv=>exact hv.pres hchg (fun _ _ _ h=>h.elim) (nU.refl w g fun _ _=>False).ga (aT _)
      generalize hv1:vv 1=v at hrep p3
      cases hrep with
      |fzs0 _ ad cap hs=>
       intro K Q hK
       unfold Oper.wp
       rw [hrun o ho hbr.bod]
       show Calls P f _ w _
       refine Calls.mono (hbr.nil w b ad cap p3 hs) ?_
       rintro ex w' ⟨rfl,hbel⟩
       have hchg:jb w w' (fun _ _=>False):=.of_below hbel _
       exact hK _ _ _ _ _ _ _ h (fin (b:=b) (ex:=.returned undef) hroot h hchg (hkeep hchg) rfl)
      |fzs _ _ g0 cap k hs hk hl hcap hm hcc=>
       intro K Q hK
       unfold Oper.wp
       rw [hrun o ho hbr.bod]
       show Calls P f _ w _
       refine Calls.mono (hbr.some w b g0 k cap l hl p3 hcap hm hs hk (fun j x hj=>?_)) ?_
       ·obtain ⟨hlt,rfl⟩:=List.getElem?_eq_some_iff.mp hj
        exact (hcc j hlt).2.1
       ·rintro ex w' ⟨rfl,rfl⟩
        have hchg:jb w (w.drew.freeze ⟨g0,0,none⟩ l.length) (fun _ _=>False):=xd w g0 l.length k _ hs (fun e=>hl (List.eq_nil_of_length_eq_zero e)) (fun j hj=>(hcc j hj).2.2) _
        exact hK _ _ _ _ _ _ _ h (fin (b:=b) (ex:=.returned undef) hroot h hchg (hkeep hchg) rfl)
   ·split at h
    ·rename_i xs hbuf
     obtain ⟨hrow,hown⟩:=tU p5 hbuf
     by_cases hx:xs=[]
     ·subst hx
      have hhd:∃ad cap,vv 1=.slice ad 0 cap∧∀q,ad=some q→(w.shape? q.block).isSome=true:=by
       rcases hrow.2 with ⟨e2,_⟩|⟨g2,cap,cur,e2,_,h2,_⟩
       ·exact ⟨none,0,e2,fun q e=>by cases e⟩
       ·refine ⟨_,cap,e2,fun q e=>?_⟩
        cases e
        unfold World.shape?
        rw [h2];rfl
      obtain ⟨ad,cap,ev,hs⟩:=hhd
      rw [ev] at p3
      intro K Q hK
      unfold Oper.wp
      rw [hrun o ho hbr.bod]
      show Calls P f _ w _
      refine Calls.mono (hbr.nil w b ad cap p3 hs) ?_
      rintro ex w' ⟨rfl,hbel⟩
      have hchg:jb w w' (fun _ _=>False):=.of_below hbel _
      refine hK _ _ _ _ _ _ _ h (fin (b:=b) (ex:=.returned undef) hroot h hchg (fun v hv=>?_) rfl)
      have hvr:=(tU hv hbuf).1
      have hhd:∃ad cap,v=.slice ad 0 cap∧∀q,ad=some q→(w.shape? q.block).isSome=true:=by
       rcases hvr.2 with ⟨e2,_⟩|⟨g2,cap,cur,e2,_,h2,_⟩
       ·exact ⟨none,0,e2,fun q e=>by cases e⟩
       ·refine ⟨_,cap,e2,fun q e=>?_⟩
        cases e
        unfold World.shape?
        rw [h2];rfl
      obtain ⟨ad2,cap2,rfl,hs2⟩:=hhd
      refine .fzs0 e ad2 cap2 fun q hq=>?_
      obtain ⟨p,hp⟩:=Option.isSome_iff_exists.1 (hs2 q hq)
      rw [hchg.shp _ (od hp)];exact hs2 q hq
     ·have hl0:xs.length≠0:=fun e=>hx (List.eq_nil_of_length_eq_zero e)
      rcases hrow.2 with ⟨_,e2⟩|⟨g0,cap,cur,ev,_,hheap,hcap,hm,hcs,_⟩
      ·exact absurd e2 hl0
      ·rw [he] at hheap hrow
       obtain ⟨k1,k2⟩:=hown _ _ _ ev
       rw [ev] at p3 hrow
       have hsh0:w.shape? g0=some (e,cur.size):=by unfold World.shape?;rw [hheap]
       have hcells:∀j x,xs[j]?=some x→w.cell? ⟨g0,j,none⟩=some (.int .u8 x):=by
        intro j x hj
        have hlt:=(List.getElem?_eq_some_iff.mp hj).1
        rw [hrow.cellAt j (by omega),List.getElem?_map,hj];rfl
       obtain ⟨hchg,hcel,hfz⟩:=xI w g0 xs.length e hheap hl0
       have hM:∀b' o',b'<w.heap.size→(b'=g0∧o'<xs.length)→∃j,g.who b' o'=.obj s (some j):=by
        rintro b' o' _ ⟨rfl,_⟩
        exact ⟨1,k2 o'⟩
       have hwho:∀b' o' q,g.who b' o'=q→q≠.obj s (some 1)→(H4 g g0 xs.length).who b' o'=q:=by
        intro b' o' q e hq
        show (if b'=g0∧o'<xs.length then A8.imm else g.who b' o')=q
        rw [if_neg,e]
        rintro ⟨rfl,_⟩
        rw [k2 o'] at e
        exact hq e.symm
       have hga:GA w g (H4 g g0 xs.length) fun _ _=>False:=⟨fun b' o' _ e=>hwho b' o' _ e (by simp),fun b' o' _ e=>hwho b' o' _ e (by simp),fun _ _ _=>rfl,fun _ _=>rfl⟩
       intro K Q hK
       unfold Oper.wp
       rw [hrun o ho hbr.bod]
       show Calls P f _ w _
       refine Calls.mono (hbr.some w b g0 cur.size cap xs hx p3 hcap hm hsh0 (by omega) hcells) ?_
       rintro ex w' ⟨rfl,rfl⟩
       refine hK _ _ _ _ _ _ _ h ⟨⟨hchg.mono fun b' o' hb hm=>(let ⟨j,e⟩:=hM b' o' hb hm;⟨s,some j,e⟩),hga.imm,hga.bor,fun b' o' _ e=>hwho b' o' _ e (by simp),fun _ _=>rfl⟩,
        fun b' u hb' _ _=>hb'.pres hchg (fun b' o' hb hm=>(let ⟨j,e⟩:=hM b' o' hb hm;⟨s,some j,e⟩)) hga (aT b'),.str _,fun _ q rq hq=>?_,fun h=>absurd rfl h,fun q h=>by cases h⟩
       rw [dC] at hq
       rw [rh]
       by_cases hqs:q=s
       ·subst hqs
        rw [if_pos rfl] at hq
        cases hq
        refine yf hR hchg hga hM (fun b' o' s' _ e=>hwho b' o' _ e (by simp)) (fun v hc1 hv=>?_) rfl
        have hv1:v=.slice (some ⟨g0,0,none⟩) xs.length cap:=by
         rw [hb,Nat.zero_add,p3] at hc1
         exact (Option.some.inj hc1).symm
        subst hv1
        refine .fzs e xs g0 cap cur.size ((hchg.shp _ k1).trans hsh0) (by omega) hx hcap hm fun j hj=>⟨?_,?_,hfz j hj⟩
        ·show (if g0=g0∧j<xs.length then A8.imm else _)=_
         rw [if_pos ⟨rfl,hj⟩]
        ·rw [hcel]
         exact hcells j _ (List.getElem?_eq_getElem hj)
       ·rw [if_neg hqs] at hq
        refine ((hS.rt q rq hq).killB (b:=rq.box) (cs:=rq.cs) s).pres hchg hga (fun b' o' hb hm=>?_) (fun b' o' y hb e=>hwho b' o' _ e (by rintro e2;cases e2;exact hqs rfl)) (fun _=>id) (fun b _=>aT b)
        obtain ⟨j,e⟩:=hM b' o' hb hm
        exact ⟨s,some j,e,fun e=>hqs e.symm⟩
    ·cases h
  ·cases h
structure sU (P:Program)(aa:bb)(E:ew):Prop where
 ty:∀T i,E.ty T=some i→gi P aa T i
 bw:∀f T,E.pks f=[.bw T,.one .str]→Hf P f T (aa (.int .u8))
 br:∀f T e,E.pks f=[.br T e]→FI P f T e∧aa (.int .u8)=e
theorem wJ {R:Type}{E:TypeId→Option iC}(hE:∀T i,E T=some i→gi P aa T i){o:Oper}{κ:AV→Option ak→List (Nat×ak)→List Nat→Option R}{r:R}{c:Call}{d:Nat}
  (ho:o.op=.call c) (hb:c.callee=.builtin .copy) (h:(match c.args.toList,c.argTypes.toList with
   |[b,x],[T,T']=>
    match (bif Nat.beq T T' then E T else none).bind (·.elem) with
    |some t=>
     match S.ev b with
     |.als s j sz lo n=>bif Nat.beq sz t.size then kx S s j lo n t (S.ev x) fun a rs=>κ a none rs [] else none
     |.al s j=>(match S.cell s j with|some (.sl _ _ xs)=>kx S s j 0 xs.length t (S.ev x) fun a rs=>κ a none rs []|_=>none)
     |_=>none
    |none=>none
   |_,_=>none)=some r) (hS:bi aa n w g S a):qa aa P w g a o d κ r:=by
 split at h
 ·rename_i b x T T' hargs htys
  cases hT:Nat.beq T T' with
  |false=>rw [hT] at h;cases h
  |true=>
   rw [hT] at h
   have hTT:=Nat.eq_of_beq_eq_true hT
   subst hTT
   simp only [cond] at h
   cases hi:E T with
   |none=>rw [hi] at h;cases h
   |some i=>
    rw [hi] at h
    simp only [Option.bind_some] at h
    split at h
    ·rename_i t ht
     have hbb:=hS.ev b
     split at h
     ·rename_i s j sz lo m hev
      rw [hev] at hbb
      cases hz:Nat.beq sz t.size with
      |false=>rw [hz] at h;cases h
      |true=>
       rw [hz] at h
       have hz':=Nat.eq_of_beq_eq_true hz
       subst hz'
       exact pq hE ho hb hargs htys hi ht hbb h hS
     ·rename_i s j hev
      rw [hev] at hbb
      split at h
      ·rename_i u fz xs hcell
       have hbv:af w g (.als s j t.size 0 xs.length) (a.eval b):=by
        have e1:=hbb.al_inv.1
        have hs:=hS.cell hcell
        rcases hs.c with ⟨⟨vals,hrow,_,_⟩,_⟩|⟨_,hx,a0,e⟩
        rotate_left
        ·rw [e1,e,hx];exact .als0 _ _ _ _ _ _
        rcases hrow.2 with ⟨e,hz⟩|⟨b',cap',cur,e,_,_,hcap,_⟩
        ·rw [hz,e1,e];exact .als0 _ _ _ _ _ _
        ·rw [e1,e]
         have:=af.als (w:=w) (g:=g) s j t.size 0 xs.length b' _ _ cap' e hcap
         rwa [Nat.zero_mul] at this
       exact pq hE ho hb hargs htys hi ht hbv h hS
      ·cases h
     ·cases h
    ·cases h
 ·cases h
end
end Go.Proofs.YtjkokaockhecnaaGreatDoorA

namespace Go.Proofs.YtjkokaockhecnaaGreatDoorA
open Go
section
variable {aa:bb}{n:Nat}{w w' w'':World}{g g' g'' gc gc':Gh}{S S':St}{a:Act}{P:Program}
theorem kf {α:Type}(i:Nat):∀(ss:List Nat) (l:List (Nat×α)),look i (dQ ss l)=if i∈ss then none else look i l
 |[],l=>by simp [dQ]
 |s :: ss,l=>by
  simp only [dQ,kf i ss,j1,List.mem_cons]
  by_cases h1:i=s<;>by_cases h2:i∈ss<;>simp [h1,h2]
theorem tH {lend:El→Bool}:∀{ks:List PK}{as:List AV}{args:List mo}{os:List gz},ej lend S S' ks as=some (args,os)→∀i s,bL os i s→s∈bW ks as
 |[],[],args,os,h,i,s,hb=>by
  simp only [ej,Option.some.injEq] at h;cases h
  obtain ⟨o,h,_⟩:=hb;simp at h
 |k :: ks,b :: as,args,os,h,i,s,hb=>by
  simp only [ej] at h
  cases hk:qH lend S S' k b with
  |none=>rw [hk] at h;cases h
  |some rx=>
   obtain ⟨r,x⟩:=rx
   rw [hk] at h
   simp only [Option.bind_some] at h
   cases hm:ej lend S S' ks as with
   |none=>rw [hm] at h;cases h
   |some my=>
    obtain ⟨m,y⟩:=my
    rw [hm] at h
    simp only [Option.map_some,Option.some.injEq] at h
    cases h
    have tail:∀s,s∈bW ks as→s∈bW (k :: ks) (b :: as):=by
     intro s hs
     unfold bW
     split
     ·rename_i e1 e2;cases e1;cases e2;exact List.mem_cons_of_mem _ hs
     ·rename_i e1 e2;cases e1;cases e2;exact hs
     ·rename_i q1 q2;exact absurd rfl (q2 _ _ _ _ rfl)
    obtain ⟨o,h1,h2⟩:=hb
    cases i with
    |succ i=>exact tail s (tH hm i s ⟨o,by simpa using h1,h2⟩)
    |zero=>
     simp only [List.getElem?_cons_zero,Option.some.injEq] at h1
     subst h1
     unfold qH at hk
     cases hq:k.quiet with
     |true=>
      rw [hq] at hk
      simp only [cond] at hk
      cases hz:rN lend S' k b with
      |none=>rw [hz] at hk;cases hk
      |some z=>rw [hz] at hk;cases hk;cases h2
     |false=>
      rw [hq] at hk
      simp only [cond] at hk
      split at hk
      ·rename_i k
       cases hz:ii S k b with
       |none=>rw [hz] at hk;cases hk
       |some z=>rw [hz] at hk;cases hk;cases h2
      ·rename_i ks' cs
       cases hz:ey S ks' cs with
       |none=>rw [hz] at hk;cases hk
       |some z=>rw [hz] at hk;cases hk;cases h2
      ·rename_i ks' s'
       split at hk
       ·rename_i cs hroot
        cases hz:aG S s' 0 ks' cs with
        |none=>rw [hz] at hk;cases hk
        |some z=>
         rw [hz] at hk;cases hk
         cases h2
         simp [bW]
       ·cases hk
      ·cases hk
 |[],_ :: _,_,_,h,_,_,_=>by simp [ej] at h
 |_ :: _,[],_,_,h,_,_,_=>by simp [ej] at h
theorem mt {os:List gz}:∀(l:List (Nat×List aj)) {S S'':St},dl S os l=some S''→∀s q,look s S''.roots=some q→(∃i cs,(i,cs)∈l∧bL os i s∧q=⟨true,cs⟩)∨look s S.roots=some q
 |[],S,S'',h,s,q,hq=>by simp only [dl,Option.some.injEq] at h;subst h;exact .inr hq
 |(i,cs) :: l,S,S'',h,s,q,hq=>by
  simp only [dl] at h
  split at h
  ·rename_i s' srcs ho
   rcases mt l h s q hq with ⟨i',cs',h1,h2,h3⟩|h1
   ·exact .inl ⟨i',cs',List.mem_cons_of_mem _ h1,h2,h3⟩
   ·simp only [St.setRoot,dC] at h1
    by_cases e:s=s'
    ·subst e
     rw [if_pos rfl] at h1
     cases h1
     exact .inl ⟨i,cs,List.mem_cons_self,⟨_,ho,rfl⟩,rfl⟩
    ·rw [if_neg e] at h1;exact .inr h1
  ·cases h
theorem lg {p:Nat→Prop}:∀(l:List (Nat×Nat)) {S:St}{B:Nat→Nat→Prop},(∀s q,S.root s=some q→aK aa w g s q∧p s∧∀j,B s j→∀t fz xs,q.cs[j]?≠some (.sl t fz xs))→
  ∀s q,(fa S l).root s=some q→aK aa w g s q∧p s∧∀j,B s j∨(s,j)∈l→∀t fz xs,q.cs[j]?≠some (.sl t fz xs)
 |[],S,B,hS,s,q,hq=>by
  obtain ⟨h1,h2,h3⟩:=hS s q hq
  exact ⟨h1,h2,fun j hj=>h3 j (by simpa using hj)⟩
 |x :: l,S,B,hS,s,q,hq=>by
  have key:∀s q,(S.setCell x.1 x.2 (.av .und)).root s=some q→aK aa w g s q∧p s∧∀j,(B s j∨(s,j)=x)→∀t fz xs,q.cs[j]?≠some (.sl t fz xs):=by
   intro s q hq
   cases hr:S.root x.1 with
   |none=>
    rw [uE hr] at hq
    obtain ⟨h1,h2,h3⟩:=hS s q hq
    refine ⟨h1,h2,fun j hj=>?_⟩
    rcases hj with hj|hj
    ·exact h3 j hj
    ·rw [←hj] at hr;simp only at hr;rw [hr] at hq;cases hq
   |some r0=>
    rw [bm hr] at hq
    by_cases e:s=x.1
    ·subst e
     rw [if_pos rfl] at hq
     cases hq
     obtain ⟨h1,h2,h3⟩:=hS _ _ hr
     refine ⟨h1.forget x.2,h2,fun j hj t fz xs e=>?_⟩
     simp only [List.getElem?_set] at e
     by_cases hjx:x.2=j
     ·rw [if_pos hjx] at e
      split at e<;>cases e
     ·rw [if_neg hjx] at e
      rcases hj with hj|hj
      ·exact h3 j hj t fz xs e
      ·exact hjx (by rw [←hj])
    ·rw [if_neg e] at hq
     obtain ⟨h1,h2,h3⟩:=hS s q hq
     refine ⟨h1,h2,fun j hj=>?_⟩
     rcases hj with hj|hj
     ·exact h3 j hj
     ·exact absurd (by rw [←hj]) e
  obtain ⟨h1,h2,h3⟩:=lg l key s q hq
  refine ⟨h1,h2,fun j hj=>h3 j ?_⟩
  rcases hj with hj|hj
  ·exact .inl (.inl hj)
  ·rcases List.mem_cons.mp hj with hj|hj
   ·exact .inl (.inr hj)
   ·exact .inr hj
theorem aX.mono {l:List AV}{vs:List Value}(h:∀b v,af w g b v→af w' g' b v)(hl:aX w g l vs):aX w' g' l vs:=
 ⟨hl.1,fun i h1 h2=>h _ _ (hl.2 i h1 h2)⟩
theorem eG.ahead {d:Nat}{av:AV}{v:Value}{rt:Option ak}{rs:List (Nat×ak)}{ks:List Nat}(hi:fR w g w g')(hk:∀b v,af w g b v→af w g' b v)(h:eG aa w g' w'' g'' d av v rt rs ks):
  eG aa w g w'' g'' d av v rt rs ks:=
 ⟨hi.trans h.inv,fun b u hb=>h.keep b u (hk b u hb),h.val,h.old,h.others,h.new⟩
theorem vt {R:Type}{sig:FuncId→bq}{pks:FuncId→List PK}{lv:Lv sig}(hlv:jf P aa sig lv){o:Oper}{κ:AV→Option ak→List (Nat×ak)→List Nat→Option R}{r:R}{c:Call}{f:FuncId}{as:List AV}{d:Nat}
  (ho:o.op=.call c) (hc:cV S c=some (f,as)) (h:jo sig pks lv d S f as κ=some r) (hS:bi aa n w g S a):qa aa P w g a o d κ r:=by
 obtain ⟨vals,hvals,hrun⟩:=jP (P:=P) hc hS
 obtain ⟨g1,hS1,i1,r1⟩:=hS.frzAll (ei S (pks f) as)
 unfold jo at h
 simp only at h
 generalize hS1e:frzAll S (ei S (pks f) as)=S1 at h hS1
 have hS2:bi aa n w g1 ⟨S1.tmps,dQ (bW (pks f) as) S1.roots⟩ a:=by
  refine ⟨hS1.size,hS1.df,hS1.tb,hS1.tm,fun s q hq=>hS1.rt s q ?_⟩
  have hq':look s (dQ (bW (pks f) as) S1.roots)=some q:=hq
  rw [kf] at hq'
  split at hq'
  ·cases hq'
  ·exact hq'
 generalize hS2e:(⟨S1.tmps,dQ (bW (pks f) as) S1.roots⟩:St)=S2 at h hS2
 cases hA:ej ko S1 S2 (pks f) as with
 |none=>rw [hA] at h;cases h
 |some ao=>
  obtain ⟨args,os⟩:=ao
  rw [hA] at h
  simp only at h
  cases hnn:oP (aW os)&&ll (eH os) with
  |false=>rw [hnn] at h;cases h
  |true=>
   rw [hnn] at h
   simp only [cond] at h
   rw [Bool.and_eq_true] at hnn
   have n1:=wz.1 hnn.1
   have n2:=qz.1 hnn.2
   cases hl:lv f args with
   |none=>rw [hl] at h;cases h
   |some rv=>
    rw [hl] at h
    simp only [Option.bind_some] at h
    split at h
    ·rename_i S'' hpb
     have hg:=CG.of (L:=fun _ _ _ _=>False) (g:=g1) n2 n1
     have hbx:∀s,S2.root s≠none→∀i,¬bL os i s:=by
      intro s hs i hb
      have:=tH hA i s hb
      apply hs
      rw [←hS2e]
      show look s (dQ _ _)=none
      rw [kf,if_pos this]
     have hargs:fO aa w (mL (fun _ _ _ _=>False) g1 os) args vals:=by
      obtain ⟨e1,e2,e3⟩:=tp hg (fun _ _ _ _ _ h=>by cases h) hS1 hS2 hbx 0 hA (hvals.mono r1) (fun q hq=>by rw [Nat.zero_add]) (fun h=>absurd rfl h)
      refine ⟨e1,hS1.tb.who hg.imm,fun k b hk=>?_,e3⟩
      obtain ⟨q,v,h1,h2,h3⟩:=e2 k b hk
      rw [Nat.zero_add] at h1
      subst h1
      exact ⟨v,h2,h3⟩
     obtain ⟨hbod,hcall⟩:=hlv f args rv hl
     intro K Q hK
     unfold Oper.wp
     rw [hrun o ho hbod]
     show Calls P f vals.toArray w _
     refine Calls.mono (hcall w _ vals hargs) ?_
     rintro e w' ⟨v,gc',rfl,hinv,hres⟩
     refine hK _ _ _ _ _ _ _ h (eG.ahead i1 r1 (x9 hg n1 hinv hres (.inl fun _ _ _ _ h=>h) (fun s q hq=>?_) rfl))
     rcases mt _ hpb s q hq with ⟨i,cs,h1,h2,rfl⟩|h1
     ·exact .inl ⟨i,h2,h1,rfl⟩
     ·obtain ⟨q1,q2,q3⟩:=lg (aa:=aa) (w:=w) (g:=g1) (p:=fun s=>∀i,¬bL os i s) (eH os) (S:=S2) (B:=fun _ _=>False)
       (fun s q hq=>⟨hS2.rt s q hq,hbx s (by rw [hq];simp),fun j h=>h.elim⟩) s q h1
      exact .inr ⟨q1,q2,fun i p j hj=>q3 j (.inr (ot hj))⟩
    ·cases h
def Fv {R:Type}(aa:bb)(P:Program)(w:World)(g:Gh)(a:Act)(o:Oper)(d:Nat)(κ:AV→Option ak→Option R)(r:R):Prop:=
 ∀(K:Act→World→Prop) (Q:Exit→Act→World→Prop),(∀av v rt w' g',κ av rt=some r→iq w g w' g' d→af w' g' av v→(rt=none→g'.hs=g.hs∧g'.hb=g.hb)→
  (∀q,rt=some q→aK aa w' g' d ⟨q.box,killC d q.cs⟩)→K (a.put o.dst v) w')→o.wp P a w K Q
theorem iY.qok {R:Type}{o:Oper}{d:Nat}{κ:AV→Option ak→Option R}{r:R}(h:iY aa P w g a o d κ r):Fv aa P w g a o d κ r:=by
 obtain ⟨av,rt,v,w',g',h1,h2,h3,h4,h5,h6⟩:=h
 intro K Q hK
 unfold Oper.wp
 rw [h2]
 exact hK _ _ _ _ _ h1 h3 h4 h5 h6
theorem s9 {lend:El→Bool}{L:gx}(hg:CG L g gc [])(hl:jC lend L S g [])(hS:bi aa n w g S a):∀{ks:List PK}{as:List AV}{args:List mo}{vals:List Value} (i0:Nat),kC lend S ks as=some args→aX w g as vals→
  args.length=vals.length∧(∀k b,look k (cY i0 args)=some b→∃q v,k=i0+q∧vals[q]?=some v∧af w gc b v)∧dI i0 args=[]
 |[],[],args,vals,i0,h,hr=>by
  simp only [kC,Option.some.injEq] at h;cases h
  rw [hr.nil_inv]
  exact ⟨rfl,fun k b hk=>by simp [cY,look] at hk,rfl⟩
 |k :: ks,b :: as,args,vals,i0,h,hr=>by
  obtain ⟨v,vs,rfl,h1,h2⟩:=hr.cons_inv
  simp only [kC] at h
  cases hb:rN lend S k b with
  |none=>rw [hb] at h;cases h
  |some r=>
   rw [hb] at h
   simp only [Option.bind_some] at h
   cases hm:kC lend S ks as with
   |none=>rw [hm] at h;cases h
   |some m=>
    rw [hm] at h
    simp only [Option.map_some,Option.some.injEq] at h
    cases h
    obtain ⟨c,rfl,hc⟩:=v8 hg hl hS (fun s _ i ⟨o,h,_⟩=>by simp at h) hb h1
    obtain ⟨e1,e2,e3⟩:=s9 hg hl hS (i0+1) hm h2
    refine ⟨by simp [e1],fun k' b' hk=>?_,by simp [dI,e3]⟩
    simp only [cY,look] at hk
    cases e:Nat.beq i0 k' with
    |true=>
     rw [e] at hk;cases hk
     exact ⟨0,v,by have:=Nat.eq_of_beq_eq_true e;omega,by simp,hc⟩
    |false=>
     rw [e] at hk
     obtain ⟨q,v',q1,q2,q3⟩:=e2 _ _ hk
     exact ⟨q+1,v',by omega,by simpa using q2,q3⟩
 |[],_ :: _,_,_,_,h,_=>by simp [kC] at h
 |_ :: _,[],_,_,_,h,_=>by simp [kC] at h
theorem ou {s:Nat}{x:Option Nat}:¬oQ [] s x:=by
 rintro (⟨_,i,o,h,_⟩|⟨i,p,j,_,o,h,_⟩)<;>simp at h
theorem nA (xs:List (List UInt8)):flat .str xs=xs.map AV.str:=by
 induction xs with
 |nil=>rfl
 |cons x xs ih=>show [AV.str x]++flat .str xs=_;rw [ih];rfl
theorem CV (hS:bi aa n w g S a)(sg:bq):∃L:gx,jC sg.lendOf L S g []∧((∀s j b o,¬L s j b o)∨(sg.lends=true∨(sg.lendsS=true∧CM w g L))):=by
 have hns:∀i p s j,¬cU [] i p s j:=fun i p s j ⟨o,h,_⟩=>by simp at h
 cases h1:sg.lends with
 |true=>exact ⟨fun _ _ _ _=>True,fun s j u xs _ _=>⟨fun _ _ _ _ _ _=>trivial,fun i p=>hns i p s j⟩,.inr (.inl rfl)⟩
 |false=>
  cases h2:sg.lendsS with
  |false=>exact ⟨fun _ _ _ _=>False,fun s j u xs _ h=>(by unfold bq.lendOf at h;rw [h1,h2] at h;cases h),.inl fun _ _ _ _ h=>h⟩
  |true=>
   refine ⟨fun s j b o=>∃xs:List (List UInt8),S.cell s j=some (.sl .str false xs)∧(∃n cap,g.hs s j=.slice (some ⟨b,0,none⟩) n cap)∧o<xs.length,fun s j u xs hc h=>?_,.inr (.inr ⟨rfl,?_⟩)⟩
   ·have hu:u=.str:=by
     unfold bq.lendOf at h
     rw [h1,h2] at h
     cases u<;>first|rfl|cases h
    subst hu
    refine ⟨fun b n cap o e ho=>⟨xs,hc,⟨n,cap,e⟩,by simpa [El.size] using ho⟩,fun i p=>hns i p s j⟩
   ·rintro s j b o ⟨xs,hc,⟨n',cap,e⟩,ho⟩ o' ho'
    have hs:=hS.cell hc
    have hne:xs≠[]:=by rintro rfl;simp at ho
    obtain ⟨hlt,hw⟩:=(hs.old hne).own b n' cap e
    obtain ⟨vals,_,hcl⟩:=hs.cells e
    have hf:o'<(flat .str xs).length:=by rw [nA,List.length_map];omega
    refine ⟨⟨xs,hc,⟨n',cap,e⟩,by omega⟩,by simpa using hw o',hlt,?_⟩
    obtain ⟨q1,q2⟩:=hcl o' hf
    have e2:(flat .str xs)[o']=.str xs[o']:=by simp [nA]
    rw [e2] at q2
    generalize vals o'=v at q1 q2
    cases q2
    exact ⟨_,q1⟩
theorem vw {R:Type}{E:ew}{lv:Lv E.sig}(hlv:jf P aa E.sig lv){o:Oper}{κ:AV→Option ak→Option R}{r:R}{c:Call}{d:Nat}
  (ho:o.op=.call c) (h:(match cV S c with
   |some (f,as)=>
    match kC (E.sig f).lendOf S (E.pks f) as with
    |some args=>bif (E.sig f).back.isEmpty then (lv f args).bind fun r=>
      κ (lA (ek.inj d 0 (E.sig f).res (bq.res1 (E.sig f) r)).1) (bif cA (ek.inj d 0 (E.sig f).res (bq.res1 (E.sig f) r)).2 then some ⟨false,(ek.inj d 0 (E.sig f).res (bq.res1 (E.sig f) r)).2⟩ else none)
     else none
    |none=>none
   |none=>none)=some r) (hS:bi aa n w g S a):Fv aa P w g a o d κ r:=by
 split at h
 ·rename_i f as hc
  obtain ⟨vals,hvals,hrun⟩:=jP (P:=P) hc hS
  split at h
  ·rename_i args hA
   cases hbk:(E.sig f).back.isEmpty with
   |false=>rw [hbk] at h;cases h
   |true=>
    rw [hbk] at h
    simp only [cond] at h
    cases hl:lv f args with
    |none=>rw [hl] at h;cases h
    |some rv=>
     rw [hl] at h
     simp only [Option.bind_some] at h
     obtain ⟨L,hL,hmode⟩:=CV (w:=w) hS (E.sig f)
     have hg:=CG.of (L:=L) (g:=g) (os:=[]) (by simp [eH]) (by simp [aW])
     have hargs:fO aa w (mL L g []) args vals:=by
      obtain ⟨e1,e2,e3⟩:=s9 hg hL hS 0 hA hvals
      refine ⟨e1,hS.tb.who hg.imm,fun k b hk=>?_,fun s r hs=>by rw [e3] at hs;simp [look] at hs⟩
      obtain ⟨q,v,h1,h2,h3⟩:=e2 k b hk
      rw [Nat.zero_add] at h1
      subst h1
      exact ⟨v,h2,h3⟩
     obtain ⟨hbod,hcall⟩:=hlv f args rv hl
     intro K Q hK
     unfold Oper.wp
     rw [hrun o ho hbod]
     show Calls P f vals.toArray w _
     refine Calls.mono (hcall w _ vals hargs) ?_
     rintro e w' ⟨v,gc',rfl,hinv,hres⟩
     have hok:=x9 (d:=d) (rs:=S.roots) hg (by simp [aW]) hinv hres (hmode.imp id fun h=>⟨rfl,h⟩)
      (fun s q hq=>.inr ⟨hS.rt s q hq,(fun i ⟨o,h,_⟩=>by simp at h),fun i p j ⟨o,h,_⟩=>by simp at h⟩) rfl
     generalize hGe:cA (ek.inj d 0 (E.sig f).res (bq.res1 (E.sig f) rv)).2=G at hok h
     refine hK _ _ _ _ _ h ⟨?_,?_,?_⟩ hok.val ?_ hok.new
     ·exact (uo hg hinv).mono fun b o _ ⟨s,x,_,h⟩=>absurd h ou
     ·refine ⟨fun b o hb h=>fJ hb h (fun s x e=>by cases e),fun b o hb h=>fJ hb h (fun s x e=>by cases e),fun b o hb h=>fJ hb h (fun s x e=>by cases e),
       fun b o s x hb _ h=>fJ hb h (fun s x _=>ou),fun s j hs=>mE (fun h=>hs h.1) (fun i ⟨o,h,_⟩=>by simp at h),fun _ _=>rfl⟩
     ·exact fun b o hb=>fJ hb rfl (fun s x _=>ou)
     ·intro hn
      have:G=false:=by
       cases hG:G with
       |false=>rfl
       |true=>rw [hG] at hn;cases hn
      refine ⟨?_,rfl⟩
      funext s j
      exact mE (by rw [this];simp) (fun i ⟨o,h,_⟩=>by simp at h)
  ·cases h
 ·cases h
theorem iK {R:Type}{E:ew}{lv:Lv E.sig}(hE:sU P aa E)(hlv:jf P aa E.sig lv){o:Oper}{κ:AV→Option ak→Option R}{r:R}
  (h:aN E lv o S κ=some r) (hS:bi aa n w g S a):Fv aa P w g a o (match o.dst with|some d=>d|none=>0) κ r:=by
 unfold aN at h
 split at h
 ·rename_i c ho
  split at h
  ·exact (pp hE.ty h hS).qok
  ·exact vw hlv ho h hS
 ·exact (pp hE.ty h hS).qok
theorem Fv.wok {R:Type}{o:Oper}{d:Nat}(hd:d<1000){κ:AV→Option ak→List (Nat×ak)→List Nat→Option R}{r:R}(hS:bi aa n w g S a)(h:Fv aa P w g a o d (fun a r=>κ a r S.roots []) r):qa aa P w g a o d κ r:=by
 intro K Q hK
 refine h K Q fun av v rt w' g' hκ hq hv hn hr=>hK _ _ _ _ _ _ _ hκ ⟨hq.inv hd,fun b u hb hd _=>?_,hv,fun hrt s r hs=>?_,fun _ s r hs hsd=>?_,hr⟩
 ·rcases hd with hrt|hd
  ·obtain ⟨e1,e2⟩:=hn hrt
   exact hb.pres hq.chg (fun _ _ _ h=>h.elim) ⟨hq.gch.imm,hq.gch.bor,fun _ _ _=>by rw [e1],fun _ _=>by rw [e2]⟩ (aT b)
  ·exact hb.quiet hq hd
 ·obtain ⟨e1,e2⟩:=hn hrt
  exact (hS.rt s r hs).pres (M:=fun _ _=>False) (N:=fun _ _=>False) (hq.chg.mono fun _ _ _ h=>h.elim) ⟨hq.gch.imm,hq.gch.bor,fun _ _ _=>by rw [e1],fun _ _=>by rw [e2]⟩ (fun _ _ _ h=>h.elim) (fun b o x hb e=>(hq.who b o hb).trans e) (fun _ h=>h) (fun b _=>aT b)
 ·exact ((hS.rt s r hs).kill d).pres (M:=fun _ _=>False) (hq.chg.mono fun _ _ _ h=>h.elim) hq.gch.ga (fun _ _ _ h=>h.elim) (fun b o x hb e=>(hq.who b o hb).trans e) (fun _=>hsd) (fun b hb=>f9 hb)
theorem vh {R:Type}{E:ew}{lv:Lv E.sig}(hE:sU P aa E)(hlv:jf P aa E.sig lv){o:Oper}{κ:AV→Option ak→List (Nat×ak)→List Nat→Option R}{r:R}
  (h:jp E lv o S κ=some r) (hS:bi aa n w g S a):qa aa P w g a o (match o.dst with|some d=>d|none=>0) κ r:=by
 unfold jp at h
 simp only at h
 split at h
 ·rename_i T x y ho;exact vB hE.ty ho h hS
 ·rename_i c ho
  split at h
  ·rename_i hb;exact tO hE.ty ho hb h hS
  ·rename_i hb;exact wJ hE.ty ho hb h hS
  ·split at h
   ·rename_i f as hc
    split at h
    ·rename_i T s T' x hpk
     cases hT:Nat.beq T' T with
     |false=>rw [hT] at h;cases h
     |true=>
      rw [hT] at h
      have e:=Nat.eq_of_beq_eq_true hT
      subst e
      exact zk (hE.bw f T' hpk) ho hc h hS
    ·rename_i T e s T' hpk
     cases hT:Nat.beq T' T with
     |false=>rw [hT] at h;cases h
     |true=>
      rw [hT] at h
      have e':=Nat.eq_of_beq_eq_true hT
      subst e'
      obtain ⟨q1,q2⟩:=hE.br f T' e hpk
      exact ze q1 q2 ho hc h hS
    ·exact vt hlv ho hc h hS
   ·cases h
  ·cases h
 ·cases h
theorem kH {R:Type}{E:ew}{lv:Lv E.sig}(hE:sU P aa E)(hlv:jf P aa E.sig lv){o:Oper}(hd:(match o.dst with|some d=>d|none=>0)<1000)
  {κ:AV→Option ak→List (Nat×ak)→List Nat→Option R}{r:R} (h:step1 E lv o S κ=some r) (hS:bi aa n w g S a):qa aa P w g a o (match o.dst with|some d=>d|none=>0) κ r:=by
 unfold step1 at h
 cases hq:cg E.pks o with
 |true=>rw [hq] at h;exact (iK hE hlv h hS).wok hd hS
 |false=>rw [hq] at h;exact vh hE hlv h hS
end
end Go.Proofs.YtjkokaockhecnaaGreatDoorA
