/- Copies. Calls: freezing ahead of them, and what is handed over. Calls: the callee's view of the memory. Calls: what is handed over. Calls: all arguments; the ghosts of both sides. Calls: the caller's view of the memory behind one. Builders: what the two methods do, cell by cell. Builders: a text goes in. Builders: the text comes out. One operation: what it does is what the machine says. -/
import Derived.Test.YtjkokaockhecnaaGreatDoorW3
import Derived.Laws.IdiomCopy
import Derived.Lib.AppendStr
import Derived.Lib.UnsafeStr
namespace Go.Proofs.YtjkokaockhecnaaGreatDoorA
open Go
section
variable {aa:aM}{n:Nat}{w w' w'':World}{g g' g'':Gh}{S:St}{a:Act}{P:Program}
theorem nM (t:El)(xs ys:List t.den):ap t (xs++ys)=ap t xs++ap t ys:=by simp [ap]
theorem np (t:El)(x:t.den)(xs:List t.den):ap t (x :: xs)=t.cells x++ap t xs:=rfl
theorem lM {t:El}(h1:t.size=1):∀(xs:List t.den) (k:Nat),ap t (xs.take k)=(ap t xs).take k
 |[],k=>by simp [ap]
 |x :: xs,0=>by simp [ap]
 |x :: xs,k+1=>by
  obtain ⟨c,hc⟩:=List.length_eq_one_iff.1 (show (t.cells x).length=1 by rw [aP,h1])
  rw [List.take_succ_cons,np,np,lM h1 xs k,hc];rfl
theorem oU {t:El}(h1:t.size=1):∀(xs:List t.den) (k:Nat),ap t (xs.drop k)=(ap t xs).drop k
 |[],k=>by simp [ap]
 |x :: xs,0=>by simp [ap]
 |x :: xs,k+1=>by
  obtain ⟨c,hc⟩:=List.length_eq_one_iff.1 (show (t.cells x).length=1 by rw [aP,h1])
  rw [List.drop_succ_cons,np,oU h1 xs k,hc];rfl
theorem nQ {R:Type}{o:Oper}{κ:AV→Option ae→List (Nat×ae)→List Nat→Option R}{r:R}{c:Call}{d:Nat}{b x:Operand}{T:TypeId}{s j lo m:Nat}{t:El}{i:gA}{E:TypeId→Option gA}
  (hE:∀T i,E T=some i→eX P aa T i) (ho:o.op=.call c) (hb:c.callee=.builtin .copy) (hargs:c.args.toList=[b,x]) (htys:c.argTypes.toList=[T,T]) (hi:E T=some i) (ht:i.elem=some t)
  (hbv:RepA w g (.als s j t.size lo m) (a.eval b)) (h:jE S s j lo m t (S.ev x) (fun a rs=>κ a none rs [])=some r) (hS:aV aa n w g S a):nF aa P w g a o d κ r:=by
 unfold jE at h
 split at h
 ·rename_i t' xs hcell
  split at h
  ·rename_i htt
   subst htt
   cases hq:Nat.beq t'.size 1&&Nat.ble (lo+m) xs.length with
   |false=>rw [hq] at h;cases h
   |true=>
    rw [hq] at h
    simp only [cond] at h
    simp only [Bool.and_eq_true,Nat.ble_eq] at hq
    obtain ⟨hsz,hle⟩:=hq
    have hsz:=Nat.eq_of_beq_eq_true hsz
    split at h
    ·rename_i ys hys
     obtain ⟨hu,hid,hok⟩:=(hE T i hi).elem t' ht
     obtain ⟨inf,z,i1,i2,i3,i4,i5,i6⟩:=hok.inf
     obtain ⟨ad,cap,news,e2,hcap,hnr,hnl,hn1,hnc⟩:=nJ (jO hys hS (hS.ev x))
     have hinf:(P.info? i.elemT).map (·.size)=some 1:=by rw [i1];simp [i2,hsz]
     have hrun:∀v' w',(Builtin.copy_ #[T,T] o.type #[a.eval b,a.eval x]).run P w=.ok v' w'→(execOp a.eval o).run P w=.ok (.value v') w':=by
      intro v' w' hr
      refine ej ho hb (s:=Builtin.copy_ #[T,T] o.type #[a.eval b,a.eval x]) (fun k=>?_) hr
      rw [sT hargs,rL htys];rfl
     obtain ⟨root,hroot,hcj⟩:=bW hcell
     have hR:=hS.root hroot
     have hs:=hS.cell hcell
     have hmin:min ys.length m=Nat.min ys.length m:=rfl
     by_cases hz:Nat.min ys.length m=0
     ·-- nothing
      have hzs:xs.take lo++ys.take m++xs.drop (lo+min ys.length m)=xs:=by
       have:ys.take m=[]:=List.eq_nil_of_length_eq_zero (by rw [List.length_take,Nat.min_comm];exact hz)
       rw [this,hmin,hz,List.append_nil,Nat.add_zero,List.take_append_drop]
      rw [hzs,hmin,hz] at h
      have hdv:∃da dc,a.eval b=.slice da m dc:=by
       generalize a.eval b=bv at hbv
       cases hbv with
       |als _ _ _ _ _ b1 m1 c1 cap1 e hn=>exact ⟨_,_,rfl⟩
       |als0=>exact ⟨_,_,rfl⟩
      obtain ⟨da,dc,ed⟩:=hdv
      have hr:=run_copy_none (P:=P) w T T o.type i.elemT da ad m dc ys.length cap hu hinf hz
      rw [←ed,←e2] at hr
      refine nF.value (g':=g) h (hrun _ _ hr) (.plain (.refl w fun _ _=>False) (fun _ _ _ h=>h.elim) (.int _ _) (fun s' r' hs'=>?_))
      rw [bN hroot] at hs'
      by_cases hss:s'=s
      ·subst hss
       rw [if_pos rfl] at hs'
       cases hs'
       exact aB.rewrite (.refl w fun _ _=>False) (fun _ _ _ h=>h.elim) hR hcj hs
      ·rw [if_neg hss] at hs'
       exact hS.rt s' r' hs'
     ·have hmpos:0<m:=by have:=Nat.min_le_right ys.length m;omega
      have hypos:0<ys.length:=by have:=Nat.min_le_left ys.length m;omega
      have hs:=hs.old (by rintro rfl;simp at hle;omega)
      obtain ⟨vals,hrow,hvl2,hvr⟩:=hs.row
      have hdv:∃b1 m1 c1 cap1,g.hs s j=.slice (some ⟨b1,0,none⟩) m1 c1∧a.eval b=.slice (some ⟨b1,lo,none⟩) m cap1:=by
       generalize a.eval b=bv at hbv
       cases hbv with
       |als _ _ _ _ _ b1 m1 c1 cap1 e hn=>exact ⟨b1,m1,c1,cap1,e,by rw [hsz,Nat.mul_one]⟩
       |als0=>omega
      obtain ⟨b1,m1,c1,dc,he,ed⟩:=hdv
      rcases hrow.2 with ⟨e,_⟩|⟨b',cap',cur,e,_⟩
      ·rw [e] at he;cases he
      ·have he2:=he
       rw [e] at he2
       cases he2
       rw [e] at hrow
       obtain ⟨hlt,hwho⟩:=hs.own _ _ _ e
       obtain ⟨b2,o2,ea,hcell2⟩:=hnc (by omega)
       have hnl':news.length=ys.length:=by rw [hnl,hsz,Nat.mul_one]
       have hvl:vals.length=xs.length:=by rw [hvl2,aw,hsz,Nat.mul_one]
       have hcl:(news.take m).length=Nat.min ys.length m:=by rw [List.length_take,hnl',Nat.min_comm]
       have hlm:Nat.min ys.length m≤m:=Nat.min_le_right _ _
       have hin:lo+(news.take m).length≤vals.length:=by rw [hcl,hvl];omega
       have hchg:=dH w b1 lo (news.take m)
       have hM:∀b3 o',b3<w.heap.size→(b3=b1∧lo≤o'∧o'<lo+(news.take m).length)→g.who b3 o'=.obj s (some j):=by
        rintro b3 o' _ ⟨rfl,h1,h2⟩
        have:=hwho o'
        simpa using this
       have hM':∀b3 o',b3<w.heap.size→(b3=b1∧lo≤o'∧o'<lo+(news.take m).length)→∃s x,g.who b3 o'=.obj s x:=fun b3 o' hb hm=>⟨_,_,hM b3 o' hb hm⟩
       have hr:=run_copy_cells (P:=P) w T T o.type i.elemT b1 lo m dc ⟨b2,o2,none⟩ ys.length cap (news.take m) hu hinf (by rw [hcl])
        (fun q u hq=>by
         rw [Addr.add_lit]
         refine hcell2 q u ?_
         rw [List.getElem?_take] at hq
         split at hq
         ·exact hq
         ·cases hq)
        (fun q hq=>by
         have hq2:lo+q<xs.length*t'.size:=by rw [hsz];omega
         rw [hrow.cellAt _ hq2,List.getElem?_eq_getElem (by omega)];rfl)
        (fun q hq=>hrow.frozenAt _ (by rw [hsz];omega)) (fun v hv=>hn1 v (List.mem_of_mem_take hv))
       rw [←ed,←ea,←e2,hcl] at hr
       refine nF.value (g':=g) h (hrun _ _ hr) (.plain hchg hM' (.int _ _) (fun s' r' hs'=>?_))
       rw [bN hroot] at hs'
       by_cases hss:s'=s
       ·subst hss
        rw [if_pos rfl] at hs'
        cases hs'
        have hyl:(ys.take m).length=Nat.min ys.length m:=by rw [List.length_take,Nat.min_comm]
        have hzl:(xs.take lo++ys.take m++xs.drop (lo+min ys.length m)).length=xs.length:=by
         rw [List.length_append,List.length_append,hyl,List.length_take,List.length_drop,hmin];omega
        have hfz:ap t' (xs.take lo++ys.take m++xs.drop (lo+min ys.length m))=setRange (ap t' xs) lo ((ap t' ys).take m):=by
         have hfl:((ap t' ys).take m).length=Nat.min ys.length m:=by rw [List.length_take,aw,hsz,Nat.mul_one,Nat.min_comm]
         unfold setRange
         rw [nM,nM,lM hsz,lM hsz,oU hsz,hfl,hmin]
        refine aB.rewrite hchg hM hR hcj (fz':=false) ⟨.inl ⟨⟨setRange vals lo (news.take m),?_,?_,?_⟩,?_⟩⟩
        ·rw [e,hzl]
         exact hY _ _ _ _ hrow hin
        ·rw [dn _ _ _ hin,hvl2,aw,aw,hzl]
        ·have hvv:RepL w g (ap t' xs) vals:=⟨hvl2,hvr⟩
         have:=hvv.setRange (hnr.take m) lo
         rw [←hfz] at this
         exact fun q h1 h2=>(this.2 q h1 h2).same hchg hM'
        ·intro b4 n4 cap4 e4
         obtain ⟨q1,q2⟩:=hs.own b4 n4 cap4 e4
         exact ⟨Nat.lt_of_lt_of_le q1 hchg.size,by rw [hzl];exact q2⟩
       ·rw [if_neg hss] at hs'
        exact (hS.rt s' r' hs').same hchg (fun b o' hb hm=>⟨_,_,hM b o' hb hm,fun e=>hss e.symm⟩)
    ·cases h
  ·cases h
 ·cases h
end
end Go.Proofs.YtjkokaockhecnaaGreatDoorA

namespace Go.Proofs.YtjkokaockhecnaaGreatDoorA
open Go
section
variable {aa:aM}{n:Nat}{w w' w'':World}{g g' g'':Gh}{S:St}{a:Act}{P:Program}
theorem db (S:St)(s j:Nat)(c:ah):(S.setCell s j c).tmp=S.tmp:=by
 unfold St.setCell;cases S.root s<;>rfl
theorem aZ {s j:Nat}{c:ah}{r:ae}(hr:S.root s=some r)(i:Nat):(S.setCell s j c).root i=if i=s then some ⟨r.box,r.cs.set j c⟩ else S.root i:=
 bN hr i
theorem rP {s j:Nat}{c:ah}(hr:S.root s=none):S.setCell s j c=S:=by
 unfold St.setCell;rw [hr]
theorem aV.frzAt (hS:aV aa n w g S a)(s j:Nat):∃g',aV aa n w g' (_root_.Go.Proofs.YtjkokaockhecnaaGreatDoorA.frzAt S s j) a∧eS w g w g'∧∀b v,RepA w g b v→RepA w g' b v:=by
 unfold _root_.Go.Proofs.YtjkokaockhecnaaGreatDoorA.frzAt
 split
 ·rename_i t xs hc
  obtain ⟨r,hr,hj⟩:=bW hc
  obtain ⟨g',hf,hR⟩:=(hS.root hr).raise hj
  refine ⟨g',⟨hS.size,hS.df,hS.tb.inv (hf.inv w),fun t=>?_,fun s' r' hr'=>?_⟩,hf.inv w,fun b v h=>h.frz hf⟩
  ·rw [db];exact (hS.tm t).frz hf
  ·rw [aZ hr] at hr'
   by_cases hss:s'=s
   ·subst hss
    rw [if_pos rfl] at hr'
    cases hr'
    exact hR
   ·rw [if_neg hss] at hr'
    exact (hS.rt s' r' hr').frz hf hss
 ·exact ⟨g,hS,.refl _ _,fun _ _ h=>h⟩
theorem aV.frzAll:∀(l:List (Nat×Nat)) {g:Gh}{S:St},aV aa n w g S a→∃g',aV aa n w g' (_root_.Go.Proofs.YtjkokaockhecnaaGreatDoorA.frzAll S l) a∧eS w g w g'∧∀b v,RepA w g b v→RepA w g' b v
 |[],g,_,hS=>⟨g,hS,.refl _ _,fun _ _ h=>h⟩
 |p :: l,_,_,hS=>by
  obtain ⟨g1,h1,i1,r1⟩:=hS.frzAt p.1 p.2
  obtain ⟨g2,h2,i2,r2⟩:=aV.frzAll l h1
  exact ⟨g2,h2,i1.trans i2,fun b v h=>r2 b v (r1 b v h)⟩
end
end Go.Proofs.YtjkokaockhecnaaGreatDoorA

namespace Go.Proofs.YtjkokaockhecnaaGreatDoorA
open Go
section
variable {aa:aM}{n:Nat}{w w' w'':World}{g g' g'' gc:Gh}{S:St}{a:Act}{P:Program}
def ck (os:List fH)(i p s j:Nat):Prop:=∃o,os[i]?=some o∧o.srcs[p]?=some (some (s,j))
def bp (os:List fH)(i s:Nat):Prop:=∃o,os[i]?=some o∧o.box=some s
abbrev fy:=Nat→Nat→Nat→Nat→Prop
structure CG (L:fy)(g gc:Gh)(os:List fH):Prop where
 imm:∀b o,g.who b o=.imm→gc.who b o=.imm
 bor:∀b o,g.who b o=.bor→gc.who b o=.bor
 other:∀b o,g.who b o=.other→gc.who b o=.other
 box:∀b o s,g.who b o=.obj s none→(∀i,¬bp os i s)→gc.who b o=.bor
 lent:∀b o s j,L s j b o→g.who b o=.obj s (some j)→(∀i p,¬ck os i p s j)→gc.who b o=.imm
 src:∀i p s j,ck os i p s j→∀b o,g.who b o=.obj s (some j)→gc.who b o=.obj (1000+i) (some p)
 bx:∀i s,bp os i s→∀b o,g.who b o=.obj s none→gc.who b o=.obj (1000+i) none
 hs:∀i p s j,ck os i p s j→gc.hs (1000+i) p=g.hs s j
 hsn:∀i p o,os[i]?=some o→o.srcs[p]?=some none→gc.hs (1000+i) p=.slice none 0 0
 hb:∀i s,bp os i s→gc.hb (1000+i)=g.hb s
 from_:∀b o s' x,gc.who b o=.obj s' x→(∃i p s j,ck os i p s j∧s'=1000+i∧x=some p∧g.who b o=.obj s (some j))∨(∃i s,bp os i s∧s'=1000+i∧x=none∧g.who b o=.obj s none)
 keepo:∀b o s j,¬L s j b o→g.who b o=.obj s (some j)→(∀i p,¬ck os i p s j)→gc.who b o=.other
theorem CG.ga {L:fy}{os:List fH}(h:CG L g gc os)(w:World):GA w g gc fun _ _=>True:=
 ⟨fun b o _=>h.imm b o,fun b o _=>h.bor b o,fun _ _ hn=>absurd trivial hn,fun _ hn=>absurd trivial hn⟩
theorem RepA.callee {L:fy}{os:List fH}(hg:CG L g gc os){b:AV}{v:Value}(h:RepA w g b v)(hb:aj (fun _ _=>True) b):RepA w gc b v:=
 h.pres (.refl w fun _ _=>False) (fun _ _ _ h=>h.elim) (hg.ga w) hb
theorem bZ.L {L:fy}{os:List fH}(hg:CG L g gc os){s j:Nat}{t:El}{fz:Bool}{xs:List t.den}(h:bZ aa w g s j t fz xs)
  (hl:fz=true∨((∀b n cap o,g.hs s j=.slice (some ⟨b,0,none⟩) n cap→o<xs.length*t.size→L s j b o)∧∀i p,¬ck os i p s j)):RepA w gc (.L t xs) (g.hs s j):=by
 rcases h.c with ⟨⟨vs,hrow,h2,h3⟩,hown⟩|⟨_,rfl,a,e⟩
 rotate_left
 ·rw [e];exact .lnil _ _ _
 rcases hrow.2 with ⟨e,hz⟩|⟨b,cap,cur,e,_,_,hcap,_⟩
 ·have:xs=[]:=List.eq_nil_of_length_eq_zero hz
  subst this
  rw [e];exact .lnil _ _ _
 ·obtain ⟨vals,_,hc⟩:=h.cells e
  obtain ⟨_,hwho⟩:=hown b _ _ e
  rw [e]
  refine .list t xs b 0 cap vals hcap (fun i hi=>?_) (fun i hi=>(hc i hi).2.callee hg (c8 _ t xs _ (List.getElem_mem hi)))
  rw [Nat.zero_add]
  refine ⟨?_,(hc i hi).1⟩
  have:=hwho i
  rw [aw] at hi
  rw [if_pos hi] at this
  rcases hl with rfl|⟨hl,hn⟩
  ·exact hg.imm _ _ (by simpa using this)
  ·cases fz with
   |true=>exact hg.imm _ _ (by simpa using this)
   |false=>exact hg.lent _ _ s j (hl _ _ _ _ e hi) (by simpa using this) hn
def iz (lend:El→Bool)(L:fy)(S:St)(g:Gh)(os:List fH):Prop:=∀s j u (xs:List u.den),S.cell s j=some (.sl u false xs)→lend u=true→
 (∀b n cap o,g.hs s j=.slice (some ⟨b,0,none⟩) n cap→o<xs.length*u.size→L s j b o)∧∀i p,¬ck os i p s j
theorem lJ {lend:El→Bool}{L:fy}{os:List fH}(hg:CG L g gc os)(hl:iz lend L S g os){k:LK}{b c:AV}{v:Value}(h:e7 lend S k b=some c)(hS:aV aa n w g S a)(hv:RepA w g b v):RepA w gc c v:=by
 unfold e7 at h
 split at h
 ·cases h;exact hv.callee hg (.bool _)
 ·split at h
  ·rename_i hk;subst hk;cases h;exact hv.callee hg (.int _ _)
  ·cases h
 ·cases h;exact hv.callee hg (.str _)
 ·cases h;exact hv.callee hg (.err _)
 ·rename_i t s j
  split at h
  ·rename_i u fz xs hc
   cases hd:fz||lend u with
   |false=>rw [hd] at h;cases h
   |true=>
    rw [hd] at h
    simp only [cond] at h
    split at h
    ·rename_i hu
     subst hu
     cases h
     rw [hv.al_inv.1]
     refine (hS.cell hc).L hg ?_
     cases fz with
     |true=>exact .inl rfl
     |false=>exact .inr (hl s j u xs hc (by simpa using hd))
    ·cases h
  ·cases h
 ·rename_i t _
  cases hx:rS t b with
  |none=>rw [hx] at h;cases h
  |some xs=>
   rw [hx] at h
   cases h
   exact (fU hx hv).callee hg (.L _ _)
 ·split at h
  ·rename_i hu;subst hu;cases h
   exact hv.callee hg (.rm _ _ _)
  ·cases h
 ·cases h
theorem iU {lend:El→Bool}{L:fy}{os:List fH}(hg:CG L g gc os)(hl:iz lend L S g os)(hS:aV aa n w g S a):∀{ks:List LK}{l m:List AV}{vs:List Value},a6 lend S ks l=some m→RepL w g l vs→RepL w gc m vs
 |[],[],m,vs,h,hr=>by
  simp only [a6,Option.some.injEq] at h;subst h
  rw [hr.nil_inv];exact .nil
 |k :: ks,b :: l,m,vs,h,hr=>by
  obtain ⟨v,vs',rfl,h1,h2⟩:=hr.cons_inv
  simp only [a6] at h
  cases hb:e7 lend S k b with
  |none=>rw [hb] at h;cases h
  |some c=>
   rw [hb] at h
   simp only [Option.bind_some] at h
   cases hm:a6 lend S ks l with
   |none=>rw [hm] at h;cases h
   |some m'=>
    rw [hm] at h
    simp only [Option.map_some,Option.some.injEq] at h
    subst h
    exact .cons (lJ hg hl hb hS h1) (iU hg hl hS hm h2)
 |[],_ :: _,_,_,h,_=>by simp [a6] at h
 |_ :: _,[],_,_,h,_=>by simp [a6] at h
theorem yh {lend:El→Bool}{L:fy}{os:List fH}(hg:CG L g gc os)(hl:iz lend L S g os){b c:AV}{v:Value}(h:nz lend S b=some c)(hS:aV aa n w g S a)(hv:RepA w g b v):RepA w gc c v:=by
 unfold nz at h
 split at h
 ·rename_i s j
  split at h
  ·rename_i u fz xs hc
   cases hd:fz||lend u with
   |false=>rw [hd] at h;cases h
   |true=>
    rw [hd] at h
    cases h
    rw [hv.al_inv.1]
    refine (hS.cell hc).L hg ?_
    cases fz with
    |true=>exact .inl rfl
    |false=>exact .inr (hl s j u xs hc (by simpa using hd))
  ·cases h
 ·cases h;exact hv.callee hg (.bool _)
 ·cases h;exact hv.callee hg (.int _ _)
 ·cases h;exact hv.callee hg (.str _)
 ·cases h;exact hv.callee hg (.L _ _)
 ·cases h;exact hv.callee hg .nils
 ·cases h;exact hv.callee hg .nilp
 ·cases h
theorem py {lend:El→Bool}{L:fy}{os:List fH}(hg:CG L g gc os)(hl:iz lend L S g os)(hS:aV aa n w g S a):∀{l m:List AV}{vs:List Value},dq lend S l=some m→RepL w g l vs→RepL w gc m vs
 |[],m,vs,h,hr=>by
  simp only [dq,Option.some.injEq] at h;subst h
  rw [hr.nil_inv];exact .nil
 |b :: l,m,vs,h,hr=>by
  obtain ⟨v,vs',rfl,h1,h2⟩:=hr.cons_inv
  simp only [dq] at h
  cases hb:nz lend S b with
  |none=>rw [hb] at h;cases h
  |some c=>
   rw [hb] at h
   simp only [Option.bind_some] at h
   cases hm:dq lend S l with
   |none=>rw [hm] at h;cases h
   |some m'=>
    rw [hm] at h
    simp only [Option.map_some,Option.some.injEq] at h
    subst h
    exact .cons (yh hg hl hb hS h1) (py hg hl hS hm h2)
theorem RepA.vpOf {cs m:List AV}{b o:Nat}{vals:Nat→Value}(hl:m.length=cs.length)(hc:∀j,j<cs.length→(gc.who b (o+j)=.imm∨gc.who b (o+j)=.bor)∧w.cell? ⟨b,o+j,none⟩=some (vals j))
  (hr:RepL w gc m ((List.range cs.length).map vals)):RepA w gc (.vp m) (.pointer (some ⟨b,o,none⟩)):=by
 refine .vp m b o vals (fun j hj=>hc j (by omega)) (fun j hj=>?_)
 have:=hr.2 j hj (by simp;omega)
 simpa using this
theorem RepL.range {cs:List AV}{vals:Nat→Value}(h:∀j (h:j<cs.length),RepA w g (cs[j]) (vals j)):RepL w g cs ((List.range cs.length).map vals):=
 ⟨by simp,fun j hj hj'=>by simp only [List.getElem_map,List.getElem_range];exact h j hj⟩
theorem kf {L:fy}{os:List fH}(hg:CG L g gc os){x:AV}{v:Value}{l:List AV}(hS:aV aa n w g S a)(hbx:∀s,S.root s≠none→∀i,¬bp os i s)(hv:RepA w g x v)
  (hx:(∃s off cs,x=.ref s off∧S.root s=some ⟨true,cs⟩∧l=(a8 s 0 cs).drop off)∨x=.vp l∨x=.vi l):
  ∃(b o:Nat) (vals:Nat→Value),v=.pointer (some ⟨b,o,none⟩)∧(∀j,j<l.length→(gc.who b (o+j)=.imm∨gc.who b (o+j)=.bor)∧w.cell? ⟨b,o+j,none⟩=some (vals j))∧∀j (h:j<l.length),RepA w g (l[j]) (vals j):=by
 rcases hx with ⟨s,off,cs,rfl,hroot,rfl⟩|rfl|rfl
 ·obtain ⟨vals,hb⟩:=(hS.root hroot).box rfl
  refine ⟨_,_,fun j=>vals (off+j),hv.ref_inv,fun j hj=>?_,fun j hj=>?_⟩
  ·have hj':off+j<cs.length:=by simp [bO] at hj;omega
   obtain ⟨_,h2,h3,_,_⟩:=hb _ hj'
   rw [Nat.add_assoc]
   exact ⟨.inr (hg.box _ _ s h2 (hbx s (by rw [hroot];simp))),h3⟩
  ·have hj':off+j<cs.length:=by simp [bO] at hj;omega
   obtain ⟨_,_,_,_,h5⟩:=hb _ hj'
   have e:=fA s cs 0 (off+j)
   have hq:off+j<(a8 s 0 cs).length:=by rw [bO];exact hj'
   simp only [hq,hj',List.getElem?_eq_getElem,Option.map_some,Nat.zero_add,Option.some.injEq] at e
   simp only [List.getElem_drop]
   rw [e];exact h5.cellAV
 ·cases hv with
  |vp _ b o vals hc hr=>
   refine ⟨b,o,vals,rfl,fun j hj=>⟨?_,(hc j hj).2⟩,hr⟩
   rcases (hc j hj).1 with h|h
   ·exact .inl (hg.imm _ _ h)
   ·exact .inr (hg.bor _ _ h)
 ·cases hv with
  |vi _ b o vals hc hr=>exact ⟨b,o,vals,rfl,fun j hj=>⟨.inl (hg.imm _ _ (hc j hj).1),(hc j hj).2⟩,hr⟩
theorem jx {lend:El→Bool}:∀{ks:List LK}{l m:List AV},a6 lend S ks l=some m→m.length=l.length
 |[],[],m,h=>by simp only [a6,Option.some.injEq] at h;subst h;rfl
 |k :: ks,b :: l,m,h=>by
  simp only [a6] at h
  cases hb:e7 lend S k b with
  |none=>rw [hb] at h;cases h
  |some c=>
   rw [hb] at h
   simp only [Option.bind_some] at h
   cases hm:a6 lend S ks l with
   |none=>rw [hm] at h;cases h
   |some m'=>
    rw [hm] at h
    simp only [Option.map_some,Option.some.injEq] at h
    subst h
    simp [jx hm]
 |[],_ :: _,_,h=>by simp [a6] at h
 |_ :: _,[],_,h=>by simp [a6] at h
theorem lh {lend:El→Bool}:∀{l m:List AV},dq lend S l=some m→m.length=l.length
 |[],m,h=>by simp only [dq,Option.some.injEq] at h;subst h;rfl
 |b :: l,m,h=>by
  simp only [dq] at h
  cases hb:nz lend S b with
  |none=>rw [hb] at h;cases h
  |some c=>
   rw [hb] at h
   simp only [Option.bind_some] at h
   cases hm:dq lend S l with
   |none=>rw [hm] at h;cases h
   |some m'=>
    rw [hm] at h
    simp only [Option.map_some,Option.some.injEq] at h
    subst h
    simp [lh hm]
theorem vS {b o off k:Nat}{l m:List AV}{vals:Nat→Value}(ht:bD l off k=some m)
  (hc:∀j,j<l.length→(gc.who b (o+j)=.imm∨gc.who b (o+j)=.bor)∧w.cell? ⟨b,o+j,none⟩=some (vals j)) (hr:∀j (h:j<l.length),RepA w g (l[j]) (vals j)):
  (∀j,j<m.length→(gc.who b (o+off+j)=.imm∨gc.who b (o+off+j)=.bor)∧w.cell? ⟨b,o+off+j,none⟩=some (vals (off+j)))∧∀j (h:j<m.length),RepA w g (m[j]) (vals (off+j)):=by
 obtain ⟨h1,h2,h3⟩:=cP ht
 refine ⟨fun j hj=>?_,fun j hj=>?_⟩
 ·rw [Nat.add_assoc];exact hc _ (by omega)
 ·have e:=h3 j (by omega)
  have hq:off+j<l.length:=by omega
  simp only [hj,hq,List.getElem?_eq_getElem,Option.some.injEq] at e
  rw [e];exact hr _ hq
theorem zh {lend:El→Bool}{L:fy}{os:List fH}(hg:CG L g gc os)(hl:iz lend L S g os)(hS:aV aa n w g S a)(hbx:∀s,S.root s≠none→∀i,¬bp os i s){ks:List LK}{x c:AV}{v:Value}(h:zd lend S ks x=some c)
  (hv:RepA w g x v):RepA w gc c v:=by
 have fin:∀(off:Nat) (l m m':List AV) (b o:Nat) (vals:Nat→Value),bD l off ks.length=some m→a6 lend S ks m=some m'→v=.pointer (some ⟨b,o+off,none⟩)→
   (∀j,j<l.length→(gc.who b (o+j)=.imm∨gc.who b (o+j)=.bor)∧w.cell? ⟨b,o+j,none⟩=some (vals j))→(∀j (h:j<l.length),RepA w g (l[j]) (vals j))→RepA w gc (.vp m') v:=by
  intro off l m m' b o vals ht hm hv hc hr
  obtain ⟨c1,c2⟩:=vS ht hc hr
  rw [hv]
  exact RepA.vpOf (jx hm) c1 (iU hg hl hS hm (.range c2))
 unfold zd at h
 split at h
 ·rename_i s off
  split at h
  ·rename_i cs hroot
   cases ht:bD (a8 s 0 cs) off ks.length with
   |none=>rw [ht] at h;cases h
   |some m=>
    rw [ht] at h
    simp only [Option.bind_some] at h
    cases hm:a6 lend S ks m with
    |none=>rw [hm] at h;cases h
    |some m'=>
     rw [hm] at h
     cases h
     obtain ⟨vals,hb⟩:=(hS.root hroot).box rfl
     refine fin off _ m m' (g.hb s).1 (g.hb s).2 vals ht hm hv.ref_inv (fun j hj=>?_) (fun j hj=>?_)
     ·rw [bO] at hj
      obtain ⟨_,h2,h3,_,_⟩:=hb _ hj
      exact ⟨.inr (hg.box _ _ s h2 (hbx s (by rw [hroot];simp))),h3⟩
     ·have hj':j<cs.length:=by rw [bO] at hj;exact hj
      have e:=fA s cs 0 j
      simp only [hj,hj',List.getElem?_eq_getElem,Option.map_some,Nat.zero_add,Option.some.injEq] at e
      rw [e];exact (hb _ hj').2.2.2.2.cellAV
  ·cases h
 ·rename_i cs
  cases ht:bD cs 0 ks.length with
  |none=>rw [ht] at h;cases h
  |some m=>
   rw [ht] at h
   simp only [Option.bind_some] at h
   cases hm:a6 lend S ks m with
   |none=>rw [hm] at h;cases h
   |some m'=>
    rw [hm] at h
    cases h
    obtain ⟨b,o,vals,e,hc,hr⟩:=kf hg hS hbx hv (.inr (.inl rfl))
    exact fin 0 _ m m' b o vals ht hm e hc hr
 ·rename_i cs
  cases ht:bD cs 0 ks.length with
  |none=>rw [ht] at h;cases h
  |some m=>
   rw [ht] at h
   simp only [Option.bind_some] at h
   cases hm:a6 lend S ks m with
   |none=>rw [hm] at h;cases h
   |some m'=>
    rw [hm] at h
    cases h
    obtain ⟨b,o,vals,e,hc,hr⟩:=kf hg hS hbx hv (.inr (.inr rfl))
    exact fin 0 _ m m' b o vals ht hm e hc hr
 ·cases h
theorem yj {lend:El→Bool}{L:fy}{os:List fH}(hg:CG L g gc os)(hl:iz lend L S g os)(hS:aV aa n w g S a)(hbx:∀s,S.root s≠none→∀i,¬bp os i s){x c:AV}{v:Value}(h:pP lend S x=some c)
  (hv:RepA w g x v):RepA w gc c v:=by
 have fin:∀(l m:List AV),dq lend S l=some m→(∃(b o:Nat) (vals:Nat→Value),v=.pointer (some ⟨b,o,none⟩)∧
   (∀j,j<l.length→(gc.who b (o+j)=.imm∨gc.who b (o+j)=.bor)∧w.cell? ⟨b,o+j,none⟩=some (vals j))∧∀j (h:j<l.length),RepA w g (l[j]) (vals j))→RepA w gc (.vp m) v:=by
  rintro l m hm ⟨b,o,vals,rfl,hc,hr⟩
  exact RepA.vpOf (lh hm) hc (py hg hl hS hm (.range hr))
 unfold pP at h
 split at h
 ·rename_i s off
  split at h
  ·rename_i cs hroot
   cases hm:dq lend S ((a8 s 0 cs).drop off) with
   |none=>rw [hm] at h;cases h
   |some m=>
    rw [hm] at h;cases h
    exact fin _ _ hm (kf hg hS hbx hv (.inl ⟨s,off,cs,rfl,hroot,rfl⟩))
  ·cases h
 ·rename_i cs
  cases hm:dq lend S cs with
  |none=>rw [hm] at h;cases h
  |some m=>rw [hm] at h;cases h;exact fin _ _ hm (kf hg hS hbx hv (.inr (.inl rfl)))
 ·rename_i cs
  cases hm:dq lend S cs with
  |none=>rw [hm] at h;cases h
  |some m=>rw [hm] at h;cases h;exact fin _ _ hm (kf hg hS hbx hv (.inr (.inr rfl)))
 ·cases h
theorem rK {lend:El→Bool}{L:fy}{os:List fH}(hg:CG L g gc os)(hl:iz lend L S g os)(hS:aV aa n w g S a)(hbx:∀s,S.root s≠none→∀i,¬bp os i s):∀{l m:List AV}{vs:List Value},kU lend S l=some m→RepL w g l vs→RepL w gc m vs
 |[],m,vs,h,hr=>by
  simp only [kU,Option.some.injEq] at h;subst h
  rw [hr.nil_inv];exact .nil
 |b :: l,m,vs,h,hr=>by
  obtain ⟨v,vs',rfl,h1,h2⟩:=hr.cons_inv
  simp only [kU] at h
  cases hb:pP lend S b with
  |none=>rw [hb] at h;cases h
  |some c=>
   rw [hb] at h
   simp only [Option.bind_some] at h
   cases hm:kU lend S l with
   |none=>rw [hm] at h;cases h
   |some m'=>
    rw [hm] at h
    simp only [Option.map_some,Option.some.injEq] at h
    subst h
    exact .cons (yj hg hl hS hbx hb h1) (rK hg hl hS hbx hm h2)
theorem uL {lend:El→Bool}{L:fy}{os:List fH}(hg:CG L g gc os)(hl:iz lend L S g os)(hS:aV aa n w g S a)(hbx:∀s,S.root s≠none→∀i,¬bp os i s){k:PK}{x:AV}{r:kh}{v:Value}(h:qf lend S k x=some r)
  (hv:RepA w g x v):∃c,r=.v c∧RepA w gc c v:=by
 unfold qf at h
 split at h
 ·rename_i k
  cases hc:e7 lend S k x with
  |none=>rw [hc] at h;cases h
  |some c=>rw [hc] at h;cases h;exact ⟨c,rfl,lJ hg hl hc hS hv⟩
 ·rename_i ks cs
  cases hc:a6 lend S ks cs with
  |none=>rw [hc] at h;cases h
  |some m=>
   rw [hc] at h;cases h
   obtain ⟨vs,rfl,e1,e2⟩:=hv.agg_inv
   exact ⟨_,rfl,(iU hg hl hS hc ⟨e1,e2⟩).agg⟩
 ·rename_i ks
  cases hc:zd lend S ks x with
  |none=>rw [hc] at h;cases h
  |some c=>rw [hc] at h;cases h;exact ⟨c,rfl,zh hg hl hS hbx hc hv⟩
 ·rename_i f caps
  cases hc:kU lend S caps with
  |none=>rw [hc] at h;cases h
  |some m=>
   rw [hc] at h;cases h
   cases hv with
   |fn _ _ vs e1 e2=>
    have:=rK hg hl hS hbx hc ⟨e1,e2⟩
    exact ⟨_,rfl,.fn f m vs this.1 this.2⟩
 ·cases h
end
end Go.Proofs.YtjkokaockhecnaaGreatDoorA

namespace Go.Proofs.YtjkokaockhecnaaGreatDoorA
open Go
section
variable {aa:aM}{n:Nat}{w w' w'':World}{g g' g'' gc:Gh}{S S':St}{a:Act}{P:Program}
theorem bZ.callee {L:fy}{os:List fH}(hg:CG L g gc os){s j i p:Nat}{t:El}{fz:Bool}{xs:List t.den}(h:bZ aa w g s j t fz xs)(hs:ck os i p s j):bZ aa w gc (1000+i) p t fz xs:=by
 have e:=hg.hs i p s j hs
 rcases h.c with ⟨⟨vs,h1,h2,h3⟩,hown⟩|⟨h1,h2,a,h3⟩
 rotate_left
 ·exact ⟨.inr ⟨h1,h2,a,e.trans h3⟩⟩
 refine ⟨.inl ⟨⟨vs,by rw [e];exact h1,h2,fun k hk hk'=>(h3 k hk hk').callee hg (c8 _ t xs _ (List.getElem_mem hk))⟩,fun b m cap e'=>?_⟩⟩
 rw [e] at e'
 obtain ⟨hlt,hw⟩:=hown b m cap e'
 refine ⟨hlt,fun o=>?_⟩
 have:=hw o
 split at this
 ·rename_i ho
  rw [if_pos ho]
  cases fz with
  |true=>exact hg.imm _ _ (by simpa using this)
  |false=>exact hg.src i p s j hs b o (by simpa using this)
 ·rename_i ho
  rw [if_neg ho]
  exact hg.src i p s j hs b o this
theorem bZ.empty {s j:Nat}{t:El}{fz:Bool}(h:g.hs s j=.slice none 0 0):bZ aa w g s j t fz []:=by
 refine ⟨.inl ⟨⟨[],by rw [h];exact gz.nil,rfl,fun i h=>by simp [ap] at h⟩,fun b m cap e=>?_⟩⟩
 rw [h] at e;cases e
theorem mY {L:fy}{os:List fH}(hg:CG L g gc os)(hS:aV aa n w g S a){k:LK}{b:AV}{c:ah}{x:Option (Nat×Nat)}{v:Value}(h:gr S k b=some (c,x))(hv:RepA w g b v)
  {i p:Nat}{o:fH} (ho:os[i]?=some o) (hx:o.srcs[p]?=some x):cw aa w gc (1000+i) p c v:=by
 have hl:iz jc L S g os:=fun _ _ _ _ _ h=>by cases h
 unfold gr at h
 split at h
 ·cases h
  have e:=hg.hsn i p o ho hx
  have ev:v=.slice none 0 0:=by cases hv;rfl
  rw [ev,←e]
  exact .sl _ _ _ (.empty e)
 ·rename_i t fz s j
  split at h
  ·rename_i u fz' xs hc
   split at h
   ·rename_i hu
    subst hu
    cases hf:fz==fz' with
    |false=>rw [hf] at h;cases h
    |true=>
     rw [hf] at h
     cases h
     have hs:ck os i p s j:=⟨o,ho,hx⟩
     rw [hv.al_inv.1,←hg.hs i p s j hs]
     exact .sl _ _ _ ((hS.cell hc).callee hg hs)
   ·cases h
  ·cases h
 ·cases hm:e7 jc S k b with
  |none=>rw [hm] at h;cases h
  |some c'=>
   rw [hm] at h;cases h
   exact .av _ _ (lJ hg hl hm hS hv)
theorem oh {L:fy}{os:List fH}(hg:CG L g gc os)(hS:aV aa n w g S a){i:Nat}{o:fH}(ho:os[i]?=some o):∀{ks:List LK}{l:List AV}{cs:List ah}{ys:List (Option (Nat×Nat))}{vs:List Value} (p:Nat),
  dG S ks l=some (cs,ys)→RepL w g l vs→(∀q,q<ys.length→o.srcs[p+q]?=ys[q]?)→cs.length=vs.length∧∀q (hq:q<cs.length) (hq':q<vs.length),cw aa w gc (1000+i) (p+q) (cs[q]) (vs[q])
 |[],[],cs,ys,vs,p,h,hr,_=>by
  simp only [dG,Option.some.injEq] at h;cases h
  rw [hr.nil_inv]
  exact ⟨rfl,fun q hq=>by simp at hq⟩
 |k :: ks,b :: l,cs,ys,vs,p,h,hr,hp=>by
  obtain ⟨v,vs',rfl,h1,h2⟩:=hr.cons_inv
  simp only [dG] at h
  cases hb:gr S k b with
  |none=>rw [hb] at h;cases h
  |some cx=>
   obtain ⟨c,x⟩:=cx
   rw [hb] at h
   simp only [Option.bind_some] at h
   cases hm:dG S ks l with
   |none=>rw [hm] at h;cases h
   |some my=>
    obtain ⟨m,y⟩:=my
    rw [hm] at h
    simp only [Option.map_some,Option.some.injEq] at h
    cases h
    have h0:=hp 0 (by simp)
    simp only [Nat.add_zero,List.getElem?_cons_zero] at h0
    obtain ⟨e1,e2⟩:=oh hg hS ho (p+1) hm h2 (fun q hq=>by
     have:=hp (q+1) (by simp;omega)
     rw [show p+(q+1)=p+1+q by omega] at this
     simpa using this)
    refine ⟨by simp [e1],fun q hq hq'=>?_⟩
    cases q with
    |zero=>exact mY hg hS hb h1 ho h0
    |succ q=>
     have:=e2 q (by simpa using hq) (by simpa using hq')
     rw [show p+1+q=p+(q+1) by omega] at this
     simpa using this
 |[],_ :: _,_,_,_,_,h,_,_=>by simp [dG] at h
 |_ :: _,[],_,_,_,_,h,_,_=>by simp [dG] at h
theorem mC {L:fy}{os:List fH}(hg:CG L g gc os)(hS:aV aa n w g S a){i s:Nat}{o:fH}(ho:os[i]?=some o):∀{ks:List LK}{l cs:List ah}{ys:List (Option (Nat×Nat))}{vals:Nat→Value} (p:Nat),
  aA S s p ks l=some (cs,ys)→(∀q (hq:q<l.length),cw aa w g s (p+q) (l[q]) (vals (p+q)))→(∀q,q<ys.length→o.srcs[p+q]?=ys[q]?)→
  cs.length=l.length∧∀q (hq:q<cs.length),cw aa w gc (1000+i) (p+q) (cs[q]) (vals (p+q))
 |[],[],cs,ys,vals,p,h,hr,_=>by
  simp only [aA,Option.some.injEq] at h;cases h
  exact ⟨rfl,fun q hq=>by simp at hq⟩
 |k :: ks,c0 :: l,cs,ys,vals,p,h,hr,hp=>by
  have hr0:=hr 0 (by simp)
  simp only [Nat.add_zero,List.getElem_cons_zero] at hr0
  have hrest:∀q (hq:q<l.length),cw aa w g s (p+1+q) (l[q]) (vals (p+1+q)):=by
   intro q hq
   have:=hr (q+1) (by simp;omega)
   rw [show p+(q+1)=p+1+q by omega] at this
   simpa using this
  -- one cell, and the rest
  have fin:∀(c:ah) (x:Option (Nat×Nat)) (m:List ah) (y:List (Option (Nat×Nat))),aA S s (p+1) ks l=some (m,y)→cs=c :: m→ys=x :: y→(o.srcs[p]?=some x→cw aa w gc (1000+i) p c (vals p))→
    cs.length=(c0 :: l).length∧∀q (hq:q<cs.length),cw aa w gc (1000+i) (p+q) (cs[q]) (vals (p+q)):=by
   intro c x m y hm hcs hys hc
   subst hcs;subst hys
   have h0:=hp 0 (by simp)
   simp only [Nat.add_zero,List.getElem?_cons_zero] at h0
   obtain ⟨e1,e2⟩:=mC hg hS ho (p+1) hm hrest (fun q hq=>by
    have:=hp (q+1) (by simp;omega)
    rw [show p+(q+1)=p+1+q by omega] at this
    simpa using this)
   refine ⟨by simp [e1],fun q hq=>?_⟩
   cases q with
   |zero=>exact hc h0
   |succ q=>
    have:=e2 q (by simpa using hq)
    rw [show p+1+q=p+(q+1) by omega] at this
    simpa using this
  cases c0 with
  |av b=>
   simp only [aA] at h
   cases hb:gr S k b with
   |none=>rw [hb] at h;cases h
   |some cx=>
    obtain ⟨c,x⟩:=cx
    rw [hb] at h
    simp only [Option.bind_some] at h
    cases hm:aA S s (p+1) ks l with
    |none=>rw [hm] at h;cases h
    |some my=>
     obtain ⟨m,y⟩:=my
     rw [hm] at h
     simp only [Option.map_some,Option.some.injEq] at h
     cases h
     exact fin c x m y hm rfl rfl fun h0=>mY hg hS hb hr0.av_inv ho h0
  |sl u fz' xs=>
   cases k<;>try (simp [aA] at h;done)
   case own t fz=>
    simp only [aA] at h
    split at h
    ·rename_i hu
     subst hu
     cases hf:fz==fz' with
     |false=>rw [hf] at h;cases h
     |true=>
      rw [hf] at h
      simp only [cond] at h
      cases hm:aA S s (p+1) ks l with
      |none=>rw [hm] at h;cases h
      |some my=>
       obtain ⟨m,y⟩:=my
       rw [hm] at h
       simp only [Option.map_some,Option.some.injEq] at h
       cases h
       refine fin _ _ m y hm rfl rfl fun h0=>?_
       have hs:ck os i p s p:=⟨o,ho,h0⟩
       rw [hr0.sl_inv.2,←hg.hs i p s p hs]
       exact .sl _ _ _ (hr0.sl_inv.1.callee hg hs)
    ·cases h
   case list t=>
    cases fz' with
    |false=>simp [aA] at h
    |true=>
     simp only [aA] at h
     split at h
     ·rename_i hu
      subst hu
      cases hm:aA S s (p+1) ks l with
      |none=>rw [hm] at h;cases h
      |some my=>
       obtain ⟨m,y⟩:=my
       rw [hm] at h
       simp only [Option.map_some,Option.some.injEq] at h
       cases h
       refine fin _ _ m y hm rfl rfl fun _=>?_
       rw [hr0.sl_inv.2]
       exact .av _ _ (hr0.sl_inv.1.L hg (.inl rfl))
     ·cases h
 |[],_ :: _,_,_,_,_,h,_,_=>by simp [aA] at h
 |_ :: _,[],_,_,_,_,h,_,_=>by simp [aA] at h
structure DT (aa:aM)(w:World)(gc:Gh)(i:Nat)(r:kh)(v:Value):Prop where
 val:∀k b,look k (cm i [r])=some b→k=i∧RepA w gc b v
 root:∀s q,look s (cU i [r])=some q→aB aa w gc s q
theorem j1 {w:World}{g:Gh}{s:Nat}:∀{cs:List ah}{vs:List Value} (p:Nat),cs.length=vs.length→(∀q (hq:q<cs.length) (hq':q<vs.length),cw aa w g s (p+q) (cs[q]) (vs[q]))→RepL w g (a8 s p cs) vs
 |[],[],_,_,_=>.nil
 |c :: cs,v :: vs,p,hl,h=>by
  refine .cons (h 0 (by simp) (by simp)).cellAV (j1 (p+1) (by simpa using hl) fun q hq hq'=>?_)
  have:=h (q+1) (by simp;omega) (by simp;omega)
  rw [show p+(q+1)=p+1+q by omega] at this
  simpa using this
 |[],_ :: _,_,hl,_=>by simp at hl
 |_ :: _,[],_,hl,_=>by simp at hl
theorem aB.ofCells {w:World}{g:Gh}{s:Nat}{cs:List ah}{vs:List Value}(hl:cs.length=vs.length)(h:∀q (hq:q<cs.length) (hq':q<vs.length),cw aa w g s q (cs[q]) (vs[q])):aB aa w g s ⟨false,cs⟩:=by
 refine ⟨fun _ j t fz xs hj=>?_,fun e=>by cases e⟩
 obtain ⟨h1,h2⟩:=List.getElem?_eq_some_iff.mp hj
 have h1':j<cs.length:=h1
 have:=h j h1' (by omega)
 simp only at h2
 rw [h2] at this
 exact this.sl_inv.1
theorem zV {lend:El→Bool}{L:fy}{os:List fH}(hg:CG L g gc os)(hl:iz lend L S' g os)(hS:aV aa n w g S a)(hS':aV aa n w g S' a)(hbx:∀s,S'.root s≠none→∀i,¬bp os i s)
  {k:PK}{b:AV}{r:kh}{x:fH}{v:Value} (h:qC lend S S' k b=some (r,x)) (hlf:lend≠jc→k.quiet=true) (hv:RepA w g b v) {i:Nat} (ho:os[i]?=some x):DT aa w gc i r v:=by
 unfold qC at h
 cases hq:k.quiet with
 |true=>
  rw [hq] at h
  simp only [cond] at h
  cases hm:qf lend S' k b with
  |none=>rw [hm] at h;cases h
  |some r'=>
   rw [hm] at h
   cases h
   obtain ⟨c,rfl,hc⟩:=uL hg hl hS' hbx hm hv
   refine ⟨fun k b hk=>?_,fun s q hs=>by simp [cU,look] at hs⟩
   simp only [cm,look] at hk
   cases e:Nat.beq i k with
   |false=>rw [e] at hk;cases hk
   |true=>rw [e] at hk;cases hk;exact ⟨(Nat.eq_of_beq_eq_true e).symm,hc⟩
 |false=>
  have hlf':lend=jc:=Classical.byContradiction fun e=>by
   have:=hlf e;rw [hq] at this;cases this
  subst hlf'
  rw [hq] at h
  simp only [cond] at h
  have single:∀(b':AV) (c0:AV) (k0:Nat),look k0 [(i,c0)]=some b'→k0=i∧b'=c0:=by
   intro b' c0 k0 hk
   simp only [look] at hk
   cases e:Nat.beq i k0 with
   |false=>rw [e] at hk;cases hk
   |true=>rw [e] at hk;cases hk;exact ⟨(Nat.eq_of_beq_eq_true e).symm,rfl⟩
  have singleR:∀(q:ae) (c0:ae) (k0:Nat),look k0 [(1000+i,c0)]=some q→k0=1000+i∧q=c0:=by
   intro q c0 k0 hk
   simp only [look] at hk
   cases e:Nat.beq (1000+i) k0 with
   |false=>rw [e] at hk;cases hk
   |true=>rw [e] at hk;cases hk;exact ⟨(Nat.eq_of_beq_eq_true e).symm,rfl⟩
  split at h
  ·rename_i k
   cases hm:gr S k b with
   |none=>rw [hm] at h;cases h
   |some cx=>
    rw [hm] at h
    cases h
    have hc:=mY hg hS hm hv ho (p:=0) (by simp)
    refine ⟨fun k b hk=>?_,fun s q hs=>?_⟩
    ·obtain ⟨e1,e2⟩:=single _ _ _ hk
     subst e2;exact ⟨e1,hc.cellAV⟩
    ·obtain ⟨e1,e2⟩:=singleR _ _ _ hs
     subst e1;subst e2
     exact aB.ofCells (vs:=[v]) rfl fun q hq hq'=>by
      have:q=0:=by simp at hq;omega
      subst this
      simpa using hc
  ·rename_i ks cs
   cases hm:dG S ks cs with
   |none=>rw [hm] at h;cases h
   |some cy=>
    obtain ⟨l,y⟩:=cy
    rw [hm] at h
    cases h
    obtain ⟨vs,rfl,e1,e2⟩:=hv.agg_inv
    obtain ⟨f1,f2⟩:=oh hg hS ho 0 hm ⟨e1,e2⟩ (fun q hq=>by simp)
    simp only [Nat.zero_add] at f2
    refine ⟨fun k b hk=>?_,fun s q hs=>?_⟩
    ·obtain ⟨q1,q2⟩:=single _ _ _ hk
     subst q2
     exact ⟨q1,(j1 0 f1 (by simpa using f2)).agg⟩
    ·obtain ⟨q1,q2⟩:=singleR _ _ _ hs
     subst q1;subst q2
     exact aB.ofCells f1 f2
  ·rename_i ks s
   split at h
   ·rename_i cs hroot
    cases hm:aA S s 0 ks cs with
    |none=>rw [hm] at h;cases h
    |some cy=>
     obtain ⟨l,y⟩:=cy
     rw [hm] at h
     cases h
     have hbat:bp os i s:=⟨_,ho,rfl⟩
     obtain ⟨vals,hvv⟩:=(hS.root hroot).box rfl
     obtain ⟨f1,f2⟩:=mC hg hS ho (s:=s) (vals:=vals) 0 hm (fun q hq=>by rw [Nat.zero_add];exact (hvv q hq).2.2.2.2) (fun q hq=>by simp)
     refine ⟨fun k b hk=>?_,fun s' q hs=>?_⟩
     ·obtain ⟨q1,q2⟩:=single _ _ _ hk
      subst q2
      refine ⟨q1,?_⟩
      rw [hv.ref_inv,←hg.hb i s hbat]
      exact .ref _ _
     ·obtain ⟨q1,q2⟩:=singleR _ _ _ hs
      subst q1;subst q2
      refine ⟨fun e=>(by cases e),fun _=>⟨vals,fun j hj=>?_⟩⟩
      have hj':j<cs.length:=by rw [←f1];exact hj
      obtain ⟨h1,h2,h3,h4,_⟩:=hvv j hj'
      rw [hg.hb i s hbat]
      refine ⟨h1,hg.bx i s hbat _ _ h2,h3,h4,?_⟩
      have:=f2 j hj
      rwa [Nat.zero_add] at this
   ·cases h
  ·cases h
end
end Go.Proofs.YtjkokaockhecnaaGreatDoorA

namespace Go.Proofs.YtjkokaockhecnaaGreatDoorA
open Go
section
variable {aa:aM}{n:Nat}{w w' w'':World}{g g' g'' gc:Gh}{S S':St}{a:Act}{P:Program}
theorem nP {α:Type}(k:Nat)(l m:List (Nat×α)):look k (l++m)=match look k l with|some a=>some a|none=>look k m:=by
 induction l with
 |nil=>rfl
 |cons p l ih=>
  obtain ⟨i,a⟩:=p
  simp only [List.cons_append,look]
  cases Nat.beq i k with
  |true=>rfl
  |false=>simpa using ih
theorem tB (i:Nat)(r:kh)(l:List kh):cm i (r :: l)=cm i [r]++cm (i+1) l:=by
 cases r<;>rfl
theorem ud (i:Nat)(r:kh)(l:List kh):cU i (r :: l)=cU i [r]++cU (i+1) l:=by
 cases r<;>rfl
theorem ry {lend:El→Bool}{L:fy}{os:List fH}(hg:CG L g gc os)(hl:iz lend L S' g os)(hS:aV aa n w g S a)(hS':aV aa n w g S' a)(hbx:∀s,S'.root s≠none→∀i,¬bp os i s):
  ∀{ks:List PK}{as:List AV}{args:List kh}{xs:List fH}{vals:List Value} (i0:Nat),dw lend S S' ks as=some (args,xs)→RepL w g as vals→(∀q,q<xs.length→os[i0+q]?=xs[q]?)→(lend≠jc→∀k∈ks,k.quiet=true)→
   args.length=vals.length∧(∀k b,look k (cm i0 args)=some b→∃q v,k=i0+q∧vals[q]?=some v∧RepA w gc b v)∧∀s r,look s (cU i0 args)=some r→aB aa w gc s r
 |[],[],args,xs,vals,i0,h,hr,_,_=>by
  simp only [dw,Option.some.injEq] at h;cases h
  rw [hr.nil_inv]
  exact ⟨rfl,fun k b hk=>by simp [cm,look] at hk,fun s r hs=>by simp [cU,look] at hs⟩
 |k :: ks,b :: as,args,xs,vals,i0,h,hr,hx,hq=>by
  obtain ⟨v,vs,rfl,h1,h2⟩:=hr.cons_inv
  simp only [dw] at h
  cases hb:qC lend S S' k b with
  |none=>rw [hb] at h;cases h
  |some rx=>
   obtain ⟨r,x⟩:=rx
   rw [hb] at h
   simp only [Option.bind_some] at h
   cases hm:dw lend S S' ks as with
   |none=>rw [hm] at h;cases h
   |some my=>
    obtain ⟨m,y⟩:=my
    rw [hm] at h
    simp only [Option.map_some,Option.some.injEq] at h
    cases h
    have h0:=hx 0 (by simp)
    simp only [Nat.add_zero,List.getElem?_cons_zero] at h0
    have ha:=zV hg hl hS hS' hbx hb (fun h=>hq h k List.mem_cons_self) h1 h0
    obtain ⟨e1,e2,e3⟩:=ry hg hl hS hS' hbx (i0+1) hm h2 (fun q hq=>by
     have:=hx (q+1) (by simp;omega)
     rw [show i0+(q+1)=i0+1+q by omega] at this
     simpa using this) (fun h k hk=>hq h k (List.mem_cons_of_mem _ hk))
    refine ⟨by simp [e1],fun k' b' hk=>?_,fun s q hs=>?_⟩
    ·rw [tB,nP] at hk
     cases hl1:look k' (cm i0 [r]) with
     |some b1=>
      rw [hl1] at hk;cases hk
      obtain ⟨q1,q2⟩:=ha.val _ _ hl1
      exact ⟨0,v,by omega,by simp,q2⟩
     |none=>
      rw [hl1] at hk
      obtain ⟨q,v',q1,q2,q3⟩:=e2 _ _ hk
      exact ⟨q+1,v',by omega,by simpa using q2,q3⟩
    ·rw [ud,nP] at hs
     cases hl1:look s (cU i0 [r]) with
     |some b1=>rw [hl1] at hs;cases hs;exact ha.root _ _ hl1
     |none=>rw [hl1] at hs;exact e3 _ _ hs
 |[],_ :: _,_,_,_,_,h,_,_,_=>by simp [dw] at h
 |_ :: _,[],_,_,_,_,h,_,_,_=>by simp [dw] at h
theorem yw {p:Nat×Nat}{l:List (Nat×Nat)}:Ap p l=true↔p∈l:=by
 induction l with
 |nil=>simp [Ap]
 |cons q l ih=>
  simp only [Ap,Bool.or_eq_true,Bool.and_eq_true,ih,List.mem_cons]
  constructor
  ·rintro (⟨h1,h2⟩|h)
   ·exact .inl (Prod.ext (Nat.eq_of_beq_eq_true h1).symm (Nat.eq_of_beq_eq_true h2).symm)
   ·exact .inr h
  ·rintro (rfl|h)
   ·exact .inl (by simp)
   ·exact .inr h
theorem o9 {l:List (Nat×Nat)}:jT l=true↔l.Nodup:=by
 induction l with
 |nil=>simp [jT]
 |cons p l ih=>
  simp only [jT,Bool.and_eq_true,Bool.not_eq_true',ih,List.nodup_cons]
  rw [←Bool.not_eq_true,yw]
theorem vN {l:List Nat}:nk l=true↔l.Nodup:=by
 induction l with
 |nil=>simp [nk]
 |cons p l ih=>
  simp only [nk,Bool.and_eq_true,ih,List.nodup_cons,List.all_eq_true,Bool.not_eq_true']
  constructor
  ·rintro ⟨h1,h2⟩
   refine ⟨fun hm=>?_,h2⟩
   have:=h1 p hm;simp at this
  ·rintro ⟨h1,h2⟩
   exact ⟨fun m hm=>vP fun e=>h1 (e ▸ hm),h2⟩
theorem tH {l:List (Option (Nat×Nat))}(h:(l.filterMap id).Nodup){p q:Nat}{x:Nat×Nat}(hp:l[p]?=some (some x))(hq:l[q]?=some (some x)):p=q:=by
 induction l generalizing p q with
 |nil=>simp at hp
 |cons y l ih=>
  have hmem:∀k,l[k]?=some (some x)→x∈l.filterMap id:=fun k hk=>List.mem_filterMap.2 ⟨some x,List.mem_of_getElem? hk,rfl⟩
  cases y with
  |none=>
   simp only [List.filterMap_cons,id] at h
   cases p with
   |zero=>simp at hp
   |succ p=>
    cases q with
    |zero=>simp at hq
    |succ q=>have e:=ih h (p:=p) (q:=q) (by simpa using hp) (by simpa using hq);omega
  |some y=>
   simp only [List.filterMap_cons,id,List.nodup_cons] at h
   cases p with
   |zero=>
    cases q with
    |zero=>rfl
    |succ q=>
     simp at hp;subst hp
     exact absurd (hmem q (by simpa using hq)) h.1
   |succ p=>
    cases q with
    |zero=>
     simp at hq;subst hq
     exact absurd (hmem p (by simpa using hp)) h.1
    |succ q=>have e:=ih h.2 (p:=p) (q:=q) (by simpa using hp) (by simpa using hq);omega
theorem mN {os:List fH}{i p s j:Nat}(h:ck os i p s j):(s,j)∈dN os:=by
 obtain ⟨o,h1,h2⟩:=h
 induction os generalizing i with
 |nil=>simp at h1
 |cons y os ih=>
  simp only [dN,List.mem_append]
  cases i with
  |zero=>simp at h1;subst h1;exact .inl (List.mem_filterMap.2 ⟨_,List.mem_of_getElem? h2,rfl⟩)
  |succ i=>exact .inr (ih (by simpa using h1))
theorem ve {os:List fH}(h:(dN os).Nodup){i p i' p' s j:Nat}(h1:ck os i p s j)(h2:ck os i' p' s j):i=i'∧p=p':=by
 induction os generalizing i i' with
 |nil=>obtain ⟨o,h1,_⟩:=h1;simp at h1
 |cons y os ih=>
  simp only [dN,List.nodup_append] at h
  obtain ⟨n1,n2,n3⟩:=h
  have tail:∀{i p},ck (y :: os) (i+1) p s j→ck os i p s j:=fun ⟨o,q1,q2⟩=>⟨o,by simpa using q1,q2⟩
  have head:∀{p},ck (y :: os) 0 p s j→y.srcs[p]?=some (some (s,j)):=by
   rintro p ⟨o,q1,q2⟩;simp at q1;subst q1;exact q2
  have hm:∀{p},ck (y :: os) 0 p s j→(s,j)∈y.srcs.filterMap id:=fun h=>List.mem_filterMap.2 ⟨_,List.mem_of_getElem? (head h),rfl⟩
  cases i with
  |zero=>
   cases i' with
   |zero=>exact ⟨rfl,tH n1 (head h1) (head h2)⟩
   |succ i'=>exact absurd rfl (n3 _ (hm h1) _ (mN (tail h2)))
  |succ i=>
   cases i' with
   |zero=>exact absurd rfl (n3 _ (hm h2) _ (mN (tail h1)))
   |succ i'=>
    obtain ⟨e1,e2⟩:=ih n2 (tail h1) (tail h2)
    exact ⟨by rw [e1],e2⟩
theorem nf {os:List fH}{i s:Nat}(h:bp os i s):s∈aN os:=by
 obtain ⟨o,h1,h2⟩:=h
 induction os generalizing i with
 |nil=>simp at h1
 |cons y os ih=>
  simp only [aN]
  cases i with
  |zero=>simp at h1;subst h1;rw [h2];simp
  |succ i=>
   have:=ih (i:=i) (by simpa using h1)
   cases y.box<;>simp [this]
theorem oV {os:List fH}(h:(aN os).Nodup){i i' s:Nat}(h1:bp os i s)(h2:bp os i' s):i=i':=by
 induction os generalizing i i' with
 |nil=>obtain ⟨o,h1,_⟩:=h1;simp at h1
 |cons y os ih=>
  have tail:∀{i},bp (y :: os) (i+1) s→bp os i s:=fun ⟨o,q1,q2⟩=>⟨o,by simpa using q1,q2⟩
  have head:bp (y :: os) 0 s→y.box=some s:=by
   rintro ⟨o,q1,q2⟩;simp at q1;subst q1;exact q2
  have ht:(aN os).Nodup∧(y.box=some s→s ∉ aN os):=by
   simp only [aN] at h
   cases hy:y.box with
   |none=>rw [hy] at h;exact ⟨h,fun e=>by cases e⟩
   |some s'=>
    rw [hy] at h
    simp only [List.nodup_cons] at h
    exact ⟨h.2,fun e=>by cases e;exact h.1⟩
  cases i with
  |zero=>
   cases i' with
   |zero=>rfl
   |succ i'=>exact absurd (nf (tail h2)) (ht.2 (head h1))
  |succ i=>
   cases i' with
   |zero=>exact absurd (nf (tail h1)) (ht.2 (head h2))
   |succ i'=>rw [ih ht.1 (tail h1) (tail h2)]
theorem ya {os:List fH}{i p s j s' j':Nat}(h1:ck os i p s j)(h2:ck os i p s' j'):s=s'∧j=j':=by
 obtain ⟨o,a1,a2⟩:=h1
 obtain ⟨o',b1,b2⟩:=h2
 rw [a1] at b1;cases b1
 rw [a2] at b2;cases b2
 exact ⟨rfl,rfl⟩
theorem re {os:List fH}{i s s':Nat}(h1:bp os i s)(h2:bp os i s'):s=s':=by
 obtain ⟨o,a1,a2⟩:=h1
 obtain ⟨o',b1,b2⟩:=h2
 rw [a1] at b1;cases b1
 rw [a2] at b2;cases b2
 rfl
open Classical in
noncomputable def lr (L:fy)(g:Gh)(os:List fH):Gh where
 who b o:=
  match g.who b o with
  |.obj s (some j)=>if h:∃ip:Nat×Nat,ck os ip.1 ip.2 s j then .obj (1000+h.choose.1) (some h.choose.2) else if L s j b o then .imm else .other
  |.obj s none=>if h:∃i,bp os i s then .obj (1000+h.choose) none else .bor
  |q=>q
 hs s' p:=if h:∃x:Nat×Nat×Nat,s'=1000+x.1∧ck os x.1 p x.2.1 x.2.2 then g.hs h.choose.2.1 h.choose.2.2 else .slice none 0 0
 hb s':=if h:∃x:Nat×Nat,s'=1000+x.1∧bp os x.1 x.2 then g.hb h.choose.2 else (0,0)
theorem CG.of {L:fy}{os:List fH}(h1:(dN os).Nodup)(h2:(aN os).Nodup):CG L g (lr L g os) os:=by
 refine ⟨?_,?_,?_,?_,?_,?_,?_,?_,?_,?_,?_,?_⟩
 ·intro b o e;simp [lr,e]
 ·intro b o e;simp [lr,e]
 ·intro b o e;simp [lr,e]
 ·intro b o s e hn
  have:¬∃i,bp os i s:=fun ⟨i,h⟩=>hn i h
  simp [lr,e,this]
 ·intro b o s j hl e hn
  have:¬∃ip:Nat×Nat,ck os ip.1 ip.2 s j:=fun ⟨ip,h⟩=>hn _ _ h
  simp only [lr,e]
  rw [dif_neg this,if_pos hl]
 ·intro i p s j hs b o e
  have hex:∃ip:Nat×Nat,ck os ip.1 ip.2 s j:=⟨(i,p),hs⟩
  simp only [lr,e]
  rw [dif_pos hex]
  obtain ⟨e1,e2⟩:=ve h1 hex.choose_spec hs
  rw [e1,e2]
 ·intro i s hb b o e
  have hex:∃i,bp os i s:=⟨i,hb⟩
  simp only [lr,e]
  rw [dif_pos hex,oV h2 hex.choose_spec hb]
 ·intro i p s j hs
  have hex:∃x:Nat×Nat×Nat,1000+i=1000+x.1∧ck os x.1 p x.2.1 x.2.2:=⟨(i,s,j),rfl,hs⟩
  simp only [lr]
  rw [dif_pos hex]
  obtain ⟨q1,q2⟩:=hex.choose_spec
  have q3:i=hex.choose.1:=by omega
  rw [←q3] at q2
  obtain ⟨e1,e2⟩:=ya q2 hs
  rw [e1,e2]
 ·intro i p o ho hn
  have:¬∃x:Nat×Nat×Nat,1000+i=1000+x.1∧ck os x.1 p x.2.1 x.2.2:=by
   rintro ⟨x,q1,o',q2,q3⟩
   have:i=x.1:=by omega
   rw [←this,ho] at q2;cases q2
   rw [hn] at q3;cases q3
  simp only [lr]
  rw [dif_neg this]
 ·intro i s hb
  have hex:∃x:Nat×Nat,1000+i=1000+x.1∧bp os x.1 x.2:=⟨(i,s),rfl,hb⟩
  simp only [lr]
  rw [dif_pos hex]
  obtain ⟨q1,q2⟩:=hex.choose_spec
  have q3:i=hex.choose.1:=by omega
  rw [←q3] at q2
  rw [re q2 hb]
 ·intro b o s' x e
  simp only [lr] at e
  cases hw:g.who b o with
  |imm=>rw [hw] at e;cases e
  |bor=>rw [hw] at e;cases e
  |other=>rw [hw] at e;cases e
  |obj s y=>
   rw [hw] at e
   cases y with
   |none=>
    simp only at e
    split at e
    ·rename_i h
     cases e
     exact .inr ⟨_,s,h.choose_spec,rfl,rfl,rfl⟩
    ·cases e
   |some j=>
    simp only at e
    split at e
    ·rename_i h
     cases e
     exact .inl ⟨_,_,s,j,h.choose_spec,rfl,rfl,rfl⟩
    ·split at e<;>cases e
 ·intro b o s j hl e hn
  have:¬∃ip:Nat×Nat,ck os ip.1 ip.2 s j:=fun ⟨ip,h⟩=>hn _ _ h
  simp only [lr,e]
  rw [dif_neg this,if_neg hl]
structure li (aa:aM)(w:World)(g:Gh)(s:bg)(r:s.den)(v:Value):Prop where
 val:RepA w g (kp (dy.inj 0 0 s.res (s.res1 r)).1) v
 own:aB aa w g 0 ⟨false,(dy.inj 0 0 s.res (s.res1 r)).2⟩
 back:∀i cs,(i,cs)∈cM.cells s.back (s.back1 r)→aB aa w g (1000+i) ⟨true,cs⟩
structure ef (aa:aM)(w:World)(g:Gh)(args:List kh)(vals:List Value):Prop where
 len:args.length=vals.length
 tb:gR aa w g
 val:∀k b,look k (cm 0 args)=some b→∃v,vals[k]?=some v∧RepA w g b v
 root:∀s r,look s (cU 0 args)=some r→aB aa w g s r
def ff (P:Program)(f:FuncId):Prop:=∃fn,P.funcs[f]?=some fn∧(fn.name== "runtime.NumGoroutine")=false∧fn.body.isNone=false
def ir (P:Program)(aa:aM)(sig:FuncId→bg)(lv:Lv sig):Prop:=
 ∀f args r,lv f args=some r→ff P f∧∀w g vals,ef aa w g args vals→
  Calls P f vals.toArray w fun e w'=>∃v g',e=.returned v∧eS w g w' g'∧li aa w' g' (sig f) r v
end
end Go.Proofs.YtjkokaockhecnaaGreatDoorA

namespace Go.Proofs.YtjkokaockhecnaaGreatDoorA
open Go
section
variable {aa:aM}{n:Nat}{w w' w'':World}{g g' g'' gc gc':Gh}{S S':St}{a:Act}{P:Program}
inductive eV:AV→Prop
 |bool (b:Bool):eV (.bool b)
 |int (k:IntKind) (n:Int):eV (.int k n)
 |str (l:List UInt8):eV (.str l)
 |err (b:Bool):eV (.err b)
 |nils:eV .nils
 |L (t:El) (xs:List t.den):eV (.L t xs)
 |optp (t:El) (x:Option t.den):eV (.optp t x)
 |vi (cs:List AV) (h:∀a,a∈cs→eV a):eV (.vi cs)
 |rm (t:El) (xs ys:List t.den):eV (.rm t xs ys)
theorem hJ (t:El)(x:t.den):∀a,a∈t.cells x→eV a:=by
 intro a ha
 cases t<;>simp [El.cells] at ha<;>(first|(subst ha;constructor)|(rcases ha with h|h|h|h|h|h|h<;>subst h<;>constructor)|(rcases ha with h|h|h|h<;>subst h<;>constructor)|(rcases ha with h|h|h<;>subst h<;>constructor))
theorem gp (t:El)(xs:List t.den):∀a,a∈ap t xs→eV a:=by
 intro a ha
 simp only [ap,List.mem_flatMap] at ha
 obtain ⟨x,_,hx⟩:=ha
 exact hJ t x a hx
theorem RepA.plain (hi:∀b o v,w.cell? ⟨b,o,none⟩=some v→g.who b o=.imm→g'.who b o=.imm){b:AV}{v:Value}(h:RepA w g b v):eV b→RepA w g' b v:=by
 induction h with
 |list t xs b o cap vals hcap hcc hr ih=>
  intro _
  exact .list t xs b o cap vals hcap (fun j hj=>⟨hi _ _ _ (hcc j hj).2 (hcc j hj).1,(hcc j hj).2⟩) (fun j hj=>ih j hj (gp t xs _ (List.getElem_mem hj)))
 |lnil t a cap=>intro _;exact .lnil t a cap
 |bool b=>intro _;constructor
 |int k n=>intro _;constructor
 |str l=>intro _;constructor
 |err0=>intro _;exact .err0
 |err1 te pe=>intro _;exact .err1 te pe
 |nils=>intro _;constructor
 |emp=>intro h;cases h
 |und=>intro h;cases h
 |al=>intro h;cases h
 |ref=>intro h;cases h
 |eref=>intro h;cases h
 |bs=>intro h;cases h
 |bref=>intro h;cases h
 |bal=>intro h;cases h
 |rm0 t a cap=>intro _;exact .rm0 t a cap
 |rm t xs ys b o cap vals hcap hcc hr ih=>
  intro _
  exact .rm t xs ys b o cap vals hcap (fun j hj=>⟨hi _ _ _ (hcc j hj).2 (hcc j hj).1,(hcc j hj).2⟩) (fun j hj=>ih j hj (gp t _ _ (List.getElem_mem hj)))
 |als=>intro h;cases h
 |als0=>intro h;cases h
 |bad0=>intro h;cases h
 |bad1=>intro h;cases h
 |refT=>intro h;cases h
 |fzs0=>intro h;cases h
 |fzs=>intro h;cases h
 |vp=>intro h;cases h
 |vi cs b o vals hcc hr ih=>
  intro h
  cases h with
  |vi _ h=>exact .vi cs b o vals (fun j hj=>⟨hi _ _ _ (hcc j hj).2 (hcc j hj).1,(hcc j hj).2⟩) (fun j hj=>ih j hj (h _ (List.getElem_mem hj)))
 |nilp=>intro h;cases h
 |opt0 t=>intro _;exact .opt0 t
 |opt1 t x v h ih=>intro _;exact .opt1 t x v (ih (.vi _ (hJ t x)))
 |nq=>intro h;cases h
 |agg=>intro h;cases h
 |tup=>intro h;cases h
 |fn=>intro h;cases h
def pJ (c:ah):Prop:=∀a,c=.av a→eV a
theorem LK.plain (k:LK)(x:k.den):pJ (k.cell x):=by
 intro a h
 cases k<;>simp [LK.cell] at h<;>subst h<;>constructor
theorem dQ.plain:∀(ks:List LK) (x:dQ.den ks),∀c∈dQ.cells ks x,pJ c
 |[],_,c,h=>by simp [dQ.cells] at h
 |[k],x,c,h=>by simp [dQ.cells] at h;subst h;exact k.plain x
 |k :: k' :: ks,x,c,h=>by
  simp only [dQ.cells,List.mem_cons] at h
  rcases h with rfl|h
  ·exact k.plain _
  ·exact dQ.plain (k' :: ks) x.2 c h
theorem cM.plain:∀(bs:List (Nat×List LK)) (x:cM.den bs),∀i cs,(i,cs)∈cM.cells bs x→∀c∈cs,pJ c
 |[],_,i,cs,h=>by simp [cM.cells] at h
 |[(j,ks)],x,i,cs,h=>by
  simp only [cM.cells,List.mem_singleton,Prod.mk.injEq] at h
  obtain ⟨_,rfl⟩:=h
  exact dQ.plain ks x
 |(j,ks) :: b :: bs,x,i,cs,h=>by
  simp only [cM.cells,List.mem_cons,Prod.mk.injEq] at h
  rcases h with ⟨_,rfl⟩|h
  ·exact dQ.plain ks x.1
  ·exact cM.plain (b :: bs) x.2 i cs (by simpa using h)
inductive Rn (d:Nat)(G:Bool):AV→AV→Prop
 |same (a:AV) (h:eV a):Rn d G a a
 |al (j:Nat) (h:G=true):Rn d G (.al 0 j) (.al d j)
 |agg (l m:List AV) (hl:l.length=m.length) (h:∀i (h1:i<l.length) (h2:i<m.length),Rn d G (l[i]) (m[i])):Rn d G (.agg l) (.agg m)
 |tup (l m:List AV) (hl:l.length=m.length) (h:∀i (h1:i<l.length) (h2:i<m.length),Rn d G (l[i]) (m[i])):Rn d G (.tup l) (.tup m)
def wm (d:Nat)(G:Bool)(l m:List AV):Prop:=l.length=m.length∧∀i (h1:i<l.length) (h2:i<m.length),Rn d G (l[i]) (m[i])
theorem wm.nil {d:Nat}{G:Bool}:wm d G [] []:=⟨rfl,fun i h=>by simp at h⟩
theorem wm.cons {d:Nat}{G:Bool}{a b:AV}{l m:List AV}(h:Rn d G a b)(hl:wm d G l m):wm d G (a :: l) (b :: m):=by
 refine ⟨by simp [hl.1],fun i h1 h2=>?_⟩
 cases i with
 |zero=>exact h
 |succ i=>exact hl.2 i (by simpa using h1) (by simpa using h2)
theorem wm.same {d:Nat}{G:Bool}{l:List AV}(h:∀a∈l,eV a):wm d G l l:=⟨rfl,fun i h1 _=>.same _ (h _ (List.getElem_mem h1))⟩
theorem Rn.rep {d:Nat}{G:Bool}(hi:∀b o v,w.cell? ⟨b,o,none⟩=some v→g.who b o=.imm→g'.who b o=.imm)(hs:G=true→∀j,g'.hs d j=g.hs 0 j){b c:AV}(h:Rn d G b c):
  ∀{v:Value},RepA w g b v→RepA w g' c v:=by
 induction h with
 |same a h=>intro v hv;exact hv.plain hi h
 |al j hG=>
  intro v hv
  cases hv with
  |al _ _ a m c h=>exact .al d j a m c ((hs hG j).trans h)
 |agg l m hl h ih=>
  intro v hv
  obtain ⟨vs,rfl,e1,e2⟩:=hv.agg_inv
  exact .agg m vs (e1.trans hl) fun j h1 h2=>ih j (by omega) h1 (e2 j (by omega) h2)
 |tup l m hl h ih=>
  intro v hv
  cases hv with
  |tup _ vs e1 e2=>exact .tup m vs (e1.trans hl) fun j h1 h2=>ih j (by omega) h1 (e2 j (by omega) h2)
theorem dW (l m:List ah):b6 (l++m)=(b6 l||b6 m):=by
 induction l with
 |nil=>rfl
 |cons c l ih=>cases c<;>simp [b6,ih]
theorem wn {d j:Nat}{G:Bool}{c:ah}(hc:pJ c)(hG:b6 [c]=true→G=true):Rn d G (cellAV 0 j c) (cellAV d j c):=by
 cases c with
 |av a=>exact .same a (hc a rfl)
 |sl t fz xs=>exact .al j (hG rfl)
theorem sX {d:Nat}{G:Bool}:∀(j:Nat) {cs:List ah},(∀c∈cs,pJ c)→(b6 cs=true→G=true)→wm d G (a8 0 j cs) (a8 d j cs)
 |_,[],_,_=>.nil
 |j,c :: cs,hc,hG=>by
  have h1:b6 (c :: cs)=(b6 [c]||b6 cs):=by rw [←dW];rfl
  refine .cons (wn (hc c List.mem_cons_self) fun h=>hG (by rw [h1,h];rfl)) (sX (j+1) (fun c hm=>hc c (List.mem_cons_of_mem _ hm)) fun h=>hG (by rw [h1,h];simp))
theorem RK.rn {d j:Nat}{G:Bool}(k:RK)(x:k.den)(hG:b6 (k.inj d j x).2=true→G=true):Rn d G (k.inj 0 j x).1 (k.inj d j x).1:=by
 cases k with
 |one k=>exact wn (k.plain x) hG
 |agg ks=>
  have:=sX (d:=d) (G:=G) j (dQ.plain ks x) hG
  exact .agg _ _ this.1 this.2
 |el t=>
  have hc:=hJ t x
  cases t with
  |int k=>exact .same _ (.int _ _)
  |bool=>exact .same _ (.bool _)
  |str=>exact .same _ (.str _)
  |list e=>exact .same _ (.L _ _)
  |node=>have:=wm.same (d:=d) (G:=G) hc;exact .agg _ _ this.1 this.2
  |arr=>have:=wm.same (d:=d) (G:=G) hc;exact .agg _ _ this.1 this.2
  |col=>have:=wm.same (d:=d) (G:=G) hc;exact .agg _ _ this.1 this.2
  |blk=>have:=wm.same (d:=d) (G:=G) hc;exact .agg _ _ this.1 this.2
  |byt=>exact .same _ (.int _ _)
 |ptr t=>exact .same _ (.optp t x)
theorem RK.inj_two (d j j':Nat)(k:RK)(x:k.den):(k.inj d j x).2=(k.inj 0 j' x).2:=by
 cases k<;>rfl
theorem dy.inj_two (d:Nat):∀(j j':Nat) (ks:List RK) (x:dy.den ks),(dy.inj d j ks x).2=(dy.inj 0 j' ks x).2
 |_,_,[],_=>rfl
 |j,j',[k],x=>k.inj_two d j j' x
 |j,j',k :: k' :: ks,x=>by
  simp only [dy.inj]
  rw [k.inj_two d j j' x.1,dy.inj_two d _ (j'+(k.inj 0 j' x.1).2.length) (k' :: ks) x.2]
theorem dy.rn {d:Nat}{G:Bool}:∀(j:Nat) (ks:List RK) (x:dy.den ks),(b6 (dy.inj d j ks x).2=true→G=true)→wm d G (dy.inj 0 j ks x).1 (dy.inj d j ks x).1
 |_,[],_,_=>.nil
 |j,[k],x,hG=>.cons (k.rn x hG) .nil
 |j,k :: k' :: ks,x,hG=>by
  simp only [dy.inj,dW] at hG ⊢
  have e:=k.inj_two d j j x.1
  rw [e] at hG ⊢
  refine .cons (k.rn x.1 fun h=>hG (by rw [←e,h];rfl)) ?_
  exact dy.rn _ (k' :: ks) x.2 fun h=>hG (by rw [h];simp)
theorem yR {d:Nat}{G:Bool}{l m:List AV}(h:wm d G l m):Rn d G (kp l) (kp m):=by
 obtain ⟨h1,h2⟩:=h
 match l,m,h1,h2 with
 |[],[],_,_=>exact .tup [] [] rfl fun i h=>by simp at h
 |[a],[b],_,h2=>exact h2 0 (by simp) (by simp)
 |a :: b :: l,c :: e :: m,h1,h2=>exact .tup _ _ h1 h2
 |[],_ :: _,h1,_=>simp at h1
 |_ :: _,[],h1,_=>simp at h1
 |[_],_ :: _ :: _,h1,_=>simp at h1
 |_ :: _ :: _,[_],h1,_=>simp at h1
inductive tz:AV→Prop
 |bool (b:Bool):tz (.bool b)
 |int (k:IntKind) (n:Int):tz (.int k n)
 |str (l:List UInt8):tz (.str l)
theorem RepA.dull {b:AV}{v:Value}(h:RepA w g b v)(hb:tz b):RepA w' g' b v:=by
 cases hb<;>cases h<;>constructor
def EF (d:Nat)(G:Bool)(a b:AV):Prop:=(tz a∧b=a)∨(G=true∧∃j,a=.al 0 j∧b=.al d j)
def LD (d:Nat)(G:Bool)(a b:AV):Prop:=EF d G a b∨∃l m:List AV,a=.agg l∧b=.agg m∧l.length=m.length∧∀(i:Nat) (x y:AV),l[i]?=some x→m[i]?=some y→EF d G x y
theorem EF.rep {d:Nat}{G:Bool}(hs:G=true→∀j,g'.hs d j=g.hs 0 j){a b:AV}(h:EF d G a b){v:Value}(hv:RepA w g a v):RepA w' g' b v:=by
 rcases h with ⟨h,rfl⟩|⟨hG,j,rfl,rfl⟩
 ·exact hv.dull h
 ·cases hv with
  |al _ _ a m c h=>exact .al d j a m c ((hs hG j).trans h)
theorem LD.rep {d:Nat}{G:Bool}(hs:G=true→∀j,g'.hs d j=g.hs 0 j){a b:AV}(h:LD d G a b){v:Value}(hv:RepA w g a v):RepA w' g' b v:=by
 rcases h with h|⟨l,m,rfl,rfl,hl,h⟩
 ·exact h.rep hs hv
 ·cases hv with
  |agg _ vs e1 e2=>exact .agg m vs (e1.trans hl) fun j h1 h2=>(h j _ _ (List.getElem?_eq_getElem (by omega)) (List.getElem?_eq_getElem h1)).rep hs (e2 j (by omega) h2)
def zi (c:ah):Prop:=∀t fz xs,c=.sl t fz xs→t.dull=true∧fz=false
def LC (c:ah):Prop:=(∃a,c=.av a∧tz a)∨∃(t:El) (xs:List t.den),c=.sl t false xs∧t.dull=true
theorem LC.dull {c:ah}(h:LC c):zi c:=by
 intro t fz xs e
 rcases h with ⟨a,rfl,_⟩|⟨t',xs',rfl,h⟩
 ·cases e
 ·cases e;exact ⟨h,rfl⟩
theorem LK.lc {k:LK}(h:k.lends=true)(x:k.den):LC (k.cell x):=by
 cases k<;>simp [LK.lends] at h
 all_goals (first
  |exact .inl ⟨_,rfl,by constructor⟩
  |skip)
 rename_i t fz
 cases fz with
 |true=>simp [LK.lends] at h
 |false=>exact .inr ⟨t,x,rfl,h⟩
theorem dQ.lc:∀(ks:List LK) (x:dQ.den ks),ks.all LK.lends=true→∀c∈dQ.cells ks x,LC c
 |[],_,_,c,h=>by simp [dQ.cells] at h
 |[k],x,hk,c,h=>by
  simp [dQ.cells] at h;subst h
  exact LK.lc (by simpa using hk) x
 |k :: k' :: ks,x,hk,c,h=>by
  rw [List.all_cons,Bool.and_eq_true] at hk
  simp only [dQ.cells,List.mem_cons] at h
  rcases h with rfl|h
  ·exact LK.lc hk.1 _
  ·exact dQ.lc (k' :: ks) x.2 hk.2 c h
theorem wG {d j:Nat}{G:Bool}{c:ah}(hc:LC c)(hG:b6 [c]=true→G=true):EF d G (cellAV 0 j c) (cellAV d j c):=by
 rcases hc with ⟨a,rfl,h⟩|⟨t,xs,rfl,_⟩
 ·exact .inl ⟨h,rfl⟩
 ·exact .inr ⟨hG rfl,j,rfl,rfl⟩
theorem uK {d:Nat}{G:Bool}:∀(j:Nat) {cs:List ah},(∀c∈cs,LC c)→(b6 cs=true→G=true)→
  (a8 0 j cs).length=(a8 d j cs).length∧∀(i:Nat) (x y:AV),(a8 0 j cs)[i]?=some x→(a8 d j cs)[i]?=some y→EF d G x y
 |_,[],_,_=>⟨rfl,fun i x y h=>by simp [a8] at h⟩
 |j,c :: cs,hc,hG=>by
  have h1:b6 (c :: cs)=(b6 [c]||b6 cs):=by rw [←dW];rfl
  obtain ⟨q1,q2⟩:=uK (d:=d) (G:=G) (j+1) (cs:=cs) (fun c hm=>hc c (List.mem_cons_of_mem _ hm)) fun h=>hG (by rw [h1,h];simp)
  refine ⟨by simp only [a8,List.length_cons,q1],fun i x y h2 h3=>?_⟩
  simp only [a8] at h2 h3
  cases i with
  |zero=>simp only [List.getElem?_cons_zero,Option.some.injEq] at h2 h3;subst h2;subst h3;exact wG (hc c List.mem_cons_self) fun h=>hG (by rw [h1,h];rfl)
  |succ i=>exact q2 i x y (by simpa using h2) (by simpa using h3)
theorem RK.ld {k:RK}(h:k.lends=true)(d j:Nat)(G:Bool)(x:k.den)(hG:b6 (k.inj d j x).2=true→G=true):LD d G (k.inj 0 j x).1 (k.inj d j x).1∧∀c∈(k.inj d j x).2,zi c:=by
 cases k with
 |one k=>
  have hc:=LK.lc (k:=k) h x
  exact ⟨.inl (wG hc hG),fun c hm=>by simp [RK.inj] at hm;subst hm;exact hc.dull⟩
 |agg ks=>
  have hc:=dQ.lc ks x h
  obtain ⟨q1,q2⟩:=uK (d:=d) (G:=G) j hc hG
  exact ⟨.inr ⟨_,_,rfl,rfl,q1,q2⟩,fun c hm=>(hc c hm).dull⟩
 |el t=>simp [RK.lends] at h
 |ptr t=>simp [RK.lends] at h
def GM (d:Nat)(G:Bool)(l m:List AV):Prop:=l.length=m.length∧∀(i:Nat) (a b:AV),l[i]?=some a→m[i]?=some b→LD d G a b
theorem dy.ld (d:Nat)(G:Bool):∀(j:Nat) (ks:List RK) (x:dy.den ks),ks.all RK.lends=true→(b6 (dy.inj d j ks x).2=true→G=true)→
  GM d G (dy.inj 0 j ks x).1 (dy.inj d j ks x).1∧∀c∈(dy.inj d j ks x).2,zi c
 |_,[],_,_,_=>by
  refine ⟨⟨rfl,fun i a b h=>?_⟩,fun c h=>?_⟩
  ·simp only [dy.inj,List.getElem?_nil] at h;cases h
  ·simp only [dy.inj,List.not_mem_nil] at h
 |j,[k],x,h,hG=>by
  simp only [List.all_cons,List.all_nil,Bool.and_true] at h
  obtain ⟨h1,h2⟩:=RK.ld h d j G x hG
  refine ⟨⟨rfl,fun i a b q1 q2=>?_⟩,h2⟩
  simp only [dy.inj] at q1 q2
  cases i with
  |zero=>simp only [List.getElem?_cons_zero,Option.some.injEq] at q1 q2;subst q1;subst q2;exact h1
  |succ i=>simp at q1
 |j,k :: k' :: ks,x,h,hG=>by
  rw [List.all_cons,Bool.and_eq_true] at h
  simp only [dy.inj,dW] at hG ⊢
  obtain ⟨h1,h2⟩:=RK.ld h.1 d j G x.1 fun e=>hG (by rw [e];rfl)
  obtain ⟨⟨q1,q2⟩,q3⟩:=dy.ld d G (j+(k.inj d j x.1).2.length) (k' :: ks) x.2 h.2 fun e=>hG (by rw [e];simp)
  rw [←k.inj_two d j j x.1]
  refine ⟨⟨by simp only [List.length_cons,q1],fun i a b r1 r2=>?_⟩,fun c hc=>?_⟩
  ·cases i with
   |zero=>simp only [List.getElem?_cons_zero,Option.some.injEq] at r1 r2;subst r1;subst r2;exact h1
   |succ i=>exact q2 i a b (by simpa using r1) (by simpa using r2)
  ·rcases List.mem_append.1 hc with hc|hc
   ·exact h2 c hc
   ·exact q3 c hc
theorem yJ {d:Nat}{G:Bool}{l m:List AV}(hs:G=true→∀j,g'.hs d j=g.hs 0 j)(h:GM d G l m){v:Value}(hv:RepA w g (kp l) v):RepA w' g' (kp m) v:=by
 obtain ⟨hl,h⟩:=h
 match l,m,hl,h,hv with
 |[],[],_,_,hv=>
  cases hv with
  |tup _ vs e1 e2=>exact .tup [] vs e1 fun j h=>by simp at h
 |[a],[b],_,h,hv=>exact (h 0 a b rfl rfl).rep hs hv
 |a :: b :: l,c :: e :: m,hl,h,hv=>
  cases hv with
  |tup _ vs e1 e2=>exact .tup _ vs (e1.trans hl) fun j h1 h2=>(h j _ _ (List.getElem?_eq_getElem (by omega)) (List.getElem?_eq_getElem h1)).rep hs (e2 j (by omega) h2)
 |[],_ :: _,hl,_,_=>simp at hl
 |_ :: _,[],hl,_,_=>simp at hl
 |[_],_ :: _ :: _,hl,_,_=>simp at hl
 |_ :: _ :: _,[_],hl,_,_=>simp at hl
theorem xl {t:El}(ht:t.dull=true)(xs:List t.den):∀a,a∈ap t xs→tz a:=by
 intro a ha
 simp only [ap,List.mem_flatMap] at ha
 obtain ⟨x,_,hx⟩:=ha
 cases t<;>simp [El.dull] at ht<;>simp [El.cells] at hx<;>subst hx<;>constructor
def Handed (os:List fH)(s:Nat)(x:Option Nat):Prop:=(x=none∧∃i,bp os i s)∨∃i p j,x=some j∧ck os i p s j
open Classical in
noncomputable def lX (os:List fH)(d:Nat)(G:Bool):Af→Af
 |.imm=>.imm
 |.obj s x=>if s=0∧G=true then .obj d x else if h:∃p:Nat×Nat,s=1000+p.1∧bp os p.1 p.2 then .obj h.choose.2 x else .other
 |_=>.other
open Classical in
noncomputable def eI (w:World)(g gc':Gh)(os:List fH)(d:Nat)(G:Bool):Gh where
 who b o:=if b<w.heap.size then (match g.who b o with|.obj s x=>if Handed os s x then lX os d G (gc'.who b o) else .obj s x|q=>q) else lX os d G (gc'.who b o)
 hs s j:=if s=d∧G=true then gc'.hs 0 j else if h:∃i,bp os i s then gc'.hs (1000+h.choose) j else g.hs s j
 hb:=g.hb
section
variable {L:fy}{os:List fH}{d:Nat}{G:Bool}
theorem pD (x:Option Nat):lX os d true (.obj 0 x)=.obj d x:=by simp [lX]
theorem rD {i s:Nat}(h:bp os i s)(x:Option Nat):lX os d G (.obj (1000+i) x)=.obj s x:=by
 have hex:∃p:Nat×Nat,1000+i=1000+p.1∧bp os p.1 p.2:=⟨(i,s),rfl,h⟩
 simp only [lX]
 rw [if_neg (by omega),dif_pos hex]
 obtain ⟨h1,h2⟩:=hex.choose_spec
 have h3:i=hex.choose.1:=by omega
 rw [←h3] at h2
 rw [re h2 h]
theorem l9 (hg:CG L g gc os)(hi:eS w gc w' gc')(hf:∀s j b o,¬L s j b o){b o:Nat}{q:Af}(hq:gc'.who b o=q)(hq':q=.imm∨∃s x,q=.obj s x):(eI w g gc' os d G).who b o=lX os d G q:=by
 simp only [eI]
 by_cases hb:b<w.heap.size
 ·rw [if_pos hb]
  cases hw:g.who b o with
  |imm=>
   have:=hi.imm b o hb (hg.imm b o hw)
   rw [hq] at this;subst this;rfl
  |bor=>
   have:=hi.bor b o hb (hg.bor b o hw)
   rw [hq] at this;subst this
   rcases hq' with h|⟨_,_,h⟩<;>cases h
  |other=>
   have:=hi.other b o hb (hg.other b o hw)
   rw [hq] at this;subst this
   rcases hq' with h|⟨_,_,h⟩<;>cases h
  |obj s x=>
   by_cases hh:Handed os s x
   ·simp only [hh,if_true];rw [hq]
   ·exfalso
    cases x with
    |none=>
     have:=hi.bor b o hb (hg.box b o s hw fun i h=>hh (.inl ⟨rfl,i,h⟩))
     rw [hq] at this;subst this
     rcases hq' with h|⟨_,_,h⟩<;>cases h
    |some j=>
     have:=hi.other b o hb (hg.keepo b o s j (hf s j b o) hw fun i p h=>hh (.inr ⟨i,p,j,rfl,h⟩))
     rw [hq] at this;subst this
     rcases hq' with h|⟨_,_,h⟩<;>cases h
 ·rw [if_neg hb,hq]
theorem rW (hg:CG L g gc os)(hi:eS w gc w' gc')(hf:∀s j b o,¬L s j b o):∀b o v,w'.cell? ⟨b,o,none⟩=some v→gc'.who b o=.imm→(eI w g gc' os d G).who b o=.imm:=
 fun b o _ _ h=>l9 hg hi hf h (.inl rfl)
theorem bZ.aft (hg:CG L g gc os)(hi:eS w gc w' gc')(hf:∀s j b o,¬L s j b o){s0 s1 j:Nat}{t:El}{fz:Bool}{xs:List t.den}(h:bZ aa w' gc' s0 j t fz xs)
  (hs:(eI w g gc' os d G).hs s1 j=gc'.hs s0 j) (hb:∀x,lX os d G (.obj s0 x)=.obj s1 x):bZ aa w' (eI w g gc' os d G) s1 j t fz xs:=by
 rcases h.c with ⟨⟨vs,h1,h2,h3⟩,hown⟩|⟨h1,h2,a,h3⟩
 rotate_left
 ·exact ⟨.inr ⟨h1,h2,a,hs.trans h3⟩⟩
 refine ⟨.inl ⟨⟨vs,by rw [hs];exact h1,h2,fun i h h'=>(h3 i h h').plain (rW hg hi hf) (gp t xs _ (List.getElem_mem h))⟩,fun b m cap e=>?_⟩⟩
 rw [hs] at e
 obtain ⟨hlt,hw⟩:=hown b m cap e
 refine ⟨hlt,fun o=>?_⟩
 have:=hw o
 split at this
 ·rename_i ho
  rw [if_pos ho]
  cases fz with
  |true=>exact l9 hg hi hf (by simpa using this) (.inl rfl)
  |false=>
   rw [l9 hg hi hf (q:=.obj s0 (some j)) (by simpa using this) (.inr ⟨_,_,rfl⟩)]
   exact hb _
 ·rename_i ho
  rw [if_neg ho,l9 hg hi hf this (.inr ⟨_,_,rfl⟩)]
  exact hb _
theorem bZ.aftD (hg:CG L g gc os)(hi:eS w gc w' gc')(hos:os=[]){s0 s1 j:Nat}{t:El}{xs:List t.den}(ht:t.dull=true)(h:bZ aa w' gc' s0 j t false xs)
  (hs:(eI w g gc' os d G).hs s1 j=gc'.hs s0 j) (hb:∀x,lX os d G (.obj s0 x)=.obj s1 x):bZ aa w' (eI w g gc' os d G) s1 j t false xs:=by
 have who:∀b o,gc'.who b o=.obj s0 (some j)→(eI w g gc' os d G).who b o=.obj s1 (some j):=by
  intro b o hq
  simp only [eI]
  by_cases hlt:b<w.heap.size
  ·exfalso
   cases hw:g.who b o with
   |imm=>have:=hi.imm b o hlt (hg.imm b o hw);rw [hq] at this;cases this
   |bor=>have:=hi.bor b o hlt (hg.bor b o hw);rw [hq] at this;cases this
   |other=>have:=hi.other b o hlt (hg.other b o hw);rw [hq] at this;cases this
   |obj s x=>
    cases x with
    |none=>have:=hi.bor b o hlt (hg.box b o s hw fun i ⟨o,h,_⟩=>by subst hos;simp at h);rw [hq] at this;cases this
    |some j'=>
     have hns:∀i p,¬ck os i p s j':=fun i p ⟨o,h,_⟩=>by subst hos;simp at h
     by_cases hL:L s j' b o
     ·have:=hi.imm b o hlt (hg.lent b o s j' hL hw hns);rw [hq] at this;cases this
     ·have:=hi.other b o hlt (hg.keepo b o s j' hL hw hns);rw [hq] at this;cases this
  ·rw [if_neg hlt,hq];exact hb _
 rcases h.c with ⟨⟨vs,h1,h2,h3⟩,hown⟩|⟨h1,h2,a,h3⟩
 rotate_left
 ·exact ⟨.inr ⟨h1,h2,a,hs.trans h3⟩⟩
 refine ⟨.inl ⟨⟨vs,by rw [hs];exact h1,h2,fun i h h'=>(h3 i h h').dull (xl ht xs _ (List.getElem_mem h))⟩,fun b m cap e=>?_⟩⟩
 rw [hs] at e
 obtain ⟨hlt,hw⟩:=hown b m cap e
 refine ⟨hlt,fun o=>?_⟩
 have:=hw o
 split at this
 ·rename_i ho
  rw [if_pos ho]
  exact who b o (by simpa using this)
 ·rename_i ho
  rw [if_neg ho]
  exact who b o this
inductive NS:AV→Prop
 |dull (b:AV) (h:tz b):NS b
 |L (t:El) (xs:List t.den) (h:t.noStr=true):NS (.L t xs)
theorem s8 {t:El}(ht:t.noStr=true)(x:t.den):∀a,a∈t.cells x→NS a:=by
 intro a ha
 cases t<;>simp [El.noStr] at ht<;>simp [El.cells] at ha
 ·subst ha;exact .dull _ (.int _ _)
 ·subst ha;exact .dull _ (.bool _)
 ·subst ha;exact .L _ _ ht
 ·rcases ha with h|h|h<;>subst h<;>first|exact .dull _ (.int _ _)|exact .dull _ (.bool _)
 ·rcases ha with h|h|h|h|h|h|h<;>subst h<;>first|exact .dull _ (.int _ _)|exact .dull _ (.str _)|exact .L _ _ rfl
 ·rcases ha with h|h|h|h<;>subst h<;>exact .dull _ (.int _ _)
theorem Bg {t:El}(ht:t.noStr=true)(xs:List t.den):∀a,a∈ap t xs→NS a:=by
 intro a ha
 simp only [ap,List.mem_flatMap] at ha
 obtain ⟨x,_,hx⟩:=ha
 exact s8 ht x a hx
theorem vJ {t:El}(ht:t.noStr=true){xs:List t.den}(h:0<(ap t xs).length){v:Value}(hv:RepA w g ((ap t xs)[0]) v)(l:ByteArray):v≠.string l:=by
 rintro rfl
 cases xs with
 |nil=>simp [ap] at h
 |cons x xs=>
  have e:∃a r,ap t (x :: xs)=a :: r∧((∃k n,a=.int k n)∨(∃b,a=.bool b)∨∃u ys,a=.L u ys):=by
   cases t<;>simp [El.noStr] at ht<;>first|exact ⟨_,_,rfl,.inl ⟨_,_,rfl⟩⟩|exact ⟨_,_,rfl,.inr (.inl ⟨_,rfl⟩)⟩|exact ⟨_,_,rfl,.inr (.inr ⟨_,_,rfl⟩)⟩
  obtain ⟨a,r,e,hne⟩:=e
  have e2:(ap t (x :: xs))[0]=a:=by simp [e]
  rw [e2] at hv
  rcases hne with ⟨k,n,rfl⟩|⟨b,rfl⟩|⟨u,ys,rfl⟩<;>cases hv
def BF (w:World)(g:Gh)(L:fy):Prop:=∀s j b o,L s j b o→∀o',o'≤o→L s j b o'∧g.who b o'=.obj s (some j)∧b<w.heap.size∧∃l,w.cell? ⟨b,o',none⟩=some (.string l)
theorem RepA.ns (hg:CG L g gc [])(hi:eS w gc w' gc')(hL:BF w g L){b:AV}{v:Value}(h:RepA w' gc' b v):NS b→RepA w' (eI w g gc' [] d G) b v:=by
 induction h with
 |list t xs b o cap vals hcap hcc hr ih=>
  intro hb
  have ht:t.noStr=true:=by
   cases hb with
   |dull _ h=>cases h
   |L _ _ h=>exact h
  refine .list t xs b o cap vals hcap (fun j hj=>⟨?_,(hcc j hj).2⟩) (fun j hj=>ih j hj (Bg ht xs _ (List.getElem_mem hj)))
  have hq:=(hcc j hj).1
  simp only [eI]
  by_cases hlt:b<w.heap.size
  ·rw [if_pos hlt]
   have hns:∀s j' i p,¬ck [] i p s j':=fun s j' i p ⟨o,h,_⟩=>by simp at h
   cases hw:g.who b (o+j) with
   |imm=>rfl
   |bor=>have:=hi.bor b _ hlt (hg.bor b _ hw);rw [hq] at this;cases this
   |other=>have:=hi.other b _ hlt (hg.other b _ hw);rw [hq] at this;cases this
   |obj s x=>
    exfalso
    cases x with
    |none=>have:=hi.bor b _ hlt (hg.box b _ s hw fun i ⟨o,h,_⟩=>by simp at h);rw [hq] at this;cases this
    |some j'=>
     by_cases hl:L s j' b (o+j)
     ·obtain ⟨l1,l2,_,l,l3⟩:=hL s j' b (o+j) hl o (by omega)
      have h0:0<(ap t xs).length:=by omega
      have himm:=hg.lent b o s j' l1 l2 (hns s j')
      have hcel:w'.cell? ⟨b,o,none⟩=some (.string l):=by
       rw [hi.chg.cel b o hlt (fun ⟨s,x,e⟩=>by rw [himm] at e;cases e)];exact l3
      have h1:=(hcc 0 h0).2
      rw [Nat.add_zero,hcel] at h1
      exact vJ ht h0 (hr 0 h0) l (Option.some.inj h1).symm
     ·have:=hi.other b _ hlt (hg.keepo b _ s j' hl hw (hns s j'));rw [hq] at this;cases this
  ·rw [if_neg hlt,hq];rfl
 |lnil t a cap=>intro _;exact .lnil t a cap
 |bool b=>intro _;constructor
 |int k n=>intro _;constructor
 |str l=>intro _;constructor
 |opt1 t x v h ih=>intro h;cases h with|dull _ h=>cases h
 |_=>intro h;cases h with|dull _ h=>cases h
theorem RK.ns {k:RK}(h:k.lendsS=true)(d j:Nat)(x:k.den):(k.inj d j x).2.length≤1∧b6 (k.inj d j x).2=false∧(k.inj d j x).1=(k.inj 0 j x).1∧(NS (k.inj d j x).1∨∃l,(k.inj d j x).1=.agg l∧∀a∈l,NS a):=by
 cases k with
 |one k=>cases k<;>simp [RK.lendsS] at h<;>exact ⟨by simp [RK.inj],rfl,rfl,.inl (.dull _ (by constructor))⟩
 |agg ks=>simp [RK.lendsS] at h
 |el t=>
  refine ⟨by simp [RK.inj],rfl,rfl,?_⟩
  have hc:=s8 (t:=t) h x
  cases t with
  |int k=>exact .inl (.dull _ (.int _ _))
  |bool=>exact .inl (.dull _ (.bool _))
  |str=>cases h
  |list e=>exact .inl (.L _ _ h)
  |node=>exact .inr ⟨_,rfl,hc⟩
  |arr=>exact .inr ⟨_,rfl,hc⟩
  |col=>cases h
  |blk=>exact .inr ⟨_,rfl,hc⟩
  |byt=>cases h
 |ptr t=>simp [RK.lendsS] at h
theorem dy.ns (d:Nat):∀(j:Nat) (ks:List RK) (x:dy.den ks),ks.all RK.lendsS=true→b6 (dy.inj d j ks x).2=false∧(dy.inj d j ks x).1=(dy.inj 0 j ks x).1∧∀a∈(dy.inj d j ks x).1,NS a∨∃l,a=.agg l∧∀b∈l,NS b
 |_,[],_,_=>⟨rfl,rfl,fun a h=>by simp [dy.inj] at h⟩
 |j,[k],x,h=>by
  simp only [List.all_cons,List.all_nil,Bool.and_true] at h
  obtain ⟨_,h1,h2,h3⟩:=RK.ns h d j x
  exact ⟨h1,by simp only [dy.inj,h2],fun a ha=>by simp [dy.inj] at ha;subst ha;exact h3⟩
 |j,k :: k' :: ks,x,h=>by
  rw [List.all_cons,Bool.and_eq_true] at h
  obtain ⟨_,h1,h2,h3⟩:=RK.ns h.1 d j x.1
  obtain ⟨q1,q2,q3⟩:=dy.ns d (j+(k.inj d j x.1).2.length) (k' :: ks) x.2 h.2
  refine ⟨?_,?_,fun a ha=>?_⟩
  ·simp only [dy.inj,dW,h1,q1,Bool.or_false]
  ·simp only [dy.inj,h2,q2]
   rw [k.inj_two d j j x.1]
  ·simp only [dy.inj,List.mem_cons] at ha
   rcases ha with rfl|ha
   ·exact h3
   ·exact q3 a ha
theorem yM (hg:CG L g gc [])(hi:eS w gc w' gc')(hL:BF w g L){l:List AV}(h:∀a∈l,NS a∨∃m,a=.agg m∧∀b∈m,NS b){v:Value}(hv:RepA w' gc' (kp l) v):RepA w' (eI w g gc' [] d G) (kp l) v:=by
 have one:∀{a:AV}{v:Value},(NS a∨∃m,a=.agg m∧∀b∈m,NS b)→RepA w' gc' a v→RepA w' (eI w g gc' [] d G) a v:=by
  intro a v h hv
  rcases h with h|⟨m,rfl,h⟩
  ·exact hv.ns hg hi hL h
  ·obtain ⟨vs,rfl,e1,e2⟩:=hv.agg_inv
   exact .agg m vs e1 fun j h1 h2=>(e2 j h1 h2).ns hg hi hL (h _ (List.getElem_mem h1))
 match l,h,hv with
 |[],_,hv=>
  cases hv with
  |tup _ vs e1 e2=>exact .tup [] vs e1 fun j h=>by simp at h
 |[a],h,hv=>exact one (h a (by simp)) hv
 |a :: b :: l,h,hv=>
  cases hv with
  |tup _ vs e1 e2=>exact .tup _ vs e1 fun j h1 h2=>one (h _ (List.getElem_mem h1)) (e2 j h1 h2)
theorem uY (hn:(aN os).Nodup){i s:Nat}(h:bp os i s)(hd:¬(s=d∧G=true))(j:Nat):(eI w g gc' os d G).hs s j=gc'.hs (1000+i) j:=by
 have hex:∃i,bp os i s:=⟨i,h⟩
 simp only [eI]
 rw [if_neg hd,dif_pos hex,oV hn hex.choose_spec h]
theorem lH {s j:Nat}(hd:¬(s=d∧G=true))(h:∀i,¬bp os i s):(eI w g gc' os d G).hs s j=g.hs s j:=by
 simp only [eI]
 rw [if_neg hd,dif_neg fun ⟨i,hi⟩=>h i hi]
theorem rN (hg:CG L g gc os)(hi:eS w gc w' gc'):gy w w' fun b o=>∃s x,g.who b o=.obj s x∧Handed os s x:=by
 refine hi.chg.mono ?_
 rintro b o _ ⟨s',x,e⟩
 rcases hg.from_ b o s' x e with ⟨i,p,s,j,h1,_,_,h2⟩|⟨i,s,h1,_,_,h2⟩
 ·exact ⟨_,_,h2,.inr ⟨i,p,j,rfl,h1⟩⟩
 ·exact ⟨_,_,h2,.inl ⟨rfl,i,h1⟩⟩
theorem eF {b o:Nat}(hb:b<w.heap.size){q:Af}(h:g.who b o=q)(hq:∀s x,q=.obj s x→¬Handed os s x):(eI w g gc' os d G).who b o=q:=by
 simp only [eI]
 rw [if_pos hb,h]
 cases q with
 |obj s x=>simp only;rw [if_neg (hq s x rfl)]
 |_=>rfl
theorem xi {os:List fH}{s:Nat}(h:s∈aN os):∃i,bp os i s:=by
 induction os with
 |nil=>simp [aN] at h
 |cons y os ih=>
  have up:(∃i,bp os i s)→∃i,bp (y :: os) i s:=fun ⟨i,o,h1,h2⟩=>⟨i+1,o,by simpa using h1,h2⟩
  simp only [aN] at h
  cases hy:y.box with
  |none=>rw [hy] at h;exact up (ih h)
  |some s'=>
   rw [hy] at h
   rcases List.mem_cons.mp h with rfl|h
   ·exact ⟨0,y,rfl,hy⟩
   ·exact up (ih h)
theorem DV:GA w g (eI w g gc' os d G) fun s x=>(s=d∧G=true)∨(s∈aN os∧x≠none):=by
 refine ⟨fun b o hb h=>eF hb h (fun s x e=>by cases e),fun b o hb h=>eF hb h (fun s x e=>by cases e),fun s j h=>?_,fun s _=>rfl⟩
 refine lH (fun e=>h (.inl e)) fun i hb=>h (.inr ⟨nf hb,by simp⟩)
theorem Bj (hg:CG L g gc os)(hi:eS w gc w' gc'):eS w g w' (eI w g gc' os d G):=
 ⟨(rN hg hi).mono fun _ _ _ ⟨s,x,h,_⟩=>⟨s,x,h⟩,fun b o hb h=>eF hb h (fun s x e=>by cases e),fun b o hb h=>eF hb h (fun s x e=>by cases e),
  fun b o hb h=>eF hb h (fun s x e=>by cases e),fun _ _=>rfl⟩
theorem wM {sg:bg}{r:sg.den}{v:Value}{rs:List (Nat×ae)}(hg:CG L g gc os)(hn:(aN os).Nodup)(hi:eS w gc w' gc')(hr:li aa w' gc' sg r v)
  (hmode:(∀s j b o,¬L s j b o)∨(os=[]∧(sg.lends=true∨(sg.lendsS=true∧BF w g L))))
  (hrs:∀s q,look s rs=some q→(∃i,bp os i s∧(i,q.cs)∈cM.cells sg.back (sg.back1 r)∧q.box=true)∨
   (aB aa w g s q∧(∀i,¬bp os i s)∧∀i p j,ck os i p s j→∀t fz xs,q.cs[j]?≠some (.sl t fz xs)))
  (hG:G=b6 (dy.inj d 0 sg.res (sg.res1 r)).2):
  dM aa w g w' (eI w g gc' os d G) d (kp (dy.inj d 0 sg.res (sg.res1 r)).1) v (bif G then some ⟨false,(dy.inj d 0 sg.res (sg.res1 r)).2⟩ else none) rs (aN os):=by
 have hga:=DV (w:=w) (g:=g) (gc':=gc') (os:=os) (d:=d) (G:=G)
 have hchg:=rN hg hi
 have hM:∀b o,b<w.heap.size→(∃s x,g.who b o=.obj s x∧Handed os s x)→∃s x,g.who b o=.obj s x:=fun _ _ _ ⟨s,x,h,_⟩=>⟨s,x,h⟩
 -- results that lend
 have hld:sg.lends=true→_:=fun hl=>dy.ld d G 0 sg.res (sg.res1 r) (by
  unfold bg.lends at hl
  rw [Bool.and_eq_true] at hl
  exact hl.2) fun h=>hG.trans h
 have hls:sg.lendsS=true→_:=fun hl=>dy.ns d 0 sg.res (sg.res1 r) (by
  unfold bg.lendsS at hl
  rw [Bool.and_eq_true] at hl
  exact hl.2)
 -- the roots
 have hroots:∀s q,look s rs=some q→¬(s=d∧G=true)→∀k:List ah→List ah,(∀cs,∀{j:Nat}{t:El}{fz:Bool}{xs:List t.den},(k cs)[j]?=some (ah.sl t fz xs)↔cs[j]?=some (ah.sl t fz xs))→
   (∀cs b,ah.av b∈k (killBs (aN os) cs)→aj (fun s x=>(s=d∧G=true)∨(s∈aN os∧x≠none)) b)→
   (∀{w:World}{g:Gh}{b cs},aB aa w g s ⟨b,cs⟩→aB aa w g s ⟨b,k cs⟩)→aB aa w' (eI w g gc' os d G) s ⟨q.box,k (killBs (aN os) q.cs)⟩:=by
  intro s q hq hsd k hk hka hkr
  rcases hrs s q hq with ⟨i,hb,hm,hbox⟩|⟨hR,hnb,hns⟩
  ·-- a box that came back
   have hf:∀s j b o,¬L s j b o:=by
    rcases hmode with h|⟨h,_⟩
    ·exact h
    ·obtain ⟨_,h',_⟩:=hb;rw [h] at h';simp at h'
   have hR:=hr.back i _ hm
   have hpl:=cM.plain _ _ i _ hm
   rw [hbox]
   refine hkr (aB.killBs _ ?_)
   refine ⟨fun h=>(by cases h),fun _=>?_⟩
   obtain ⟨vals,hv⟩:=hR.box rfl
   refine ⟨vals,fun j hj=>?_⟩
   obtain ⟨h1,h2,h3,h4,h5⟩:=hv j hj
   have ehb:gc'.hb (1000+i)=g.hb s:=(hi.hb _ (by omega)).trans (hg.hb i s hb)
   rw [ehb] at h1 h2 h3 h4
   refine ⟨h1,?_,h3,h4,?_⟩
   ·show (eI w g gc' os d G).who (g.hb s).1 ((g.hb s).2+j)=_
    rw [l9 hg hi hf h2 (.inr ⟨_,_,rfl⟩)]
    exact rD hb none
   ·have key:∀c v,q.cs[j]=c→cw aa w' gc' (1000+i) j c v→cw aa w' (eI w g gc' os d G) s j c v:=by
     intro c v hc h
     cases h with
     |av b v h=>exact .av b v (h.plain (rW hg hi hf) (hpl _ (by rw [←hc];exact List.getElem_mem hj) b rfl))
     |sl t fz xs h=>
      have e:=uY (w:=w) (g:=g) (gc':=gc') hn hb hsd j
      rw [←e]
      exact .sl t fz xs (h.aft hg hi hf e (rD hb))
    exact key _ _ rfl h5
  ·refine aB.pres2 hchg hga (r:=⟨q.box,k (killBs (aN os) q.cs)⟩) ?_ ?_ ?_ ?_ (hkr (aB.killBs _ hR))
   ·rintro b o _ ⟨s',x,e,hh⟩
    refine ⟨s',x,e,?_⟩
    by_cases hss:s'=s
    ·subst hss
     rcases hh with ⟨_,i,h⟩|⟨i,p,j,rfl,h⟩
     ·exact absurd h (hnb i)
     ·refine .inr ⟨j,rfl,fun t fz xs e2=>?_⟩
      exact hns i p j h t fz xs ((mR _).1 ((hk _).1 e2))
    ·exact .inl hss
   ·intro b o x hb e hx
    refine eF hb e fun s' x' e'=>?_
    cases e'
    rintro (⟨_,i,h⟩|⟨i,p,j,rfl,h⟩)
    ·exact hnb i h
    ·obtain ⟨t,fz,xs,e2⟩:=hx j rfl
     exact hns i p j h t fz xs ((mR _).1 ((hk _).1 e2))
   ·rintro x (h|⟨h,_⟩)
    ·exact hsd h
    ·have:∃i,bp os i s:=by
      exact xi h
     obtain ⟨i,hi⟩:=this
     exact hnb i hi
   ·exact fun b hb=>hka _ b hb
 refine ⟨Bj hg hi,?_,?_,?_,?_,?_⟩
 ·intro b u hb hd hks
  refine hb.pres hchg hM hga ?_
  cases hGv:G with
  |false=>
   refine hks.mono fun s x h=>?_
   rcases h with ⟨_,h⟩|h
   ·cases h
   ·exact h
  |true=>
   rw [hGv] at hd
   rcases hd with h|h
   ·cases h
   ·refine h.or hks fun s x h=>?_
    rcases h with ⟨h,_⟩|h
    ·exact .inl h
    ·exact .inr h
 ·rcases hmode with hl|⟨rfl,hl|⟨hl,hL⟩⟩
  ·refine (yR (dy.rn 0 sg.res (sg.res1 r) (d:=d) (G:=G) fun h=>hG.trans h)).rep (rW hg hi hl) (fun hGt j=>?_) hr.val
   simp [eI,hGt]
  ·exact yJ (fun hGt j=>by simp [eI,hGt]) (hld hl).1 hr.val
  ·obtain ⟨_,h2,h3⟩:=hls hl
   have:=hr.val
   rw [←h2] at this
   exact yM hg hi hL h3 this
 ·intro hnone s q hq
  have hGf:G=false:=by
   cases hGv:G with
   |false=>rfl
   |true=>rw [hGv] at hnone;cases hnone
  refine hroots s q hq (by rw [hGf];simp) id (fun _=>Iff.rfl) (fun cs b hb=>?_) (fun h=>h)
  obtain ⟨c,_,rfl⟩:=lQ _ hb
  refine (dp (aN os) c).mono fun s x h=>?_
  rcases h with ⟨_,h⟩|h
  ·rw [hGf] at h;cases h
  ·exact h
 ·intro _ s q hq hsd
  refine hroots s q hq (fun h=>hsd h.1) (killC d) (fun _=>uH) (fun cs b hb=>?_) (fun h=>h.kill d)
  have h1:=fg hb
  have h2:∃c,ah.av c∈killBs (aN os) cs∧b=c.kill d:=by
   clear h1
   generalize killBs (aN os) cs=l at hb
   induction l with
   |nil=>simp [killC] at hb
   |cons c l ih=>
    simp only [killC,List.mem_cons] at hb
    rcases hb with h|h
    ·cases c with
     |av a=>simp only [ah.kill,ah.av.injEq] at h;exact ⟨a,by simp,h⟩
     |sl t fz xs=>simp [ah.kill] at h
    ·obtain ⟨c',q1,q2⟩:=ih h;exact ⟨c',List.mem_cons_of_mem _ q1,q2⟩
  obtain ⟨c,h3,rfl⟩:=h2
  obtain ⟨c',_,rfl⟩:=lQ _ h3
  refine h1.or ((dp (aN os) c').kill d) fun s x h=>?_
  rcases h with ⟨h,_⟩|h
  ·exact .inl h
  ·exact .inr h
 ·intro q hq
  have hGt:G=true:=by
   cases hGv:G with
   |true=>rfl
   |false=>rw [hGv] at hq;cases hq
  rw [hGt] at hq
  cases hq
  refine aB.kill d (r:=⟨false,_⟩) ⟨fun _ j t fz xs hj=>?_,fun h=>by cases h⟩
  have hj':(dy.inj 0 0 sg.res (sg.res1 r)).2[j]?=some (.sl t fz xs):=by rw [←dy.inj_two d 0 0];exact hj
  rcases hmode with hl|⟨hos,hl|⟨hl,_⟩⟩
  ·refine (hr.own.apart rfl j t fz xs hj').aft hg hi hl ?_ ?_
   ·simp [eI,hGt]
   ·intro x;rw [hGt];exact pD x
  ·obtain ⟨ht,rfl⟩:=(hld hl).2 _ (List.mem_of_getElem? hj) t fz xs rfl
   refine (hr.own.apart rfl j t false xs hj').aftD hg hi hos ht ?_ ?_
   ·simp [eI,hGt]
   ·intro x;rw [hGt];exact pD x
  ·rw [hG,(hls hl).1] at hGt;cases hGt
end
end
end Go.Proofs.YtjkokaockhecnaaGreatDoorA

namespace Go.Proofs.YtjkokaockhecnaaGreatDoorA
open Go
def Bi (w w':World)(v v':Value)(n m:Nat):Prop:=
 (v'=v∧w'=w)∨(∃b cap,v=.slice (some ⟨b,0,none⟩) n cap∧v'=.slice (some ⟨b,0,none⟩) m cap∧w.grownBy w' (some b))∨
  (∃cap,v'=.slice (some ⟨w.heap.size,0,none⟩) m cap∧w.grownBy w' none)
theorem lG {P:Program}{w:World}(t u ty e:TypeId)(i:TypeInfo)(ht:P.underlying t=some (.slice e))(hu:P.underlying u=some .string)(hi:P.info? e=some i)(hz:i.zero=some (.int .u8 0))
  (hsize:i.size=1) (hby:i.bytes=1) (v:Value) (n:Nat) (xs:List Value) (hown:w.ownsRow 0 e 1 v n xs) (s:ByteArray) (hbytes:n+s.size≤140737488355328):
  ∃v' w',(Builtin.append_ #[t,u] ty #[v,.string s]).run P w=.ok v' w'∧w'.ownsRow 0 e 1 v' (n+s.size) (xs++Lib.strCells s)∧Bi w w' v v' n (n+s.size):=by
 have hxl:xs.length=n:=by simpa using hown.1
 have hlen:(xs++Lib.strCells s).length=(n+s.size)*1:=by rw [List.length_append,hxl,Lib.strCells_length,Nat.mul_one]
 have h63:n+s.size≤maxLen:=by simp only [maxLen];omega
 have grown:∀(old:Nat),old<n+s.size→
   (w.drew.alloc (.cells (xs.toArray++(Lib.strCells s).toArray++Builtin.zeroCells (Value.int .u8 0).cells (grownCap w (n+s.size) old e - (n+s.size))) e)).ownsRow 0 e 1
    (.slice (some ⟨w.heap.size,0,none⟩) (n+s.size) (grownCap w (n+s.size) old e)) (n+s.size) (xs++Lib.strCells s):=by
  intro old ho
  have hge:=grownCap_ge w (n+s.size) old e
  have hcm:grownCap w (n+s.size) old e≤maxLen:=grownCap_le_maxLen w (n+s.size) old e h63
  refine ⟨hlen,.inr ⟨w.heap.size,_,_,rfl,Nat.zero_le _,heap_alloc_new w.drew _,hge,hcm,?_,?_⟩⟩
  ·have hz1:(Value.int IntKind.u8 0).cells.size=1:=rfl
   simp only [Array.size_append,List.size_toArray,size_zeroCells,hz1,hxl,Lib.strCells_length]
   omega
  ·simp only [Array.toList_append,List.append_assoc]
   rw [←List.append_assoc,←hlen]
   exact List.take_left
 have hgr:∀o:Obj,w.grownBy (w.drew.alloc o) none:=fun o=>⟨rfl,rfl,rfl,by simp,fun k hk _=>heap_alloc_old w.drew _ k hk⟩
 rcases hown.2 with ⟨rfl,rfl⟩|⟨g,cap,cur,rfl,hbg,hg,hnc,hcm,hcs,htake⟩
 ·have hx:xs=[]:=List.eq_nil_of_length_eq_zero hxl
  subst hx
  by_cases hm:s.size=0
  ·have hn:Lib.strCells s=[]:=List.eq_nil_of_length_eq_zero (by rw [Lib.strCells_length];exact hm)
   refine ⟨.slice none 0 0,w,?_,by rw [hm,hn];exact World.ownsRow_nil w 0 e 1,.inl ⟨rfl,rfl⟩⟩
   have hf:=Lib.run_firstCells_string (P:=P) w 1 s
   rw [hm] at hf
   simp [Builtin.append_,run_underlying ht,run_underlying hu,sizeOf,typeInfo,hi,hsize,Builtin.lenOf,hm,hf]
  ·have hr:=run_append_nil_string (P:=P) w t u ty e i (.int .u8 0) ht hu hi hz s (by omega) (by omega) (by rw [hby];omega)
   have h0:=grown 0 (by omega)
   simp only [Nat.zero_add,List.nil_append,Array.empty_append] at h0 ⊢
   have e1:(s.data.map fun b=>Value.int .u8 b.toNat)=(Lib.strCells s).toArray:=by
    apply Array.ext'
    simp [Lib.strCells]
   rw [e1] at hr
   exact ⟨_,_,hr,h0,.inr (.inr ⟨_,rfl,hgr _⟩)⟩
 ·by_cases hroom:n+s.size≤cap
  ·have hcs':cur.size=cap:=by simpa using hcs
   have hr:=Lib.run_append_room_string (P:=P) w t u ty e i ht hu hi hsize g n cap cur hg s hroom (by omega)
   refine ⟨_,_,hr,⟨hlen,.inr ⟨g,cap,_,rfl,hbg,setRow_heap w g cur _ e _ hg,hroom,hcm,?_,?_⟩⟩,.inr (.inl ⟨g,cap,rfl,rfl,⟨rfl,rfl,rfl,by simp,fun k _ hk=>setRow_other w g k _ (fun e=>hk (by simp [e]))⟩⟩)⟩
   ·simp only [List.size_toArray,List.length_append,List.length_take,List.length_drop,Array.length_toList,Lib.strCells_length]
    omega
   ·have ht':cur.toList.take n=xs:=by simpa using htake
    rw [ht',←hlen]
    exact List.take_left
  ·have holds:∀j u,xs[j]?=some u→w.cell? ((⟨g,0,none⟩:Addr).add j)=some u:=hown.cells (g:=g) rfl
   have hr:=Lib.run_append_grow_string (P:=P) w t u ty e i (.int .u8 0) ht hu hi hz ⟨g,0,none⟩ n cap xs (by rw [hsize];simpa using hxl) holds s (by omega) (by omega) (by rw [hby];exact growslice_fits (by omega) (by omega))
   exact ⟨_,_,hr,grown cap (by omega),.inr (.inr ⟨_,rfl,hgr _⟩)⟩
theorem jH {P:Program}{w:World}{ops:Array Oper}{rest:List Oper}{o:Oper}{a:Act}{Q:Exit→Act→World→Prop}(hgd:o.guard=none)(sl x:Operand)(t u:TypeId)
  (ho:o.op=.call { callee:=.builtin .append,args:=#[sl,x],argTypes:=#[t,u] })
  (e:TypeId) (i:TypeInfo) (ht:P.underlying t=some (.slice e)) (hu:P.underlying u=some .string) (hi:P.info? e=some i) (hz:i.zero=some (.int .u8 0))
  (hsize:i.size=1) (hby:i.bytes=1)
  (v:Value) (n:Nat) (xs:List Value) (hs:a.eval sl=v) (hown:w.ownsRow 0 e 1 v n xs) (s:ByteArray) (hx:a.eval x=.string s) (hbytes:n+s.size≤140737488355328)
  (h:∀v' w',w'.ownsRow 0 e 1 v' (n+s.size) (xs++Lib.strCells s)→Bi w w' v v' n (n+s.size)→wpList P ops Q rest (a.put o.dst v') w'):wpList P ops Q (o :: rest) a w:=by
 refine wpList_plain hgd fun K hK=>?_
 obtain ⟨v',w',hr,h2,h3⟩:=lG (P:=P) (w:=w) t u o.type e i ht hu hi hz hsize hby v n xs hown s hbytes
 unfold Oper.wp execOp
 simp only [ho,resolve,invoke,builtin,Sem.run_bind,Sem.run_pure,Result.andThen_ok,List.map_toArray,List.map_cons,List.map_nil,hs,hx,hr]
 exact hK _ _ (h v' w' h2 h3)
structure yY (P:Program)(f T e:Nat):Prop where
 bod:ff P f
 run:∀(w:World) (b:Nat) (p:Option Addr) (v:Value) (s:ByteArray) (n:Nat) (xs:List Value),
  w.shape? b=some (T,2)→w.cell? ⟨b,0,none⟩=some (.pointer p)→(p=none∨p=some ⟨b,0,none⟩)→w.frozen? ⟨b,0,none⟩=false→w.frozen? ⟨b,1,none⟩=false→
  w.cell? ⟨b,1,none⟩=some v→w.ownsRow 0 e 1 v n xs→v.ownBlock≠some b→n+s.size≤140737488355328→
  Calls P f #[.pointer (some ⟨b,0,none⟩),.string s] w fun ex w'=>∃r v' w1 w2,ex=.returned r∧(w1=w∧p=some ⟨b,0,none⟩∨w1=w.setCell ⟨b,0,none⟩ (.pointer (some ⟨b,0,none⟩)))∧
   w2.ownsRow 0 e 1 v' (n+s.size) (xs++Lib.strCells s)∧Bi w1 w2 v v' n (n+s.size)∧w'=w2.setCell ⟨b,1,none⟩ v'
structure zj (P:Program)(f T e:Nat):Prop where
 bod:ff P f
 nil:∀(w:World) (b:Nat) (ad:Option Addr) (c:Nat),w.cell? ⟨b,1,none⟩=some (.slice ad 0 c)→(∀q,ad=some q→(w.shape? q.block).isSome=true)→
  Calls P f #[.pointer (some ⟨b,0,none⟩)] w fun ex w'=>ex=.returned (.string ⟨#[]⟩)∧RowKit.Below w.heap.size w w'
 some:∀(w:World) (b g k c:Nat) (l:List Int),l≠[]→w.cell? ⟨b,1,none⟩=some (.slice (some ⟨g,0,none⟩) l.length c)→l.length≤c→c≤maxLen→w.shape? g=some (e,k)→l.length≤k→
  (∀j x,l[j]?=some x→w.cell? ⟨g,j,none⟩=some (.int .u8 x))→
  Calls P f #[.pointer (some ⟨b,0,none⟩)] w fun ex w'=>ex=.returned (.string ⟨(ab l).toArray⟩)∧w'=w.drew.freeze ⟨g,0,none⟩ l.length
section
variable {aa:aM}{n:Nat}{w w' w'':World}{g g' g'':Gh}{S S':St}{a:Act}{P:Program}
theorem tJ {o:Oper}{c:Call}{x:Operand}{f:FuncId}{caps:Array Value}(ho:o.op=.call c)(hc:c.callee=.value x)(hx:a.eval x=.func (.func f) #[] caps)(hb:ff P f):
  (execOp a.eval o).run P w=.ok (.enter f (c.args.map a.eval++caps)) w:=by
 obtain ⟨fn,h1,h2,h3⟩:=hb
 unfold execOp;rw [ho]
 simp only [resolve,hc,hx,Deferred.ofValue]
 have h2':fn.name≠ "runtime.NumGoroutine" :=by simpa using h2
 have h3':fn.body≠none:=by intro e;rw [e] at h3;simp at h3
 simp [invoke,callFunc,h1,h2',h3']
theorem jp {c:Call}{f:FuncId}{as:List AV}(h:cj S c=some (f,as))(hS:aV aa n w g S a):
  ∃vals:List Value,RepL w g as vals∧∀o:Oper,o.op=.call c→ff P f→(execOp a.eval o).run P w=.ok (.enter f vals.toArray) w:=by
 unfold cj at h
 split at h
 ·rename_i x hx
  split at h
  ·rename_i f' caps hev
   cases h
   have hv:=hS.ev x
   rw [hev] at hv
   generalize hu:a.eval x=u at hv
   cases hv with
   |fn _ _ vs e1 e2=>
    refine ⟨c.args.toList.map a.eval++vs,(hS.evL _).append ⟨e1,e2⟩,fun o ho hb=>?_⟩
    rw [tJ ho hx hu hb]
    congr 2
    apply Array.toList_inj.mp
    simp
  ·cases h
 ·cases h
end
end Go.Proofs.YtjkokaockhecnaaGreatDoorA

namespace Go.Proofs.YtjkokaockhecnaaGreatDoorA
open Go
theorem ie {w w':World}{e:TypeId}{size n:Nat}{v:Value}{xs:List Value}(h:w.ownsRow 0 e size v n xs)(hb:∀g,v.ownBlock=some g→w'.heap[g]?=w.heap[g]?):w'.ownsRow 0 e size v n xs:=by
 refine ⟨h.1,?_⟩
 rcases h.2 with h|⟨g,cap,cur,rfl,h1,h2,h3⟩
 ·exact .inl h
 ·exact .inr ⟨g,cap,cur,rfl,h1,(hb g rfl).trans h2,h3⟩
theorem um {w w':World}{v v':Value}{n m:Nat}{e:TypeId}{xs ys:List Value}(hrow:w.ownsRow 0 e 1 v n xs)(hrow':w'.ownsRow 0 e 1 v' m ys)(hpre:∀j,j<n→ys[j]?=xs[j]?)(hnm:n≤m)
  (h:Bi w w' v v' n m):gy w w' fun b o=>v.ownBlock=some b∧n≤o:=by
 rcases h with ⟨_,rfl⟩|⟨b,cap,rfl,rfl,hg⟩|⟨cap,rfl,hg⟩
 ·exact .refl _ _
 ·refine ⟨hg.os,hg.tape,hg.output,hg.size,fun k hk hn=>hg.block k hk (fun e=>?_),fun k o hk hn=>?_,fun k o hk hn=>?_,fun k hk=>?_⟩
  ·cases e;exact hn n ⟨rfl,Nat.le_refl _⟩
  ·by_cases hkb:k=b
   ·subst hkb
    have ho:o<n:=Nat.lt_of_not_le fun h=>hn ⟨rfl,h⟩
    rw [hrow'.cellAt o (by omega),hrow.cellAt o (by omega),hpre o ho]
   ·exact World.cell?_of_block (hg.block k hk (by simpa using hkb))
  ·by_cases hkb:k=b
   ·subst hkb
    rw [hrow'.frozenAt,hrow.frozenAt]
   ·exact World.frozen?_of_block (hg.block k hk (by simpa using hkb))
  ·by_cases hkb:k=b
   ·subst hkb
    rcases hrow.2 with ⟨e,_⟩|⟨b',cap',cur,e,_,h1,_,_,h2,_⟩
    ·cases e
    ·cases e
     rcases hrow'.2 with ⟨e,_⟩|⟨b',cap',cur',e,_,h1',_,_,h2',_⟩
     ·cases e
     ·cases e
      unfold World.shape?
      rw [h1,h1']
      simp [h2,h2']
   ·unfold World.shape?
    rw [hg.block k hk (by simpa using hkb)]
 ·exact .of_below ⟨hg.os,hg.tape,hg.output,hg.size,fun b hb=>hg.block b hb (by simp)⟩ _
section
variable {aa:aM}{n:Nat}{w w' w'':World}{g g' g'':Gh}{S:St}{a:Act}{P:Program}
theorem Ai {xs:List Int}{vals:List Value}(hl:vals.length=(ap (.int .u8) xs).length)
  (h:∀i (h:i<(ap (.int .u8) xs).length) (h':i<vals.length),RepA w g ((ap (.int .u8) xs)[i]) (vals[i])):vals=xs.map (Value.int .u8):=by
 refine List.ext_getElem (by rw [hl,gh];simp) fun i h1 h2=>?_
 have h3:i<(ap (.int .u8) xs).length:=by rw [←hl];exact h1
 have:=h i h3 h1
 simp only [gh,List.getElem_map] at this
 rw [this.int_inv,List.getElem_map]
theorem AB {xs:List Int}:∀i (h:i<(ap (.int .u8) xs).length) (h':i<(xs.map (Value.int .u8)).length),RepA w g ((ap (.int .u8) xs)[i]) ((xs.map (Value.int .u8))[i]):=by
 intro i h h'
 simp only [gh,List.getElem_map]
 exact .int _ _
theorem sb {s:Nat}{c:ah}{v:Value}{xs:List Int}(hc:cw aa w g s 1 c v)(h:wC c=some xs):
  w.ownsRow 0 (aa (.int .u8)) 1 v xs.length (xs.map (Value.int .u8))∧∀b m cap,v=.slice (some ⟨b,0,none⟩) m cap→b<w.heap.size∧∀o,g.who b o=.obj s (some 1):=by
 unfold wC at h
 split at h
 ·cases h
  cases hc with
  |av _ _ hv=>
   have e:v=.slice none 0 0:=by cases hv;rfl
   subst e
   exact ⟨World.ownsRow_nil w 0 _ 1,fun b m cap e=>by cases e⟩
 ·cases h
  obtain ⟨hs,e⟩:=hc.sl_inv
  subst e
  rcases hs.c with ⟨⟨vals,h1,h2,h3⟩,h4⟩|⟨h,_⟩
  rotate_left
  ·exact absurd rfl h
  rw [Ai h2 h3] at h1
  refine ⟨h1.row rfl,fun b m cap e=>?_⟩
  obtain ⟨q1,q2⟩:=h4 b m cap e
  exact ⟨q1,fun o=>by have:=q2 o;simpa using this⟩
 ·cases h
theorem BY {s b:Nat}{c:AV}{v:Value}(hb:g.hb s=(b,0))(h:qy s c=true)(hv:RepA w g c v):∃p,v=.pointer p∧(p=none∨p=some ⟨b,0,none⟩):=by
 unfold qy at h
 split at h
 ·cases hv;exact ⟨none,rfl,.inl rfl⟩
 ·have e:=Nat.eq_of_beq_eq_true h
  subst e
  cases hv with
  |bad0=>exact ⟨none,rfl,.inl rfl⟩
  |bad1=>rw [hb];exact ⟨_,rfl,.inr rfl⟩
 ·simp only [Bool.and_eq_true] at h
  have e:=Nat.eq_of_beq_eq_true h.1
  have e2:=Nat.eq_of_beq_eq_true h.2
  subst e;subst e2
  cases hv with
  |ref=>rw [hb];exact ⟨_,rfl,.inr rfl⟩
 ·cases h
theorem qb (x:List UInt8):Lib.strCells ⟨x.toArray⟩=(ac x).map (Value.int .u8):=by
 simp [Lib.strCells,ac]
def uC (w:World)(g:Gh)(s:Nat)(v:Value):Gh:=
 ⟨fun b o=>if b<w.heap.size then g.who b o else .obj s (some 1),fun q j=>if q=s∧j=1 then v else g.hs q j,g.hb⟩
theorem xF {R:Type}{o:Oper}{κ:AV→Option ae→List (Nat×ae)→List Nat→Option R}{r:R}{c:Call}{f:FuncId}{d s T:Nat}{x:List UInt8}(hbw:yY P f T (aa (.int .u8)))
  (ho:o.op=.call c) (hc:cj S c=some (f,[.refT s T,.str x])) (h:Be S s x (fun rs=>κ .und none rs [s])=some r) (hS:aV aa n w g S a):nF aa P w g a o d κ r:=by
 obtain ⟨vals,hvals,hrun⟩:=jp (P:=P) hc hS
 obtain ⟨v1,vs1,e1,hv1,hvals⟩:=hvals.cons_inv
 obtain ⟨v2,vs2,e2,hv2,hvals⟩:=hvals.cons_inv
 have e3:=hvals.nil_inv
 subst e3;subst e2;subst e1
 have ev2:=hv2.str_inv
 subst ev2
 unfold Be at h
 split at h
 ·rename_i a0 c0 hroot
  cases hbad:qy s a0 with
  |false=>rw [hbad] at h;cases h
  |true=>
   rw [hbad] at h
   simp only [cond] at h
   split at h
   ·rename_i xs hbuf
    cases hlen:decide (xs.length+x.length≤140737488355328) with
    |false=>rw [hlen] at h;cases h
    |true=>
     rw [hlen] at h
     simp only at h
     have hlen:=of_decide_eq_true hlen
     cases hv1 with
     |refT _ _ b hb hsh=>
      have hR:=hS.root hroot
      obtain ⟨vv,hvv⟩:=hR.box rfl
      obtain ⟨q1,q2,q3,q4,q5⟩:=hvv 0 (by simp)
      obtain ⟨p1,p2,p3,p4,p5⟩:=hvv 1 (by simp)
      rw [hb] at q1 q2 q3 q4 p1 p2 p3 p4
      simp only [Nat.zero_add,List.getElem_cons_zero,List.getElem_cons_succ] at q1 q2 q3 q4 q5 p1 p2 p3 p4 p5
      obtain ⟨hrow,hown⟩:=sb p5 hbuf
      obtain ⟨p,ep,hp⟩:=BY (v:=vv 0) hb hbad (by cases q5 with|av _ _ h=>exact h)
      rw [ep] at q3
      have hob:∀b' o',(vv 1).ownBlock=some b'→b'<w.heap.size∧g.who b' o'=.obj s (some 1):=by
       intro b' o' e
       rcases hrow.2 with ⟨e2,_⟩|⟨g2,cap,cur,e2,_⟩
       ·rw [e2] at e;cases e
       ·rw [e2] at e;cases e
        obtain ⟨k1,k2⟩:=hown _ _ _ e2
        exact ⟨k1,k2 o'⟩
      have hnb:(vv 1).ownBlock≠some b:=by
       intro e
       have:=(hob b 0 e).2
       rw [q2] at this;cases this
      have hxs:(⟨x.toArray⟩:ByteArray).size=x.length:=cG x
      have hcall:=hbw.run w b p (vv 1) ⟨x.toArray⟩ xs.length (xs.map (Value.int .u8)) hsh q3 hp q4 p4 p3 hrow hnb (by rw [hxs];exact hlen)
      intro K Q hK
      unfold Oper.wp
      rw [hrun o ho hbw.bod]
      show Calls P f _ w _
      refine Calls.mono hcall ?_
      rintro ex w3 ⟨r0,v',w1,w2,rfl,hw1,hrow2,happ,rfl⟩
      rw [hxs,qb,←List.map_append] at hrow2
      rw [hxs] at happ
      -- the world ahead of the append
      have hchg1:gy w w1 fun b' o'=>b'=b∧o'<1:=by
       rcases hw1 with ⟨rfl,_⟩|rfl
       ·exact .refl _ _
       ·have:=dH w b 0 [.pointer (some ⟨b,0,none⟩)]
        exact this.mono fun b' o' _ ⟨h1,_,h2⟩=>⟨h1,by simpa using h2⟩
      have hcell0:w1.cell? ⟨b,0,none⟩=some (.pointer (some ⟨b,0,none⟩)):=by
       rcases hw1 with ⟨rfl,rfl⟩|rfl
       ·exact q3
       ·exact World.cell?_setCell_same _ _ _ q3
      have hsz1:w1.heap.size=w.heap.size:=by
       rcases hw1 with ⟨rfl,_⟩|rfl
       ·rfl
       ·simp
      have hrow1:w1.ownsRow 0 (aa (.int .u8)) 1 (vv 1) xs.length (xs.map (Value.int .u8)):=by
       refine ie hrow fun k hk=>?_
       rcases hw1 with ⟨rfl,_⟩|rfl
       ·rfl
       ·exact dC b [.pointer (some ⟨b,0,none⟩)] 0 w k (fun e=>hnb (by rw [hk,e]))
      have hchg2:=um hrow1 hrow2 (fun j hj=>by rw [List.map_append,List.getElem?_append_left (by simpa using hj)]) (by omega) happ
      have hchg3:=dH w2 b 1 [v']
      have hchg:gy w (w2.setCell ⟨b,1,none⟩ v') fun b' o'=>(b'=b∧o'<2)∨((vv 1).ownBlock=some b'∧xs.length≤o'):=by
       refine ((hchg1.trans hchg2).trans hchg3).mono fun b' o' _ hm=>?_
       rcases hm with (⟨h1,h2⟩|h1)|⟨h1,h2,h3⟩
       ·exact .inl ⟨h1,by omega⟩
       ·exact .inr h1
       ·exact .inl ⟨h1,by simpa using h3⟩
      have hM:∀b' o',b'<w.heap.size→((b'=b∧o'<2)∨((vv 1).ownBlock=some b'∧xs.length≤o'))→∃y,g.who b' o'=.obj s y:=by
       rintro b' o' _ (⟨rfl,h2⟩|⟨h1,_⟩)
       ·rcases (by omega:o'=0∨o'=1) with rfl|rfl
        ·exact ⟨_,q2⟩
        ·exact ⟨_,p2⟩
       ·exact ⟨_,(hob b' o' h1).2⟩
      have hM':∀b' o',b'<w.heap.size→((b'=b∧o'<2)∨((vv 1).ownBlock=some b'∧xs.length≤o'))→∃s' y,g.who b' o'=.obj s' y:=fun b' o' hb hm=>let ⟨y,e⟩:=hM b' o' hb hm;⟨s,y,e⟩
      have hwho:∀b' o',b'<w.heap.size→(uC w g s v').who b' o'=g.who b' o':=fun b' o' hb=>by simp [uC,hb]
      have hga:GA w g (uC w g s v') fun q y=>q=s∧y=some 1:=by
       refine ⟨fun b' o' hb e=>(hwho b' o' hb).trans e,fun b' o' hb e=>(hwho b' o' hb).trans e,fun q j hn=>?_,fun _ _=>rfl⟩
       show (if q=s∧j=1 then v' else g.hs q j)=_
       rw [if_neg fun ⟨h1,h2⟩=>hn ⟨h1,by rw [h2]⟩]
      have hAv:∀{b:AV},aj (fun q x=>q∈[s]∧x≠none) b→aj (fun q x=>q=s∧x=some 1) b:=fun h=>h.mono fun q x ⟨e1,e2⟩=>⟨by rw [e1];simp,by rw [e2];simp⟩
      have hkill:∀{cs':List ah}{b:AV},ah.av b∈bK s cs'→aj (fun q x=>q=s∧x=some 1) b:=by
       intro cs' b hb
       obtain ⟨c,_,rfl⟩:=lL hb
       exact (jh s c).mono fun q x ⟨e1,e2⟩=>⟨e1,by rw [e2];simp⟩
      have hw2sz:w.heap.size≤w2.heap.size:=by rw [←hsz1];exact hchg2.size
      have hc20:w2.cell? ⟨b,0,none⟩=some (.pointer (some ⟨b,0,none⟩)):=
       (hchg2.cel b 0 (by rw [hsz1];exact q1) (fun hm=>hnb hm.1)).trans hcell0
      have hc21:w2.cell? ⟨b,1,none⟩=some (vv 1):=
       (hchg2.cel b 1 (by rw [hsz1];exact q1) (fun hm=>hnb hm.1)).trans ((hchg1.cel b 1 q1 (fun hm=>by omega)).trans p3)
      have hf2:∀j,j<2→w2.frozen? ⟨b,j,none⟩=false:=by
       intro j hj
       rw [hchg2.frz b j (by rw [hsz1];exact q1) (fun hm=>hnb hm.1)]
       have hw1f:w1.frozen? ⟨b,j,none⟩=w.frozen? ⟨b,j,none⟩:=by
        rcases hw1 with ⟨rfl,_⟩|rfl
        ·rfl
        ·exact World.frozen?_setCell _ _ _ _
       rw [hw1f]
       rcases (by omega:j=0∨j=1) with rfl|rfl
       ·exact q4
       ·exact p4
      refine hK _ _ _ _ _ _ _ h ⟨⟨hchg.mono hM',hga.imm,hga.bor,fun b' o' hb e=>(hwho b' o' hb).trans e,fun _ _=>rfl⟩,fun b' u hb' _ hav=>hb'.pres hchg hM' hga (hAv hav),.und _,fun _ q rq hq=>?_,fun h=>absurd rfl h,fun q h=>by cases h⟩
      rw [cX] at hq
      show aB aa _ _ q ⟨rq.box,bK s rq.cs⟩
      by_cases hqs:q=s
      ·subst hqs
       rw [if_pos rfl] at hq
       cases hq
       refine ⟨fun e=>(by cases e),fun _=>⟨fun j=>if j=0 then .pointer (some ⟨b,0,none⟩) else v',fun j hj=>?_⟩⟩
       have hbg:(uC w g q v').hb q=(b,0):=hb
       rw [hbg]
       simp only [Nat.zero_add]
       have hj2:j<2:=by simpa [bK,ah.killB] using hj
       have hbsz:b<(w2.setCell ⟨b,1,none⟩ v').heap.size:=by simp;omega
       rcases (by omega:j=0∨j=1) with rfl|rfl
       ·refine ⟨hbsz,(hwho _ _ q1).trans q2,?_,(World.frozen?_setCell _ _ _ _).trans (hf2 0 (by omega)),?_⟩
        ·rw [if_pos rfl,World.cell?_setCell_other _ _ _ _ (by simp)]
         exact hc20
        ·have:=RepA.bad1 (w:=w2.setCell ⟨b,1,none⟩ v') (g:=uC w g q v') q
         rw [hbg] at this
         exact .av _ _ this
       ·refine ⟨hbsz,(hwho _ _ q1).trans p2,?_,(World.frozen?_setCell _ _ _ _).trans (hf2 1 (by omega)),?_⟩
        ·rw [if_neg (by omega)]
         exact World.cell?_setCell_same _ _ _ hc21
        ·have hhs:v'=(uC w g q v').hs q 1:=by simp [uC]
         rw [if_neg (by omega)]
         have hsl:bZ aa (w2.setCell ⟨b,1,none⟩ v') (uC w g q v') q 1 (.int .u8) false (xs++ac x):=by
          have hv'b:v'.ownBlock≠some b:=by
           intro e
           rcases happ with ⟨rfl,_⟩|⟨b',cap,e1,e2,_⟩|⟨cap,e2,_⟩
           ·exact hnb e
           ·rw [e2] at e;rw [e1] at hnb;exact hnb e
           ·rw [e2] at e
            simp only [Value.ownBlock,Option.some.injEq] at e
            omega
          have hlen2:(xs++ac x).length=xs.length+x.length:=by simp [ac]
          refine ⟨.inl ⟨⟨_,?_,by rw [gh];simp,AB⟩,fun b' m cap e=>?_⟩⟩
          ·rw [←hhs,hlen2]
           exact gz.of (ie hrow2 fun k hk=>dC b [v'] 1 w2 k (fun e=>hv'b (by rw [hk,e]))) rfl
          ·rw [←hhs] at e
           have hblk:b'<w2.heap.size:=by
            rcases hrow2.2 with ⟨e2,_⟩|⟨b2,cap',cur,e2,_,hh,_⟩
            ·rw [e2] at e;cases e
            ·rw [e2] at e;cases e
             exact (Array.getElem?_eq_some_iff.mp hh).1
           refine ⟨by simpa using hblk,fun o'=>?_⟩
           simp only [Bool.false_eq_true,if_false,ite_self]
           show (if b'<w.heap.size then g.who b' o' else .obj q (some 1))=_
           split
           ·rename_i hlt
            rcases happ with ⟨e1,_⟩|⟨b3,cap3,e1,e2,_⟩|⟨cap3,e2,_⟩
            ·exact (hob b' o' (by rw [←e1,e];rfl)).2
            ·rw [e2] at e;cases e
             exact (hob b' o' (by rw [e1];rfl)).2
            ·rw [e2] at e;cases e
             omega
           ·rfl
         have:=cw.sl (aa:=aa) _ _ _ hsl
         rw [←hhs] at this
         exact this
      ·rw [if_neg hqs] at hq
       refine ((hS.rt q rq hq).killB (b:=rq.box) (cs:=rq.cs) s).pres hchg hga (fun b' o' hb hm=>?_) (fun b' o' y hb e=>(hwho b' o' hb).trans e) (fun y e=>hqs e.1) (fun b' hb'=>hkill hb')
       obtain ⟨y,e⟩:=hM b' o' hb hm
       exact ⟨s,y,e,fun e=>hqs e.symm⟩
   ·cases h
 ·cases h
end
end Go.Proofs.YtjkokaockhecnaaGreatDoorA

namespace Go.Proofs.YtjkokaockhecnaaGreatDoorA
open Go
theorem nL (w:World)(b n:Nat)(hn:n≠0){c:Array Value}{T lo hi:Nat}(h:w.heap[b]?=some (.cells c T (lo,hi)))(k:Nat):
  (w.freeze ⟨b,0,none⟩ n).heap[k]?=if k=b then some (.cells c T (if lo==hi then (0,n) else (min lo 0,max hi n))) else w.heap[k]?:=by
 unfold World.freeze
 rw [if_neg hn]
 simp only [Array.getElem?_modify]
 by_cases hk:b=k
 ·subst hk
  rw [if_pos rfl,if_pos rfl,h]
  simp
 ·rw [if_neg hk,if_neg fun e=>hk e.symm]
section
variable {aa:aM}{n:Nat}{w w' w'':World}{g g' g'':Gh}{S:St}{a:Act}{P:Program}
theorem uU (w:World)(b m k e:Nat)(hs:w.shape? b=some (e,k))(h0:m≠0)(hf:∀j,j<m→w.frozen? ⟨b,j,none⟩=true)(M:Nat→Nat→Prop):gy w (w.drew.freeze ⟨b,0,none⟩ m) M:=by
 unfold World.shape? at hs
 cases hb:w.heap[b]? with
 |none=>rw [hb] at hs;cases hs
 |some ob=>
  rw [hb] at hs
  cases ob with
  |cells c T fz=>
   obtain ⟨lo,hi⟩:=fz
   have h1:=hf 0 (by omega)
   have h2:=hf (m - 1) (by omega)
   unfold World.frozen? at h1 h2
   simp only [hb,Bool.and_eq_true,decide_eq_true_eq] at h1 h2
   have hh:∀k:Nat,(w.drew.freeze ⟨b,0,none⟩ m).heap[k]?=w.heap[k]?:=by
    intro k
    rw [nL w.drew b m h0 (c:=c) (T:=T) (lo:=lo) (hi:=hi) hb]
    split
    ·rename_i hk
     subst hk
     rw [hb]
     have:(lo==hi)=false:=by simp;omega
     rw [this]
     simp only [Bool.false_eq_true,if_false]
     rw [show min lo 0=lo by omega,show max hi m=hi by omega]
    ·rfl
   have hfr:∀x:World,(x.freeze ⟨b,0,none⟩ m).os=x.os∧(x.freeze ⟨b,0,none⟩ m).tape=x.tape∧(x.freeze ⟨b,0,none⟩ m).output=x.output∧(x.freeze ⟨b,0,none⟩ m).heap.size=x.heap.size:=by
    intro x
    unfold World.freeze
    rw [if_neg h0]
    exact ⟨rfl,rfl,rfl,by simp⟩
   obtain ⟨f1,f2,f3,f4⟩:=hfr w.drew
   refine ⟨f1,f2,f3,by rw [f4];exact Nat.le_refl _,fun b _ _=>hh b,fun b o _ _=>?_,fun b o _ _=>?_,fun b _=>?_⟩
   ·unfold World.cell?;simp only [hh]
   ·unfold World.frozen?;simp only [hh]
   ·unfold World.shape?;simp only [hh]
  |_=>cases hs
theorem uX (w:World)(b m e:Nat){c:Array Value}(hb:w.heap[b]?=some (.cells c e (0,0)))(h0:m≠0):
  gy w (w.drew.freeze ⟨b,0,none⟩ m) (fun b' o=>b'=b∧o<m)∧(∀o,(w.drew.freeze ⟨b,0,none⟩ m).cell? ⟨b,o,none⟩=w.cell? ⟨b,o,none⟩)∧∀j,j<m→(w.drew.freeze ⟨b,0,none⟩ m).frozen? ⟨b,j,none⟩=true:=by
 have hh:=nL w.drew b m h0 (c:=c) (T:=e) (lo:=0) (hi:=0) hb
 have hfr:∀x:World,(x.freeze ⟨b,0,none⟩ m).os=x.os∧(x.freeze ⟨b,0,none⟩ m).tape=x.tape∧(x.freeze ⟨b,0,none⟩ m).output=x.output∧(x.freeze ⟨b,0,none⟩ m).heap.size=x.heap.size:=by
  intro x
  unfold World.freeze
  rw [if_neg h0]
  exact ⟨rfl,rfl,rfl,by simp⟩
 obtain ⟨f1,f2,f3,f4⟩:=hfr w.drew
 have hcel:∀b' o,(w.drew.freeze ⟨b,0,none⟩ m).cell? ⟨b',o,none⟩=w.cell? ⟨b',o,none⟩:=by
  intro b' o
  unfold World.cell?
  simp only [hh]
  by_cases hk:b'=b
  ·subst hk;simp [hb]
  ·rw [if_neg hk];rfl
 refine ⟨⟨f1,f2,f3,by rw [f4];exact Nat.le_refl _,fun b' _ hn=>?_,fun b' o _ _=>hcel b' o,fun b' o _ hn=>?_,fun b' _=>?_⟩,fun o=>hcel b o,fun j hj=>?_⟩
 ·rw [hh,if_neg fun e=>hn 0 ⟨e,by omega⟩];rfl
 ·unfold World.frozen?
  simp only [hh]
  by_cases hk:b'=b
  ·subst hk
   have:¬o<m:=fun h=>hn ⟨rfl,h⟩
   simp [hb,this]
  ·rw [if_neg hk];rfl
 ·unfold World.shape?
  rw [hh]
  by_cases hk:b'=b
  ·subst hk;simp [hb]
  ·rw [if_neg hk];rfl
 ·unfold World.frozen?
  simp only [hh]
  simp [hj]
def GN (g:Gh)(b m:Nat):Gh:=⟨fun b' o=>if b'=b∧o<m then .imm else g.who b' o,g.hs,g.hb⟩
theorem qG (s:Nat)(cs:List ah):killBs [s] cs=bK s cs:=rfl
theorem wS {w:World}{g:Gh}{s:Nat}{a0:AV}{c0:ah}{b:AV}{M:Nat→Nat→Prop}(hR:aB aa w g s ⟨true,[.av a0,c0]⟩)(hc:gy w w' M)(hga:GA w g g' fun _ _=>False)
  (hM:∀b o,b<w.heap.size→M b o→∃j,g.who b o=.obj s (some j)) (hwho:∀b o s',b<w.heap.size→g.who b o=.obj s' none→g'.who b o=.obj s' none)
  (hv:∀v,w.cell? ⟨(g.hb s).1,(g.hb s).2+1,none⟩=some v→cw aa w g s 1 c0 v→RepA w' g' b v) (hb:b.namesB s=false):aB aa w' g' s ⟨true,bK s [.av a0,.av b]⟩:=by
 obtain ⟨vv,hvv⟩:=hR.box rfl
 have hM1:∀b o,b<w.heap.size→M b o→∃s' x,g.who b o=.obj s' x:=fun b o hb hm=>let ⟨j,e⟩:=hM b o hb hm;⟨s,some j,e⟩
 have hhb:g'.hb s=g.hb s:=hga.hb s id
 refine ⟨fun e=>(by cases e),fun _=>⟨vv,fun j hj=>?_⟩⟩
 have hj2:j<2:=by simpa [bK,ah.killB] using hj
 have hvj:=hvv j (by simpa using hj2)
 obtain ⟨q1,q2,q3,q4,q5⟩:=hvj
 have hnm:¬M (g.hb s).1 ((g.hb s).2+j):=fun hm=>by obtain ⟨j',e⟩:=hM _ _ q1 hm;rw [q2] at e;cases e
 rw [hhb]
 refine ⟨Nat.lt_of_lt_of_le q1 hc.size,hwho _ _ _ q1 q2,(hc.cel _ _ q1 hnm).trans q3,(hc.frz _ _ q1 hnm).trans q4,?_⟩
 rcases (by omega:j=0∨j=1) with rfl|rfl
 ·simp only [List.getElem_cons_zero] at q5
  cases q5 with
  |av _ _ h=>
   have:=((h.pres hc hM1 hga (aG a0)).killB s)
   exact .av _ _ this
 ·simp only [List.getElem_cons_succ,List.getElem_cons_zero] at q5
  have:=hv _ q3 q5
  simp only [bK,ah.killB,AV.killB,hb,List.getElem_cons_succ,List.getElem_cons_zero,cond]
  exact .av _ _ this
theorem xh {R:Type}{o:Oper}{κ:AV→Option ae→List (Nat×ae)→List Nat→Option R}{r:R}{c:Call}{f:FuncId}{d s T e:Nat}(hbr:zj P f T e)(he:aa (.int .u8)=e)
  (ho:o.op=.call c) (hc:cj S c=some (f,[.refT s T])) (h:Bq S s e (fun av rs=>κ av none rs [s])=some r) (hS:aV aa n w g S a):nF aa P w g a o d κ r:=by
 obtain ⟨vals,hvals,hrun⟩:=jp (P:=P) hc hS
 obtain ⟨v1,vs1,e1,hv1,hvals⟩:=hvals.cons_inv
 have e3:=hvals.nil_inv
 subst e3;subst e1
 -- nothing but the cursor has moved
 have fin:∀{a0:AV}{c0:ah}{b:Nat}{b':AV}{w':World}{l:List UInt8}{ex:Ending},S.root s=some ⟨true,[.av a0,c0]⟩→κ (.str l) none (lC s ⟨true,[.av a0,.av b']⟩ S.roots) [s]=some r→
   gy w w' (fun _ _=>False)→(∀v,cw aa w g s 1 c0 v→RepA w' g b' v)→b'.namesB s=false→dM aa w g w' g d (.str l) (.string ⟨l.toArray⟩) none (lC s ⟨true,[.av a0,.av b']⟩ S.roots) [s]:=by
  intro a0 c0 b b' w' l ex hroot hκ hchg hv hb
  have hga:GA w g g fun _ _=>False:=(l6.refl w g fun _ _=>False).ga
  refine ⟨⟨hchg.mono fun _ _ _ h=>h.elim,fun _ _ _ h=>h,fun _ _ _ h=>h,fun _ _ _ h=>h,fun _ _=>rfl⟩,fun b u hb _ _=>hb.pres hchg (fun _ _ _ h=>h.elim) hga (aG b),.str _,fun _ q rq hq=>?_,fun h=>absurd rfl h,fun q h=>by cases h⟩
  rw [cX] at hq
  rw [qG]
  by_cases hqs:q=s
  ·subst hqs
   rw [if_pos rfl] at hq
   cases hq
   exact wS (hS.root hroot) hchg hga (fun _ _ _ h=>h.elim) (fun _ _ _ _ e=>e) (fun v _=>hv v) hb
  ·rw [if_neg hqs] at hq
   exact ((hS.rt q rq hq).killB (b:=rq.box) (cs:=rq.cs) s).pres hchg hga (fun _ _ _ h=>h.elim) (fun _ _ _ _ e=>e) (fun _=>id) (fun b _=>aG b)
 cases hv1 with
 |refT _ _ b hb hsh=>
  unfold Bq at h
  split at h
  ·rename_i a0 c0 hroot
   have hR:=hS.root hroot
   obtain ⟨vv,hvv⟩:=hR.box rfl
   obtain ⟨p1,p2,p3,p4,p5⟩:=hvv 1 (by simp)
   rw [hb] at p1 p2 p3 p4
   simp only [Nat.zero_add,List.getElem_cons_zero,List.getElem_cons_succ] at p1 p2 p3 p4 p5
   split at h
   ·-- it has been read
    rename_i e' l
    cases hee:Nat.beq e' e with
    |false=>rw [hee] at h;cases h
    |true=>
     rw [hee] at h
     have:=Nat.eq_of_beq_eq_true hee
     subst this
     simp only [cond] at h
     cases p5 with
     |av _ _ hrep=>
      have hkeep:∀{w':World},gy w w' (fun _ _=>False)→∀v,cw aa w g s 1 (.av (.fzs e' l)) v→RepA w' g (.fzs e' l) v:=by
       intro w' hchg v hv
       cases hv with
       |av _ _ hv=>exact hv.pres hchg (fun _ _ _ h=>h.elim) (l6.refl w g fun _ _=>False).ga (aG _)
      generalize hv1:vv 1=v at hrep p3
      cases hrep with
      |fzs0 _ ad cap hs=>
       intro K Q hK
       unfold Oper.wp
       rw [hrun o ho hbr.bod]
       show Calls P f _ w _
       refine Calls.mono (hbr.nil w b ad cap p3 hs) ?_
       rintro ex w' ⟨rfl,hbel⟩
       have hchg:gy w w' (fun _ _=>False):=.of_below hbel _
       exact hK _ _ _ _ _ _ _ h (fin (b:=b) (ex:=.returned undef) hroot h hchg (hkeep hchg) rfl)
      |fzs _ _ g0 cap k hs hk hl hcap hm hcc=>
       intro K Q hK
       unfold Oper.wp
       rw [hrun o ho hbr.bod]
       show Calls P f _ w _
       refine Calls.mono (hbr.some w b g0 k cap l hl p3 hcap hm hs hk (fun j x hj=>?_)) ?_
       ·obtain ⟨hlt,rfl⟩:=List.getElem?_eq_some_iff.mp hj
        exact (hcc j hlt).2.1
       ·rintro ex w' ⟨rfl,rfl⟩
        have hchg:gy w (w.drew.freeze ⟨g0,0,none⟩ l.length) (fun _ _=>False):=uU w g0 l.length k _ hs (fun e=>hl (List.eq_nil_of_length_eq_zero e)) (fun j hj=>(hcc j hj).2.2) _
        exact hK _ _ _ _ _ _ _ h (fin (b:=b) (ex:=.returned undef) hroot h hchg (hkeep hchg) rfl)
   ·split at h
    ·rename_i xs hbuf
     obtain ⟨hrow,hown⟩:=sb p5 hbuf
     by_cases hx:xs=[]
     ·subst hx
      have hhd:∃ad cap,vv 1=.slice ad 0 cap∧∀q,ad=some q→(w.shape? q.block).isSome=true:=by
       rcases hrow.2 with ⟨e2,_⟩|⟨g2,cap,cur,e2,_,h2,_⟩
       ·exact ⟨none,0,e2,fun q e=>by cases e⟩
       ·refine ⟨_,cap,e2,fun q e=>?_⟩
        cases e
        unfold World.shape?
        rw [h2];rfl
      obtain ⟨ad,cap,ev,hs⟩:=hhd
      rw [ev] at p3
      intro K Q hK
      unfold Oper.wp
      rw [hrun o ho hbr.bod]
      show Calls P f _ w _
      refine Calls.mono (hbr.nil w b ad cap p3 hs) ?_
      rintro ex w' ⟨rfl,hbel⟩
      have hchg:gy w w' (fun _ _=>False):=.of_below hbel _
      refine hK _ _ _ _ _ _ _ h (fin (b:=b) (ex:=.returned undef) hroot h hchg (fun v hv=>?_) rfl)
      have hvr:=(sb hv hbuf).1
      have hhd:∃ad cap,v=.slice ad 0 cap∧∀q,ad=some q→(w.shape? q.block).isSome=true:=by
       rcases hvr.2 with ⟨e2,_⟩|⟨g2,cap,cur,e2,_,h2,_⟩
       ·exact ⟨none,0,e2,fun q e=>by cases e⟩
       ·refine ⟨_,cap,e2,fun q e=>?_⟩
        cases e
        unfold World.shape?
        rw [h2];rfl
      obtain ⟨ad2,cap2,rfl,hs2⟩:=hhd
      refine .fzs0 e ad2 cap2 fun q hq=>?_
      obtain ⟨p,hp⟩:=Option.isSome_iff_exists.1 (hs2 q hq)
      rw [hchg.shp _ (jN hp)];exact hs2 q hq
     ·have hl0:xs.length≠0:=fun e=>hx (List.eq_nil_of_length_eq_zero e)
      rcases hrow.2 with ⟨_,e2⟩|⟨g0,cap,cur,ev,_,hheap,hcap,hm,hcs,_⟩
      ·exact absurd e2 hl0
      ·rw [he] at hheap hrow
       obtain ⟨k1,k2⟩:=hown _ _ _ ev
       rw [ev] at p3 hrow
       have hsh0:w.shape? g0=some (e,cur.size):=by unfold World.shape?;rw [hheap]
       have hcells:∀j x,xs[j]?=some x→w.cell? ⟨g0,j,none⟩=some (.int .u8 x):=by
        intro j x hj
        have hlt:=(List.getElem?_eq_some_iff.mp hj).1
        rw [hrow.cellAt j (by omega),List.getElem?_map,hj];rfl
       obtain ⟨hchg,hcel,hfz⟩:=uX w g0 xs.length e hheap hl0
       have hM:∀b' o',b'<w.heap.size→(b'=g0∧o'<xs.length)→∃j,g.who b' o'=.obj s (some j):=by
        rintro b' o' _ ⟨rfl,_⟩
        exact ⟨1,k2 o'⟩
       have hwho:∀b' o' q,g.who b' o'=q→q≠.obj s (some 1)→(GN g g0 xs.length).who b' o'=q:=by
        intro b' o' q e hq
        show (if b'=g0∧o'<xs.length then Af.imm else g.who b' o')=q
        rw [if_neg,e]
        rintro ⟨rfl,_⟩
        rw [k2 o'] at e
        exact hq e.symm
       have hga:GA w g (GN g g0 xs.length) fun _ _=>False:=⟨fun b' o' _ e=>hwho b' o' _ e (by simp),fun b' o' _ e=>hwho b' o' _ e (by simp),fun _ _ _=>rfl,fun _ _=>rfl⟩
       intro K Q hK
       unfold Oper.wp
       rw [hrun o ho hbr.bod]
       show Calls P f _ w _
       refine Calls.mono (hbr.some w b g0 cur.size cap xs hx p3 hcap hm hsh0 (by omega) hcells) ?_
       rintro ex w' ⟨rfl,rfl⟩
       refine hK _ _ _ _ _ _ _ h ⟨⟨hchg.mono fun b' o' hb hm=>(let ⟨j,e⟩:=hM b' o' hb hm;⟨s,some j,e⟩),hga.imm,hga.bor,fun b' o' _ e=>hwho b' o' _ e (by simp),fun _ _=>rfl⟩,
        fun b' u hb' _ _=>hb'.pres hchg (fun b' o' hb hm=>(let ⟨j,e⟩:=hM b' o' hb hm;⟨s,some j,e⟩)) hga (aG b'),.str _,fun _ q rq hq=>?_,fun h=>absurd rfl h,fun q h=>by cases h⟩
       rw [cX] at hq
       rw [qG]
       by_cases hqs:q=s
       ·subst hqs
        rw [if_pos rfl] at hq
        cases hq
        refine wS hR hchg hga hM (fun b' o' s' _ e=>hwho b' o' _ e (by simp)) (fun v hc1 hv=>?_) rfl
        have hv1:v=.slice (some ⟨g0,0,none⟩) xs.length cap:=by
         rw [hb,Nat.zero_add,p3] at hc1
         exact (Option.some.inj hc1).symm
        subst hv1
        refine .fzs e xs g0 cap cur.size ((hchg.shp _ k1).trans hsh0) (by omega) hx hcap hm fun j hj=>⟨?_,?_,hfz j hj⟩
        ·show (if g0=g0∧j<xs.length then Af.imm else _)=_
         rw [if_pos ⟨rfl,hj⟩]
        ·rw [hcel]
         exact hcells j _ (List.getElem?_eq_getElem hj)
       ·rw [if_neg hqs] at hq
        refine ((hS.rt q rq hq).killB (b:=rq.box) (cs:=rq.cs) s).pres hchg hga (fun b' o' hb hm=>?_) (fun b' o' y hb e=>hwho b' o' _ e (by rintro e2;cases e2;exact hqs rfl)) (fun _=>id) (fun b _=>aG b)
        obtain ⟨j,e⟩:=hM b' o' hb hm
        exact ⟨s,some j,e,fun e=>hqs e.symm⟩
    ·cases h
  ·cases h
structure rz (P:Program)(aa:aM)(E:dE):Prop where
 ty:∀T i,E.ty T=some i→eX P aa T i
 bw:∀f T,E.pks f=[.bw T,.one .str]→yY P f T (aa (.int .u8))
 br:∀f T e,E.pks f=[.br T e]→zj P f T e∧aa (.int .u8)=e
theorem vW {R:Type}{E:TypeId→Option gA}(hE:∀T i,E T=some i→eX P aa T i){o:Oper}{κ:AV→Option ae→List (Nat×ae)→List Nat→Option R}{r:R}{c:Call}{d:Nat}
  (ho:o.op=.call c) (hb:c.callee=.builtin .copy) (h:(match c.args.toList,c.argTypes.toList with
   |[b,x],[T,T']=>
    match (bif Nat.beq T T' then E T else none).bind (·.elem) with
    |some t=>
     match S.ev b with
     |.als s j sz lo n=>bif Nat.beq sz t.size then jE S s j lo n t (S.ev x) fun a rs=>κ a none rs [] else none
     |.al s j=>(match S.cell s j with|some (.sl _ _ xs)=>jE S s j 0 xs.length t (S.ev x) fun a rs=>κ a none rs []|_=>none)
     |_=>none
    |none=>none
   |_,_=>none)=some r) (hS:aV aa n w g S a):nF aa P w g a o d κ r:=by
 split at h
 ·rename_i b x T T' hargs htys
  cases hT:Nat.beq T T' with
  |false=>rw [hT] at h;cases h
  |true=>
   rw [hT] at h
   have hTT:=Nat.eq_of_beq_eq_true hT
   subst hTT
   simp only [cond] at h
   cases hi:E T with
   |none=>rw [hi] at h;cases h
   |some i=>
    rw [hi] at h
    simp only [Option.bind_some] at h
    split at h
    ·rename_i t ht
     have hbb:=hS.ev b
     split at h
     ·rename_i s j sz lo m hev
      rw [hev] at hbb
      cases hz:Nat.beq sz t.size with
      |false=>rw [hz] at h;cases h
      |true=>
       rw [hz] at h
       have hz':=Nat.eq_of_beq_eq_true hz
       subst hz'
       exact nQ hE ho hb hargs htys hi ht hbb h hS
     ·rename_i s j hev
      rw [hev] at hbb
      split at h
      ·rename_i u fz xs hcell
       have hbv:RepA w g (.als s j t.size 0 xs.length) (a.eval b):=by
        have e1:=hbb.al_inv.1
        have hs:=hS.cell hcell
        rcases hs.c with ⟨⟨vals,hrow,_,_⟩,_⟩|⟨_,hx,a0,e⟩
        rotate_left
        ·rw [e1,e,hx];exact .als0 _ _ _ _ _ _
        rcases hrow.2 with ⟨e,hz⟩|⟨b',cap',cur,e,_,_,hcap,_⟩
        ·rw [hz,e1,e];exact .als0 _ _ _ _ _ _
        ·rw [e1,e]
         have:=RepA.als (w:=w) (g:=g) s j t.size 0 xs.length b' _ _ cap' e hcap
         rwa [Nat.zero_mul] at this
       exact nQ hE ho hb hargs htys hi ht hbv h hS
      ·cases h
     ·cases h
    ·cases h
 ·cases h
end
end Go.Proofs.YtjkokaockhecnaaGreatDoorA

namespace Go.Proofs.YtjkokaockhecnaaGreatDoorA
open Go
section
variable {aa:aM}{n:Nat}{w w' w'':World}{g g' g'' gc gc':Gh}{S S':St}{a:Act}{P:Program}
theorem ju {α:Type}(i:Nat):∀(ss:List Nat) (l:List (Nat×α)),look i (dd ss l)=if i∈ss then none else look i l
 |[],l=>by simp [dd]
 |s :: ss,l=>by
  simp only [dd,ju i ss,iN,List.mem_cons]
  by_cases h1:i=s<;>by_cases h2:i∈ss<;>simp [h1,h2]
theorem q8 {lend:El→Bool}:∀{ks:List PK}{as:List AV}{args:List kh}{os:List fH},dw lend S S' ks as=some (args,os)→∀i s,bp os i s→s∈bF ks as
 |[],[],args,os,h,i,s,hb=>by
  simp only [dw,Option.some.injEq] at h;cases h
  obtain ⟨o,h,_⟩:=hb;simp at h
 |k :: ks,b :: as,args,os,h,i,s,hb=>by
  simp only [dw] at h
  cases hk:qC lend S S' k b with
  |none=>rw [hk] at h;cases h
  |some rx=>
   obtain ⟨r,x⟩:=rx
   rw [hk] at h
   simp only [Option.bind_some] at h
   cases hm:dw lend S S' ks as with
   |none=>rw [hm] at h;cases h
   |some my=>
    obtain ⟨m,y⟩:=my
    rw [hm] at h
    simp only [Option.map_some,Option.some.injEq] at h
    cases h
    have tail:∀s,s∈bF ks as→s∈bF (k :: ks) (b :: as):=by
     intro s hs
     unfold bF
     split
     ·rename_i e1 e2;cases e1;cases e2;exact List.mem_cons_of_mem _ hs
     ·rename_i e1 e2;cases e1;cases e2;exact hs
     ·rename_i q1 q2;exact absurd rfl (q2 _ _ _ _ rfl)
    obtain ⟨o,h1,h2⟩:=hb
    cases i with
    |succ i=>exact tail s (q8 hm i s ⟨o,by simpa using h1,h2⟩)
    |zero=>
     simp only [List.getElem?_cons_zero,Option.some.injEq] at h1
     subst h1
     unfold qC at hk
     cases hq:k.quiet with
     |true=>
      rw [hq] at hk
      simp only [cond] at hk
      cases hz:qf lend S' k b with
      |none=>rw [hz] at hk;cases hk
      |some z=>rw [hz] at hk;cases hk;cases h2
     |false=>
      rw [hq] at hk
      simp only [cond] at hk
      split at hk
      ·rename_i k
       cases hz:gr S k b with
       |none=>rw [hz] at hk;cases hk
       |some z=>rw [hz] at hk;cases hk;cases h2
      ·rename_i ks' cs
       cases hz:dG S ks' cs with
       |none=>rw [hz] at hk;cases hk
       |some z=>rw [hz] at hk;cases hk;cases h2
      ·rename_i ks' s'
       split at hk
       ·rename_i cs hroot
        cases hz:aA S s' 0 ks' cs with
        |none=>rw [hz] at hk;cases hk
        |some z=>
         rw [hz] at hk;cases hk
         cases h2
         simp [bF]
       ·cases hk
      ·cases hk
 |[],_ :: _,_,_,h,_,_,_=>by simp [dw] at h
 |_ :: _,[],_,_,h,_,_,_=>by simp [dw] at h
theorem kT {os:List fH}:∀(l:List (Nat×List ah)) {S S'':St},cE S os l=some S''→∀s q,look s S''.roots=some q→(∃i cs,(i,cs)∈l∧bp os i s∧q=⟨true,cs⟩)∨look s S.roots=some q
 |[],S,S'',h,s,q,hq=>by simp only [cE,Option.some.injEq] at h;subst h;exact .inr hq
 |(i,cs) :: l,S,S'',h,s,q,hq=>by
  simp only [cE] at h
  split at h
  ·rename_i s' srcs ho
   rcases kT l h s q hq with ⟨i',cs',h1,h2,h3⟩|h1
   ·exact .inl ⟨i',cs',List.mem_cons_of_mem _ h1,h2,h3⟩
   ·simp only [St.setRoot,cX] at h1
    by_cases e:s=s'
    ·subst e
     rw [if_pos rfl] at h1
     cases h1
     exact .inl ⟨i,cs,List.mem_cons_self,⟨_,ho,rfl⟩,rfl⟩
    ·rw [if_neg e] at h1;exact .inr h1
  ·cases h
theorem jX {p:Nat→Prop}:∀(l:List (Nat×Nat)) {S:St}{B:Nat→Nat→Prop},(∀s q,S.root s=some q→aB aa w g s q∧p s∧∀j,B s j→∀t fz xs,q.cs[j]?≠some (.sl t fz xs))→
  ∀s q,(em S l).root s=some q→aB aa w g s q∧p s∧∀j,B s j∨(s,j)∈l→∀t fz xs,q.cs[j]?≠some (.sl t fz xs)
 |[],S,B,hS,s,q,hq=>by
  obtain ⟨h1,h2,h3⟩:=hS s q hq
  exact ⟨h1,h2,fun j hj=>h3 j (by simpa using hj)⟩
 |x :: l,S,B,hS,s,q,hq=>by
  have key:∀s q,(S.setCell x.1 x.2 (.av .und)).root s=some q→aB aa w g s q∧p s∧∀j,(B s j∨(s,j)=x)→∀t fz xs,q.cs[j]?≠some (.sl t fz xs):=by
   intro s q hq
   cases hr:S.root x.1 with
   |none=>
    rw [rP hr] at hq
    obtain ⟨h1,h2,h3⟩:=hS s q hq
    refine ⟨h1,h2,fun j hj=>?_⟩
    rcases hj with hj|hj
    ·exact h3 j hj
    ·rw [←hj] at hr;simp only at hr;rw [hr] at hq;cases hq
   |some r0=>
    rw [aZ hr] at hq
    by_cases e:s=x.1
    ·subst e
     rw [if_pos rfl] at hq
     cases hq
     obtain ⟨h1,h2,h3⟩:=hS _ _ hr
     refine ⟨h1.forget x.2,h2,fun j hj t fz xs e=>?_⟩
     simp only [List.getElem?_set] at e
     by_cases hjx:x.2=j
     ·rw [if_pos hjx] at e
      split at e<;>cases e
     ·rw [if_neg hjx] at e
      rcases hj with hj|hj
      ·exact h3 j hj t fz xs e
      ·exact hjx (by rw [←hj])
    ·rw [if_neg e] at hq
     obtain ⟨h1,h2,h3⟩:=hS s q hq
     refine ⟨h1,h2,fun j hj=>?_⟩
     rcases hj with hj|hj
     ·exact h3 j hj
     ·exact absurd (by rw [←hj]) e
  obtain ⟨h1,h2,h3⟩:=jX l key s q hq
  refine ⟨h1,h2,fun j hj=>h3 j ?_⟩
  rcases hj with hj|hj
  ·exact .inl (.inl hj)
  ·rcases List.mem_cons.mp hj with hj|hj
   ·exact .inl (.inr hj)
   ·exact .inr hj
theorem RepL.mono {l:List AV}{vs:List Value}(h:∀b v,RepA w g b v→RepA w' g' b v)(hl:RepL w g l vs):RepL w' g' l vs:=
 ⟨hl.1,fun i h1 h2=>h _ _ (hl.2 i h1 h2)⟩
theorem dM.ahead {d:Nat}{av:AV}{v:Value}{rt:Option ae}{rs:List (Nat×ae)}{ks:List Nat}(hi:eS w g w g')(hk:∀b v,RepA w g b v→RepA w g' b v)(h:dM aa w g' w'' g'' d av v rt rs ks):
  dM aa w g w'' g'' d av v rt rs ks:=
 ⟨hi.trans h.inv,fun b u hb=>h.keep b u (hk b u hb),h.val,h.old,h.others,h.new⟩
theorem uj {R:Type}{sig:FuncId→bg}{pks:FuncId→List PK}{lv:Lv sig}(hlv:ir P aa sig lv){o:Oper}{κ:AV→Option ae→List (Nat×ae)→List Nat→Option R}{r:R}{c:Call}{f:FuncId}{as:List AV}{d:Nat}
  (ho:o.op=.call c) (hc:cj S c=some (f,as)) (h:iE sig pks lv d S f as κ=some r) (hS:aV aa n w g S a):nF aa P w g a o d κ r:=by
 obtain ⟨vals,hvals,hrun⟩:=jp (P:=P) hc hS
 obtain ⟨g1,hS1,i1,r1⟩:=hS.frzAll (du S (pks f) as)
 unfold iE at h
 simp only at h
 generalize hS1e:frzAll S (du S (pks f) as)=S1 at h hS1
 have hS2:aV aa n w g1 ⟨S1.tmps,dd (bF (pks f) as) S1.roots⟩ a:=by
  refine ⟨hS1.size,hS1.df,hS1.tb,hS1.tm,fun s q hq=>hS1.rt s q ?_⟩
  have hq':look s (dd (bF (pks f) as) S1.roots)=some q:=hq
  rw [ju] at hq'
  split at hq'
  ·cases hq'
  ·exact hq'
 generalize hS2e:(⟨S1.tmps,dd (bF (pks f) as) S1.roots⟩:St)=S2 at h hS2
 cases hA:dw jc S1 S2 (pks f) as with
 |none=>rw [hA] at h;cases h
 |some ao=>
  obtain ⟨args,os⟩:=ao
  rw [hA] at h
  simp only at h
  cases hnn:nk (aN os)&&jT (dN os) with
  |false=>rw [hnn] at h;cases h
  |true=>
   rw [hnn] at h
   simp only [cond] at h
   rw [Bool.and_eq_true] at hnn
   have n1:=vN.1 hnn.1
   have n2:=o9.1 hnn.2
   cases hl:lv f args with
   |none=>rw [hl] at h;cases h
   |some rv=>
    rw [hl] at h
    simp only [Option.bind_some] at h
    split at h
    ·rename_i S'' hpb
     have hg:=CG.of (L:=fun _ _ _ _=>False) (g:=g1) n2 n1
     have hbx:∀s,S2.root s≠none→∀i,¬bp os i s:=by
      intro s hs i hb
      have:=q8 hA i s hb
      apply hs
      rw [←hS2e]
      show look s (dd _ _)=none
      rw [ju,if_pos this]
     have hargs:ef aa w (lr (fun _ _ _ _=>False) g1 os) args vals:=by
      obtain ⟨e1,e2,e3⟩:=ry hg (fun _ _ _ _ _ h=>by cases h) hS1 hS2 hbx 0 hA (hvals.mono r1) (fun q hq=>by rw [Nat.zero_add]) (fun h=>absurd rfl h)
      refine ⟨e1,hS1.tb.who hg.imm,fun k b hk=>?_,e3⟩
      obtain ⟨q,v,h1,h2,h3⟩:=e2 k b hk
      rw [Nat.zero_add] at h1
      subst h1
      exact ⟨v,h2,h3⟩
     obtain ⟨hbod,hcall⟩:=hlv f args rv hl
     intro K Q hK
     unfold Oper.wp
     rw [hrun o ho hbod]
     show Calls P f vals.toArray w _
     refine Calls.mono (hcall w _ vals hargs) ?_
     rintro e w' ⟨v,gc',rfl,hinv,hres⟩
     refine hK _ _ _ _ _ _ _ h (dM.ahead i1 r1 (wM hg n1 hinv hres (.inl fun _ _ _ _ h=>h) (fun s q hq=>?_) rfl))
     rcases kT _ hpb s q hq with ⟨i,cs,h1,h2,rfl⟩|h1
     ·exact .inl ⟨i,h2,h1,rfl⟩
     ·obtain ⟨q1,q2,q3⟩:=jX (aa:=aa) (w:=w) (g:=g1) (p:=fun s=>∀i,¬bp os i s) (dN os) (S:=S2) (B:=fun _ _=>False)
       (fun s q hq=>⟨hS2.rt s q hq,hbx s (by rw [hq];simp),fun j h=>h.elim⟩) s q h1
      exact .inr ⟨q1,q2,fun i p j hj=>q3 j (.inr (mN hj))⟩
    ·cases h
def ED {R:Type}(aa:aM)(P:Program)(w:World)(g:Gh)(a:Act)(o:Oper)(d:Nat)(κ:AV→Option ae→Option R)(r:R):Prop:=
 ∀(K:Act→World→Prop) (Q:Exit→Act→World→Prop),(∀av v rt w' g',κ av rt=some r→fR w g w' g' d→RepA w' g' av v→(rt=none→g'.hs=g.hs∧g'.hb=g.hb)→
  (∀q,rt=some q→aB aa w' g' d ⟨q.box,killC d q.cs⟩)→K (a.put o.dst v) w')→o.wp P a w K Q
theorem gv.qok {R:Type}{o:Oper}{d:Nat}{κ:AV→Option ae→Option R}{r:R}(h:gv aa P w g a o d κ r):ED aa P w g a o d κ r:=by
 obtain ⟨av,rt,v,w',g',h1,h2,h3,h4,h5,h6⟩:=h
 intro K Q hK
 unfold Oper.wp
 rw [h2]
 exact hK _ _ _ _ _ h1 h3 h4 h5 h6
theorem q7 {lend:El→Bool}{L:fy}(hg:CG L g gc [])(hl:iz lend L S g [])(hS:aV aa n w g S a):∀{ks:List PK}{as:List AV}{args:List kh}{vals:List Value} (i0:Nat),jA lend S ks as=some args→RepL w g as vals→
  args.length=vals.length∧(∀k b,look k (cm i0 args)=some b→∃q v,k=i0+q∧vals[q]?=some v∧RepA w gc b v)∧cU i0 args=[]
 |[],[],args,vals,i0,h,hr=>by
  simp only [jA,Option.some.injEq] at h;cases h
  rw [hr.nil_inv]
  exact ⟨rfl,fun k b hk=>by simp [cm,look] at hk,rfl⟩
 |k :: ks,b :: as,args,vals,i0,h,hr=>by
  obtain ⟨v,vs,rfl,h1,h2⟩:=hr.cons_inv
  simp only [jA] at h
  cases hb:qf lend S k b with
  |none=>rw [hb] at h;cases h
  |some r=>
   rw [hb] at h
   simp only [Option.bind_some] at h
   cases hm:jA lend S ks as with
   |none=>rw [hm] at h;cases h
   |some m=>
    rw [hm] at h
    simp only [Option.map_some,Option.some.injEq] at h
    cases h
    obtain ⟨c,rfl,hc⟩:=uL hg hl hS (fun s _ i ⟨o,h,_⟩=>by simp at h) hb h1
    obtain ⟨e1,e2,e3⟩:=q7 hg hl hS (i0+1) hm h2
    refine ⟨by simp [e1],fun k' b' hk=>?_,by simp [cU,e3]⟩
    simp only [cm,look] at hk
    cases e:Nat.beq i0 k' with
    |true=>
     rw [e] at hk;cases hk
     exact ⟨0,v,by have:=Nat.eq_of_beq_eq_true e;omega,by simp,hc⟩
    |false=>
     rw [e] at hk
     obtain ⟨q,v',q1,q2,q3⟩:=e2 _ _ hk
     exact ⟨q+1,v',by omega,by simpa using q2,q3⟩
 |[],_ :: _,_,_,_,h,_=>by simp [jA] at h
 |_ :: _,[],_,_,_,h,_=>by simp [jA] at h
theorem ng {s:Nat}{x:Option Nat}:¬Handed [] s x:=by
 rintro (⟨_,i,o,h,_⟩|⟨i,p,j,_,o,h,_⟩)<;>simp at h
theorem tu (xs:List (List UInt8)):ap .str xs=xs.map AV.str:=by
 induction xs with
 |nil=>rfl
 |cons x xs ih=>show [AV.str x]++ap .str xs=_;rw [ih];rfl
theorem B5 (hS:aV aa n w g S a)(sg:bg):∃L:fy,iz sg.lendOf L S g []∧((∀s j b o,¬L s j b o)∨(sg.lends=true∨(sg.lendsS=true∧BF w g L))):=by
 have hns:∀i p s j,¬ck [] i p s j:=fun i p s j ⟨o,h,_⟩=>by simp at h
 cases h1:sg.lends with
 |true=>exact ⟨fun _ _ _ _=>True,fun s j u xs _ _=>⟨fun _ _ _ _ _ _=>trivial,fun i p=>hns i p s j⟩,.inr (.inl rfl)⟩
 |false=>
  cases h2:sg.lendsS with
  |false=>exact ⟨fun _ _ _ _=>False,fun s j u xs _ h=>(by unfold bg.lendOf at h;rw [h1,h2] at h;cases h),.inl fun _ _ _ _ h=>h⟩
  |true=>
   refine ⟨fun s j b o=>∃xs:List (List UInt8),S.cell s j=some (.sl .str false xs)∧(∃n cap,g.hs s j=.slice (some ⟨b,0,none⟩) n cap)∧o<xs.length,fun s j u xs hc h=>?_,.inr (.inr ⟨rfl,?_⟩)⟩
   ·have hu:u=.str:=by
     unfold bg.lendOf at h
     rw [h1,h2] at h
     cases u<;>first|rfl|cases h
    subst hu
    refine ⟨fun b n cap o e ho=>⟨xs,hc,⟨n,cap,e⟩,by simpa [El.size] using ho⟩,fun i p=>hns i p s j⟩
   ·rintro s j b o ⟨xs,hc,⟨n',cap,e⟩,ho⟩ o' ho'
    have hs:=hS.cell hc
    have hne:xs≠[]:=by rintro rfl;simp at ho
    obtain ⟨hlt,hw⟩:=(hs.old hne).own b n' cap e
    obtain ⟨vals,_,hcl⟩:=hs.cells e
    have hf:o'<(ap .str xs).length:=by rw [tu,List.length_map];omega
    refine ⟨⟨xs,hc,⟨n',cap,e⟩,by omega⟩,by simpa using hw o',hlt,?_⟩
    obtain ⟨q1,q2⟩:=hcl o' hf
    have e2:(ap .str xs)[o']=.str xs[o']:=by simp [tu]
    rw [e2] at q2
    generalize vals o'=v at q1 q2
    cases q2
    exact ⟨_,q1⟩
theorem t8 {R:Type}{E:dE}{lv:Lv E.sig}(hlv:ir P aa E.sig lv){o:Oper}{κ:AV→Option ae→Option R}{r:R}{c:Call}{d:Nat}
  (ho:o.op=.call c) (h:(match cj S c with
   |some (f,as)=>
    match jA (E.sig f).lendOf S (E.pks f) as with
    |some args=>bif (E.sig f).back.isEmpty then (lv f args).bind fun r=>
      κ (kp (dy.inj d 0 (E.sig f).res (bg.res1 (E.sig f) r)).1) (bif b6 (dy.inj d 0 (E.sig f).res (bg.res1 (E.sig f) r)).2 then some ⟨false,(dy.inj d 0 (E.sig f).res (bg.res1 (E.sig f) r)).2⟩ else none)
     else none
    |none=>none
   |none=>none)=some r) (hS:aV aa n w g S a):ED aa P w g a o d κ r:=by
 split at h
 ·rename_i f as hc
  obtain ⟨vals,hvals,hrun⟩:=jp (P:=P) hc hS
  split at h
  ·rename_i args hA
   cases hbk:(E.sig f).back.isEmpty with
   |false=>rw [hbk] at h;cases h
   |true=>
    rw [hbk] at h
    simp only [cond] at h
    cases hl:lv f args with
    |none=>rw [hl] at h;cases h
    |some rv=>
     rw [hl] at h
     simp only [Option.bind_some] at h
     obtain ⟨L,hL,hmode⟩:=B5 (w:=w) hS (E.sig f)
     have hg:=CG.of (L:=L) (g:=g) (os:=[]) (by simp [dN]) (by simp [aN])
     have hargs:ef aa w (lr L g []) args vals:=by
      obtain ⟨e1,e2,e3⟩:=q7 hg hL hS 0 hA hvals
      refine ⟨e1,hS.tb.who hg.imm,fun k b hk=>?_,fun s r hs=>by rw [e3] at hs;simp [look] at hs⟩
      obtain ⟨q,v,h1,h2,h3⟩:=e2 k b hk
      rw [Nat.zero_add] at h1
      subst h1
      exact ⟨v,h2,h3⟩
     obtain ⟨hbod,hcall⟩:=hlv f args rv hl
     intro K Q hK
     unfold Oper.wp
     rw [hrun o ho hbod]
     show Calls P f vals.toArray w _
     refine Calls.mono (hcall w _ vals hargs) ?_
     rintro e w' ⟨v,gc',rfl,hinv,hres⟩
     have hok:=wM (d:=d) (rs:=S.roots) hg (by simp [aN]) hinv hres (hmode.imp id fun h=>⟨rfl,h⟩)
      (fun s q hq=>.inr ⟨hS.rt s q hq,(fun i ⟨o,h,_⟩=>by simp at h),fun i p j ⟨o,h,_⟩=>by simp at h⟩) rfl
     generalize hGe:b6 (dy.inj d 0 (E.sig f).res (bg.res1 (E.sig f) rv)).2=G at hok h
     refine hK _ _ _ _ _ h ⟨?_,?_,?_⟩ hok.val ?_ hok.new
     ·exact (rN hg hinv).mono fun b o _ ⟨s,x,_,h⟩=>absurd h ng
     ·refine ⟨fun b o hb h=>eF hb h (fun s x e=>by cases e),fun b o hb h=>eF hb h (fun s x e=>by cases e),fun b o hb h=>eF hb h (fun s x e=>by cases e),
       fun b o s x hb _ h=>eF hb h (fun s x _=>ng),fun s j hs=>lH (fun h=>hs h.1) (fun i ⟨o,h,_⟩=>by simp at h),fun _ _=>rfl⟩
     ·exact fun b o hb=>eF hb rfl (fun s x _=>ng)
     ·intro hn
      have:G=false:=by
       cases hG:G with
       |false=>rfl
       |true=>rw [hG] at hn;cases hn
      refine ⟨?_,rfl⟩
      funext s j
      exact lH (by rw [this];simp) (fun i ⟨o,h,_⟩=>by simp at h)
  ·cases h
 ·cases h
theorem gY {R:Type}{E:dE}{lv:Lv E.sig}(hE:rz P aa E)(hlv:ir P aa E.sig lv){o:Oper}{κ:AV→Option ae→Option R}{r:R}
  (h:aC E lv o S κ=some r) (hS:aV aa n w g S a):ED aa P w g a o (match o.dst with|some d=>d|none=>0) κ r:=by
 unfold aC at h
 split at h
 ·rename_i c ho
  split at h
  ·exact (nX hE.ty h hS).qok
  ·exact t8 hlv ho h hS
 ·exact (nX hE.ty h hS).qok
theorem ED.wok {R:Type}{o:Oper}{d:Nat}(hd:d<1000){κ:AV→Option ae→List (Nat×ae)→List Nat→Option R}{r:R}(hS:aV aa n w g S a)(h:ED aa P w g a o d (fun a r=>κ a r S.roots []) r):nF aa P w g a o d κ r:=by
 intro K Q hK
 refine h K Q fun av v rt w' g' hκ hq hv hn hr=>hK _ _ _ _ _ _ _ hκ ⟨hq.inv hd,fun b u hb hd _=>?_,hv,fun hrt s r hs=>?_,fun _ s r hs hsd=>?_,hr⟩
 ·rcases hd with hrt|hd
  ·obtain ⟨e1,e2⟩:=hn hrt
   exact hb.pres hq.chg (fun _ _ _ h=>h.elim) ⟨hq.gch.imm,hq.gch.bor,fun _ _ _=>by rw [e1],fun _ _=>by rw [e2]⟩ (aG b)
  ·exact hb.quiet hq hd
 ·obtain ⟨e1,e2⟩:=hn hrt
  exact (hS.rt s r hs).pres (M:=fun _ _=>False) (N:=fun _ _=>False) (hq.chg.mono fun _ _ _ h=>h.elim) ⟨hq.gch.imm,hq.gch.bor,fun _ _ _=>by rw [e1],fun _ _=>by rw [e2]⟩ (fun _ _ _ h=>h.elim) (fun b o x hb e=>(hq.who b o hb).trans e) (fun _ h=>h) (fun b _=>aG b)
 ·exact ((hS.rt s r hs).kill d).pres (M:=fun _ _=>False) (hq.chg.mono fun _ _ _ h=>h.elim) hq.gch.ga (fun _ _ _ h=>h.elim) (fun b o x hb e=>(hq.who b o hb).trans e) (fun _=>hsd) (fun b hb=>fg hb)
theorem ul {R:Type}{E:dE}{lv:Lv E.sig}(hE:rz P aa E)(hlv:ir P aa E.sig lv){o:Oper}{κ:AV→Option ae→List (Nat×ae)→List Nat→Option R}{r:R}
  (h:iy E lv o S κ=some r) (hS:aV aa n w g S a):nF aa P w g a o (match o.dst with|some d=>d|none=>0) κ r:=by
 unfold iy at h
 simp only at h
 split at h
 ·rename_i T x y ho;exact uu hE.ty ho h hS
 ·rename_i c ho
  split at h
  ·rename_i hb;exact rX hE.ty ho hb h hS
  ·rename_i hb;exact vW hE.ty ho hb h hS
  ·split at h
   ·rename_i f as hc
    split at h
    ·rename_i T s T' x hpk
     cases hT:Nat.beq T' T with
     |false=>rw [hT] at h;cases h
     |true=>
      rw [hT] at h
      have e:=Nat.eq_of_beq_eq_true hT
      subst e
      exact xF (hE.bw f T' hpk) ho hc h hS
    ·rename_i T e s T' hpk
     cases hT:Nat.beq T' T with
     |false=>rw [hT] at h;cases h
     |true=>
      rw [hT] at h
      have e':=Nat.eq_of_beq_eq_true hT
      subst e'
      obtain ⟨q1,q2⟩:=hE.br f T' e hpk
      exact xh q1 q2 ho hc h hS
    ·exact uj hlv ho hc h hS
   ·cases h
  ·cases h
 ·cases h
theorem jZ {R:Type}{E:dE}{lv:Lv E.sig}(hE:rz P aa E)(hlv:ir P aa E.sig lv){o:Oper}(hd:(match o.dst with|some d=>d|none=>0)<1000)
  {κ:AV→Option ae→List (Nat×ae)→List Nat→Option R}{r:R} (h:step1 E lv o S κ=some r) (hS:aV aa n w g S a):nF aa P w g a o (match o.dst with|some d=>d|none=>0) κ r:=by
 unfold step1 at h
 cases hq:bV E.pks o with
 |true=>rw [hq] at h;exact (gY hE hlv h hS).wok hd hS
 |false=>rw [hq] at h;exact ul hE hlv h hS
end
end Go.Proofs.YtjkokaockhecnaaGreatDoorA
