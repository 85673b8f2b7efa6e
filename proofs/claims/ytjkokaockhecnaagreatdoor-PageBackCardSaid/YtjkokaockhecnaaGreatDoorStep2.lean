/- One operation that leaves what is owned alone. One operation that leaves what is owned alone: conversions, literals, the builtin functions. -/
import Derived.Test.YtjkokaockhecnaaGreatDoorMem
import Derived.Great.BuildSlice
import Derived.Laws.OwnMore
import Derived.Laws.BytesArg
import Derived.Lib.AtoiErrMem
namespace Go.Proofs.YtjkokaockhecnaaGreatDoorA
open Go
def qt:Value→AV→Bool
 |.int k a,.int k' b=>decide (k=k')&&a==b
 |.bool a,.bool b=>a==b
 |.string s,.str l=>s.data.toList==l
 |.slice none 0 0,.nils=>true
 |.pointer none,.nilp=>true
 |_,.und=>true
 |_,_=>false
def di:List Value→List AV→Bool
 |[],[]=>true
 |v :: l,a :: m=>qt v a&&di l m
 |_,_=>false
structure E6 (P:Program)(e:TypeId)(t:El)(ezero:List AV)(ebytes:Nat):Prop where
 inf:∃inf z,P.info? e=some inf∧inf.size=t.size∧inf.bytes=ebytes∧inf.zero=some z∧z.cells.size=t.size∧di z.cells.toList ezero=true
 int:∀k,t=.int k→P.underlying e=some (.int k)
 pos:0<ebytes
 nb:t.isByt=false
theorem vI {t t':El}(h:t.likes t'=true):t'.size=t.size:=by
 unfold El.likes at h
 rw [Bool.or_eq_true,Bool.and_eq_true,decide_eq_true_eq] at h
 rcases h with rfl|⟨h1,h2⟩
 ·rfl
 ·cases t<;>simp [El.isByt] at h1
  cases t'<;>simp [El.isU8] at h2
  rfl
structure eX (P:Program)(aa:aM)(T:TypeId)(i:gA):Prop where
 inf:∃inf,P.info? T=some inf∧inf.size=i.size
 agg:∃d,P.underlying T=some d∧(i.agg=match d with|.struct _|.array _ _=>true|_=>false)
 one:i.agg=false→i.size=1
 zero:∃inf z,P.info? T=some inf∧inf.zero=some z∧di z.cells.toList i.zero=true
 kind:∀k,i.kind=some k→P.underlying T=some (.int k)
 str:i.str=true→P.underlying T=some .string
 isb:i.isb=true→P.underlying T=some .bool
 ifc:i.ifc=true→P.underlying T=some (.interface (P.methodsAt T))
 elem:∀t,i.elem=some t→P.underlying T=some (.slice i.elemT)∧i.elemT=aa t∧E6 P i.elemT t i.ezero i.ebytes
 flds:∀(f off m U:Nat),i.fields[f]?=some (off,m,U)→∃(fs:Array Field) (fd:Field) (inf:TypeInfo),P.underlying T=some (.struct fs)∧fs[f]?=some fd∧fd.offset=off∧fd.type=U∧P.info? U=some inf∧inf.size=m∧m≠0
 nflds:i.fields≠[]→∃fs:Array Field,P.underlying T=some (.struct fs)∧fs.size=i.fields.length
 bld:i.bld=true→i.zero.length=2
 eqs:i.eqs=true→P.stoodInHeld T=false∧P.eqGuardType P.depth T=false∧∃fs:Array Field,P.underlying T=some (.struct fs)∧fs.size=i.zero.length∧
  ∀(j:Nat) (fd:Field),fs[j]?=some fd→fd.name≠ "_" ∧fd.offset=j∧∃z,i.zero[j]?=some z∧
   ((cV z=1∧∃k,P.underlying fd.type=some (.int k))∨(cV z=2∧P.underlying fd.type=some .bool)∨(cV z=3∧P.underlying fd.type=some .string))
section
variable {aa:aM}{n:Nat}{w:World}{g:Gh}{S:St}{a:Act}{P:Program}
theorem sP {v:Value}{b:AV}(h:qt v b=true):RepA w g b v:=by
 unfold qt at h
 split at h
 ·simp at h;obtain ⟨rfl,rfl⟩:=h;exact .int _ _
 ·simp at h;subst h;exact .bool _
 ·rename_i s l
  have:s=⟨l.toArray⟩:=by cases s;simp at h;subst h;simp
  subst this;exact .str _
 ·exact .nils
 ·exact .nilp
 ·exact .und _
 ·cases h
theorem cn:∀{vs:List Value}{bs:List AV},di vs bs=true→RepL w g bs vs
 |[],[],_=>⟨rfl,fun j h=>by simp at h⟩
 |v :: vs,b :: bs,h=>by
  simp only [di,Bool.and_eq_true] at h
  obtain ⟨h1,h2⟩:=h
  have ih:=cn (vs:=vs) (bs:=bs) h2
  refine ⟨by simp [ih.1],fun j hj hj'=>?_⟩
  cases j with
  |zero=>exact sP h1
  |succ j=>exact ih.2 j (by simpa using hj) (by simpa using hj')
 |[],_ :: _,h=>by simp [di] at h
 |_ :: _,[],h=>by simp [di] at h
structure fR (w:World)(g:Gh)(w':World)(g':Gh)(d:Nat):Prop where
 chg:gy w w' fun _ _=>False
 gch:l6 w g g' fun s _=>s=d
 who:∀b o,b<w.heap.size→g'.who b o=g.who b o
theorem fR.refl (w:World)(g:Gh)(d:Nat):fR w g w g d:=⟨.refl _ _,.refl _ _ _,fun _ _ _=>rfl⟩
theorem RepA.quiet {w':World}{g':Gh}{d:Nat}(hq:fR w g w' g' d){b:AV}{v:Value}(h:RepA w g b v)(hd:aj (fun s _=>s=d) b):RepA w' g' b v:=
 h.pres hq.chg (fun _ _ _ h=>h.elim) hq.gch.ga hd
theorem fL (d:Nat)(b:AV):b.names d=false→aj (fun s _=>s=d) b:=by
 refine AV.rec (motive_1:=fun b=>b.names d=false→aj (fun s _=>s=d) b) (motive_2:=fun l=>AV.names.namesL d l=false→∀b,b∈l→aj (fun s _=>s=d) b) ?_ ?_ ?_ ?_ ?_ ?_ ?_ ?_ ?_ ?_ ?_ ?_ ?_ ?_ ?_ ?_ ?_ ?_ ?_ ?_ ?_ ?_ ?_ ?_ ?_ ?_ ?_ ?_ ?_ b
 ·intro _;exact .und
 ·intro _ _;constructor
 ·intro _ _ _;constructor
 ·intro _ _;constructor
 ·intro _ _;constructor
 ·intro _;exact .nils
 ·intro _;exact .emp
 ·intro _ _ _;constructor
 ·intro s' j h
  refine .al _ _ ?_
  rintro rfl
  simp [AV.names] at h
 ·intro s' j h
  refine .ref _ _ ?_
  rintro rfl
  simp [AV.names] at h
 ·intro s' j sz i o h
  refine .eref _ _ _ _ _ ?_
  rintro rfl
  simp [AV.names] at h
 ·intro s' m h
  refine .bs _ _ ?_
  rintro rfl
  simp [AV.names] at h
 ·intro s' m h
  refine .bref _ _ ?_
  rintro rfl
  simp [AV.names] at h
 ·intro s' m t xs h
  refine .bal _ _ _ _ fun _=>?_
  rintro rfl
  simp [AV.names] at h
 ·intro _ _ _ _;constructor
 ·intro s' j sz lo m h
  refine .als _ _ _ _ _ ?_
  rintro rfl
  simp [AV.names] at h
 ·intro s' h
  refine .bad _ ?_
  rintro rfl
  simp [AV.names] at h
 ·intro s' T h
  refine .refT _ _ ?_
  rintro rfl
  simp [AV.names] at h
 ·intro _ _ _;constructor
 ·intro cs ih h;exact .vp _ (ih (by simpa [AV.names] using h))
 ·intro cs ih h;exact .vi _ (ih (by simpa [AV.names] using h))
 ·intro _;exact .nilp
 ·intro t x _;exact .optp t x
 ·intro q t xs _;exact .nq q t xs
 ·intro cs ih h;exact .agg _ (ih (by simpa [AV.names] using h))
 ·intro cs ih h;exact .tup _ (ih (by simpa [AV.names] using h))
 ·intro f cs ih h;exact .fn _ _ (ih (by simpa [AV.names] using h))
 ·intro _ b hb;simp at hb
 ·intro a l ih iht h b hb
  simp only [AV.names.namesL,Bool.or_eq_false_iff] at h
  rcases List.mem_cons.mp hb with rfl|hb
  ·exact ih h.1
  ·exact iht h.2 b hb
theorem ei (d:Nat)(b:AV):aj (fun s _=>s=d) (b.kill d):=by
 unfold AV.kill
 cases h:b.names d with
 |true=>exact .und
 |false=>exact fL d b h
theorem RepA.kill {d:Nat}{b:AV}{v:Value}(h:RepA w g b v):RepA w g (b.kill d) v:=by
 unfold AV.kill
 cases b.names d with
 |true=>exact .und _
 |false=>exact h
def gv {R:Type}(aa:aM)(P:Program)(w:World)(g:Gh)(a:Act)(o:Oper)(d:Nat)(κ:AV→Option ae→Option R)(r:R):Prop:=
 ∃av rt v w' g',κ av rt=some r∧(execOp a.eval o).run P w=.ok (.value v) w'∧fR w g w' g' d∧RepA w' g' av v∧
  (rt=none→g'.hs=g.hs∧g'.hb=g.hb)∧∀q,rt=some q→aB aa w' g' d ⟨q.box,killC d q.cs⟩
theorem gv.pure {R:Type}{o:Oper}{d:Nat}{κ:AV→Option ae→Option R}{r:R}{av:AV}{v:Value}(h:κ av none=some r)
  (hr:(execOp a.eval o).run P w=.ok (.value v) w) (hv:RepA w g av v):gv aa P w g a o d κ r:=
 ⟨av,none,v,w,g,h,hr,.refl _ _ _,hv,fun _=>⟨rfl,rfl⟩,fun q hq=>by cases hq⟩
theorem aD {s:Sem Value}{v:Value}{w':World}(h:s.run P w=.ok v w'):(do pure (Next.value (←s)):Sem Next).run P w=.ok (.value v) w':=by
 simp [h]
theorem rG {T:TypeId}{i:gA}(hT:eX P aa T i)(w:World):(Go.isAgg T).run P w=.ok i.agg w:=by
 obtain ⟨d,h1,h2⟩:=hT.agg
 unfold Go.isAgg
 simp only [Sem.run_bind,run_underlying h1,Result.andThen_ok]
 rw [h2]
 cases d<;>rfl
theorem k6 {T:TypeId}{i:gA}(hT:eX P aa T i)(w:World):(sizeOf T).run P w=.ok i.size w:=by
 obtain ⟨inf,h1,h2⟩:=hT.inf
 simp [sizeOf,typeInfo,h1,h2]
theorem nW {T:TypeId}{i:gA}(hT:eX P aa T i){b o:Nat}{vs:List Value}(hl:vs.length=i.size)
  (hc:∀j (hj:j<vs.length),w.cell? ⟨b,o+j,none⟩=some vs[j]):
  (loadVar T ⟨b,o,none⟩).run P w=.ok (if i.agg then .agg vs.toArray else vs.getD 0 undef) w:=by
 unfold loadVar
 simp only [Sem.run_bind,rG hT,Result.andThen_ok]
 cases ha:i.agg with
 |true=>
  simp only [if_true,Sem.run_bind,k6 hT,Result.andThen_ok]
  have:=run_loadCells_list (P:=P) w ⟨b,o,none⟩ vs (fun j v hj=>by
   obtain ⟨h1,h2⟩:=List.getElem?_eq_some_iff.mp hj
   rw [Addr.add_lit,←h2];exact hc j h1)
  rw [hl] at this
  simp [this]
 |false=>
  have h1:=hT.one ha
  have h0:0<vs.length:=by omega
  have:=hc 0 h0
  simp only [Nat.add_zero] at this
  simp only [Bool.false_eq_true,if_false]
  rw [run_load]
  simp only [this]
  simp [List.getD,h0]
theorem mV {b:Bool}{l:List AV}{vs:List Value}{av:AV}(h:oY b l=some av)(hl:RepL w g l vs):
  RepA w g av (if b then .agg vs.toArray else vs.getD 0 undef):=by
 unfold oY at h
 split at h
 ·cases h;exact .agg _ _ hl.1 hl.2
 ·cases h
  rename_i x
  have h1:=hl.1
  have h2:=hl.2 0 (by simp) (by rw [h1];simp)
  simp only [List.getElem_cons_zero] at h2
  simp only [Bool.false_eq_true,if_false]
  have h0:0<vs.length:=by rw [h1];simp
  have:vs.getD 0 undef=vs[0]:=by simp [List.getD,h0]
  rw [this];exact h2
 ·cases h
theorem vr {R:Type}{E:TypeId→Option gA}(hE:∀T i,E T=some i→eX P aa T i){o:Oper}{κ:AV→Option ae→Option R}{r:R}{T:TypeId}{x:Operand}{d:Nat}
  (ho:o.op=.load T x) (h:(match E T with|some i=>g8 S i.elem (S.ev x) i.size fun l=>(match oY i.agg l with|some v=>κ v none|none=>none)|none=>none)=some r)
  (hS:aV aa n w g S a):gv aa P w g a o d κ r:=by
 split at h
 ·rename_i i hi
  have hT:=hE T i hi
  obtain ⟨b,off,l,vs,e,hκ,hl,hn,hc⟩:=nE h hS (hS.ev x)
  split at hκ
  ·rename_i av hav
   have hr:=nW hT hn hc
   refine .pure hκ ?_ (mV hav hl)
   unfold execOp
   rw [ho]
   exact aD (by simp only [Instr.loadAt,e];simpa [Instr.sureAddr] using hr)
  ·cases hκ
 ·cases h
theorem eN (d:Nat):∀cs:List ah,(killC d cs).length=cs.length
 |[]=>rfl
 |_ :: cs=>by simp [killC,eN d cs]
theorem cS (d:Nat):∀(cs:List ah) (j:Nat),(killC d cs)[j]?=(cs[j]?).map (ah.kill d)
 |[],_=>by simp [killC]
 |c :: cs,0=>by simp [killC]
 |c :: cs,j+1=>by simp only [killC,List.getElem?_cons_succ];exact cS d cs j
def lZ (w:World)(g:Gh)(d:Nat):Gh:=
 ⟨fun b o=>if b=w.heap.size then .obj d none else g.who b o,g.hs,fun s=>if s=d then (w.heap.size,0) else g.hb s⟩
theorem yc (w:World)(g:Gh)(d:Nat)(o:Obj):fR w g (w.alloc o) (lZ w g d) d:=by
 have hne:∀b,b<w.heap.size→¬b=w.heap.size:=fun b hb=>by omega
 refine ⟨.of_below ((RowKit.Below.refl _ _).alloc (Nat.le_refl _) o) _,⟨?_,?_,?_,?_,?_,?_⟩,?_⟩
 ·intro b o hb h;simp [lZ,hne b hb,h]
 ·intro b o hb h;simp [lZ,hne b hb,h]
 ·intro b o hb h;simp [lZ,hne b hb,h]
 ·intro b o s x hb hn h;simp [lZ,hne b hb,h]
 ·intro s j hn;rfl
 ·intro s hn;simp [lZ,show¬s=d from hn]
 ·intro b o hb;simp [lZ,hne b hb]
theorem pn (T:TypeId)(v:Value)(w:World):(newVar T v).run P w=.ok ⟨w.heap.size,0,none⟩ (w.alloc (.cells v.cells T)):=by
 rfl
theorem gv.boxT {R:Type}{o:Oper}{d:Nat}{κ:AV→Option ae→Option R}{r:R}{T:TypeId}{v:Value}{l:List AV}{av:AV}(h:κ av (some ⟨true,bU l⟩)=some r)
  (hav:RepA (w.alloc (.cells v.cells T)) (lZ w g d) av (.pointer (some ⟨w.heap.size,0,none⟩))) (hl:RepL w g l v.cells.toList) (hr:(execOp a.eval o).run P w=.ok (.value (.pointer (some ⟨w.heap.size,0,none⟩))) (w.alloc (.cells v.cells T))):
  gv aa P w g a o d κ r:=by
 have hq:=yc w g d (.cells v.cells T)
 refine ⟨_,_,_,_,_,h,hr,hq,?_,fun e=>(by cases e),?_⟩
 ·exact hav
 ·intro q hqq
  cases hqq
  refine ⟨fun e=>(by cases e),fun _=>⟨fun j=>v.cells.toList.getD j undef,fun j hj=>?_⟩⟩
  rw [eN] at hj
  have hj1:j<l.length:=by simpa [bU] using hj
  have hj2:j<v.cells.toList.length:=by rw [hl.1];exact hj1
  have hb:(lZ w g d).hb d=(w.heap.size,0):=by simp [lZ]
  rw [hb]
  have hv:v.cells.toList.getD j undef=v.cells.toList[j]:=by rw [List.getD_eq_getElem?_getD,List.getElem?_eq_getElem hj2];rfl
  refine ⟨by show w.heap.size<(w.heap.push _).size;simp,by simp [lZ],?_,?_,?_⟩
  ·show World.cell? _ _=some (v.cells.toList.getD j undef)
   rw [hv,World.cell?_alloc_at _ _ _ _ rfl]
   simp at hj2
   simp [hj2]
  ·exact World.frozen?_alloc_at _ _ _ _ rfl
  ·have hc:(killC d (bU l))[j]?=some (.av ((l[j]).kill d)):=by
    rw [cS];simp [bU,hj1,ah.kill]
   obtain ⟨h1,h2⟩:=List.getElem?_eq_some_iff.mp hc
   show cw aa _ _ d j ((killC d (bU l))[j]) (v.cells.toList.getD j undef)
   rw [h2,hv]
   exact .av _ _ (((hl.2 j hj1 hj2).kill).quiet hq (ei d _))
theorem gv.box {R:Type}{o:Oper}{d:Nat}{κ:AV→Option ae→Option R}{r:R}{T:TypeId}{v:Value}{l:List AV}(h:κ (.ref d 0) (some ⟨true,bU l⟩)=some r)
  (hl:RepL w g l v.cells.toList) (hr:(execOp a.eval o).run P w=.ok (.value (.pointer (some ⟨w.heap.size,0,none⟩))) (w.alloc (.cells v.cells T))):
  gv aa P w g a o d κ r:=by
 refine .boxT h ?_ hl hr
 have:=RepA.ref (w:=w.alloc (.cells v.cells T)) (g:=lZ w g d) d 0
 simpa [lZ] using this
theorem jd {b:AV}{v:Value}(h:RepA w g b v)(hb:b≠.und)(ht:∀cs,b≠.tup cs):RepL w g b.leaves v.cells.toList:=by
 cases h with
 |und v=>exact absurd rfl hb
 |agg cs vs hl hr=>exact ⟨by simpa [AV.leaves,Value.cells] using hl,fun j h h'=>hr j h (by simpa [Value.cells] using h')⟩
 |tup cs vs hl hr=>exact absurd rfl (ht cs)
 |bool b=>exact ⟨rfl,fun j h h'=>by simp [AV.leaves] at h;subst h;exact .bool b⟩
 |int k m=>exact ⟨rfl,fun j h h'=>by simp [AV.leaves] at h;subst h;exact .int k m⟩
 |str l=>exact ⟨rfl,fun j h h'=>by simp [AV.leaves] at h;subst h;exact .str l⟩
 |err0=>exact ⟨rfl,fun j h h'=>by simp [AV.leaves] at h;subst h;exact .err0⟩
 |err1 te pe=>exact ⟨rfl,fun j h h'=>by simp [AV.leaves] at h;subst h;exact .err1 te pe⟩
 |nils=>exact ⟨rfl,fun j h h'=>by simp [AV.leaves] at h;subst h;exact .nils⟩
 |emp a=>exact ⟨rfl,fun j h h'=>by simp [AV.leaves] at h;subst h;exact .emp a⟩
 |lnil t a cap=>exact ⟨rfl,fun j h h'=>by simp [AV.leaves] at h;subst h;exact .lnil t a cap⟩
 |list t xs b o cap vals hcap hc hr=>exact ⟨rfl,fun j h h'=>by simp [AV.leaves] at h;subst h;exact .list t xs b o cap vals hcap hc hr⟩
 |al s j x m c h=>exact ⟨rfl,fun j h h'=>by simp [AV.leaves] at h;subst h;exact .al _ _ _ _ _ ‹_›⟩
 |ref s off=>exact ⟨rfl,fun j h h'=>by simp [AV.leaves] at h;subst h;exact .ref s off⟩
 |eref s j sz i off b m cap he=>exact ⟨rfl,fun j h h'=>by simp [AV.leaves] at h;subst h;exact .eref _ _ sz i off b m cap he⟩
 |bs s m cap hm=>exact ⟨rfl,fun j h h'=>by simp [AV.leaves] at h;subst h;exact .bs s m cap hm⟩
 |bref s i=>exact ⟨rfl,fun j h h'=>by simp [AV.leaves] at h;subst h;exact .bref s i⟩
 |bal s i t xs x m c h hL=>exact ⟨rfl,fun j h' h''=>by simp [AV.leaves] at h';subst h';exact .bal _ _ _ _ _ _ _ h hL⟩
 |rm0 t a cap=>exact ⟨rfl,fun j h h'=>by simp [AV.leaves] at h;subst h;exact .rm0 t a cap⟩
 |rm t xs ys b o cap vals hcap hc hr=>exact ⟨rfl,fun j h h'=>by simp [AV.leaves] at h;subst h;exact .rm t xs ys b o cap vals hcap hc hr⟩
 |als s j sz lo k b m c cap h hk=>exact ⟨rfl,fun j h h'=>by simp [AV.leaves] at h;subst h;exact .als _ _ sz lo k b m c cap ‹_› hk⟩
 |als0 s j sz lo a cap=>exact ⟨rfl,fun j h h'=>by simp [AV.leaves] at h;subst h;exact .als0 _ _ sz lo a cap⟩
 |bad0 s=>exact ⟨rfl,fun j h h'=>by simp [AV.leaves] at h;subst h;exact .bad0 s⟩
 |bad1 s=>exact ⟨rfl,fun j h h'=>by simp [AV.leaves] at h;subst h;exact .bad1 s⟩
 |refT s T b e1 e2=>exact ⟨rfl,fun j h h'=>by simp [AV.leaves] at h;subst h;exact .refT s T b e1 e2⟩
 |fzs0 e a c hs=>exact ⟨rfl,fun j h h'=>by simp [AV.leaves] at h;subst h;exact .fzs0 e a c hs⟩
 |fzs e l b cap k hs hk hl hcap hm hc=>exact ⟨rfl,fun j h h'=>by simp [AV.leaves] at h;subst h;exact .fzs e l b cap k hs hk hl hcap hm hc⟩
 |vp cs b o vals hc hr=>exact ⟨rfl,fun j h h'=>by simp [AV.leaves] at h;subst h;exact .vp cs b o vals hc hr⟩
 |vi cs b o vals hc hr=>exact ⟨rfl,fun j h h'=>by simp [AV.leaves] at h;subst h;exact .vi cs b o vals hc hr⟩
 |nilp=>exact ⟨rfl,fun j h h'=>by simp [AV.leaves] at h;subst h;exact .nilp⟩
 |opt0 t=>exact ⟨rfl,fun j h h'=>by simp [AV.leaves] at h;subst h;exact .opt0 t⟩
 |opt1 t x v h=>
  cases h with
  |vi cs b o vals hc hr=>exact ⟨rfl,fun j h h'=>by simp [AV.leaves] at h;subst h;exact .opt1 t x _ (.vi _ b o vals hc hr)⟩
 |nq q t xs a m cap hq h=>exact ⟨rfl,fun j h' h''=>by simp [AV.leaves] at h';subst h';exact .nq q t xs a m cap hq h⟩
 |fn f cs vs hl hr=>exact ⟨rfl,fun j h h'=>by simp [AV.leaves] at h;subst h;exact .fn f cs vs hl hr⟩
theorem rF {b:AV}(h:b.isVal=true):b≠.und∧∀cs,b≠.tup cs:=by
 cases b<;>first|(simp [AV.isVal] at h;done)|exact And.intro (by intro e;cases e) (by intro cs e;cases e)
theorem tf {R:Type}{E:TypeId→Option gA}(hE:∀T i,E T=some i→eX P aa T i){o:Oper}{κ:AV→Option ae→Option R}{r:R}{T:TypeId}{d:Nat}
  (ho:o.op=.alloc T) (h:(match E T with|some i=>κ (bif i.bld then .refT d T else .ref d 0) (some ⟨true,bU i.zero⟩)|none=>none)=some r):gv aa P w g a o d κ r:=by
 split at h
 ·rename_i i hi
  obtain ⟨inf,z,h1,h2,h3⟩:=(hE T i hi).zero
  have hrun:(execOp a.eval o).run P w=.ok (.value (.pointer (some ⟨w.heap.size,0,none⟩))) (w.alloc (.cells z.cells T)):=by
   unfold execOp
   rw [ho]
   refine aD (w':=w.alloc (.cells z.cells T)) ?_
   simp [Instr.alloc,zeroValue,typeInfo,h1,h2,pn]
  cases hb:i.bld with
  |false=>
   rw [hb] at h
   exact gv.box (T:=T) (v:=z) h (cn h3) hrun
  |true=>
   rw [hb] at h
   have hl:=(cn (w:=w) (g:=g) h3).1
   rw [(hE T i hi).bld hb] at hl
   refine gv.boxT (T:=T) (v:=z) h (.refT d T w.heap.size (by simp [lZ]) ?_) (cn h3) hrun
   unfold World.shape? World.alloc
   simpa using hl
 ·cases h
theorem x3 {R:Type}{o:Oper}{κ:AV→Option ae→Option R}{r:R}{T:TypeId}{x:Operand}{d:Nat}
  (ho:o.op=.box T x) (h:(bif (S.ev x).isVal then κ (.ref d 0) (some ⟨true,bU (S.ev x).leaves⟩) else none)=some r) (hS:aV aa n w g S a):gv aa P w g a o d κ r:=by
 cases e:(S.ev x).isVal with
 |false=>rw [e] at h;cases h
 |true=>
  rw [e] at h
  have ⟨h1,h2⟩:=rF e
  refine gv.box (T:=T) (v:=a.eval x) h (jd (hS.ev x) h1 h2) ?_
  unfold execOp
  rw [ho]
  refine aD ?_
  simp [Instr.box,pn]
theorem qk {R:Type}{o:Oper}{κ:AV→Option ae→Option R}{r:R}{x:Operand}{d:Nat}
  (ho:o.op=.move x∨o.op=.assign x) (h:κ (S.ev x) none=some r) (hS:aV aa n w g S a):gv aa P w g a o d κ r:=by
 refine .pure h ?_ (hS.ev x)
 unfold execOp
 rcases ho with ho|ho<;>rw [ho]<;>rfl
theorem uO {R:Type}{o:Oper}{κ:AV→Option ae→Option R}{r:R}{c x y:Operand}{d:Nat}
  (ho:o.op=.pick c x y) (h:(match S.ev c with|.bool t=>bif t then κ (S.ev x) none else κ (S.ev y) none|_=>none)=some r) (hS:aV aa n w g S a):gv aa P w g a o d κ r:=by
 split at h
 ·rename_i t ht
  have hc:=hS.ev c
  rw [ht] at hc
  have hc':=hc.bool_inv
  cases t with
  |true=>
   refine .pure h ?_ (hS.ev x)
   unfold execOp;rw [ho];simp [hc',asBool]
  |false=>
   refine .pure h ?_ (hS.ev y)
   unfold execOp;rw [ho];simp [hc',asBool]
 ·cases h
theorem vA {R:Type}{o:Oper}{κ:AV→Option ae→Option R}{r:R}{op:UnOp}{T:TypeId}{x:Operand}{d:Nat}
  (ho:o.op=.unOp op T x) (h:EC op (S.ev x) (fun a=>κ a none)=some r) (hS:aV aa n w g S a):gv aa P w g a o d κ r:=by
 have hx:=hS.ev x
 unfold EC at h
 split at h
 ·rename_i k m hv
  rw [hv] at hx
  have hx':=hx.int_inv
  refine .pure h ?_ (.int _ _)
  unfold execOp;rw [ho]
  exact aD (by simp [Op.unary,Op.intArith,hx'])
 ·rename_i b hv
  rw [hv] at hx
  have hx':=hx.bool_inv
  refine .pure h ?_ (.bool _)
  unfold execOp;rw [ho]
  exact aD (by simp [Op.unary,hx'])
 ·rename_i k m hv
  rw [hv] at hx
  have hx':=hx.int_inv
  refine .pure h ?_ (.int _ _)
  unfold execOp;rw [ho]
  exact aD (by simp [Op.unary,Op.intBits,ax,hx',cond_eq_ite])
 ·cases h
theorem qX {R:Type}{o:Oper}{κ:AV→Option ae→Option R}{r:R}{x:Operand}{i d:Nat}
  (ho:o.op=.extract x i) (h:(match S.ev x with|.tup vs=>(match vs[i]? with|some a=>κ a none|none=>none)|_=>none)=some r) (hS:aV aa n w g S a):gv aa P w g a o d κ r:=by
 split at h
 ·rename_i cs hv
  split at h
  ·rename_i b hb
   have hx:=hS.ev x
   rw [hv] at hx
   obtain ⟨vs,e,hl,hr⟩:=hx.tup_inv
   obtain ⟨h1,h2⟩:=List.getElem?_eq_some_iff.mp hb
   have h3:i<vs.length:=by omega
   have:=hr i h1 h3
   rw [h2] at this
   refine .pure h ?_ this
   unfold execOp;rw [ho]
   exact aD (by simp [Instr.extract,e,h3])
  ·cases h
 ·cases h
theorem pg {R:Type}{o:Oper}{κ:AV→Option ae→Option R}{r:R}{x:Operand}{d:Nat}
  (ho:o.op=.nilCheck x) (h:(match S.ev x with|.ref s f=>κ (.ref s f) none|.vp cs=>κ (.vp cs) none|.vi cs=>κ (.vi cs) none|.eref s j sz i f=>κ (.eref s j sz i f) none|.optp t x=>(match x with|some x=>κ (.vi (t.cells x)) none|none=>none)|_=>none)=some r)
  (hS:aV aa n w g S a):gv aa P w g a o d κ r:=by
 have hx:=hS.ev x
 have fin:∀q,κ (S.ev x) none=some r→a.eval x=.pointer (some q)→gv aa P w g a o d κ r:=by
  intro q hκ e
  refine .pure hκ ?_ hx
  unfold execOp;rw [ho];simp [e]
 split at h
 ·rename_i s f e
  have:=hx;rw [e] at this
  exact fin _ (by rw [e];exact h) this.ref_inv
 ·rename_i cs e
  have:=hx;rw [e] at this
  cases hv:a.eval x<;>rw [hv] at this<;>cases this
  exact fin _ (by rw [e];exact h) hv
 ·rename_i cs e
  have:=hx;rw [e] at this
  cases hv:a.eval x<;>rw [hv] at this<;>cases this
  exact fin _ (by rw [e];exact h) hv
 ·rename_i s j sz i f e
  have:=hx;rw [e] at this
  cases hv:a.eval x<;>rw [hv] at this<;>cases this
  exact fin _ (by rw [e];exact h) hv
 ·rename_i t y e
  have:=hx;rw [e] at this
  split at h
  ·rename_i z
   cases this with
   |opt1 _ _ v hv=>
    have hvi:=hv
    generalize hq:a.eval x=q at hv hvi
    cases hv with
    |vi cs b o vals hc hr=>
     refine .pure h ?_ hvi
     unfold execOp;rw [ho];simp [hq]
  ·cases h
 ·cases h
theorem k5:∀{l m:List AV},fj l m=true→l.length=m.length∧∀(j:Nat) (x z:AV),l[j]?=some x→m[j]?=some z→cV x=cV z
 |[],[],_=>⟨rfl,fun j x z h=>by simp at h⟩
 |a :: l,b :: m,h=>by
  simp only [fj,Bool.and_eq_true] at h
  have ih:=k5 h.2
  refine ⟨by simp [ih.1],fun j x z hx hz=>?_⟩
  cases j with
  |zero=>simp at hx hz;subst hx;subst hz;exact Nat.eq_of_beq_eq_true h.1
  |succ j=>exact ih.2 j x z (by simpa using hx) (by simpa using hz)
 |[],_ :: _,h=>by simp [fj] at h
 |_ :: _,[],h=>by simp [fj] at h
theorem sR {fs:List Field}{us vs:List Value}{as bs:List AV}:∀(j:Nat) (c:Bool),(∀(i:Nat) (fd:Field) (x:AV),fs[i]?=some fd→as[i]?=some x→fd.name≠ "_" ∧fd.offset=j+i∧
   ((cV x=1∧∃k,P.underlying fd.type=some (.int k))∨(cV x=2∧P.underlying fd.type=some .bool)∨(cV x=3∧P.underlying fd.type=some .string)))→
  dV as bs=some c→as.length=fs.length→
  (∀i (h:i<as.length),∃u,us[j+i]?=some u∧RepA w g (as[i]) u)→(∀i (h:i<bs.length),∃u,vs[j+i]?=some u∧RepA w g (bs[i]) u)→
  (Op.eqFields 9999 us.toArray vs.toArray fs).run P w=.ok c w:=by
 induction fs generalizing as bs with
 |nil=>
  intro j c _ hc hl _ _
  have:as=[]:=List.eq_nil_of_length_eq_zero (by simpa using hl)
  subst this
  cases bs with
  |nil=>simp [dV] at hc;subst hc;simp [Op.eqFields]
  |cons=>simp [dV] at hc
 |cons f fs ih=>
  intro j c hf hc hl hu hv
  cases as with
  |nil=>simp at hl
  |cons x as=>
   cases bs with
   |nil=>simp [dV] at hc
   |cons y bs=>
    simp only [dV] at hc
    cases he:vV x y with
    |none=>rw [he] at hc;cases hc
    |some q=>
     rw [he] at hc
     simp only [Option.bind_some] at hc
     cases hr:dV as bs with
     |none=>rw [hr] at hc;cases hc
     |some q'=>
      rw [hr] at hc
      simp only [Option.map_some,Option.some.injEq] at hc
      obtain ⟨hn,hoff,ht⟩:=hf 0 f x (by simp) (by simp)
      simp only [Nat.add_zero] at hoff
      obtain ⟨u,hu1,hu2⟩:=hu 0 (by simp)
      obtain ⟨v,hv1,hv2⟩:=hv 0 (by simp)
      simp only [Nat.add_zero,List.getElem_cons_zero] at hu1 hu2 hv1 hv2
      have ih':=ih (as:=as) (bs:=bs) (j+1) q' (fun i fd x h h'=>by
        have:=hf (i+1) fd x (by simpa using h) (by simpa using h')
        rwa [show j+(i+1)=j+1+i by omega] at this) hr (by simpa using hl)
       (fun i h=>by have:=hu (i+1) (by simp;omega);rwa [show j+(i+1)=j+1+i by omega] at this)
       (fun i h=>by have:=hv (i+1) (by simp;omega);rwa [show j+(i+1)=j+1+i by omega] at this)
      have hagg:(Go.isAgg f.type).run P w=.ok false w:=by
       unfold Go.isAgg
       rcases ht with ⟨_,k,ht⟩|⟨_,ht⟩|⟨_,ht⟩<;>simp [Sem.run_bind,run_underlying ht]
      have hp:∀(ws:List Value) (z:Value),ws[j]?=some z→(part f.type ws.toArray f.offset).run P w=.ok z w:=by
       intro ws z hz
       unfold part
       simp only [Sem.run_bind,hagg,Result.andThen_ok,Bool.false_eq_true,if_false]
       rw [hoff]
       simp [hz]
      have heq:(Op.equalIn 9999 f.type u v).run P w=.ok q w:=by
       unfold vV at he
       split at he
       ·cases he;have e1:=hu2.bool_inv;have e2:=hv2.bool_inv;subst e1;subst e2
        rcases ht with ⟨h,_⟩|⟨_,ht⟩|⟨h,_⟩
        ·simp [cV] at h
        ·exact run_equalIn_bool w 9998 f.type _ _ ht
        ·simp [cV] at h
       ·split at he
        ·cases he;have e1:=hu2.int_inv;have e2:=hv2.int_inv;subst e1;subst e2
         rename_i hk
         subst hk
         rcases ht with ⟨_,k,ht⟩|⟨h,_⟩|⟨h,_⟩
         ·exact run_equalIn_int w 9998 f.type _ k _ _ ht
         ·simp [cV] at h
         ·simp [cV] at h
        ·cases he
       ·cases he;have e1:=hu2.str_inv;have e2:=hv2.str_inv;subst e1;subst e2
        rcases ht with ⟨h,_⟩|⟨h,_⟩|⟨_,ht⟩
        ·simp [cV] at h
        ·simp [cV] at h
        ·rw [run_equalIn_string w 9998 f.type _ _ ht,ByteArray.toList_mk,ByteArray.toList_mk]
       ·cases he
      rw [Op.eqFields,if_pos hn]
      simp only [Sem.run_bind,hp us u hu1,hp vs v hv1,heq,Result.andThen_ok]
      subst hc
      cases q with
      |true=>simp [ih']
      |false=>simp
theorem tc {R:Type}{E:TypeId→Option gA}(hE:∀T i,E T=some i→eX P aa T i){o:Oper}{κ:AV→Option ae→Option R}{r:R}{op:BinOp}{T:TypeId}{x y:Operand}{Y:TypeId}{d:Nat}
  (ho:o.op=.binOp op T x y Y) (h:vz (match E T with|some i=>i.eqs&&fj (S.ev x).leaves i.zero|none=>false) (match E T with|some i=>i.isb|none=>false) (match E T with|some i=>i.elem.isSome|none=>false) ((match E T with|some i=>i.ifc|none=>false)&&sC y) op (S.ev x) (S.ev y) (fun a=>κ a none)=some r)
  (hS:aV aa n w g S a):gv aa P w g a o d κ r:=by
 have hx:=hS.ev x
 have hy:=hS.ev y
 obtain ⟨av,v,h1,h2,h3⟩:=vQ (P:=P) (T:=T) (xo:=x) (yo:=y) h hx hy (fun hb=>by
   split at hb
   ·rename_i i hi;exact (hE T i hi).isb hb
   ·cases hb) (fun hb=>by
   split at hb
   ·rename_i i hi
    cases he:i.elem with
    |none=>rw [he] at hb;cases hb
    |some t=>exact ⟨_,((hE T i hi).elem t he).1⟩
   ·cases hb) (fun hb=>by
   rw [Bool.and_eq_true] at hb
   refine ⟨nH hb.2,?_,?_⟩
   ·rw [nH hb.2];rfl
   ·have hb:=hb.1
    split at hb
    ·rename_i i hi;exact (hE T i hi).ifc hb
    ·cases hb) (fun hb op' as bs c us vs hxa hop hc hu hv=>by
   split at hb
   ·rename_i i hi
    rw [hxa] at hb
    simp only [Bool.and_eq_true,AV.leaves] at hb
    obtain ⟨hp,hg,fs,hund,hsz,hf⟩:=(hE T i hi).eqs hb.1
    obtain ⟨hk1,hk2⟩:=k5 hb.2
    obtain ⟨us',e1,hl1,hr1⟩:=hu.agg_inv
    obtain ⟨vs',e2,hl2,hr2⟩:=hv.agg_inv
    have e1':us=us':=by simpa using e1
    have e2':vs=vs':=by simpa using e2
    subst e1';subst e2'
    have hrun:(Op.eqFields 9999 us.toArray vs.toArray fs.toList).run P w=.ok c w:=by
     refine sR (g:=g) (as:=as) (bs:=bs) 0 c (fun j fd x h h'=>?_) hc (by simp [hk1,hsz]) (fun j h=>⟨us[j],by simp [hl1,h],hr1 j h (by omega)⟩) (fun j h=>⟨vs[j],by simp [hl2,h],hr2 j h (by omega)⟩)
     have h2:fs[j]?=some fd:=by simpa using h
     obtain ⟨q1,q2,z,hz,q3⟩:=hf j fd h2
     have:=hk2 j x z h' hz
     exact ⟨q1,by simpa using q2,by rw [this];exact q3⟩
    have heq:(Op.equalIn 10000 T (.agg us.toArray) (.agg vs.toArray)).run P w=.ok c w:=by
     have hfo:P.fieldsOf T=fs:=by simp [Program.fieldsOf,hund]
     rw [run_equalIn_struct (P:=P) w 9999 T _ _ (by rw [hfo];exact hund) hp,hfo]
     exact hrun
    simp only [Sem.run_bind,run_eqGuard_agg (P:=P) w op' T x y _ _ hg,Result.andThen_ok]
    rcases hop with rfl|rfl
    ·rw [run_eql_struct,heq];simp
    ·rw [run_neq_struct,heq];simp
   ·cases hb)
 refine .pure h1 ?_ h3
 unfold execOp;rw [ho]
 exact aD h2
theorem qq {w:World}{g:Gh}{Pd:Af→Prop}{cs:List AV}{b o k:Nat}{vals:Nat→Value}
  (hc:∀j,j<cs.length→Pd (g.who b (o+j))∧w.cell? ⟨b,o+j,none⟩=some (vals j)) (hr:∀j (h:j<cs.length),RepA w g (cs[j]) (vals j)):
  (∀j,j<(cs.drop k).length→Pd (g.who b (o+k+j))∧w.cell? ⟨b,o+k+j,none⟩=some (vals (k+j)))∧
  ∀j (h:j<(cs.drop k).length),RepA w g ((cs.drop k)[j]) (vals (k+j)):=by
 refine ⟨fun j hj=>?_,fun j hj=>?_⟩
 ·have:=hc (k+j) (by simp at hj;omega)
  rwa [←Nat.add_assoc] at this
 ·have:=hr (k+j) (by simp at hj;omega)
  simpa using this
theorem td {x y:AV}{k:Nat}{v:Value}(h:oG x k=some y)(hv:RepA w g x v):
  ∃b o,v=.pointer (some ⟨b,o,none⟩)∧RepA w g y (.pointer (some ⟨b,o+k,none⟩)):=by
 unfold oG at h
 split at h
 ·cases h;cases hv
  refine ⟨_,_,rfl,?_⟩
  rw [Nat.add_assoc];exact .ref _ _
 ·cases h;cases hv with
  |eref _ _ _ _ _ b m cap he=>
   refine ⟨_,_,rfl,?_⟩
   rw [Nat.add_assoc];exact .eref _ _ _ _ _ b m cap he
 ·cases h;cases hv with
  |vp cs b o vals hc hr=>
   obtain ⟨h1,h2⟩:=qq (Pd:=fun q=>q=.imm∨q=.bor) (k:=k) hc hr
   exact ⟨_,_,rfl,.vp _ b (o+k) _ h1 h2⟩
 ·cases h;cases hv with
  |vi cs b o vals hc hr=>
   obtain ⟨h1,h2⟩:=qq (Pd:=fun q=>q=.imm) (k:=k) hc hr
   exact ⟨_,_,rfl,.vi _ b (o+k) _ h1 h2⟩
 ·cases h
theorem oC {R:Type}{E:TypeId→Option gA}(hE:∀T i,E T=some i→eX P aa T i){o:Oper}{κ:AV→Option ae→Option R}{r:R}{T:TypeId}{x:Operand}{f d:Nat}
  (ho:o.op=.fieldAddr T x f) (h:(match kt E T f with|some (off,_,_)=>(match oG (S.ev x) off with|some a=>κ a none|none=>none)|none=>none)=some r)
  (hS:aV aa n w g S a):gv aa P w g a o d κ r:=by
 split at h
 ·rename_i off m U hf
  split at h
  ·rename_i y hy
   unfold kt at hf
   cases hi:E T with
   |none=>rw [hi] at hf;cases hf
   |some i=>
    rw [hi] at hf
    obtain ⟨fs,fd,inf,h1,h2,h3,h4,h5,h6,h7⟩:=(hE T i hi).flds f off m U hf
    obtain ⟨b,q,e,hr⟩:=td hy (hS.ev x)
    refine .pure h ?_ hr
    unfold execOp;rw [ho]
    refine aD ?_
    have hsz:(sizeOf fd.type).run P w=.ok m w:=by simp [sizeOf,typeInfo,h4,h5,h6]
    simp [Instr.fieldAt,run_underlying h1,h2,e,Instr.sureAddr,fieldPlace,hsz,h7,h3,Addr.add_lit]
  ·cases h
 ·cases h
theorem uA {R:Type}{E:TypeId→Option gA}(hE:∀T i,E T=some i→eX P aa T i){o:Oper}{κ:AV→Option ae→Option R}{r:R}{T:TypeId}{x:Operand}{f d:Nat}
  (ho:o.op=.field T x f) (h:(match S.ev x,kt E T f with
  |.agg cs,some (off,m,U)=>
   (match bD cs off m with
   |some l=>(match E U with|some j=>(match oY j.agg l with|some v=>κ v none|none=>none)|none=>none)
   |none=>none)
  |_,_=>none)=some r) (hS:aV aa n w g S a):gv aa P w g a o d κ r:=by
 split at h
 ·rename_i cs off m U hx hf
  split at h
  ·rename_i l hl
   split at h
   ·rename_i j hj
    split at h
    ·rename_i v hv
     unfold kt at hf
     cases hi:E T with
     |none=>rw [hi] at hf;cases hf
     |some i=>
      rw [hi] at hf
      obtain ⟨fs,fd,inf,h1,h2,h3,h4,h5,h6,h7⟩:=(hE T i hi).flds f off m U hf
      have hU:=hE U j hj
      have hxx:=hS.ev x
      rw [hx] at hxx
      obtain ⟨vs,e,hl1,hr1⟩:=hxx.agg_inv
      obtain ⟨t1,t2,t3⟩:=cP hl
      have hlen:((vs.drop off).take m).length=m:=by simp;omega
      have hrep:RepL w g l ((vs.drop off).take m):=by
       refine ⟨by omega,fun q hq hq'=>?_⟩
       have e1:=t3 q (by omega)
       have hq2:off+q<cs.length:=by omega
       simp only [hq,hq2,List.getElem?_eq_getElem,Option.some.injEq] at e1
       rw [e1]
       have:=hr1 (off+q) hq2 (by omega)
       simpa using this
      have hsz:(sizeOf U).run P w=.ok m w:=by simp [sizeOf,typeInfo,h5,h6]
      refine .pure h ?_ (mV hv hrep)
      unfold execOp;rw [ho]
      refine aD ?_
      simp only [Instr.field,Sem.run_bind,run_underlying h1,Result.andThen_ok,h2,e,asAgg,Sem.run_pure]
      rw [h4,h3]
      unfold part
      simp only [Sem.run_bind,rG hU,Result.andThen_ok]
      cases ha:j.agg with
      |true=>simp [hsz]
      |false=>
       have:=hU.one ha
       obtain ⟨inf',hi1,hi2⟩:=hU.inf
       have hm:m=1:=by rw [h5] at hi1;cases hi1;omega
       subst hm
       have hlt:off<vs.length:=by omega
       simp [hlt,List.getD]
    ·cases h
   ·cases h
  ·cases h
 ·cases h
theorem fq {α:Type}{xs:List α}{i:Int}{x:α}(h:rd xs i=some x):0≤i∧i<xs.length∧xs[i.toNat]?=some x:=by
 unfold rd at h
 cases hd:decide (0≤i) with
 |false=>rw [hd] at h;cases h
 |true=>
  rw [hd] at h
  have h0:=of_decide_eq_true hd
  obtain ⟨h1,_⟩:=List.getElem?_eq_some_iff.mp h
  exact ⟨h0,by omega,h⟩
theorem sU {R:Type}{E:TypeId→Option gA}(hE:∀T i,E T=some i→eX P aa T i){o:Oper}{κ:AV→Option ae→Option R}{r:R}{T:TypeId}{x y:Operand}{d:Nat}
  (ho:o.op=.index T x y) (h:(match E T,S.ev x,S.ev y with
  |some ty,.str s,.int _ i=>bif ty.str then (rd s i).bind fun b=>κ (.int .u8 (b.toNat:Int)) none else none
  |_,_,_=>none)=some r) (hS:aV aa n w g S a):gv aa P w g a o d κ r:=by
 split at h
 ·rename_i ty s k i hT hx hy
  cases hs:ty.str with
  |false=>rw [hs] at h;cases h
  |true=>
   rw [hs] at h
   simp only [cond] at h
   cases hb:rd s i with
   |none=>rw [hb] at h;cases h
   |some b=>
    rw [hb] at h
    obtain ⟨h0,h1,h2⟩:=fq hb
    have hxx:=hS.ev x
    have hyy:=hS.ev y
    rw [hx] at hxx;rw [hy] at hyy
    have e1:=hxx.str_inv
    have e2:=hyy.int_inv
    refine .pure h ?_ (.int _ _)
    unfold execOp;rw [ho]
    refine aD ?_
    have hu:=(hE T ty hT).str hs
    simp only [Instr.index,e1,e2,asIntOf,Sem.run_bind,Sem.run_pure,Result.andThen_ok,run_underlying hu,if_pos h0]
    have hlt:i.toNat<(ByteArray.mk s.toArray).size:=by rw [cG];omega
    have:(ByteArray.mk s.toArray)[i.toNat]?=some b:=by
     rw [ByteArray.getElem?_lt' _ _ hlt]
     congr 1
     obtain ⟨h3,h4⟩:=List.getElem?_eq_some_iff.mp h2
     rw [←h4];rfl
    simp [this]
 ·cases h
theorem RepA.L_inv {t:El}{xs:List t.den}{v:Value}(h:RepA w g (.L t xs) v):∃ad cap,v=.slice ad xs.length cap∧xs.length≤cap∧
  (xs≠[]→∃(b o:Nat) (vals:Nat→Value),ad=some ⟨b,o,none⟩∧(∀j,j<(ap t xs).length→g.who b (o+j)=.imm∧w.cell? ⟨b,o+j,none⟩=some (vals j))∧
   ∀j (h:j<(ap t xs).length),RepA w g ((ap t xs)[j]) (vals j)):=by
 cases h with
 |lnil _ ad cap=>exact ⟨ad,cap,rfl,Nat.zero_le _,fun h=>absurd rfl h⟩
 |list _ _ b o cap vals hcap hc hr=>exact ⟨_,cap,rfl,hcap,fun _=>⟨b,o,vals,rfl,hc,hr⟩⟩
theorem RepA.rm_inv {t:El}{xs ys:List t.den}{v:Value}(h:RepA w g (.rm t xs ys) v):∃ad cap,v=.slice ad xs.length cap∧(xs++ys).length≤cap∧
  (xs++ys≠[]→∃(b o:Nat) (vals:Nat→Value),ad=some ⟨b,o,none⟩∧(∀j,j<(ap t (xs++ys)).length→g.who b (o+j)=.imm∧w.cell? ⟨b,o+j,none⟩=some (vals j))∧
   ∀j (h:j<(ap t (xs++ys)).length),RepA w g ((ap t (xs++ys))[j]) (vals j)):=by
 cases h with
 |rm0 _ ad cap=>exact ⟨ad,cap,rfl,Nat.zero_le _,fun h=>absurd rfl h⟩
 |rm _ _ _ b o cap vals hcap hc hr=>exact ⟨_,cap,rfl,hcap,fun _=>⟨b,o,vals,rfl,hc,hr⟩⟩
theorem sZ (t:El)(xs ys:List t.den):ap t (xs++ys)=ap t xs++ap t ys:=by simp [ap]
theorem RepA.rm_L {t:El}{xs ys:List t.den}{v:Value}(h:RepA w g (.rm t xs ys) v):RepA w g (.L t xs) v:=by
 cases h with
 |rm0 _ ad cap=>exact .lnil t ad cap
 |rm _ _ _ b o cap vals hcap hc hr=>
  rw [List.length_append] at hcap
  have hle:(ap t xs).length≤(ap t (xs++ys)).length:=by rw [sZ,List.length_append];omega
  refine .list t xs b o cap vals (by omega) (fun j hj=>hc j (by omega)) fun j hj=>?_
  have:=hr j (by omega)
  simp only [sZ] at this
  rwa [List.getElem_append_left hj] at this
theorem lP {t:El}{xs:List t.den}{i:Nat}{x:t.den}(hx:xs[i]?=some x){Pd:Nat→Prop}{Q:Nat→AV→Prop}(hc:∀j,j<(ap t xs).length→Pd j)(hr:∀j (h:j<(ap t xs).length),Q j ((ap t xs)[j])):
  (∀j,j<(t.cells x).length→Pd (i*t.size+j))∧∀j (h:j<(t.cells x).length),Q (i*t.size+j) ((t.cells x)[j]):=by
 have hlt:i<xs.length:=(List.getElem?_eq_some_iff.mp hx).1
 have hin:∀j,j<t.size→i*t.size+j<(ap t xs).length:=by
  intro j hj
  rw [aw]
  have:(i+1)*t.size≤xs.length*t.size:=Nat.mul_le_mul_right _ hlt
  rw [Nat.add_mul] at this;omega
 refine ⟨fun j hj=>hc _ (hin j (by rwa [aP] at hj)),fun j hj=>?_⟩
 have hj':j<t.size:=by rwa [aP] at hj
 have e:=fD t xs i x j hx hj'
 have h2:=hin j hj'
 simp only [hj,h2,List.getElem?_eq_getElem,Option.some.injEq] at e
 rw [←e];exact hr _ h2
theorem fF {T e:TypeId}{inf:TypeInfo}(hu:P.underlying T=some (.slice e))(hi:P.info? e=some inf){b q len cap:Nat}{k:IntKind}{i:Int}(h0:0≤i)(h1:i<len):
  (Instr.indexAt T (.slice (some ⟨b,q,none⟩) len cap) (.int k i)).run P w=.ok (.pointer (some ⟨b,q+i.toNat*inf.size,none⟩)) w:=by
 simp [Instr.indexAt,asIntOf,run_underlying hu,h0,h1,sizeOf,typeInfo,hi,Addr.add_lit]
theorem ou {R:Type}{E:TypeId→Option gA}(hE:∀T i,E T=some i→eX P aa T i){o:Oper}{κ:AV→Option ae→Option R}{r:R}{T:TypeId}{x y:Operand}{d:Nat}
  (ho:o.op=.indexAddr T x y) (h:(match (E T).bind (·.elem) with|some t=>cL S t (S.ev x) (S.ev y) fun a=>κ a none|none=>none)=some r)
  (hS:aV aa n w g S a):gv aa P w g a o d κ r:=by
 split at h
 ·rename_i t' ht
  cases hT:E T with
  |none=>rw [hT] at ht;cases ht
  |some ty=>
   rw [hT] at ht
   simp only [Option.bind_some] at ht
   obtain ⟨hu,_,hel⟩:=(hE T ty hT).elem t' ht
   obtain ⟨inf,z,hi1,hi2,_⟩:=hel.inf
   have hyy:=hS.ev y
   have hxx:=hS.ev x
   unfold cL at h
   split at h
   ·rename_i k i hy
    rw [hy] at hyy
    have e2:=hyy.int_inv
    split at h
    ·rename_i t xs hx
     split at h
     ·rename_i htt;subst htt
      cases hr:rd xs i with
      |none=>rw [hr] at h;cases h
      |some xv=>
       rw [hr] at h
       obtain ⟨h0,h1,h2⟩:=fq hr
       rw [hx] at hxx
       obtain ⟨ad,cap,e1,_,hcs⟩:=hxx.L_inv
       obtain ⟨b,q,vals,hadd,hc,hrr⟩:=hcs (by intro e;subst e;simp at h1;omega)
       subst hadd
       obtain ⟨c1,c2⟩:=lP (Pd:=fun j=>g.who b (q+j)=.imm∧w.cell? ⟨b,q+j,none⟩=some (vals j)) (Q:=fun j av=>RepA w g av (vals j)) h2 hc hrr
       refine .pure h (v:=.pointer (some ⟨b,q+i.toNat*t.size,none⟩)) ?_ (.vi _ b _ (fun j=>vals (i.toNat*t.size+j)) (fun j hj=>?_) c2)
       ·unfold execOp;rw [ho]
        refine aD ?_
        rw [e1,e2,fF hu hi1 h0 h1,hi2]
       ·have:=c1 j hj
        rwa [←Nat.add_assoc] at this
     ·cases h
    ·rename_i t xs ys hx
     split at h
     ·rename_i htt;subst htt
      cases hr:rd xs i with
      |none=>rw [hr] at h;cases h
      |some xv=>
       rw [hr] at h
       obtain ⟨h0,h1,h2⟩:=fq hr
       rw [hx] at hxx
       obtain ⟨ad,cap,e1,_,hcs⟩:=hxx.rm_L.L_inv
       obtain ⟨b,q,vals,hadd,hc,hrr⟩:=hcs (by intro e;subst e;simp at h1;omega)
       subst hadd
       obtain ⟨c1,c2⟩:=lP (Pd:=fun j=>g.who b (q+j)=.imm∧w.cell? ⟨b,q+j,none⟩=some (vals j)) (Q:=fun j av=>RepA w g av (vals j)) h2 hc hrr
       refine .pure h (v:=.pointer (some ⟨b,q+i.toNat*t.size,none⟩)) ?_ (.vi _ b _ (fun j=>vals (i.toNat*t.size+j)) (fun j hj=>?_) c2)
       ·unfold execOp;rw [ho]
        refine aD ?_
        rw [e1,e2,fF hu hi1 h0 h1,hi2]
       ·have:=c1 j hj
        rwa [←Nat.add_assoc] at this
     ·cases h
    ·rename_i s j hx
     rw [hx] at hxx
     obtain ⟨e1,ad,m,cap,e3⟩:=hxx.al_inv
     split at h
     ·rename_i t xs hc
      split at h
      ·rename_i htt;subst htt
       cases hr:rd xs i with
       |none=>rw [hr] at h;cases h
       |some xv=>
        rw [hr] at h
        obtain ⟨h0,h1,h2⟩:=fq hr
        have hs:=hS.cell hc
        obtain ⟨⟨vs,hrow,_,_⟩,hown⟩:=hs.old (by rintro rfl;simp at h2)
        have hs:=hS.cell hc
        rcases hrow.2 with ⟨_,hz⟩|⟨b,cap',cur,e4,_⟩
        ·omega
        ·obtain ⟨vals,_,hcells⟩:=hs.cells e4
         obtain ⟨hlt,hwho⟩:=hown b _ _ e4
         obtain ⟨c1,c2⟩:=lP (Pd:=fun j=>g.who b j=.imm∧w.cell? ⟨b,j,none⟩=some (vals j)) (Q:=fun j av=>RepA w g av (vals j)) h2
          (fun j hj=>⟨by have:=hwho j;rw [aw] at hj;rw [if_pos hj] at this;simpa using this,(hcells j hj).1⟩) (fun j hj=>(hcells j hj).2)
         refine .pure h (v:=.pointer (some ⟨b,i.toNat*t.size,none⟩)) ?_ (.vi _ b _ (fun j=>vals (i.toNat*t.size+j)) c1 c2)
         unfold execOp;rw [ho]
         refine aD ?_
         rw [e1,e2,e4,fF hu hi1 h0 h1,hi2,Nat.zero_add]
      ·cases h
     ·rename_i t xs hc
      cases hlk:t.likes t' with
      |false=>rw [hlk] at h;cases h
      |true=>
       rw [hlk] at h
       simp only [cond] at h
       have hi2:=hi2.trans (vI hlk)
       cases hd:decide (0≤i)&&decide (i<(xs.length:Int)) with
       |false=>rw [hd] at h;cases h
       |true=>
        rw [hd] at h
        simp only [Bool.and_eq_true,decide_eq_true_eq] at hd
        obtain ⟨h0,h1⟩:=hd
        obtain ⟨⟨vs,hrow,_,_⟩,hown⟩:=(hS.cell hc).old (by rintro rfl;simp at h1;omega)
        rcases hrow.2 with ⟨_,hz⟩|⟨b,cap',cur,e4,_⟩
        ·omega
        ·refine .pure h (v:=.pointer (some ⟨b,i.toNat*t.size+0,none⟩)) ?_ (.eref s j t.size i.toNat 0 b _ _ e4)
         unfold execOp;rw [ho]
         refine aD ?_
         rw [e1,e2,e4,fF hu hi1 h0 h1,hi2,Nat.zero_add,Nat.add_zero]
     ·cases h
    ·rename_i s m hx
     rw [hx] at hxx
     cases hl:t'.isList with
     |false=>rw [hl] at h;cases h
     |true=>
      rw [hl] at h
      simp only [cond] at h
      cases hd:decide (0≤i)&&decide (i<(m:Int)) with
      |false=>rw [hd] at h;cases h
      |true=>
       rw [hd] at h
       simp only [Bool.and_eq_true,decide_eq_true_eq] at hd
       obtain ⟨h0,h1⟩:=hd
       have hsz:t'.size=1:=by cases t'<;>first|rfl|(cases hl)
       cases hv:a.eval x<;>rw [hv] at hxx<;>cases hxx
       rename_i hcap
       refine .pure h (v:=.pointer (some ⟨(g.hb s).1,(g.hb s).2+i.toNat,none⟩)) ?_ (.bref s i.toNat)
       unfold execOp;rw [ho]
       refine aD ?_
       rw [hv,e2,fF hu hi1 h0 h1,hi2,hsz,Nat.mul_one]
    ·cases h
   ·cases h
 ·cases h
theorem cK {R:Type}{o:Option Operand}{y dflt:Nat}{κ:Nat→Option R}{r:R}(h:b9 S o y dflt κ=some r)(hS:aV aa n w g S a):
  ∃m,κ m=some r∧((o=none∧m=dflt)∨∃x k i,o=some x∧a.eval x=.int k i∧0≤i∧i≤y∧m=i.toNat):=by
 unfold b9 at h
 split at h
 ·exact ⟨_,h,.inl ⟨rfl,rfl⟩⟩
 ·rename_i x
  split at h
  ·rename_i k i hx
   cases hd:decide (0≤i)&&decide (i≤(y:Int)) with
   |false=>rw [hd] at h;cases h
   |true=>
    rw [hd] at h
    simp only [Bool.and_eq_true,decide_eq_true_eq] at hd
    have:=hS.ev x
    rw [hx] at this
    exact ⟨_,h,.inr ⟨x,k,i,rfl,this.int_inv,hd.1,hd.2,rfl⟩⟩
  ·cases h
theorem iL {isSlice:Bool}{len cap h l:Nat}{lo hi:Option Operand}(hlen:len≤cap)
  (hh:(hi=none∧h=len)∨∃x k i,hi=some x∧a.eval x=.int k i∧0≤i∧i≤len∧h=i.toNat)
  (hl:(lo=none∧l=0)∨∃x k i,lo=some x∧a.eval x=.int k i∧0≤i∧i≤(h:Int)∧l=i.toNat):
  (Instr.sliceBounds isSlice len cap (lo.map a.eval) (hi.map a.eval) none).run P w=.ok (l,h,cap) w∧l≤h∧h≤len:=by
 have hhl:h≤len:=by rcases hh with ⟨_,rfl⟩|⟨_,_,i,_,_,_,_,rfl⟩<;>omega
 have hll:l≤h:=by rcases hl with ⟨_,rfl⟩|⟨_,_,i,_,_,_,_,rfl⟩<;>omega
 refine ⟨?_,hll,hhl⟩
 unfold Instr.sliceBounds
 rcases hh with ⟨rfl,rfl⟩|⟨x,k,i,rfl,e,h0,h1,rfl⟩
 ·rcases hl with ⟨rfl,rfl⟩|⟨y,k',j,rfl,e',q0,q1,rfl⟩
  ·simp
  ·simp [e',run_sliceBound w k' j _ _ q0 (by omega)]
 ·have h1':i≤(cap:Int):=by omega
  rcases hl with ⟨rfl,rfl⟩|⟨y,k',j,rfl,e',q0,q1,rfl⟩
  ·simp [e,run_sliceBound w k i _ _ h0 h1']
  ·simp [e,e',run_sliceBound w k i _ _ h0 h1',run_sliceBound w k' j _ _ q0 (by omega)]
theorem ov {isSlice:Bool}{len cap y h l:Nat}{lo hi:Option Operand}(hly:len≤y)(hlen:y≤cap)
  (hh:(hi=none∧h=len)∨∃x k i,hi=some x∧a.eval x=.int k i∧0≤i∧i≤y∧h=i.toNat)
  (hl:(lo=none∧l=0)∨∃x k i,lo=some x∧a.eval x=.int k i∧0≤i∧i≤(h:Int)∧l=i.toNat):
  (Instr.sliceBounds isSlice len cap (lo.map a.eval) (hi.map a.eval) none).run P w=.ok (l,h,cap) w∧l≤h∧h≤y:=by
 have hhl:h≤y:=by rcases hh with ⟨_,rfl⟩|⟨_,_,i,_,_,_,_,rfl⟩<;>omega
 have hll:l≤h:=by rcases hl with ⟨_,rfl⟩|⟨_,_,i,_,_,_,_,rfl⟩<;>omega
 refine ⟨?_,hll,hhl⟩
 unfold Instr.sliceBounds
 rcases hh with ⟨rfl,rfl⟩|⟨x,k,i,rfl,e,h0,h1,rfl⟩
 ·rcases hl with ⟨rfl,rfl⟩|⟨y,k',j,rfl,e',q0,q1,rfl⟩
  ·simp
  ·simp [e',run_sliceBound w k' j _ _ q0 (by omega)]
 ·have h1':i≤(cap:Int):=by omega
  rcases hl with ⟨rfl,rfl⟩|⟨y,k',j,rfl,e',q0,q1,rfl⟩
  ·simp [e,run_sliceBound w k i _ _ h0 h1']
  ·simp [e,e',run_sliceBound w k i _ _ h0 h1',run_sliceBound w k' j _ _ q0 (by omega)]
theorem gq {t:El}{xs:List t.den}{l h:Nat}(hl:l≤h)(hh:h≤xs.length){j:Nat}(hj:j<(ap t ((xs.take h).drop l)).length):
  (ap t ((xs.take h).drop l))[j]?=(ap t xs)[l*t.size+j]?∧l*t.size+j<(ap t xs).length:=by
 rw [aw] at hj
 simp only [List.length_drop,List.length_take,Nat.min_eq_left hh] at hj
 have hs:=eK t
 have hlt:l*t.size+j<xs.length*t.size:=by
  have h1:(h - l)*t.size+l*t.size=h*t.size:=by rw [←Nat.add_mul];congr 1;omega
  have h2:h*t.size≤xs.length*t.size:=Nat.mul_le_mul_right _ hh
  omega
 refine ⟨?_,by rw [aw];exact hlt⟩
 have hq:j / t.size<h - l:=by
  rw [Nat.div_lt_iff_lt_mul hs];exact hj
 have hm:j % t.size<t.size:=Nat.mod_lt _ hs
 have hjd:j=j / t.size*t.size+j % t.size:=by rw [Nat.mul_comm];exact (Nat.div_add_mod j t.size).symm
 have hx:l+j / t.size<xs.length:=by omega
 have e1:((xs.take h).drop l)[j / t.size]?=some xs[l+j / t.size]:=by
  rw [List.getElem?_drop,List.getElem?_take,if_pos (by omega),List.getElem?_eq_getElem hx]
 have e2:xs[l+j / t.size]?=some xs[l+j / t.size]:=List.getElem?_eq_getElem hx
 have f1:=fD t _ _ _ _ e1 hm
 have f2:=fD t _ _ _ _ e2 hm
 rw [←hjd] at f1
 rw [f1,←f2]
 congr 1
 rw [Nat.add_mul]
 omega
theorem RepA.part {t:El}{xs:List t.den}{ad:Option Addr}{cap:Nat}(hcap:xs.length≤cap){l h:Nat}(hl:l≤h)(hh:h≤xs.length)
  (hx:xs≠[]→∃(b o:Nat) (vals:Nat→Value),ad=some ⟨b,o,none⟩∧(∀j,j<(ap t xs).length→g.who b (o+j)=.imm∧w.cell? ⟨b,o+j,none⟩=some (vals j))∧
   ∀j (h:j<(ap t xs).length),RepA w g ((ap t xs)[j]) (vals j)):
  RepA w g (.L t ((xs.take h).drop l)) (.slice (if cap=l then ad else ad.map (·.add (l*t.size))) (h - l) (cap - l)):=by
 have hlen:((xs.take h).drop l).length=h - l:=by simp;omega
 by_cases he:h - l=0
 ·have:(xs.take h).drop l=[]:=List.eq_nil_of_length_eq_zero (by omega)
  rw [this,he];exact .lnil _ _ _
 ·obtain ⟨b,o,vals,rfl,hc,hr⟩:=hx (by intro e;subst e;simp at hh;omega)
  rw [if_neg (by omega)]
  simp only [Option.map_some,Addr.add_lit]
  rw [←hlen]
  refine .list t _ b (o+l*t.size) (cap - l) (fun j=>vals (l*t.size+j)) (by omega) (fun j hj=>?_) (fun j hj=>?_)
  ·obtain ⟨_,h2⟩:=gq hl hh hj
   have:=hc _ h2
   rwa [←Nat.add_assoc] at this
  ·obtain ⟨h1,h2⟩:=gq hl hh hj
   simp only [hj,h2,List.getElem?_eq_getElem,Option.some.injEq] at h1
   rw [h1];exact hr _ h2
theorem RepA.room {t:El}{p q:List t.den}{ad:Option Addr}{cap:Nat}(hcap:(p++q).length≤cap)
  (hx:p++q≠[]→∃(b o:Nat) (vals:Nat→Value),ad=some ⟨b,o,none⟩∧(∀j,j<(ap t (p++q)).length→g.who b (o+j)=.imm∧w.cell? ⟨b,o+j,none⟩=some (vals j))∧
   ∀j (h:j<(ap t (p++q)).length),RepA w g ((ap t (p++q))[j]) (vals j)):
  RepA w g (.rm t p q) (.slice (if cap=0 then ad else ad.map (·.add (0*t.size))) p.length cap):=by
 by_cases he:p++q=[]
 ·obtain ⟨rfl,rfl⟩:=List.append_eq_nil_iff.1 he
  exact .rm0 _ _ _
 ·obtain ⟨b,o,vals,rfl,hc,hr⟩:=hx he
  have:(p++q).length≠0:=fun h=>he (List.eq_nil_of_length_eq_zero h)
  rw [if_neg (by omega)]
  simp only [Option.map_some,Addr.add_lit,Nat.zero_mul,Nat.add_zero]
  exact .rm t p q b o cap vals hcap hc hr
theorem dX {T e:TypeId}{inf:TypeInfo}(hu:P.underlying T=some (.slice e))(hinf:P.info? e=some inf){ad:Option Addr}{len cap l h:Nat}{lo hi:Option Value}
  (hb:(Instr.sliceBounds true len cap lo hi none).run P w=.ok (l,h,cap) w):
  (Instr.sliceAt T (.slice ad len cap) lo hi none).run P w=.ok (.slice (if cap=l then ad else ad.map (·.add (l*inf.size))) (h - l) (cap - l)) w:=by
 simp [Instr.sliceAt,Instr.slice,run_underlying hu,hb,sizeOf,typeInfo,hinf]
theorem qS (l:List UInt8)(p q:Nat):(ByteArray.mk l.toArray).extract p q=ByteArray.mk ((l.take q).drop p).toArray:=by
 apply ByteArray.ext
 simp [List.drop_take]
theorem tl {R:Type}{E:TypeId→Option gA}(hE:∀T i,E T=some i→eX P aa T i){o:Oper}{κ:AV→Option ae→Option R}{r:R}{T:TypeId}{x:Operand}{lo hi:Option Operand}{d:Nat}
  (ho:o.op=.slice T x lo hi none) (h:(match E T with
  |some ty=>
   match S.ev x with
   |.str s=>bif ty.str then b9 S hi s.length s.length fun h=>b9 S lo h 0 fun l=>κ (.str ((s.take h).drop l)) none else none
   |.L t xs=>if ty.elem=some t then b9 S hi xs.length xs.length fun h=>b9 S lo h 0 fun l=>κ (.L t ((xs.take h).drop l)) none else none
   |.al s j=>
    match S.cell s j with
    |some (.sl t true xs)=>if ty.elem=some t then b9 S hi xs.length xs.length fun h=>b9 S lo h 0 fun l=>κ (bif lo.isNone&&hi.isSome then .rm t (xs.take h) (xs.drop h) else .L t ((xs.take h).drop l)) none else none
    |some (.sl t false xs)=>if ty.elem=some t then b9 S hi xs.length xs.length fun h=>b9 S lo h 0 fun l=>κ (.als s j t.size l (h - l)) none else none
    |_=>none
   |.rm t xs ys=>if ty.elem=some t then b9 S hi (xs++ys).length xs.length fun h=>b9 S lo h 0 fun l=>κ (.L t (((xs++ys).take h).drop l)) none else none
   |_=>none
  |none=>none)=some r) (hS:aV aa n w g S a):gv aa P w g a o d κ r:=by
 split at h
 ·rename_i ty hT
  have hxx:=hS.ev x
  split at h
  ·rename_i s hx
   rw [hx] at hxx
   have e1:=hxx.str_inv
   cases hs:ty.str with
   |false=>rw [hs] at h;cases h
   |true=>
    rw [hs] at h
    simp only [cond] at h
    obtain ⟨hn,h,h1⟩:=cK h hS
    obtain ⟨ln,h,h2⟩:=cK h hS
    have hu:=(hE T ty hT).str hs
    obtain ⟨hb,_,_⟩:=iL (P:=P) (w:=w) (isSlice:=false) (cap:=s.length) (Nat.le_refl _) h1 h2
    refine .pure h ?_ (.str _)
    unfold execOp;rw [ho]
    refine aD ?_
    rw [e1]
    simp [Instr.sliceAt,Instr.slice,run_underlying hu,cG,hb,qS]
  ·rename_i t xs hx
   rw [hx] at hxx
   split at h
   ·rename_i ht
    obtain ⟨hn,h,h1⟩:=cK h hS
    obtain ⟨ln,h,h2⟩:=cK h hS
    obtain ⟨hu,_,hel⟩:=(hE T ty hT).elem t ht
    obtain ⟨inf,z,hi1,hi2,_⟩:=hel.inf
    obtain ⟨ad,cap,e1,hcap,hc⟩:=hxx.L_inv
    obtain ⟨hb,hb1,hb2⟩:=iL (P:=P) (w:=w) (isSlice:=true) (cap:=cap) hcap h1 h2
    refine .pure h ?_ (.part hcap hb1 hb2 hc)
    unfold execOp;rw [ho]
    refine aD ?_
    rw [e1,←hi2]
    exact dX hu hi1 hb
   ·cases h
  ·rename_i s j hx
   rw [hx] at hxx
   obtain ⟨e1,ad,m,cap,e3⟩:=hxx.al_inv
   split at h
   ·rename_i t xs hcell
    split at h
    ·rename_i ht
     obtain ⟨hn,h,h1⟩:=cK h hS
     obtain ⟨ln,h,h2⟩:=cK h hS
     obtain ⟨hu,_,hel⟩:=(hE T ty hT).elem t ht
     obtain ⟨inf,z,hi1,hi2,_⟩:=hel.inf
     have hs:=hS.cell hcell
     have hs':=hs
     -- the header
     have:∃ad cap,g.hs s j=.slice ad xs.length cap∧xs.length≤cap∧
       (xs≠[]→∃(b o:Nat) (vals:Nat→Value),ad=some ⟨b,o,none⟩∧(∀j,j<(ap t xs).length→g.who b (o+j)=.imm∧w.cell? ⟨b,o+j,none⟩=some (vals j))∧
        ∀j (h:j<(ap t xs).length),RepA w g ((ap t xs)[j]) (vals j)):=by
      rcases hs'.c with ⟨⟨vs,hrow,_,_⟩,hown⟩|⟨_,hx,a0,e⟩
      rotate_left
      ·exact ⟨a0,0,by rw [e,hx];rfl,by rw [hx];simp,fun hne=>absurd hx hne⟩
      rcases hrow.2 with ⟨e,hz⟩|⟨b,cap',cur,e4,_,_,hcap,_⟩
      ·refine ⟨none,0,by rw [e,hz],by omega,fun hne=>absurd (List.eq_nil_of_length_eq_zero hz) hne⟩
      ·refine ⟨_,cap',e4,hcap,fun _=>?_⟩
       obtain ⟨vals,_,hcells⟩:=hs.cells e4
       obtain ⟨_,hwho⟩:=hown b _ _ e4
       refine ⟨b,0,vals,rfl,fun j hj=>?_,fun j hj=>(hcells j hj).2⟩
       rw [Nat.zero_add]
       refine ⟨?_,(hcells j hj).1⟩
       have:=hwho j;rw [aw] at hj;rw [if_pos hj] at this;simpa using this
     obtain ⟨ad',cap',e5,hcap,hc⟩:=this
     obtain ⟨hb,hb1,hb2⟩:=iL (P:=P) (w:=w) (isSlice:=true) (cap:=cap') hcap h1 h2
     have hrun:(execOp a.eval o).run P w=.ok (.value (.slice (if cap'=ln then ad' else ad'.map (·.add (ln*t.size))) (hn - ln) (cap' - ln))) w:=by
      unfold execOp;rw [ho]
      refine aD ?_
      rw [e1,e5,←hi2]
      exact dX hu hi1 hb
     cases hbb:(lo.isNone&&hi.isSome) with
     |false=>
      rw [hbb] at h
      exact .pure h hrun (.part hcap hb1 hb2 hc)
     |true=>
      rw [hbb] at h
      simp only [Bool.and_eq_true,Option.isNone_iff_eq_none] at hbb
      obtain ⟨rfl,_⟩:=hbb
      rcases h2 with ⟨_,rfl⟩|⟨_,_,_,e,_⟩
      ·refine .pure h hrun ?_
       have hl:(xs.take hn).length=hn:=by rw [List.length_take];omega
       have:=RepA.room (w:=w) (g:=g) (t:=t) (p:=xs.take hn) (q:=xs.drop hn) (ad:=ad') (cap:=cap') (by rw [List.take_append_drop];exact hcap) (by rw [List.take_append_drop];exact hc)
       rw [hl] at this
       exact this
      ·cases e
    ·cases h
   ·rename_i t xs hcell
    split at h
    ·rename_i ht
     obtain ⟨hn,h,h1⟩:=cK h hS
     obtain ⟨ln,h,h2⟩:=cK h hS
     obtain ⟨hu,_,hel⟩:=(hE T ty hT).elem t ht
     obtain ⟨inf,z,hi1,hi2,_⟩:=hel.inf
     have hs:=hS.cell hcell
     have:∃ad cap,g.hs s j=.slice ad xs.length cap∧xs.length≤cap∧(xs≠[]→∃b,ad=some ⟨b,0,none⟩):=by
      rcases hs.c with ⟨⟨vs,hrow,_,_⟩,_⟩|⟨_,hx,a0,e⟩
      rotate_left
      ·exact ⟨a0,0,by rw [e,hx];rfl,by rw [hx];simp,fun hne=>absurd hx hne⟩
      rcases hrow.2 with ⟨e,hz⟩|⟨b,cap',cur,e4,_,_,hcap,_⟩
      ·exact ⟨none,0,by rw [e,hz],by omega,fun hne=>absurd (List.eq_nil_of_length_eq_zero hz) hne⟩
      ·exact ⟨_,cap',e4,hcap,fun _=>⟨b,rfl⟩⟩
     obtain ⟨ad',cap',e5,hcap,hc⟩:=this
     obtain ⟨hb,hb1,hb2⟩:=iL (P:=P) (w:=w) (isSlice:=true) (cap:=cap') hcap h1 h2
     refine .pure h (v:=.slice (if cap'=ln then ad' else ad'.map (·.add (ln*t.size))) (hn - ln) (cap' - ln)) ?_ ?_
     ·unfold execOp;rw [ho]
      refine aD ?_
      rw [e1,e5,←hi2]
      exact dX hu hi1 hb
     ·by_cases he:hn - ln=0
      ·rw [he];exact .als0 _ _ _ _ _ _
      ·obtain ⟨b,rfl⟩:=hc (by intro e;subst e;simp at hb2;omega)
       rw [if_neg (by omega)]
       simp only [Option.map_some,Addr.add_lit,Nat.zero_add]
       exact .als _ _ _ _ _ _ _ _ _ e5 (by omega)
    ·cases h
   ·cases h
  ·rename_i t xs ys hx
   rw [hx] at hxx
   split at h
   ·rename_i ht
    obtain ⟨hn,h,h1⟩:=cK h hS
    obtain ⟨ln,h,h2⟩:=cK h hS
    obtain ⟨hu,_,hel⟩:=(hE T ty hT).elem t ht
    obtain ⟨inf,z,hi1,hi2,_⟩:=hel.inf
    obtain ⟨ad,cap,e1,hcap,hc⟩:=hxx.rm_inv
    obtain ⟨hb,hb1,hb2⟩:=ov (P:=P) (w:=w) (isSlice:=true) (len:=xs.length) (cap:=cap) (by rw [List.length_append];omega) hcap h1 h2
    refine .pure h ?_ (.part hcap hb1 hb2 hc)
    unfold execOp;rw [ho]
    refine aD ?_
    rw [e1,←hi2]
    exact dX hu hi1 hb
   ·cases h
  ·cases h
 ·cases h
end
end Go.Proofs.YtjkokaockhecnaaGreatDoorA

namespace Go.Proofs.YtjkokaockhecnaaGreatDoorA
open Go
section
variable {aa:aM}{n:Nat}{w:World}{g:Gh}{S:St}{a:Act}{P:Program}
theorem RepL.nil:RepL w g [] []:=⟨rfl,fun j h=>by simp at h⟩
theorem RepL.cons {b:AV}{v:Value}{l:List AV}{vs:List Value}(h:RepA w g b v)(hl:RepL w g l vs):RepL w g (b :: l) (v :: vs):=by
 refine ⟨by simp [hl.1],fun j hj hj'=>?_⟩
 cases j with
 |zero=>exact h
 |succ j=>exact hl.2 j (by simpa using hj) (by simpa using hj')
theorem RepL.cons_inv {b:AV}{l:List AV}{vs:List Value}(h:RepL w g (b :: l) vs):∃v vs',vs=v :: vs'∧RepA w g b v∧RepL w g l vs':=by
 obtain ⟨h1,h2⟩:=h
 cases vs with
 |nil=>simp at h1
 |cons v vs=>
  refine ⟨v,vs,rfl,h2 0 (by simp) (by simp),by simpa using h1,fun j hj hj'=>?_⟩
  exact h2 (j+1) (by simp;omega) (by simp;omega)
theorem RepL.nil_inv {vs:List Value}(h:RepL w g [] vs):vs=[]:=List.eq_nil_of_length_eq_zero (by simpa using h.1)
theorem RepL.append {l m:List AV}{vs us:List Value}(h:RepL w g l vs)(h':RepL w g m us):RepL w g (l++m) (vs++us):=by
 refine ⟨by simp [h.1,h'.1],fun j hj hj'=>?_⟩
 rw [List.getElem_append,List.getElem_append]
 have:=h.1
 by_cases hlt:j<l.length
 ·rw [dif_pos hlt,dif_pos (by omega)];exact h.2 j hlt (by omega)
 ·rw [dif_neg hlt,dif_neg (by omega)]
  simp only [this]
  exact h'.2 (j - l.length) (by simp at hj;omega) (by simp at hj';omega)
theorem RepL.take {l:List AV}{vs:List Value}(h:RepL w g l vs)(k:Nat):RepL w g (l.take k) (vs.take k):=by
 refine ⟨by simp [h.1],fun j hj hj'=>?_⟩
 simp only [List.getElem_take]
 exact h.2 j (by simp at hj;omega) (by simp at hj';omega)
theorem RepL.drop {l:List AV}{vs:List Value}(h:RepL w g l vs)(k:Nat):RepL w g (l.drop k) (vs.drop k):=by
 refine ⟨by simp [h.1],fun j hj hj'=>?_⟩
 simp only [List.getElem_drop]
 exact h.2 (k+j) (by simp at hj;omega) (by simp at hj';omega)
theorem RepL.setRange {l m:List AV}{vs us:List Value}(h:RepL w g l vs)(h':RepL w g m us)(off:Nat):RepL w g (setRange l off m) (setRange vs off us):=by
 unfold _root_.Go.Proofs.YtjkokaockhecnaaGreatDoorA.setRange
 rw [h'.1]
 exact ((h.take off).append h').append (h.drop _)
theorem RepL.agg {l:List AV}{vs:List Value}(h:RepL w g l vs):RepA w g (.agg l) (.agg vs.toArray):=.agg _ _ h.1 h.2
theorem aV.evL (h:aV aa n w g S a):∀xs:List Operand,RepL w g (_root_.Go.Proofs.YtjkokaockhecnaaGreatDoorA.evL S xs) (xs.map a.eval)
 |[]=>.nil
 |x :: xs=>.cons (h.ev x) (h.evL xs)
theorem RepA.bal_inv {s j:Nat}{t:El}{xs:List t.den}{v:Value}(h:RepA w g (.bal s j t xs) v):v=g.hs s j∧RepA w g (.L t xs) v:=by
 cases h with|bal _ _ _ _ a m c e hL=>exact ⟨e.symm,hL⟩
theorem fU {e:El}{b:AV}{xs:List e.den}{v:Value}(h:rS e b=some xs)(hv:RepA w g b v):RepA w g (.L e xs) v:=by
 unfold rS at h
 split at h
 ·cases h;cases hv;exact .lnil _ _ _
 ·rename_i u ys
  split at h
  ·rename_i hu;subst hu;cases h;exact hv
  ·cases h
 ·rename_i q u ys
  split at h
  ·rename_i hu;subst hu;cases h
   cases hv with|nq _ _ _ _ _ _ _ h=>exact h
  ·cases h
 ·split at h
  ·rename_i hu;subst hu
   cases h
   exact hv.bal_inv.2
  ·cases h
 ·split at h
  ·rename_i hu;subst hu
   cases h
   exact hv.rm_L
  ·cases h
 ·cases h
theorem ez {t:El}{l:List AV}{x:t.den}{vs:List Value}(h:t.ofCells l=some x)(hl:RepL w g l vs):RepL w g (t.cells x) vs:=by
 unfold El.ofCells at h
 split at h
 ·split at h
  ·rename_i hk;subst hk;cases h;exact hl
  ·cases h
 ·cases h;exact hl
 ·cases h;exact hl
 ·obtain ⟨v,vs',rfl,h1,h2⟩:=hl.cons_inv
  exact .cons (fU h h1) h2
 ·cases h;exact hl
 ·rename_i q1 q2 q3 q4 q5 q6 ks
  cases hk:rS .arr ks with
  |none=>rw [hk] at h;cases h
  |some xs=>
   rw [hk] at h;cases h
   obtain ⟨v1,vs1,rfl,h1,hl⟩:=hl.cons_inv
   obtain ⟨v2,vs2,rfl,h2,hl⟩:=hl.cons_inv
   obtain ⟨v3,vs3,rfl,h3,hl⟩:=hl.cons_inv
   obtain ⟨v4,vs4,rfl,h4,hl⟩:=hl.cons_inv
   obtain ⟨v5,vs5,rfl,h5,hl⟩:=hl.cons_inv
   obtain ⟨v6,vs6,rfl,h6,hl⟩:=hl.cons_inv
   obtain ⟨v7,vs7,rfl,h7,hl⟩:=hl.cons_inv
   exact .cons h1 (.cons h2 (.cons h3 (.cons h4 (.cons h5 (.cons h6 (.cons (fU hk h7) hl))))))
 ·rename_i b1 b2 b3
  cases hk:rS (.int .i64) b1 with
  |none=>rw [hk] at h;cases h
  |some xs=>
   rw [hk] at h
   simp only [Option.bind_some] at h
   cases hk2:rS (.int .i64) b2 with
   |none=>rw [hk2] at h;cases h
   |some ys=>
    rw [hk2] at h
    simp only [Option.bind_some] at h
    cases hk3:rS .str b3 with
    |none=>rw [hk3] at h;cases h
    |some zs=>
     rw [hk3] at h;cases h
     obtain ⟨v1,vs1,rfl,h1,hl⟩:=hl.cons_inv
     obtain ⟨v2,vs2,rfl,h2,hl⟩:=hl.cons_inv
     obtain ⟨v3,vs3,rfl,h3,hl⟩:=hl.cons_inv
     exact .cons (fU hk h1) (.cons (fU hk2 h2) (.cons (fU hk3 h3) hl))
 ·cases h;exact hl
 ·cases h;exact hl
 ·cases h
theorem pa {t:El}{b:AV}{x:t.den}(h:t.ofCells b.leaves=some x):b≠.und∧∀cs,b≠.tup cs:=by
 refine ⟨fun e=>?_,fun cs e=>?_⟩
 ·subst e;cases t<;>simp [AV.leaves,El.ofCells,rS] at h
 ·subst e;cases t<;>simp [AV.leaves,El.ofCells,rS] at h
theorem jO {t:El}{x:AV}{xs:List t.den}{v:Value}(h:fp S t x=some xs)(hS:aV aa n w g S a)(hv:RepA w g x v):
  ∃ad cap,v=.slice ad xs.length cap∧xs.length≤cap∧(xs≠[]→∃(b o:Nat) (vals:Nat→Value),ad=some ⟨b,o,none⟩∧∀j (h:j<(ap t xs).length),w.cell? ⟨b,o+j,none⟩=some (vals j)∧RepA w g ((ap t xs)[j]) (vals j)):=by
 have fin:rS t x=some xs→∃ad cap,v=.slice ad xs.length cap∧xs.length≤cap∧(xs≠[]→∃(b o:Nat) (vals:Nat→Value),ad=some ⟨b,o,none⟩∧∀j (h:j<(ap t xs).length),w.cell? ⟨b,o+j,none⟩=some (vals j)∧RepA w g ((ap t xs)[j]) (vals j)):=by
  intro h
  obtain ⟨ad,cap,e1,e2,e3⟩:=(fU h hv).L_inv
  refine ⟨ad,cap,e1,e2,fun hne=>?_⟩
  obtain ⟨b,o,vals,e4,e5,e6⟩:=e3 hne
  exact ⟨b,o,vals,e4,fun j hj=>⟨(e5 j hj).2,e6 j hj⟩⟩
 have own:∀(v:Value) (s j:Nat) {t:El}{fz:Bool}{xs:List t.den},S.cell s j=some (.sl t fz xs)→v=g.hs s j→∃ad cap,v=.slice ad xs.length cap∧xs.length≤cap∧(xs≠[]→∃(b o:Nat) (vals:Nat→Value),ad=some ⟨b,o,none⟩∧∀j (h:j<(ap t xs).length),w.cell? ⟨b,o+j,none⟩=some (vals j)∧RepA w g ((ap t xs)[j]) (vals j)):=by
  intro v s j t fz ys hc e
  have hs:=hS.cell hc
  rcases (hS.cell hc).c with ⟨⟨vals,hrow,_,_⟩,_⟩|⟨_,hx,a0,e2⟩
  rotate_left
  ·exact ⟨a0,0,by rw [e,e2,hx];rfl,by rw [hx];simp,fun hne=>absurd hx hne⟩
  rcases hrow.2 with ⟨e2,hz⟩|⟨b,cap,cur,e2,_,_,hcap,_⟩
  ·exact ⟨none,0,by rw [e,e2,hz],by omega,fun hne=>absurd (List.eq_nil_of_length_eq_zero hz) hne⟩
  ·refine ⟨_,cap,by rw [e,e2],hcap,fun _=>?_⟩
   obtain ⟨vals,_,hcells⟩:=hs.cells e2
   exact ⟨b,0,vals,rfl,fun j hj=>by rw [Nat.zero_add];exact hcells j hj⟩
 unfold fp at h
 split at h
 ·rename_i s j
  split at h
  ·rename_i u fz ys hc
   split at h
   ·rename_i hu;subst hu
    have hys:ys=xs:=by simpa using h
    subst hys
    have e:=hv.al_inv.1
    exact own _ s j hc e
   ·unfold Dx at h
    split at h
    ·cases h
     have:=own _ s j hc hv.al_inv.1
     exact this
    ·cases h
  ·cases h
 ·rename_i s j sz lo n
  split at h
  ·rename_i u fz ys hc
   cases hb:Nat.beq sz t.size&&Nat.ble (lo+n) ys.length with
   |false=>rw [hb] at h;cases h
   |true=>
    rw [hb] at h
    simp only [cond] at h
    simp only [Bool.and_eq_true,Nat.ble_eq] at hb
    obtain ⟨hsz,hle⟩:=hb
    have hsz:=Nat.eq_of_beq_eq_true hsz
    split at h
    ·rename_i hu;subst hu;subst hsz
     have hys:(ys.drop lo).take n=xs:=by simpa using h
     subst hys
     have hlen:((ys.drop lo).take n).length=n:=by rw [List.length_take,List.length_drop];omega
     cases hv with
     |als0 _ _ _ _ ad cap=>
      refine ⟨ad,cap,by rw [hlen],by rw [hlen];omega,fun hne=>absurd (List.eq_nil_of_length_eq_zero hlen) hne⟩
     |als _ _ _ _ _ b m c cap e hn=>
      refine ⟨_,cap,by rw [hlen],by rw [hlen];exact hn,fun hne=>?_⟩
      have hne':ys≠[]:=by rintro rfl;simp at hne
      obtain ⟨ad,cap',e1,_,e2⟩:=own _ s j hc rfl
      obtain ⟨b',o',vals,e3,e4⟩:=e2 hne'
      rw [e] at e1
      have e5:some (Addr.mk b 0 none)=ad:=by injection e1
      rw [e3] at e5
      obtain ⟨rfl,rfl⟩:b=b'∧o'=0:=by injection e5 with e5;injection e5 with e5 e6;exact ⟨e5,e6.symm⟩
      have hdt:(ys.drop lo).take n=(ys.take (lo+n)).drop lo:=by rw [List.drop_take];congr 1;omega
      refine ⟨b,lo*u.size,fun j=>vals (lo*u.size+j),rfl,fun j hj=>?_⟩
      have hj2:j<(ap u ((ys.take (lo+n)).drop lo)).length:=by rw [←hdt];exact hj
      obtain ⟨h1,h2⟩:=gq (t:=u) (xs:=ys) (l:=lo) (h:=lo+n) (by omega) hle hj2
      obtain ⟨h3,h4⟩:=e4 _ h2
      rw [Nat.zero_add] at h3
      refine ⟨h3,?_⟩
      have h5:(ap u ((ys.drop lo).take n))[j]?=(ap u ys)[lo*u.size+j]?:=by rw [hdt];exact h1
      rw [List.getElem?_eq_getElem hj,List.getElem?_eq_getElem h2] at h5
      rw [Option.some.inj h5];exact h4
    ·cases h
  ·cases h
 ·exact fin h
theorem gh (k:IntKind)(xs:List Int):ap (.int k) xs=xs.map (AV.int k):=by
 induction xs with
 |nil=>rfl
 |cons x xs ih=>show [AV.int k x]++ap (.int k) xs=_;rw [ih];rfl
theorem xz {xs:List Int}{v:Value}{src dst e:TypeId}(hs:P.underlying src=some (.slice e))(he:P.underlying e=some (.int .u8))(hd:P.underlying dst=some .string)
  (h:∃ad cap,v=.slice ad xs.length cap∧xs.length≤cap∧(xs≠[]→∃(b o:Nat) (vals:Nat→Value),ad=some ⟨b,o,none⟩∧∀j (h:j<(ap (.int .u8) xs).length),w.cell? ⟨b,o+j,none⟩=some (vals j)∧RepA w g ((ap (.int .u8) xs)[j]) (vals j))):
  (convert src dst v).run P w=.ok (.string ⟨(ab xs).toArray⟩) w:=by
 obtain ⟨ad,cap,rfl,hcap,hc⟩:=h
 have hfin:strOfNums xs=⟨(ab xs).toArray⟩:=rfl
 rw [←hfin]
 cases ad with
 |none=>
  have hx:xs=[]:=by
   rcases List.eq_nil_or_concat xs with h|⟨l,b,h⟩
   ·exact h
   ·obtain ⟨b,o,vals,e,_⟩:=hc (by rw [h];simp)
    cases e
  subst hx
  exact run_convert_bytes_nil w src e hs he _ _ dst hd
 |some q=>
  by_cases hx:xs=[]
  ·subst hx
   have:=run_convert_bytes_string (P:=P) w src dst e (some q) 0 cap hs he hd
   simp only [List.length_nil]
   rw [this]
   have hl:(loadCells q 0).run P w=.ok #[] w:=by
    have:=run_loadCells_list (P:=P) w q [] (fun j v hj=>by simp at hj)
    simpa using this
   rw [run_bytesToString w q 0 cap [] (by simpa using hl)]
   rfl
  ·obtain ⟨b,o,vals,e',hcell⟩:=hc hx
   cases e'
   refine run_convert_bytes_arg w src e hs he b o xs.length cap xs rfl (fun i hi=>?_) dst hd
   have hi':i<(ap (.int .u8) xs).length:=by rw [gh];simpa using hi
   obtain ⟨h1,h2⟩:=hcell i hi'
   rw [h1]
   simp only [gh,List.getElem_map] at h2
   rw [h2.int_inv]
   simp [List.getD,hi]
def iI (w:World)(g:Gh)(d:Nat)(v:Value):Gh:=
 ⟨fun b o=>if b=w.heap.size then .obj d (some 0) else g.who b o,fun s j=>if s=d then v else g.hs s j,g.hb⟩
theorem gv.row {R:Type}{o:Oper}{d:Nat}{κ:AV→Option ae→Option R}{r:R}{t:El}{xs:List t.den}{w':World}{cap:Nat}{vals:List Value}(h:κ (.al d 0) (some ⟨false,[.sl t false xs]⟩)=some r)
  (hr:(execOp a.eval o).run P w=.ok (.value (.slice (some ⟨w.heap.size,0,none⟩) xs.length cap)) w')
  (hg:w.grownBy w' none) (hrow:w'.ownsRow 0 (aa t) t.size (.slice (some ⟨w.heap.size,0,none⟩) xs.length cap) xs.length vals) (hl:RepL w g (ap t xs) vals) (hnb:t.isByt=false):
  gv aa P w g a o d κ r:=by
 have hne:∀b,b<w.heap.size→¬b=w.heap.size:=fun b hb=>by omega
 have hq:fR w g w' (iI w g d (.slice (some ⟨w.heap.size,0,none⟩) xs.length cap)) d:=by
  refine ⟨.of_below ⟨hg.os,hg.tape,hg.output,hg.size,fun b hb=>hg.block b hb (by simp)⟩ _,⟨?_,?_,?_,?_,?_,?_⟩,?_⟩
  ·intro b o hb h;simp [iI,hne b hb,h]
  ·intro b o hb h;simp [iI,hne b hb,h]
  ·intro b o hb h;simp [iI,hne b hb,h]
  ·intro b o s x hb hn h;simp [iI,hne b hb,h]
  ·intro s j hn;simp [iI,show¬s=d from hn]
  ·intro s hn;rfl
  ·intro b o hb;simp [iI,hne b hb]
 have hv:(iI w g d (.slice (some ⟨w.heap.size,0,none⟩) xs.length cap)).hs d 0=.slice (some ⟨w.heap.size,0,none⟩) xs.length cap:=by simp [iI]
 refine ⟨_,_,_,_,_,h,hr,hq,.al d 0 _ _ _ hv,fun e=>(by cases e),?_⟩
 intro q hqq
 cases hqq
 refine ⟨fun _ j t' fz xs' hj=>?_,fun e=>(by cases e)⟩
 cases j with
 |succ j=>simp [killC] at hj
 |zero=>
  simp only [killC,ah.kill,List.getElem?_cons_zero,Option.some.injEq] at hj
  cases hj
  refine ⟨.inl ⟨⟨vals,by rw [hv];exact gz.of hrow hnb,hl.1,fun i h h'=>(hl.2 i h h').quiet hq (c8 _ t xs _ (List.getElem_mem h))⟩,?_⟩⟩
  intro b m c e
  rw [hv] at e
  cases e
  refine ⟨?_,fun o=>by simp [iI]⟩
  rcases hrow.2 with ⟨e,_⟩|⟨b',c',cur,e,_,hh,_⟩
  ·cases e
  ·cases e
   exact (Array.getElem?_eq_some_iff.mp hh).1
theorem gv.text {R:Type}{o:Oper}{d:Nat}{κ:AV→Option ae→Option R}{r:R}{src dst:TypeId}{e:TypeId}{x:Operand}{s:List UInt8}{u:TypeDesc}(h:κ (.al d 0) (some ⟨false,[.sl .byt false (ac s)]⟩)=some r)
  (ho:o.op=.convert src dst x) (hx:a.eval x=.string ⟨s.toArray⟩) (hs:P.underlying src=some u) (hd:P.underlying dst=some (.slice e)) (he:P.underlying e=some (.int .u8)) (hid:e=aa (.int .u8)) (hl:s.length≤140737488355328):
  gv aa P w g a o d κ r:=by
 have hsz:(⟨s.toArray⟩:ByteArray).size=s.length:=by simp [ByteArray.size]
 have hne:∀b,b<w.heap.size→¬b=w.heap.size:=fun b hb=>by omega
 have hr:=Lib.run_convert_string_bytes (P:=P) w src dst e ⟨s.toArray⟩ hs hd he
 rw [hsz] at hr
 have hlen:(ac s).length=s.length:=by simp [ac]
 generalize hcap:grownCap w s.length 0 e=cap at hr
 have hge:s.length≤cap:=by rw [←hcap];exact grownCap_ge w s.length 0 e
 have hcm:cap≤maxLen:=by rw [←hcap];exact grownCap_le_maxLen w s.length 0 e (by simp only [maxLen];omega)
 have hq:fR w g (Lib.bytesWorld w e ⟨s.toArray⟩) (iI w g d (.slice (some ⟨w.heap.size,0,none⟩) s.length cap)) d:=by
  refine ⟨.of_below (Lib.bytesWorld_below w e _) _,⟨?_,?_,?_,?_,?_,?_⟩,?_⟩
  ·intro b o hb h;simp [iI,hne b hb,h]
  ·intro b o hb h;simp [iI,hne b hb,h]
  ·intro b o hb h;simp [iI,hne b hb,h]
  ·intro b o s x hb hn h;simp [iI,hne b hb,h]
  ·intro s j hn;simp [iI,show¬s=d from hn]
  ·intro s hn;rfl
  ·intro b o hb;simp [iI,hne b hb]
 have hv:(iI w g d (.slice (some ⟨w.heap.size,0,none⟩) s.length cap)).hs d 0=.slice (some ⟨w.heap.size,0,none⟩) s.length cap:=by simp [iI]
 refine ⟨_,_,_,_,_,h,?_,hq,.al d 0 _ _ _ hv,fun e=>(by cases e),?_⟩
 ·unfold execOp;rw [ho]
  refine aD ?_
  rw [hx];exact hr
 intro q hqq
 cases hqq
 refine ⟨fun _ j t' fz xs' hj=>?_,fun e=>(by cases e)⟩
 cases j with
 |succ j=>simp [killC] at hj
 |zero=>
  simp only [killC,ah.kill,List.getElem?_cons_zero,Option.some.injEq] at hj
  cases hj
  have hf:ap .byt (ac s)=(ac s).map (AV.int .u8):=gh .u8 (ac s)
  have hbs:(Lib.bytesCells w e ⟨s.toArray⟩).size=cap:=by
   unfold Lib.bytesCells
   rw [hsz,hcap]
   simp;omega
  have hnew:=Lib.bytesWorld_at_new w e ⟨s.toArray⟩
  refine ⟨.inl ⟨⟨(ac s).map (Value.int .u8),?_,?_,?_⟩,?_⟩⟩
  ·rw [hv,hlen]
   refine ⟨by simp [hlen,El.size],.inr ⟨w.heap.size,cap,_,rfl,Nat.zero_le _,⟨_,by rw [←show e=aa (El.byt).base from hid];exact hnew,.inr ⟨rfl,Nat.le_refl _⟩⟩,hge,hcm,by rw [hbs];simp [El.size],?_⟩⟩
   unfold Lib.bytesCells
   simp only [Array.toList_append,Array.toList_map,El.size,Nat.mul_one]
   rw [List.take_left' (by simp)]
   unfold ac
   rw [List.map_map];rfl
  ·rw [hf];simp
  ·intro i h h'
   simp only [hf,List.getElem_map]
   exact .int _ _
  ·intro b m c e2
   rw [hv] at e2
   cases e2
   exact ⟨by rw [Lib.bytesWorld_size];omega,fun o=>by simp [iI]⟩
theorem qW {R:Type}{E:TypeId→Option gA}(hE:∀T i,E T=some i→eX P aa T i){o:Oper}{κ:AV→Option ae→Option R}{r:R}{src dst:TypeId}{x:Operand}{d:Nat}
  (ho:o.op=.convert src dst x) (h:(match E src,E dst with
  |some i,some j=>
   match S.ev x,j.kind with
   |.int _ n,some k=>κ (.int k (k.wrap n)) none
   |.int _ _,none=>none
   |.str s,_=>bif j.str then κ (.str s) none else
    match j.elem with
    |some (.int .u8)=>bif decide (s.length≤140737488355328) then κ (.al d 0) (some ⟨false,[.sl .byt false (ac s)]⟩) else none
    |_=>none
   |a,_=>
    bif j.str then
     match i.elem with
     |some (.int .u8)=>(match fp S (.int .u8) a with|some l=>κ (.str (ab l)) none|none=>none)
     |_=>none
    else none
  |_,_=>none)=some r) (hS:aV aa n w g S a):gv aa P w g a o d κ r:=by
 split at h
 ·rename_i i j hi hj
  have hxx:=hS.ev x
  obtain ⟨d1,hd1,_⟩:=(hE src i hi).agg
  split at h
  ·rename_i k' m k hx hk
   rw [hx] at hxx
   have e1:=hxx.int_inv
   refine .pure h ?_ (.int _ _)
   unfold execOp;rw [ho]
   refine aD ?_
   rw [e1]
   simp [convert,run_underlying hd1,run_underlying ((hE dst j hj).kind k hk),Conv.intToInt]
  ·cases h
  ·rename_i s hx
   cases hs:j.str with
   |false=>
    rw [hs] at h
    simp only [cond] at h
    split at h
    ·rename_i hel
     cases hd:decide (s.length≤140737488355328) with
     |false=>rw [hd] at h;cases h
     |true=>
      rw [hd] at h
      obtain ⟨hu,hid,hok⟩:=(hE dst j hj).elem _ hel
      rw [hx] at hxx
      exact gv.text (s:=s) h ho hxx.str_inv hd1 hu (hok.int _ rfl) hid (of_decide_eq_true hd)
    ·cases h
   |true=>
    rw [hs] at h
    rw [hx] at hxx
    have e1:=hxx.str_inv
    refine .pure h ?_ (.str _)
    unfold execOp;rw [ho]
    refine aD ?_
    rw [e1]
    simp [convert,run_underlying hd1,run_underlying ((hE dst j hj).str hs)]
  ·cases hs:j.str with
   |false=>rw [hs] at h;cases h
   |true=>
    rw [hs] at h
    simp only [cond] at h
    split at h
    ·rename_i hel
     split at h
     ·rename_i l hl
      obtain ⟨hu,_,hok⟩:=(hE src i hi).elem _ hel
      refine .pure h ?_ (.str _)
      unfold execOp;rw [ho]
      exact aD (xz hu (hok.int _ rfl) ((hE dst j hj).str hs) (jO hl hS hxx))
     ·cases h
    ·cases h
 ·cases h
theorem oa {α β:Type}{F:α→Option β}:∀{fs:List α}{l:List β},fs.length=l.length→(∀(j:Nat) f p,fs[j]?=some f→l[j]?=some p→F f=some p)→fs.mapM F=some l
 |[],[],_,_=>by simp
 |f :: fs,p :: l,hl,h=>by
  have h1:=h 0 f p (by simp) (by simp)
  have h2:=oa (F:=F) (fs:=fs) (l:=l) (by simpa using hl) (fun (j:Nat) f p h3 h4=>h (j+1) f p (by simpa using h3) (by simpa using h4))
  simp [List.mapM_cons,h1,h2]
 |[],_ :: _,hl,_=>by simp at hl
 |_ :: _,[],hl,_=>by simp at hl
theorem pC (off:Nat)(l:List Value)(cs:Array Value)(h:off+l.length≤cs.size):
  ((l.zipIdx 0).foldl (fun cs (x:Value×Nat)=>cs.setIfInBounds (off+x.2) x.1) cs).toList=setRange cs.toList off l:=by
 obtain ⟨h1,h2⟩:=Great.foldl_set off l 0 cs
 apply List.ext_getElem?
 intro k
 rw [Array.getElem?_toList,h2 k]
 unfold setRange
 have hlen:(cs.toList.take off).length=off:=by simp;omega
 rw [List.append_assoc]
 rcases Nat.lt_or_ge k off with hk|hk
 ·rw [if_neg (by omega),List.getElem?_append_left (by omega),List.getElem?_take,if_pos hk,Array.getElem?_toList]
 ·rw [List.getElem?_append_right (by omega),hlen]
  rcases Nat.lt_or_ge (k - off) l.length with hk2|hk2
  ·rw [if_pos (by omega),List.getElem?_append_left hk2]
   simp
  ·rw [if_neg (by omega),List.getElem?_append_right hk2,List.getElem?_drop,Array.getElem?_toList]
   congr 1;omega
theorem uq {fields:List (Nat×Nat×Nat)}:∀{parts:List (Nat×Operand)}{cs out:List AV}{vs:Array Value},eP (fun _=>none) fields (parts.map fun p=>(p.1,S.ev p.2)) cs=some out→aV aa n w g S a→
  RepL w g cs vs.toList→∃us,Instr.fill ((fields.map fun p=>(p.1,p.2.1)).toArray[·]?) vs (parts.map fun p=>(p.1,a.eval p.2))=some us∧RepL w g out us.toList
 |[],cs,out,vs,h,_,hr=>by
  simp only [List.map_nil,eP,Option.some.injEq] at h
  subst h
  exact ⟨vs,rfl,hr⟩
 |p :: parts,cs,out,vs,h,hS,hr=>by
  simp only [List.map_cons,eP] at h
  cases hf:fields[p.1]? with
  |none=>rw [hf] at h;cases h
  |some q=>
   obtain ⟨off,size,U⟩:=q
   rw [hf] at h
   simp only at h
   cases hc:(S.ev p.2).isVal&&(Nat.beq (S.ev p.2).leaves.length size&&Nat.ble (off+size) cs.length) with
   |false=>rw [hc] at h;cases h
   |true=>
    rw [hc] at h
    simp only [Bool.and_eq_true] at hc
    obtain ⟨c1,c2,c3⟩:=hc
    have c2:=Nat.eq_of_beq_eq_true c2
    have c3:=Nat.le_of_ble_eq_true c3
    obtain ⟨v1,v2⟩:=rF c1
    have hl:=jd (hS.ev p.2) v1 v2
    have hsz:(a.eval p.2).cells.size=size:=by rw [←c2,←hl.1];simp
    have hcs:cs.length=vs.size:=by rw [←hr.1];simp
    have hset:=pC off (a.eval p.2).cells.toList vs (by simp;omega)
    obtain ⟨us,h1,h2⟩:=uq (parts:=parts) (vs:=(((a.eval p.2).cells.toList.zipIdx 0).foldl (fun cs (x:Value×Nat)=>cs.setIfInBounds (off+x.2) x.1) vs)) h hS (by rw [hset];exact hr.setRange hl off)
    refine ⟨us,?_,h2⟩
    rw [←h1]
    simp only [List.map_cons]
    rw [Instr.fill]
    simp only [List.getElem?_toArray,List.getElem?_map,hf,Option.map_some]
    rw [if_neg (by simp;omega)]
    congr 1
    rw [←Array.foldl_toList,Array.toList_zipIdx]
theorem oO (E E':TypeId→Option gA)(fields:List (Nat×Nat×Nat)):∀(ps:List (Nat×AV)) (cs:List AV),eP E fields ps cs=eP E' fields ps cs
 |[],_=>rfl
 |(i,a) :: ps,cs=>by
  simp only [eP]
  split
  ·rw [oO E E' fields ps]
  ·rfl
theorem uv {R:Type}{E:TypeId→Option gA}(hE:∀T i,E T=some i→eX P aa T i){o:Oper}{κ:AV→Option ae→Option R}{r:R}{T:TypeId}{parts:Array (Nat×Operand)}{d:Nat}
  (ho:o.op=.build T parts) (h:(match E T with
  |some i=>bif i.fields.isEmpty then none else (match eP E i.fields (parts.toList.map fun p=>(p.1,S.ev p.2)) i.zero with|some cs=>κ (.agg cs) none|none=>none)
  |none=>none)=some r) (hS:aV aa n w g S a):gv aa P w g a o d κ r:=by
 split at h
 ·rename_i i hi
  cases hem:i.fields.isEmpty with
  |true=>rw [hem] at h;cases h
  |false=>
   rw [hem] at h
   simp only [cond] at h
   split at h
   ·rename_i cs hcs
    have hT:=hE T i hi
    obtain ⟨inf,z,z1,z2,z3⟩:=hT.zero
    obtain ⟨fs,f1,f2⟩:=hT.nflds (by intro e;rw [e] at hem;cases hem)
    rw [oO E (fun _=>none)] at hcs
    obtain ⟨us,h1,h2⟩:=uq (vs:=z.cells) hcs hS (cn z3)
    have hpl:fs.toList.mapM (fun f=>(P.info? f.type).map fun i=>(f.offset,i.size))=some (i.fields.map fun p=>(p.1,p.2.1)):=by
     refine oa (by simp [f2]) (fun j f p hj hp=>?_)
     simp only [List.getElem?_map] at hp
     cases hq:i.fields[j]? with
     |none=>rw [hq] at hp;cases hp
     |some q=>
      obtain ⟨off,m,U⟩:=q
      rw [hq] at hp
      simp only [Option.map_some,Option.some.injEq] at hp
      obtain ⟨fs',fd,inf',g1,g2,g3,g4,g5,g6,g7⟩:=hT.flds j off m U hq
      rw [f1] at g1;cases g1
      have:fd=f:=by simpa [g2] using hj
      subst this
      rw [g4,g5,g3];simp [g6,←hp]
    refine .pure h ?_ h2.agg
    unfold execOp;rw [ho]
    refine aD ?_
    have:=run_build (P:=P) w T (parts.map fun (i,x)=>(i,a.eval x)) us (by
     unfold Program.built
     simp only [z1,f1,z2,hpl]
     rw [←h1];congr 1
     simp)
    simpa using this
   ·cases h
 ·cases h
theorem rk {b:AV}{v:Value}(hS:aV aa n w g S a)(h:RepA w g b v):RepA w g (qz S b) v:=by
 unfold qz
 split
 ·rename_i s j
  split
  ·rename_i t xs hc
   rw [h.al_inv.1]
   exact (hS.cell hc).L_own
  ·exact h
 ·exact h
theorem xE {b:AV}{v:Value}(hS:aV aa n w g S a)(h:RepA w g b v):RepA w g (jz S b) v:=by
 unfold jz
 split
 ·rename_i l
  cases h with
  |agg _ vs e1 e2=>
   exact .agg _ _ (by simpa using e1) fun j h1 h2=>by
    simp only [List.getElem_map]
    exact rk hS (e2 j (by simpa using h1) h2)
 ·exact rk hS h
theorem oi {t:El}:∀{parts:List (Nat×Operand)}{k:Nat}{xs:List t.den},iW t k (parts.map fun p=>(p.1,jz S (S.ev p.2)))=some xs→aV aa n w g S a→
  ∃vs:List Value,(parts.map fun p=>(p.1,a.eval p.2))=(vs.zipIdx k).map (fun x=>(x.2,x.1))∧vs.length=xs.length∧(∀v∈vs,v.cells.size=t.size)∧RepL w g (ap t xs) (vs.flatMap fun v=>v.cells.toList)
 |[],k,xs,h,_=>by
  simp only [List.map_nil,iW,Option.some.injEq] at h
  subst h
  exact ⟨[],rfl,rfl,fun v hv=>by simp at hv,.nil⟩
 |p :: parts,k,xs,h,hS=>by
  simp only [List.map_cons,iW] at h
  cases hb:Nat.beq p.1 k with
  |false=>rw [hb] at h;cases h
  |true=>
   rw [hb] at h
   simp only [cond] at h
   have hk:=Nat.eq_of_beq_eq_true hb
   cases hx:t.ofCells (jz S (S.ev p.2)).leaves with
   |none=>rw [hx] at h;cases h
   |some x=>
    rw [hx] at h
    simp only [Option.bind_some] at h
    cases hr:iW t (k+1) (parts.map fun p=>(p.1,jz S (S.ev p.2))) with
    |none=>rw [hr] at h;cases h
    |some ys=>
     rw [hr] at h
     simp only [Option.map_some,Option.some.injEq] at h
     subst h
     obtain ⟨vs,h1,h2,h3,h4⟩:=oi (parts:=parts) hr hS
     obtain ⟨v1,v2⟩:=pa hx
     have hl:=ez hx (jd (xE hS (hS.ev p.2)) v1 v2)
     refine ⟨a.eval p.2 :: vs,?_,by simp [h2],?_,?_⟩
     ·simp [h1,hk]
     ·intro v hv
      rcases List.mem_cons.mp hv with rfl|hv
      ·have:=hl.1;rw [aP] at this;simpa using this
      ·exact h3 v hv
     ·exact hl.append h4
theorem mZ {R:Type}{E:TypeId→Option gA}(hE:∀T i,E T=some i→eX P aa T i){o:Oper}{κ:AV→Option ae→Option R}{r:R}{T:TypeId}{m:Nat}{parts:Array (Nat×Operand)}{d:Nat}
  (ho:o.op=.buildSlice T m parts) (h:(match E T with
  |some i=>
   match i.elem with
   |some t=>
    match iW t 0 (parts.toList.map fun p=>(p.1,jz S (S.ev p.2))) with
    |some l=>bif Nat.beq l.length m&&Nat.ble (m*t.size) 16777216 then κ (.al d 0) (some ⟨false,[.sl t false l]⟩) else none
    |none=>none
   |none=>none
  |none=>none)=some r) (hS:aV aa n w g S a):gv aa P w g a o d κ r:=by
 split at h
 ·rename_i i hi
  split at h
  ·rename_i t ht
   split at h
   ·rename_i l hl
    cases hc:Nat.beq l.length m&&Nat.ble (m*t.size) 16777216 with
    |false=>rw [hc] at h;cases h
    |true=>
     rw [hc] at h
     simp only [Bool.and_eq_true] at hc
     have c1:=Nat.eq_of_beq_eq_true hc.1
     have c2:=Nat.le_of_ble_eq_true hc.2
     subst c1
     obtain ⟨vs,h1,h2,h3,h4⟩:=oi hl hS
     obtain ⟨hu,hid,hok⟩:=(hE T i hi).elem t ht
     obtain ⟨inf,z,i1,i2,i3,i4,i5,_⟩:=hok.inf
     have hpos:=eK t
     have hrun:(Instr.buildSlice T l.length (parts.map fun (i,x)=>(i,a.eval x))).run P w=.ok (.slice (some ⟨w.heap.size,0,none⟩) l.length l.length) (w.alloc (.cells (vs.flatMap fun v=>v.cells.toList).toArray i.elemT)):=by
      have hfill:∀cells:Array Value,cells.size=l.length*t.size→Instr.fill (fun i=>some (i*t.size,t.size)) cells (parts.map fun (i,x)=>(i,a.eval x)).toList=some (vs.flatMap fun v=>v.cells.toList).toArray:=by
       intro cells hcs
       rw [←Great.fill_whole hpos vs cells h3 (by rw [h2,hcs]),←h1]
       congr 1
       simp
      by_cases h0:l.length=0
      ·simp only [h0]
       have:=hfill #[] (by simp [h0])
       simp only [Array.toList_map] at this
       simp [Instr.buildSlice,run_underlying hu,sizeOf,typeInfo,i1,i2,newRow]
       have h00:Array.map (fun x=>(default:Value)) (Array.range 0)=#[]:=by simp
       rw [h00,this]
       simp
      ·refine run_buildSlice w T i.elemT _ _ _ inf z hu i1 i4 (by rw [i2];omega) (by rw [i2];exact Nat.mul_ne_zero h0 (by omega)) ?_
       rw [i2]
       exact hfill _ (by simp)
     have hlen:(vs.flatMap fun v=>v.cells.toList).length=l.length*t.size:=by rw [h4.1,aw]
     refine gv.row (t:=t) (xs:=l) (cap:=l.length) (w':=w.alloc (.cells (vs.flatMap fun v=>v.cells.toList).toArray i.elemT)) (vals:=vs.flatMap fun v=>v.cells.toList) h ?_ (World.grownBy_alloc _ _ _) ?_ h4 hok.nb
     ·unfold execOp;rw [ho];exact aD hrun
     ·rw [←hid]
      have:=World.ownsRow_lit (base:=0) (e:=i.elemT) (size:=t.size) w (vs.flatMap fun v=>v.cells.toList).toArray l.length (Nat.zero_le _) (by
       have:l.length*1≤l.length*t.size:=Nat.mul_le_mul_left _ hpos
       simp only [maxLen];omega) (by simpa using hlen)
      simpa using this
   ·cases h
  ·cases h
 ·cases h
theorem qo {t:El}{x:t.den}{vs:List Value}(h:RepL w g (t.cells x) vs)(k:Nat):RepL w g (ap t (List.replicate k x)) (List.replicate k vs).flatten:=by
 induction k with
 |zero=>exact .nil
 |succ k ih=>
  have e:ap t (List.replicate (k+1) x)=t.cells x++ap t (List.replicate k x):=rfl
  rw [e,List.replicate_succ,List.flatten_cons]
  exact h.append ih
theorem gV (z:Array Value)(k:Nat)(hz:0<z.size):(madeCells z (k*z.size)).toList=(List.replicate k z.toList).flatten:=by
 induction k with
 |zero=>simp [madeCells]
 |succ k ih=>
  rw [List.replicate_succ',List.flatten_append,←ih]
  apply List.ext_getElem?
  intro j
  simp only [madeCells,Array.getElem?_toList,List.flatten_cons,List.flatten_nil,List.append_nil]
  have hsz:(madeCells z (k*z.size)).toList.length=k*z.size:=by simp [madeCells]
  rcases Nat.lt_or_ge j (k*z.size) with h|h
  ·rw [List.getElem?_append_left (by simpa [madeCells] using h)]
   have h2:j<(k+1)*z.size:=by rw [Nat.add_mul];omega
   simp [h,h2]
  ·rw [List.getElem?_append_right (by simpa [madeCells] using h)]
   rcases Nat.lt_or_ge j ((k+1)*z.size) with h2|h2
   ·have h3:j - k*z.size<z.size:=by rw [Nat.add_mul,Nat.one_mul] at h2;omega
    have h4:j % z.size=j - k*z.size:=by
     have:j=(j - k*z.size)+z.size*k:=by have hkc:=Nat.mul_comm k z.size;omega
     conv=>lhs;rw [this]
     rw [Nat.add_mul_mod_self_left,Nat.mod_eq_of_lt h3]
    simp [h2,h3,h4]
   ·have h3:z.size≤j - k*z.size:=by rw [Nat.add_mul] at h2;omega
    rw [Array.getElem?_eq_none (by simpa using h2)]
    simp only [Array.toList_map,Array.toList_range,List.length_map,List.length_range]
    rw [List.getElem?_eq_none (by simpa using h3)]
theorem uz {α:Type}(x:α):∀q,(List.replicate q [x]).flatten=List.replicate q x
 |0=>rfl
 |q+1=>by rw [List.replicate_succ,List.flatten_cons,uz x q];rfl
def eg (w:World)(g:Gh)(d:Nat):Gh:=
 ⟨fun b o=>if b=w.heap.size then .obj d none else g.who b o,fun s j=>if s=d then .slice none 0 0 else g.hs s j,fun s=>if s=d then (w.heap.size,0) else g.hb s⟩
theorem gv.boxes {R:Type}{o:Oper}{d:Nat}{κ:AV→Option ae→Option R}{r:R}{e:El}{m:Nat}{w':World}{T:TypeId}(h:κ (.bs d m) (some ⟨true,List.replicate m (.sl e true [])⟩)=some r)
  (hr:(execOp a.eval o).run P w=.ok (.value (.slice (some ⟨w.heap.size,0,none⟩) m m)) w') (hg:w.grownBy w' none)
  (hrow:w'.ownsRow 0 T 1 (.slice (some ⟨w.heap.size,0,none⟩) m m) m (List.replicate m (.slice none 0 0))):gv aa P w g a o d κ r:=by
 have hne:∀b,b<w.heap.size→¬b=w.heap.size:=fun b hb=>by omega
 have hq:fR w g w' (eg w g d) d:=by
  refine ⟨.of_below ⟨hg.os,hg.tape,hg.output,hg.size,fun b hb=>hg.block b hb (by simp)⟩ _,⟨?_,?_,?_,?_,?_,?_⟩,?_⟩
  ·intro b o hb h;simp [eg,hne b hb,h]
  ·intro b o hb h;simp [eg,hne b hb,h]
  ·intro b o hb h;simp [eg,hne b hb,h]
  ·intro b o s x hb hn h;simp [eg,hne b hb,h]
  ·intro s j hn;simp [eg,show¬s=d from hn]
  ·intro s hn;simp [eg,show¬s=d from hn]
  ·intro b o hb;simp [eg,hne b hb]
 have hb:(eg w g d).hb d=(w.heap.size,0):=by simp [eg]
 refine ⟨_,_,_,_,_,h,hr,hq,?_,fun e=>(by cases e),?_⟩
 ·have:=RepA.bs (w:=w') (g:=eg w g d) d m m (Nat.le_refl _)
  rw [hb] at this
  exact this
 ·intro q hqq
  cases hqq
  refine ⟨fun e=>(by cases e),fun _=>⟨fun _=>.slice none 0 0,fun j hj=>?_⟩⟩
  rw [eN,List.length_replicate] at hj
  rcases hrow.2 with ⟨e1,_⟩|⟨b,cap,cur,e1,_,hh,h1,h2,h3,h4⟩
  ·cases e1
  ·cases e1
   rw [hb]
   have hcur:cur.toList=List.replicate m (.slice none 0 0):=by
    rw [←h4,List.take_of_length_le]
    rw [Array.length_toList,h3];exact Nat.le_refl _
   have hcell:w'.cell? ⟨w.heap.size,0+j,none⟩=some (.slice none 0 0):=by
    have:cur[j]?=some (.slice none 0 0):=by
     rw [←Array.getElem?_toList,hcur]
     simp [hj]
    rw [Nat.zero_add]
    simp only [World.cell?,hh]
    simpa using this
   refine ⟨iw hcell,by simp [eg],hcell,?_,?_⟩
   ·simp only [World.frozen?,hh]
    rfl
   ·have hc:(killC d (List.replicate m (ah.sl e true [])))[j]?=some (.sl e true []):=by
     rw [cS];simp [hj,ah.kill]
    obtain ⟨q1,q2⟩:=List.getElem?_eq_some_iff.mp hc
    show cw aa _ _ d j ((killC d (List.replicate m (ah.sl e true [])))[j]) _
    rw [q2]
    have hs:(eg w g d).hs d j=.slice none 0 0:=by simp [eg]
    have:=cw.sl (aa:=aa) (w:=w') (g:=eg w g d) (s:=d) (j:=j) e true [] ⟨.inl ⟨⟨[],by rw [hs];exact ⟨by simp,.inl ⟨rfl,rfl⟩⟩,rfl,fun i h=>by cases h⟩,fun b n cap e=>by rw [hs] at e;cases e⟩⟩
    rw [hs] at this
    exact this
theorem oy {R:Type}{E:TypeId→Option gA}(hE:∀T i,E T=some i→eX P aa T i){o:Oper}{κ:AV→Option ae→Option R}{r:R}{T:TypeId}{x y:Operand}{d:Nat}
  (ho:o.op=.makeSlice T x y) (h:(match E T,S.ev x,S.ev y with
  |some i,.int _ n,.int _ m=>
   match i.elem with
   |some (.list e)=>
    match i.ezero with
    |[.nils]=>bif n==m&&(decide (0≤n)&&decide (n*(i.ebytes:Int)≤140737488355328)) then κ (.bs d n.toNat) (some ⟨true,List.replicate n.toNat (.sl e true [])⟩) else none
    |_=>none
   |some t=>
    match t.ofCells i.ezero with
    |some x=>bif n==m&&(decide (0≤n)&&decide (n*(i.ebytes:Int)≤140737488355328)) then κ (.al d 0) (some ⟨false,[.sl t false (List.replicate n.toNat x)]⟩) else none
    |none=>none
   |none=>none
  |_,_,_=>none)=some r) (hS:aV aa n w g S a):gv aa P w g a o d κ r:=by
 split at h
 ·rename_i i k m k' m' hi hx hy
  split at h
  ·rename_i t ht
   split at h
   ·rename_i he
    cases hc:(m==m'&&(decide (0≤m)&&decide (m*(i.ebytes:Int)≤140737488355328))) with
    |false=>rw [hc] at h;cases h
    |true=>
     rw [hc] at h
     simp only [Bool.and_eq_true,beq_iff_eq,decide_eq_true_eq] at hc
     obtain ⟨c1,c2,c3⟩:=hc
     subst c1
     have hxx:=hS.ev x;have hyy:=hS.ev y
     rw [hx] at hxx;rw [hy] at hyy
     have e1:=hxx.int_inv;have e2:=hyy.int_inv
     obtain ⟨hu,hid,hok⟩:=(hE T i hi).elem _ ht
     obtain ⟨inf,z,i1,i2,i3,i4,i5,i6⟩:=hok.inf
     have hb0:=hok.pos
     obtain ⟨q,rfl⟩:∃q:Nat,m=(q:Int):=⟨m.toNat,by omega⟩
     have hq1:q*i.ebytes≤140737488355328:=by
      have:((q*i.ebytes:Nat):Int)≤140737488355328:=by rw [Int.natCast_mul];exact c3
      omega
     have hq2:q≤q*i.ebytes:=Nat.le_mul_of_pos_right _ hb0
     obtain ⟨w',hr,hrow,hg⟩:=run_make_full (P:=P) w 0 T i.elemT inf z 1 hu i1 i4 i2 k k' q (by rw [i3,Nat.mul_comm];omega) (by simp only [maxLen];omega) (Nat.zero_le _)
     have hzs:RepL w g [.nils] z.cells.toList:=by rw [he] at i6;exact cn i6
     have hz:z.cells.toList=[.slice none 0 0]:=by
      obtain ⟨v,vs,e,h1,h2⟩:=hzs.cons_inv
      rw [e,h2.nil_inv]
      cases h1;rfl
     have hmade:(madeCells z.cells (q*1)).toList=List.replicate q (.slice none 0 0):=by
      have h1:z.cells.size=1:=i5
      have:=gV z.cells q (by omega)
      rw [h1] at this
      rw [this,hz]
      exact uz _ q
     rw [hmade] at hrow
     simp only [Int.toNat_natCast] at h
     refine gv.boxes (m:=q) h ?_ hg hrow
     unfold execOp;rw [ho]
     refine aD ?_
     rw [e1,e2];simpa using hr
   ·cases h
  ·rename_i t hnl ht
   split at h
   ·rename_i e he
    cases hc:(m==m'&&(decide (0≤m)&&decide (m*(i.ebytes:Int)≤140737488355328))) with
    |false=>rw [hc] at h;cases h
    |true=>
     rw [hc] at h
     simp only [Bool.and_eq_true,beq_iff_eq,decide_eq_true_eq] at hc
     obtain ⟨c1,c2,c3⟩:=hc
     subst c1
     have hxx:=hS.ev x;have hyy:=hS.ev y
     rw [hx] at hxx;rw [hy] at hyy
     have e1:=hxx.int_inv;have e2:=hyy.int_inv
     obtain ⟨hu,hid,hok⟩:=(hE T i hi).elem t ht
     obtain ⟨inf,z,i1,i2,i3,i4,i5,i6⟩:=hok.inf
     have hb0:=hok.pos
     obtain ⟨q,rfl⟩:∃q:Nat,m=(q:Int):=⟨m.toNat,by omega⟩
     have hq1:q*i.ebytes≤140737488355328:=by
      have:((q*i.ebytes:Nat):Int)≤140737488355328:=by rw [Int.natCast_mul];exact c3
      omega
     have hq2:q≤q*i.ebytes:=Nat.le_mul_of_pos_right _ hb0
     obtain ⟨w',hr,hrow,hg⟩:=run_make_full (P:=P) w 0 T i.elemT inf z t.size hu i1 i4 i2 k k' q (by rw [i3,Nat.mul_comm];omega) (by simp only [maxLen];omega) (Nat.zero_le _)
     have hcells:RepL w g (t.cells e) z.cells.toList:=ez he (cn i6)
     have hl:RepL w g (ap t (List.replicate q e)) (madeCells z.cells (q*t.size)).toList:=by
      rw [←i5,gV _ _ (by rw [i5];exact eK t)]
      exact qo hcells q
     simp only [Int.toNat_natCast] at h
     refine gv.row (t:=t) (xs:=List.replicate q e) (cap:=q) (w':=w') h ?_ hg ?_ hl hok.nb
     ·unfold execOp;rw [ho]
      refine aD ?_
      rw [e1,e2];simpa using hr
     ·rw [←hid];simpa using hrow
   ·cases h
  ·cases h
 ·cases h
theorem po {R:Type}{o:Oper}{κ:AV→Option ae→Option R}{r:R}{f:FuncId}{first captured:Array Operand}{d:Nat}
  (ho:o.op=.makeFunc (.func f) first captured) (h:(bif first.isEmpty then κ (.fn f (evL S captured.toList)) none else none)=some r) (hS:aV aa n w g S a):gv aa P w g a o d κ r:=by
 cases he:first.isEmpty with
 |false=>rw [he] at h;cases h
 |true=>
  rw [he] at h
  have hl:=hS.evL captured.toList
  have hf:first=#[]:=by simpa using he
  refine .pure h ?_ (.fn f _ _ hl.1 hl.2)
  unfold execOp;rw [ho]
  refine aD ?_
  simp only [Instr.makeFunc,hf,Sem.run_pure]
  congr 1
  simp only [Array.map_empty,Value.func.injEq,true_and]
  apply Array.toList_inj.mp;simp
theorem ej {o:Oper}{c:Call}{b:Builtin}{s:Sem Value}{v:Value}{w':World}(ho:o.op=.call c)(hb:c.callee=.builtin b)
  (hd:∀k,builtin b c.argTypes o.type k (c.args.map a.eval)=(do pure (.value (←s)))) (hr:s.run P w=.ok v w'):(execOp a.eval o).run P w=.ok (.value v) w':=by
 unfold execOp;rw [ho]
 simp [resolve,hb,invoke,hd,hr]
theorem yk {R:Type}{E:TypeId→Option gA}(hE:∀T i,E T=some i→eX P aa T i){o:Oper}{κ:AV→Option ae→Option R}{r:R}{c:Call}{d:Nat}
  (ho:o.op=.call c) (hb:c.callee=.builtin .len) (h:(match c.args.toList,c.argTypes.toList with|[x],[T]=>qe S (E T) (S.ev x) fun a=>κ a none|_,_=>none)=some r)
  (hS:aV aa n w g S a):gv aa P w g a o d κ r:=by
 split at h
 ·rename_i x T hx hT
  have hargs:c.args.map a.eval=#[a.eval x]:=by
   apply Array.toList_inj.mp;simp [hx]
  have htys:c.argTypes=#[T]:=by
   apply Array.toList_inj.mp;simp [hT]
  have hxx:=hS.ev x
  have fin:∀(m:Nat) (hr:(Builtin.len_ #[T] o.type #[a.eval x]).run P w=.ok (goInt m) w),κ (.int .i64 (m:Int)) none=some r→gv aa P w g a o d κ r:=by
   intro m hr hκ
   refine .pure hκ (ej ho hb (s:=Builtin.len_ #[T] o.type #[a.eval x]) (fun k=>?_) hr) (.int _ _)
   rw [hargs,htys];rfl
  have sl:∀(i:gA),E T=some i→i.elem.isSome=true→∀ad m cap,a.eval x=.slice ad m cap→(Builtin.len_ #[T] o.type #[a.eval x]).run P w=.ok (goInt m) w:=by
   intro i hi he ad m cap e
   obtain ⟨t,ht⟩:=Option.isSome_iff_exists.mp he
   obtain ⟨hu,_⟩:=(hE T i hi).elem t ht
   rw [e]
   simp [Builtin.len_,run_underlying hu]
  unfold qe at h
  split at h
  ·rename_i i hi
   split at h
   ·rename_i s hs
    rw [hs] at hxx
    have e:=hxx.str_inv
    cases hq:i.str with
    |false=>rw [hq] at h;cases h
    |true=>
     rw [hq] at h
     refine fin s.length ?_ h
     rw [e]
     have:=run_len_string (P:=P) w T o.type ⟨s.toArray⟩ ((hE T i hi).str hq)
     rw [this,cG]
   ·rename_i t xs hs
    rw [hs] at hxx
    obtain ⟨ad,cap,e,_⟩:=hxx.L_inv
    cases hq:i.elem.isSome with
    |false=>rw [hq] at h;cases h
    |true=>rw [hq] at h;exact fin _ (sl i hi hq _ _ _ e) h
   ·rename_i t xs ys hs
    rw [hs] at hxx
    obtain ⟨ad,cap,e,_⟩:=hxx.rm_inv
    cases hq:i.elem.isSome with
    |false=>rw [hq] at h;cases h
    |true=>rw [hq] at h;exact fin _ (sl i hi hq _ _ _ e) h
   ·rename_i hs
    rw [hs] at hxx
    have e:a.eval x=.slice none 0 0:=by cases hv:a.eval x<;>rw [hv] at hxx<;>cases hxx<;>rfl
    cases hq:i.elem.isSome with
    |false=>rw [hq] at h;cases h
    |true=>rw [hq] at h;exact fin _ (sl i hi hq _ _ _ e) h
   ·rename_i s j hs
    rw [hs] at hxx
    split at h
    ·rename_i t fz xs hc
     cases hq:i.elem.isSome with
     |false=>rw [hq] at h;cases h
     |true=>
      rw [hq] at h
      have e:=hxx.al_inv.1
      have hs:=hS.cell hc
      rcases hs.c with ⟨⟨vals,hrow,_,_⟩,_⟩|⟨_,hx,a0,e2⟩
      rotate_left
      ·exact fin _ (sl i hi hq a0 0 0 (by rw [e,e2])) (by rw [hx] at h;exact h)
      rcases hrow.2 with ⟨e2,hz⟩|⟨b,cap,cur,e2,_⟩
      ·exact fin _ (sl i hi hq none 0 0 (by rw [e,e2])) (by rw [hz] at h;exact h)
      ·exact fin _ (sl i hi hq _ _ _ (by rw [e,e2])) h
    ·cases h
   ·rename_i s m hs
    rw [hs] at hxx
    cases hq:i.elem.isSome with
    |false=>rw [hq] at h;cases h
    |true=>
     rw [hq] at h
     cases hv:a.eval x<;>rw [hv] at hxx<;>cases hxx
     rw [hv] at sl fin
     exact fin _ (sl i hi hq _ _ _ rfl) h
   ·rename_i _ _ t xs hs
    rw [hs] at hxx
    obtain ⟨ad,cap,e,_⟩:=hxx.bal_inv.2.L_inv
    cases hq:i.elem.isSome with
    |false=>rw [hq] at h;cases h
    |true=>rw [hq] at h;exact fin _ (sl i hi hq _ _ _ e) h
   ·cases h
  ·cases h
 ·cases h
theorem t7 {xs:List Operand}{k k':IntKind}{p q:Int}(h:evL S xs=[.int k p,.int k' q])(hS:aV aa n w g S a):xs.map a.eval=[.int k p,.int k' q]:=by
 have hl:=hS.evL xs
 rw [h] at hl
 obtain ⟨v1,vs1,e1,h1,hl⟩:=hl.cons_inv
 obtain ⟨v2,vs2,e2,h2,hl⟩:=hl.cons_inv
 rw [e1,e2,hl.nil_inv,h1.int_inv,h2.int_inv]
theorem AQ {xs:List Operand}{k k' k'':IntKind}{p q e:Int}(h:evL S xs=[.int k p,.int k' q,.int k'' e])(hS:aV aa n w g S a):xs.map a.eval=[.int k p,.int k' q,.int k'' e]:=by
 have hl:=hS.evL xs
 rw [h] at hl
 obtain ⟨v1,vs1,e1,h1,hl⟩:=hl.cons_inv
 obtain ⟨v2,vs2,e2,h2,hl⟩:=hl.cons_inv
 obtain ⟨v3,vs3,e3,h3,hl⟩:=hl.cons_inv
 rw [e1,e2,e3,hl.nil_inv,h1.int_inv,h2.int_inv,h3.int_inv]
theorem pj {α:Type}(p:Prop)[Decidable p](x y:α):(bif decide p then x else y)=if p then x else y:=by
 by_cases h:p<;>simp [h]
theorem xM {R:Type}{o:Oper}{κ:AV→Option ae→Option R}{r:R}{c:Call}{d:Nat}
  (ho:o.op=.call c) (hb:c.callee=.builtin .max) (h:(match evL S c.args.toList with
   |[.int k a,.int k' b]=>if k=k' then κ (.int k (bif decide (b>a) then b else a)) none else none
   |[.int k a,.int k' b,.int k'' e]=>if k=k' then if k=k'' then κ (.int k (let m:=bif decide (b>a) then b else a;bif decide (e>m) then e else m)) none else none else none
   |_=>none)=some r) (hS:aV aa n w g S a):gv aa P w g a o d κ r:=by
 split at h
 ·rename_i k p k' q he
  split at h
  ·rename_i hk;subst hk
   have:=t7 he hS
   have hargs:c.args.map a.eval=#[.int k p,.int k q]:=by apply Array.toList_inj.mp;simpa using this
   refine .pure h (ej ho hb (s:=Builtin.max_ c.argTypes o.type (c.args.map a.eval)) (fun _=>rfl) ?_) (.int _ _)
   rw [hargs]
   simp [Builtin.max_,Builtin.max2,pj]
  ·cases h
 ·rename_i k p k' q k'' e he
  split at h
  ·rename_i hk;subst hk
   split at h
   ·rename_i hk;subst hk
    have:=AQ he hS
    have hargs:c.args.map a.eval=#[.int k p,.int k q,.int k e]:=by apply Array.toList_inj.mp;simpa using this
    refine .pure h (ej ho hb (s:=Builtin.max_ c.argTypes o.type (c.args.map a.eval)) (fun _=>rfl) ?_) (.int _ _)
    rw [hargs]
    simp [Builtin.max_,Builtin.max2,pj]
   ·cases h
  ·cases h
 ·cases h
theorem yf {R:Type}{o:Oper}{κ:AV→Option ae→Option R}{r:R}{c:Call}{d:Nat}
  (ho:o.op=.call c) (hb:c.callee=.builtin .min) (h:(match evL S c.args.toList with
   |[.int k a,.int k' b]=>if k=k' then κ (.int k (bif decide (b<a) then b else a)) none else none
   |_=>none)=some r) (hS:aV aa n w g S a):gv aa P w g a o d κ r:=by
 split at h
 ·rename_i k p k' q he
  split at h
  ·rename_i hk;subst hk
   have:=t7 he hS
   have hargs:c.args.map a.eval=#[.int k p,.int k q]:=by apply Array.toList_inj.mp;simpa using this
   refine .pure h (ej ho hb (s:=Builtin.min_ c.argTypes o.type (c.args.map a.eval)) (fun _=>rfl) ?_) (.int _ _)
   rw [hargs]
   simp [Builtin.min_,Builtin.min2,pj]
  ·cases h
 ·cases h
theorem nX {R:Type}{E:TypeId→Option gA}(hE:∀T i,E T=some i→eX P aa T i){o:Oper}{κ:AV→Option ae→Option R}{r:R}
  (h:bY E o S κ=some r) (hS:aV aa n w g S a):gv aa P w g a o (match o.dst with|some d=>d|none=>0) κ r:=by
 unfold bY at h
 simp only at h
 split at h
 ·rename_i x ho;exact qk (.inl ho) h hS
 ·rename_i x ho;exact qk (.inr ho) h hS
 ·rename_i ho;exact uO ho h hS
 ·rename_i ho;exact pg ho h hS
 ·rename_i ho;exact tc hE ho h hS
 ·rename_i ho;exact vA ho h hS
 ·rename_i ho;exact qX ho h hS
 ·rename_i ho;exact tf hE ho h
 ·rename_i ho;exact x3 ho h hS
 ·rename_i ho;exact vr hE ho h hS
 ·rename_i ho;exact oC hE ho h hS
 ·rename_i ho;exact uA hE ho h hS
 ·rename_i ho;exact ou hE ho h hS
 ·rename_i ho;exact sU hE ho h hS
 ·rename_i ho;exact tl hE ho h hS
 ·rename_i ho;exact qW hE ho h hS
 ·rename_i ho;exact uv hE ho h hS
 ·rename_i ho;exact mZ hE ho h hS
 ·rename_i ho;exact oy hE ho h hS
 ·rename_i ho;exact po ho h hS
 ·rename_i c ho
  split at h
  ·rename_i hb;exact yk hE ho hb h hS
  ·rename_i hb;exact xM ho hb h hS
  ·rename_i hb;exact yf ho hb h hS
  ·cases h
 ·cases h
end
end Go.Proofs.YtjkokaockhecnaaGreatDoorA
