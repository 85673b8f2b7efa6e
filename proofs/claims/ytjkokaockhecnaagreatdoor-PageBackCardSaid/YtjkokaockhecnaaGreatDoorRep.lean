/- What the abstract machine's values say of the model's memory. -/
import Derived.Test.YtjkokaockhecnaaGreatDoorAbs
import Derived.Laws.AppendOwn
import Derived.Below
namespace Go.Proofs.YtjkokaockhecnaaGreatDoorA
open Go
inductive Af where
 |imm|bor|obj (s:Nat) (x:Option Nat)|other
 deriving DecidableEq
structure Gh where
 who:Nat→Nat→Af
 hs:Nat→Nat→Value
 hb:Nat→Nat×Nat
structure aM where
 id:El→Nat
 bs:List Nat
 p:World→Prop
 stable:∀w w':World,(∀b,b∈bs→w'.heap[b]?=w.heap[b]?)→p w→p w'
instance:CoeFun aM (fun _=>El→Nat):=⟨aM.id⟩
def gR (e:aM)(w:World)(g:Gh):Prop:=e.p w∧∀b,b∈e.bs→b<w.heap.size∧∀o,g.who b o=.imm
def ap (t:El)(xs:List t.den):List AV:=xs.flatMap t.cells
inductive RepA (w:World)(g:Gh):AV→Value→Prop
 |und (v:Value):RepA w g .und v
 |bool (b:Bool):RepA w g (.bool b) (.bool b)
 |int (k:IntKind) (n:Int):RepA w g (.int k n) (.int k n)
 |str (l:List UInt8):RepA w g (.str l) (.string ⟨l.toArray⟩)
 |err0:RepA w g (.err false) .nilIface
 |err1 (te:TypeId) (pe:Value):RepA w g (.err true) (.iface te pe)
 |nils:RepA w g .nils (.slice none 0 0)
 |emp (a:Option Addr):RepA w g .emp (.slice a 0 0)
 |lnil (t:El) (a:Option Addr) (cap:Nat):RepA w g (.L t []) (.slice a 0 cap)
 |list (t:El) (xs:List t.den) (b o cap:Nat) (vals:Nat→Value) (hcap:xs.length≤cap)
   (hc:∀j,j<(ap t xs).length→g.who b (o+j)=.imm∧w.cell? ⟨b,o+j,none⟩=some (vals j))
   (hr:∀j (h:j<(ap t xs).length),RepA w g ((ap t xs)[j]) (vals j)):
   RepA w g (.L t xs) (.slice (some ⟨b,o,none⟩) xs.length cap)
 |al (s j:Nat) (a:Option Addr) (m c:Nat) (h:g.hs s j=.slice a m c):RepA w g (.al s j) (.slice a m c)
 |ref (s off:Nat):RepA w g (.ref s off) (.pointer (some ⟨(g.hb s).1,(g.hb s).2+off,none⟩))
 |eref (s j sz i off b n cap:Nat) (h:g.hs s j=.slice (some ⟨b,0,none⟩) n cap):
   RepA w g (.eref s j sz i off) (.pointer (some ⟨b,i*sz+off,none⟩))
 |bs (s n cap:Nat) (h:n≤cap):RepA w g (.bs s n) (.slice (some ⟨(g.hb s).1,(g.hb s).2,none⟩) n cap)
 |bref (s i:Nat):RepA w g (.bref s i) (.pointer (some ⟨(g.hb s).1,(g.hb s).2+i,none⟩))
 |bal (s i:Nat) (t:El) (xs:List t.den) (a:Option Addr) (m c:Nat) (h:g.hs s i=.slice a m c) (hL:RepA w g (.L t xs) (.slice a m c)):RepA w g (.bal s i t xs) (.slice a m c)
 |rm0 (t:El) (a:Option Addr) (cap:Nat):RepA w g (.rm t [] []) (.slice a 0 cap)
 |rm (t:El) (xs ys:List t.den) (b o cap:Nat) (vals:Nat→Value) (hcap:(xs++ys).length≤cap)
   (hc:∀j,j<(ap t (xs++ys)).length→g.who b (o+j)=.imm∧w.cell? ⟨b,o+j,none⟩=some (vals j))
   (hr:∀j (h:j<(ap t (xs++ys)).length),RepA w g ((ap t (xs++ys))[j]) (vals j)):
   RepA w g (.rm t xs ys) (.slice (some ⟨b,o,none⟩) xs.length cap)
 |als (s j sz lo n b m c cap:Nat) (h:g.hs s j=.slice (some ⟨b,0,none⟩) m c) (hn:n≤cap):RepA w g (.als s j sz lo n) (.slice (some ⟨b,lo*sz,none⟩) n cap)
 |als0 (s j sz lo:Nat) (a:Option Addr) (cap:Nat):RepA w g (.als s j sz lo 0) (.slice a 0 cap)
 |bad0 (s:Nat):RepA w g (.bad s) (.pointer none)
 |bad1 (s:Nat):RepA w g (.bad s) (.pointer (some ⟨(g.hb s).1,(g.hb s).2,none⟩))
 |refT (s T b:Nat) (hb:g.hb s=(b,0)) (hs:w.shape? b=some (T,2)):RepA w g (.refT s T) (.pointer (some ⟨b,0,none⟩))
 |fzs0 (e:Nat) (a:Option Addr) (c:Nat) (hs:∀q,a=some q→(w.shape? q.block).isSome=true):RepA w g (.fzs e []) (.slice a 0 c)
 |fzs (e:Nat) (l:List Int) (b cap k:Nat) (hs:w.shape? b=some (e,k)) (hk:l.length≤k) (hl:l≠[]) (hcap:l.length≤cap) (hm:cap≤maxLen)
   (hc:∀j (h:j<l.length),g.who b j=.imm∧w.cell? ⟨b,j,none⟩=some (.int .u8 l[j])∧w.frozen? ⟨b,j,none⟩=true):
   RepA w g (.fzs e l) (.slice (some ⟨b,0,none⟩) l.length cap)
 |vp (cs:List AV) (b o:Nat) (vals:Nat→Value)
   (hc:∀j,j<cs.length→(g.who b (o+j)=.imm∨g.who b (o+j)=.bor)∧w.cell? ⟨b,o+j,none⟩=some (vals j))
   (hr:∀j (h:j<cs.length),RepA w g (cs[j]) (vals j)):
   RepA w g (.vp cs) (.pointer (some ⟨b,o,none⟩))
 |vi (cs:List AV) (b o:Nat) (vals:Nat→Value)
   (hc:∀j,j<cs.length→g.who b (o+j)=.imm∧w.cell? ⟨b,o+j,none⟩=some (vals j))
   (hr:∀j (h:j<cs.length),RepA w g (cs[j]) (vals j)):
   RepA w g (.vi cs) (.pointer (some ⟨b,o,none⟩))
 |nilp:RepA w g .nilp (.pointer none)
 |opt0 (t:El):RepA w g (.optp t none) (.pointer none)
 |opt1 (t:El) (x:t.den) (v:Value) (h:RepA w g (.vi (t.cells x)) v):RepA w g (.optp t (some x)) v
 |nq (q:Bool) (t:El) (xs:List t.den) (a:Option Addr) (m cap:Nat) (hq:a.isNone=q) (h:RepA w g (.L t xs) (.slice a m cap)):RepA w g (.nq q t xs) (.slice a m cap)
 |agg (cs:List AV) (vs:List Value) (hl:vs.length=cs.length)
   (hr:∀j (h:j<cs.length) (h':j<vs.length),RepA w g (cs[j]) (vs[j])):RepA w g (.agg cs) (.agg vs.toArray)
 |tup (cs:List AV) (vs:List Value) (hl:vs.length=cs.length)
   (hr:∀j (h:j<cs.length) (h':j<vs.length),RepA w g (cs[j]) (vs[j])):RepA w g (.tup cs) (.tuple vs.toArray)
 |fn (f:FuncId) (cs:List AV) (vs:List Value) (hl:vs.length=cs.length)
   (hr:∀j (h:j<cs.length) (h':j<vs.length),RepA w g (cs[j]) (vs[j])):RepA w g (.fn f cs) (.func (.func f) #[] vs.toArray)
def gz (w:World)(aa:aM)(t:El)(v:Value)(n:Nat)(xs:List Value):Prop:=
 xs.length=n*t.size∧((v=.slice none 0 0∧n=0)∨
  ∃g cap cur,v=.slice (some ⟨g,0,none⟩) n cap∧0≤g∧(∃mk,w.heap[g]?=some (.cells cur (aa t.base) mk)∧(mk=(0,0)∨(t=.byt∧cur.size≤mk.1)))∧n≤cap∧cap≤maxLen∧cur.size=cap*t.size∧cur.toList.take (n*t.size)=xs)
theorem wF {t:El}(h:t.isByt=false):t.base=t:=by cases t<;>first|rfl|cases h
theorem gz.of {w:World}{aa:aM}{t:El}{v:Value}{n:Nat}{xs:List Value}(h:w.ownsRow 0 (aa t) t.size v n xs)(ht:t.isByt=false):gz w aa t v n xs:=by
 obtain ⟨h1,h2|⟨g,cap,cur,h2,h3,h4,r⟩⟩:=h
 ·exact ⟨h1,.inl h2⟩
 ·exact ⟨h1,.inr ⟨g,cap,cur,h2,h3,⟨_,by rw [wF ht];exact h4,.inl rfl⟩,r⟩⟩
theorem gz.nil {w:World}{aa:aM}{t:El}:gz w aa t (.slice none 0 0) 0 []:=⟨by simp,.inl ⟨rfl,rfl⟩⟩
theorem gz.row {w:World}{aa:aM}{t:El}{v:Value}{n:Nat}{xs:List Value}(h:gz w aa t v n xs)(ht:t.isByt=false):w.ownsRow 0 (aa t) t.size v n xs:=by
 obtain ⟨h1,h2|⟨g,cap,cur,h2,h3,⟨mk,h4,h5⟩,r⟩⟩:=h
 ·exact ⟨h1,.inl h2⟩
 ·rcases h5 with rfl|⟨h5,_⟩
  ·rw [wF ht] at h4;exact ⟨h1,.inr ⟨g,cap,cur,h2,h3,h4,r⟩⟩
  ·rw [h5] at ht;cases ht
structure vT (aa:aM)(w:World)(g:Gh)(s j:Nat)(t:El)(fz:Bool)(xs:List t.den):Prop where
 row:∃vals:List Value,gz w aa t (g.hs s j) xs.length vals∧vals.length=(ap t xs).length∧
  ∀i (h:i<(ap t xs).length) (h':i<vals.length),RepA w g ((ap t xs)[i]) (vals[i])
 own:∀b n cap,g.hs s j=.slice (some ⟨b,0,none⟩) n cap→b<w.heap.size∧
  ∀o,g.who b o=if o<xs.length*t.size then (if fz then .imm else .obj s (some j)) else .obj s (some j)
structure bZ (aa:aM)(w:World)(g:Gh)(s j:Nat)(t:El)(fz:Bool)(xs:List t.den):Prop where
 c:vT aa w g s j t fz xs∨(t≠.int .u8∧xs=[]∧∃a,g.hs s j=.slice a 0 0)
theorem bZ.old {aa:aM}{w:World}{g:Gh}{s j:Nat}{t:El}{fz:Bool}{xs:List t.den}(h:bZ aa w g s j t fz xs)(hx:xs≠[]):vT aa w g s j t fz xs:=by
 rcases h.c with h|⟨_,h,_⟩
 ·exact h
 ·exact absurd h hx
theorem sQ {t:El}{xs:List t.den}{o:Nat}(h:o<xs.length*t.size):xs≠[]:=by rintro rfl;simp at h
inductive cw (aa:aM)(w:World)(g:Gh)(s j:Nat):ah→Value→Prop
 |av (a:AV) (v:Value) (h:RepA w g a v):cw aa w g s j (.av a) v
 |sl (t:El) (fz:Bool) (xs:List t.den) (h:bZ aa w g s j t fz xs):cw aa w g s j (.sl t fz xs) (g.hs s j)
structure aB (aa:aM)(w:World)(g:Gh)(s:Nat)(r:ae):Prop where
 apart:r.box=false→∀j t fz xs,r.cs[j]?=some (.sl t fz xs)→bZ aa w g s j t fz xs
 box:r.box=true→∃vals:Nat→Value,∀j (h:j<r.cs.length),
  (g.hb s).1<w.heap.size∧g.who (g.hb s).1 ((g.hb s).2+j)=.obj s none∧w.cell? ⟨(g.hb s).1,(g.hb s).2+j,none⟩=some (vals j)∧
  w.frozen? ⟨(g.hb s).1,(g.hb s).2+j,none⟩=false∧cw aa w g s j (r.cs[j]) (vals j)
structure aV (aa:aM)(n:Nat)(w:World)(g:Gh)(S:St)(a:Act):Prop where
 size:a.tmps.size=n
 df:a.defers=[]
 tb:gR aa w g
 tm:∀t,RepA w g (S.tmp t) (a.tmps.getD t undef)
 rt:∀s r,S.root s=some r→aB aa w g s r
theorem jN {w:World}{b:Nat}{q:TypeId×Nat}(h:w.shape? b=some q):b<w.heap.size:=by
 unfold World.shape? at h
 cases e:w.heap[b]? with
 |none=>rw [e] at h;cases h
 |some _=>exact (Array.getElem?_eq_some_iff.mp e).1
structure gy (w w':World)(M:Nat→Nat→Prop):Prop where
 os:w'.os=w.os
 tape:w'.tape=w.tape
 output:w'.output=w.output
 size:w.heap.size≤w'.heap.size
 blk:∀b,b<w.heap.size→(∀o,¬M b o)→w'.heap[b]?=w.heap[b]?
 cel:∀b o,b<w.heap.size→¬M b o→w'.cell? ⟨b,o,none⟩=w.cell? ⟨b,o,none⟩
 frz:∀b o,b<w.heap.size→¬M b o→w'.frozen? ⟨b,o,none⟩=w.frozen? ⟨b,o,none⟩
 shp:∀b,b<w.heap.size→w'.shape? b=w.shape? b
theorem gy.refl (w:World)(M:Nat→Nat→Prop):gy w w M:=⟨rfl,rfl,rfl,Nat.le_refl _,fun _ _ _=>rfl,fun _ _ _ _=>rfl,fun _ _ _ _=>rfl,fun _ _=>rfl⟩
theorem gy.trans {w w' w'':World}{M M':Nat→Nat→Prop}(h:gy w w' M)(h':gy w' w'' M'):gy w w'' (fun b o=>M b o∨M' b o):=
 ⟨h'.os.trans h.os,h'.tape.trans h.tape,h'.output.trans h.output,Nat.le_trans h.size h'.size,
  fun b hb hn=>(h'.blk b (Nat.lt_of_lt_of_le hb h.size) fun o hm=>hn o (.inr hm)).trans (h.blk b hb fun o hm=>hn o (.inl hm)),
  fun b o hb hn=>(h'.cel b o (Nat.lt_of_lt_of_le hb h.size) fun hm=>hn (.inr hm)).trans (h.cel b o hb fun hm=>hn (.inl hm)),
  fun b o hb hn=>(h'.frz b o (Nat.lt_of_lt_of_le hb h.size) fun hm=>hn (.inr hm)).trans (h.frz b o hb fun hm=>hn (.inl hm)),
  fun b hb=>(h'.shp b (Nat.lt_of_lt_of_le hb h.size)).trans (h.shp b hb)⟩
theorem gy.mono {w w':World}{M M':Nat→Nat→Prop}(h:gy w w' M)(hm:∀b o,b<w.heap.size→M b o→M' b o):gy w w' M':=
 ⟨h.os,h.tape,h.output,h.size,fun b hb hn=>h.blk b hb fun o hM=>hn o (hm b o hb hM),fun b o hb hn=>h.cel b o hb fun hM=>hn (hm b o hb hM),
  fun b o hb hn=>h.frz b o hb fun hM=>hn (hm b o hb hM),h.shp⟩
theorem gy.of_below {w w':World}(h:RowKit.Below w.heap.size w w')(M:Nat→Nat→Prop):gy w w' M:=
 ⟨h.os,h.tape,h.output,h.size,fun b hb _=>h.block b hb,fun b o hb _=>h.cell (p:=⟨b,o,none⟩) hb,fun b o hb _=>h.frozen (p:=⟨b,o,none⟩) hb,fun b hb=>by unfold World.shape?;rw [h.block b hb]⟩
theorem gy.below {w w':World}(h:gy w w' fun _ _=>False):RowKit.Below w.heap.size w w':=
 ⟨h.os,h.tape,h.output,h.size,fun b hb=>h.blk b hb fun _=>id⟩
structure l6 (w:World)(g g':Gh)(N:Nat→Option Nat→Prop):Prop where
 imm:∀b o,b<w.heap.size→g.who b o=.imm→g'.who b o=.imm
 bor:∀b o,b<w.heap.size→g.who b o=.bor→g'.who b o=.bor
 other:∀b o,b<w.heap.size→g.who b o=.other→g'.who b o=.other
 obj:∀b o s x,b<w.heap.size→¬N s x→g.who b o=.obj s x→g'.who b o=.obj s x
 hs:∀s j,¬N s (some j)→g'.hs s j=g.hs s j
 hb:∀s,¬N s none→g'.hb s=g.hb s
theorem l6.refl (w:World)(g:Gh)(N:Nat→Option Nat→Prop):l6 w g g N:=
 ⟨fun _ _ _ h=>h,fun _ _ _ h=>h,fun _ _ _ h=>h,fun _ _ _ _ _ _ h=>h,fun _ _ _=>rfl,fun _ _=>rfl⟩
structure GA (w:World)(g g':Gh)(N:Nat→Option Nat→Prop):Prop where
 imm:∀b o,b<w.heap.size→g.who b o=.imm→g'.who b o=.imm
 bor:∀b o,b<w.heap.size→g.who b o=.bor→g'.who b o=.bor
 hs:∀s j,¬N s (some j)→g'.hs s j=g.hs s j
 hb:∀s,¬N s none→g'.hb s=g.hb s
theorem l6.ga {w:World}{g g':Gh}{N:Nat→Option Nat→Prop}(h:l6 w g g' N):GA w g g' N:=⟨h.imm,h.bor,h.hs,h.hb⟩
inductive aj (N:Nat→Option Nat→Prop):AV→Prop
 |und:aj N .und
 |bool (b:Bool):aj N (.bool b)
 |int (k:IntKind) (n:Int):aj N (.int k n)
 |str (l:List UInt8):aj N (.str l)
 |err (b:Bool):aj N (.err b)
 |nils:aj N .nils
 |emp:aj N .emp
 |L (t:El) (xs:List t.den):aj N (.L t xs)
 |al (s j:Nat) (h:¬N s (some j)):aj N (.al s j)
 |ref (s off:Nat) (h:¬N s none):aj N (.ref s off)
 |eref (s j sz i off:Nat) (h:¬N s (some j)):aj N (.eref s j sz i off)
 |bs (s n:Nat) (h:¬N s none):aj N (.bs s n)
 |bref (s i:Nat) (h:¬N s none):aj N (.bref s i)
 |bal (s i:Nat) (t:El) (xs:List t.den) (h:∀j,¬N s (some j)):aj N (.bal s i t xs)
 |rm (t:El) (xs ys:List t.den):aj N (.rm t xs ys)
 |als (s j sz lo n:Nat) (h:¬N s (some j)):aj N (.als s j sz lo n)
 |bad (s:Nat) (h:¬N s none):aj N (.bad s)
 |refT (s T:Nat) (h:¬N s none):aj N (.refT s T)
 |fzs (e:Nat) (l:List Int):aj N (.fzs e l)
 |vp (cs:List AV) (h:∀a,a∈cs→aj N a):aj N (.vp cs)
 |vi (cs:List AV) (h:∀a,a∈cs→aj N a):aj N (.vi cs)
 |nilp:aj N .nilp
 |optp (t:El) (x:Option t.den):aj N (.optp t x)
 |nq (q:Bool) (t:El) (xs:List t.den):aj N (.nq q t xs)
 |agg (cs:List AV) (h:∀a,a∈cs→aj N a):aj N (.agg cs)
 |tup (cs:List AV) (h:∀a,a∈cs→aj N a):aj N (.tup cs)
 |fn (f:FuncId) (cs:List AV) (h:∀a,a∈cs→aj N a):aj N (.fn f cs)
theorem mG (N:Nat→Option Nat→Prop)(t:El)(x:t.den):∀a,a∈t.cells x→aj N a:=by
 intro a ha
 cases t<;>simp [El.cells] at ha<;>(first|(subst ha;constructor)|(rcases ha with h|h|h|h|h|h|h<;>subst h<;>constructor)|(rcases ha with h|h|h|h<;>subst h<;>constructor)|(rcases ha with h|h|h<;>subst h<;>constructor))
theorem c8 (N:Nat→Option Nat→Prop)(t:El)(xs:List t.den):∀a,a∈ap t xs→aj N a:=by
 intro a ha
 simp only [ap,List.mem_flatMap] at ha
 obtain ⟨x,_,hx⟩:=ha
 exact mG N t x a hx
theorem iw {w:World}{b o:Nat}{v:Value}(h:w.cell? ⟨b,o,none⟩=some v):b<w.heap.size:=World.block_lt_of_cell? w _ h
theorem RepA.pres {w w':World}{g g':Gh}{M:Nat→Nat→Prop}{N:Nat→Option Nat→Prop}(hc:gy w w' M)
  (hM:∀b o,b<w.heap.size→M b o→∃s x,g.who b o=.obj s x) (hg:GA w g g' N) {a:AV}{v:Value} (h:RepA w g a v):
  aj N a→RepA w' g' a v:=by
 have im:∀b o v,g.who b o=.imm→w.cell? ⟨b,o,none⟩=some v→g'.who b o=.imm∧w'.cell? ⟨b,o,none⟩=some v:=by
  intro b o v h1 h2
  have hb:=iw h2
  refine ⟨hg.imm b o hb h1,?_⟩
  rw [hc.cel b o hb (fun hm=>?_)]
  ·exact h2
  ·obtain ⟨s,x,e⟩:=hM b o hb hm
   rw [h1] at e;cases e
 have bo:∀b o v,g.who b o=.bor→w.cell? ⟨b,o,none⟩=some v→g'.who b o=.bor∧w'.cell? ⟨b,o,none⟩=some v:=by
  intro b o v h1 h2
  have hb:=iw h2
  refine ⟨hg.bor b o hb h1,?_⟩
  rw [hc.cel b o hb (fun hm=>?_)]
  ·exact h2
  ·obtain ⟨s,x,e⟩:=hM b o hb hm
   rw [h1] at e;cases e
 induction h with
 |und v=>intro _;exact .und v
 |bool b=>intro _;exact .bool b
 |int k n=>intro _;exact .int k n
 |str l=>intro _;exact .str l
 |err0=>intro _;exact .err0
 |err1 te pe=>intro _;exact .err1 te pe
 |nils=>intro _;exact .nils
 |emp a=>intro _;exact .emp a
 |lnil t a cap=>intro _;exact .lnil t a cap
 |list t xs b o cap vals hcap hcc hr ih=>
  intro _
  refine .list t xs b o cap vals hcap (fun j hj=>im _ _ _ (hcc j hj).1 (hcc j hj).2) (fun j hj=>ih j hj (c8 N t xs _ (List.getElem_mem hj)))
 |al s j a m c h=>intro ha;cases ha with|al _ _ hn=>exact .al s j a m c ((hg.hs s j hn).trans h)
 |ref s off=>intro ha;cases ha with|ref _ _ hn=>rw [←hg.hb s hn];exact .ref s off
 |eref s j sz i off b n cap he=>intro ha;cases ha with|eref _ _ _ _ _ hn=>exact .eref s j sz i off b n cap ((hg.hs s j hn).trans he)
 |bs s n cap h=>intro ha;cases ha with|bs _ _ hn=>rw [←hg.hb s hn];exact .bs s n cap h
 |bref s i=>intro ha;cases ha with|bref _ _ hn=>rw [←hg.hb s hn];exact .bref s i
 |bal s i t xs a m c h _ ih=>intro ha;cases ha with|bal _ _ _ _ hn=>exact .bal s i t xs a m c ((hg.hs s i (hn i)).trans h) (ih (.L t xs))
 |rm0 t a cap=>intro _;exact .rm0 t a cap
 |rm t xs ys b o cap vals hcap hcc hr ih=>
  intro _
  exact .rm t xs ys b o cap vals hcap (fun j hj=>im _ _ _ (hcc j hj).1 (hcc j hj).2) (fun j hj=>ih j hj (c8 N t (xs++ys) _ (List.getElem_mem hj)))
 |als s j sz lo k b m c cap h hk=>intro ha;cases ha with|als _ _ _ _ _ hn=>exact .als s j sz lo k b m c cap ((hg.hs s j hn).trans h) hk
 |als0 s j sz lo a cap=>intro _;exact .als0 s j sz lo a cap
 |bad0 s=>intro _;exact .bad0 s
 |bad1 s=>intro ha;cases ha with|bad _ hn=>rw [←hg.hb s hn];exact .bad1 s
 |refT s T b hb hs=>intro ha;cases ha with|refT _ _ hn=>exact .refT s T b ((hg.hb s hn).trans hb) ((hc.shp _ (jN hs)).trans hs)
 |fzs0 e a c hs=>
  intro _
  refine .fzs0 e a c fun q hq=>?_
  obtain ⟨p,hp⟩:=Option.isSome_iff_exists.1 (hs q hq)
  rw [hc.shp _ (jN hp)];exact hs q hq
 |fzs e l b cap k hs hk hl hcap hm hcc=>
  intro _
  refine .fzs e l b cap k ((hc.shp _ (jN hs)).trans hs) hk hl hcap hm fun j hj=>?_
  obtain ⟨h1,h2,h3⟩:=hcc j hj
  obtain ⟨k1,k2⟩:=im _ _ _ h1 h2
  refine ⟨k1,k2,?_⟩
  rw [hc.frz b j (iw h2) (fun hm=>?_)]
  ·exact h3
  ·obtain ⟨s,x,e⟩:=hM b j (iw h2) hm
   rw [h1] at e;cases e
 |vp cs b o vals hcc hr ih=>
  intro ha
  cases ha with
  |vp _ hn=>
   refine .vp cs b o vals (fun j hj=>?_) (fun j hj=>ih j hj (hn _ (List.getElem_mem hj)))
   rcases (hcc j hj).1 with e|e
   ·have:=im _ _ _ e (hcc j hj).2;exact ⟨.inl this.1,this.2⟩
   ·have:=bo _ _ _ e (hcc j hj).2;exact ⟨.inr this.1,this.2⟩
 |vi cs b o vals hcc hr ih=>
  intro ha
  cases ha with
  |vi _ hn=>exact .vi cs b o vals (fun j hj=>im _ _ _ (hcc j hj).1 (hcc j hj).2) (fun j hj=>ih j hj (hn _ (List.getElem_mem hj)))
 |nilp=>intro _;exact .nilp
 |opt0 t=>intro _;exact .opt0 t
 |opt1 t x v h ih=>intro _;exact .opt1 t x v (ih (.vi _ (mG N t x)))
 |nq q t xs a m cap hq h ih=>intro _;exact .nq q t xs a m cap hq (ih (.L t xs))
 |agg cs vs hl hr ih=>intro ha;cases ha with|agg _ hn=>exact .agg cs vs hl fun j h h'=>ih j h h' (hn _ (List.getElem_mem h))
 |tup cs vs hl hr ih=>intro ha;cases ha with|tup _ hn=>exact .tup cs vs hl fun j h h'=>ih j h h' (hn _ (List.getElem_mem h))
 |fn f cs vs hl hr ih=>intro ha;cases ha with|fn _ _ hn=>exact .fn f cs vs hl fun j h h'=>ih j h h' (hn _ (List.getElem_mem h))
theorem vT.pres {aa:aM}{w w':World}{g g':Gh}{M:Nat→Nat→Prop}{N:Nat→Option Nat→Prop}(hc:gy w w' M)
  (hg:GA w g g' N) {s j:Nat} (ho:∀b o,b<w.heap.size→g.who b o=.obj s (some j)→g'.who b o=.obj s (some j)) (hM:∀b o,b<w.heap.size→M b o→∃s' x,g.who b o=.obj s' x∧(s'≠s∨x≠some j)) (hn:¬N s (some j)) {t:El}{fz:Bool}{xs:List t.den}
  (h:vT aa w g s j t fz xs):vT aa w' g' s j t fz xs:=by
 obtain ⟨⟨vals,h1,h2,h3⟩,h4⟩:=h
 have hM':∀b o,b<w.heap.size→M b o→∃s x,g.who b o=.obj s x:=fun b o hb hm=>let ⟨s,x,e,_⟩:=hM b o hb hm;⟨s,x,e⟩
 have hhs:=hg.hs s j hn
 refine ⟨⟨vals,?_,h2,fun i h h'=>(h3 i h h').pres hc hM' hg (c8 N t xs _ (List.getElem_mem h))⟩,?_⟩
 ·rw [hhs]
  obtain ⟨r1,r2⟩:=h1
  refine ⟨r1,?_⟩
  rcases r2 with r2|⟨b,cap,cur,e,hb,hh,r⟩
  ·exact .inl r2
  ·obtain ⟨mk,hh,hmk⟩:=hh
   refine .inr ⟨b,cap,cur,e,hb,⟨mk,?_,hmk⟩,r⟩
   have ⟨hlt,hw⟩:=h4 b _ cap e
   rw [hc.blk b hlt (fun o hm=>?_)]
   ·exact hh
   ·obtain ⟨s',x,e',hne⟩:=hM b o hlt hm
    have:=hw o
    rw [e'] at this
    split at this
    ·split at this
     ·cases this
     ·cases this;simp at hne
    ·cases this;simp at hne
 ·intro b n cap e
  rw [hhs] at e
  have ⟨hlt,hw⟩:=h4 b n cap e
  refine ⟨Nat.lt_of_lt_of_le hlt hc.size,fun o=>?_⟩
  have:=hw o
  split<;>rename_i h5
  ·rw [if_pos h5] at this
   split<;>rename_i h6
   ·rw [if_pos h6] at this;exact hg.imm b o hlt this
   ·rw [if_neg h6] at this;exact ho b o hlt this
  ·rw [if_neg h5] at this;exact ho b o hlt this
theorem bZ.pres {aa:aM}{w w':World}{g g':Gh}{M:Nat→Nat→Prop}{N:Nat→Option Nat→Prop}(hc:gy w w' M)
  (hg:GA w g g' N) {s j:Nat} (ho:∀b o,b<w.heap.size→g.who b o=.obj s (some j)→g'.who b o=.obj s (some j)) (hM:∀b o,b<w.heap.size→M b o→∃s' x,g.who b o=.obj s' x∧(s'≠s∨x≠some j)) (hn:¬N s (some j)) {t:El}{fz:Bool}{xs:List t.den}
  (h:bZ aa w g s j t fz xs):bZ aa w' g' s j t fz xs:=by
 rcases h.c with h|⟨h1,h2,a,h3⟩
 ·exact ⟨.inl (h.pres hc hg ho hM hn)⟩
 ·exact ⟨.inr ⟨h1,h2,a,(hg.hs s j hn).trans h3⟩⟩
end Go.Proofs.YtjkokaockhecnaaGreatDoorA
