/- What the machine answers of strconv.Atoi and strings.Cut, the library answers. -/
import Derived.Test.YtjkokaockhecnaaGreatDoorExt2
import Derived.Lib.SmallJoins
namespace Go.Proofs.YtjkokaockhecnaaGreatDoorA
open Go
def SentIs (P:Program)(w:World)(name:String):Prop:=∃tp p,w.var? P name=some #[.iface tp p]
def IntIs (P:Program)(w:World)(name:String):Prop:=∃g m,P.globalNamed name=some g∧w.cell? ⟨g,0,none⟩=some (.int .i64 m)
theorem vl {P:Program}{w w':World}{g:Nat}{name:String}(hg:P.globalNamed name=some g)(h:w'.heap[g]?=w.heap[g]?):w'.var? P name=w.var? P name:=by
 unfold World.var?
 rw [hg]
 simp only [Option.bind_some]
 rw [h]
theorem DU {P:Program}{w:World}{g:Nat}{name:String}{cs:Array Value}(hg:P.globalNamed name=some g)(hp:w.var? P name=some cs):g<w.heap.size:=by
 unfold World.var? at hp
 rw [hg] at hp
 simp only [Option.bind_some] at hp
 rcases Nat.lt_or_ge g w.heap.size with h|h
 ·exact h
 ·rw [Array.getElem?_eq_none h] at hp;cases hp
theorem ny {P:Program}{w w':World}{g:Nat}{name:String}(hg:P.globalNamed name=some g)(h:w'.heap[g]?=w.heap[g]?)(hp:SentIs P w name):SentIs P w' name:=by
 unfold SentIs at*;rw [vl hg h];exact hp
theorem wc {P:Program}{w:World}{g:Nat}{name:String}(hg:P.globalNamed name=some g)(hp:SentIs P w name):g<w.heap.size:=let ⟨_,_,h⟩:=hp;DU hg h
theorem vG {P:Program}{w w':World}{g:Nat}{name:String}(hg:P.globalNamed name=some g)(h:w'.heap[g]?=w.heap[g]?)(hp:IntIs P w name):IntIs P w' name:=by
 obtain ⟨g',m,h1,h2⟩:=hp
 obtain rfl:=Option.some.inj (hg.symm.trans h1)
 refine ⟨g,m,hg,?_⟩
 unfold World.cell? at h2 ⊢
 simp only at h2 ⊢
 rw [h];exact h2
theorem D3 {P:Program}{w:World}{g:Nat}{name:String}(hg:P.globalNamed name=some g)(hp:IntIs P w name):g<w.heap.size:=by
 obtain ⟨g',m,h1,h2⟩:=hp
 obtain rfl:=Option.some.inj (hg.symm.trans h1)
 exact iw h2
theorem zt {P:Program}{w:World}{g:Nat}{name:String}(hg:P.globalNamed name=some g)(hp:IntIs P w name):∃m,w.cell? ⟨g,0,none⟩=some (.int .i64 m):=by
 obtain ⟨g',m,h1,h2⟩:=hp
 obtain rfl:=Option.some.inj (hg.symm.trans h1)
 exact ⟨m,h2⟩
theorem eW.gen {P:Program}{aa:aM}{sig:FuncId→bg}{f:FuncId}{args:List kh}{r:(sig f).den}(hb:ff P f)
  (hc:∀w g vals,ef aa w g args vals→Calls P f vals.toArray w fun e w'=>∃v,e=.returned v∧(∀w g,li aa w g (sig f) r v)∧RowKit.Below w.heap.size w w'):eW P aa sig f args r:=by
 refine ⟨hb,fun w g vals ha=>(hc w g vals ha).mono ?_⟩
 rintro e w' ⟨v,rfl,hv,hw⟩
 exact ⟨_,g,rfl,⟨gy.of_below hw _,fun _ _ _ h=>h,fun _ _ _ h=>h,fun _ _ _ h=>h,fun _ _=>rfl⟩,hv _ _⟩
theorem ly {aa:aM}{w:World}{g:Gh}{s:bg}{r:s.den}{n:Int}{b:Bool}{u:Value}(hs:s=⟨[.one (.int .i64),.one .err],[]⟩)(hr:HEq r ((n,b):Int×Bool))
  (hu:RepA w g (.err b) u):li aa w g s r (.tuple #[.int .i64 n,u]):=by
 subst hs
 have e:r=(n,b):=eq_of_heq hr
 subst e
 refine ⟨?_,⟨fun _ j t fz xs h=>?_,fun h=>by cases h⟩,fun i cs h=>?_⟩
 ·exact .tup [.int .i64 n,.err b] [.int .i64 n,u] rfl fun j h h'=>by
   match j,h with
   |0,_=>exact .int _ _
   |1,_=>exact hu
 ·match j with
  |0=>cases h
  |1=>cases h
  |j+2=>cases h
 ·cases h
theorem wZ {aa:aM}{w:World}{g:Gh}{s:bg}{r:s.den}{p:List UInt8×List UInt8×Bool}(hs:s=⟨[.one .str,.one .str,.one .bool],[]⟩)(hr:HEq r p):
  li aa w g s r (.tuple #[.string ⟨p.1.toArray⟩,.string ⟨p.2.1.toArray⟩,.bool p.2.2]):=by
 subst hs
 have e:r=p:=eq_of_heq hr
 subst e
 refine ⟨?_,⟨fun _ j t fz xs h=>?_,fun h=>by cases h⟩,fun i cs h=>?_⟩
 ·exact .tup [.str r.1,.str r.2.1,.bool r.2.2] [.string ⟨r.1.toArray⟩,.string ⟨r.2.1.toArray⟩,.bool r.2.2] rfl fun j h h'=>by
   match j,h with
   |0,_=>exact .str _
   |1,_=>exact .str _
   |2,_=>exact .bool _
 ·match j with
  |0=>cases h
  |1=>cases h
  |2=>cases h
  |j+3=>cases h
 ·cases h
theorem Ek {P:Program}{aa:aM}{sig:FuncId→bg}{f:FuncId}{args:List kh}{p:List UInt8×List UInt8×Bool}{r:(sig f).den}{G:Nat}(hs:sig f=⟨[.one .str,.one .str,.one .bool],[]⟩)(hb:ff P f)
  (hc:∀(s sep:ByteArray) (m:Int) (w:World),s.size<4294967281→w.cell? ⟨G,0,none⟩=some (.int .i64 m)→Calls P f #[.string s,.string sep] w fun e w'=>e=.returned (.tuple #[.string ⟨(Lib.cut s.data.toList sep.data.toList).1.toArray⟩,.string ⟨(Lib.cut s.data.toList sep.data.toList).2.1.toArray⟩,.bool (Lib.cut s.data.toList sep.data.toList).2.2])∧∃n,w'=w.drewN n)
  (hp:∀w,aa.p w→∃m,w.cell? ⟨G,0,none⟩=some (.int .i64 m)) (h0:sf args=some p) (hr:HEq r p):eW P aa sig f args r:=by
 obtain ⟨s,sep,rfl,h⟩:∃s sep,args=[.v (.str s),.v (.str sep)]∧oS s sep=some p:=by
  unfold sf at h0
  split at h0
  ·exact ⟨_,_,rfl,h0⟩
  ·cases h0
 unfold oS at h
 cases hd:decide (s.length<4294967281) with
 |false=>rw [hd] at h;cases h
 |true=>
  rw [hd] at h
  cases h
  refine .gen hb fun w g vals ha=>?_
  obtain ⟨u,v,rfl,hu,hv⟩:=ha.two
  cases hu;cases hv
  obtain ⟨m,hm⟩:=hp w ha.tb.1
  refine (hc ⟨s.toArray⟩ ⟨sep.toArray⟩ m w (by rw [cG];exact of_decide_eq_true hd) hm).mono ?_
  rintro e w' ⟨rfl,n,rfl⟩
  exact ⟨_,rfl,fun w g=>by simpa using wZ hs hr,⟨rfl,rfl,rfl,Nat.le_refl _,fun _ _=>rfl⟩⟩
theorem CC {P:Program}{aa:aM}{sig:FuncId→bg}{f:FuncId}{args:List kh}{p:Int×Bool}{r:(sig f).den}{T T' T5:TypeId}(hs:sig f=⟨[.one (.int .i64),.one .err],[]⟩)(hb:ff P f)
  (h1:∀(s:ByteArray),s.size≤9223372036854775806→∀v,Lib.atoiAll s.data.toList=.ok v→∀w,Calls P f #[.string s] w fun e w'=>e=.returned (.tuple #[.int .i64 v,.nilIface])∧(w'=w∨∃t,w'=Lib.bytesWorld w T5 t))
  (h2:∀(s:ByteArray),s.size≤281474976710656→Lib.atoiAll s.data.toList=.«syntax»→∀tp p w,w.var? P "strconv.ErrSyntax" =some #[.iface tp p]→
   Calls P f #[.string s] w fun e w'=>∃N,e=.returned (.tuple #[.int .i64 0,.iface T (.pointer (some ⟨N,0,none⟩))])∧w.heap.size≤N∧w'.heap[N]?=some (.cells #[.string ⟨#[65,116,111,105]⟩,.string s,.iface tp p] T' (0,0))∧RowKit.Below w.heap.size w w')
  (h3:∀(s:ByteArray),s.size≤281474976710656→Lib.atoiAll s.data.toList=.range→∀tp p w,w.var? P "strconv.ErrRange" =some #[.iface tp p]→
   Calls P f #[.string s] w fun e w'=>∃N,e=.returned (.tuple #[.int .i64 (Lib.atoiSat s.data.toList),.iface T (.pointer (some ⟨N,0,none⟩))])∧w.heap.size≤N∧w'.heap[N]?=some (.cells #[.string ⟨#[65,116,111,105]⟩,.string s,.iface tp p] T' (0,0))∧RowKit.Below w.heap.size w w')
  (hp2:∀w,aa.p w→SentIs P w "strconv.ErrSyntax") (hp3:∀w,aa.p w→SentIs P w "strconv.ErrRange") (h0:qc args=some p) (hr:HEq r p):eW P aa sig f args r:=by
 obtain ⟨s,rfl,h⟩:∃s,args=[.v (.str s)]∧kr s=some p:=by
  unfold qc at h0
  split at h0
  ·exact ⟨_,rfl,h0⟩
  ·cases h0
 unfold kr at h
 cases hd:decide (s.length≤281474976710656) with
 |false=>rw [hd] at h;cases h
 |true=>
  rw [hd] at h
  have hl:=of_decide_eq_true hd
  refine .gen hb fun w g vals ha=>?_
  obtain ⟨u,rfl,hu⟩:=ha.one
  cases hu
  simp only [cond] at h
  split at h
  ·rename_i v hv
   cases h
   refine (h1 ⟨s.toArray⟩ (by rw [cG];omega) v (by simpa using hv) w).mono ?_
   rintro e w' ⟨rfl,hw⟩
   refine ⟨_,rfl,fun w g=>ly hs hr .err0,?_⟩
   rcases hw with rfl|⟨t,rfl⟩
   ·exact RowKit.Below.refl _ _
   ·exact Joins.below_bytesWorld _ w _ _ (Nat.le_refl _)
  ·rename_i hv
   cases h
   obtain ⟨tp,q,hq⟩:=hp2 w ha.tb.1
   refine (h2 ⟨s.toArray⟩ (by rw [cG];exact hl) (by simpa using hv) tp q w hq).mono ?_
   rintro e w' ⟨N,rfl,_,_,hw⟩
   exact ⟨_,rfl,fun w g=>ly hs hr (.err1 _ _),hw⟩
  ·rename_i hv
   cases h
   obtain ⟨tp,q,hq⟩:=hp3 w ha.tb.1
   refine (h3 ⟨s.toArray⟩ (by rw [cG];exact hl) (by simpa using hv) tp q w hq).mono ?_
   rintro e w' ⟨N,rfl,_,_,hw⟩
   exact ⟨_,rfl,fun w g=>by simpa using ly hs hr (.err1 _ _),hw⟩
end Go.Proofs.YtjkokaockhecnaaGreatDoorA
