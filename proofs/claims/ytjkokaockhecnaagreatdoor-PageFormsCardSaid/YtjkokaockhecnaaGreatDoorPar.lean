/- One operation: its continuation, and what of a state it looks at. -/
import Derived.Test.YtjkokaockhecnaaGreatDoorLvl
namespace Go.Proofs.YtjkokaockhecnaaGreatDoorA
open Go
section
variable {R:Type}{S S':St}
theorem lC {e i l nn:Bool}{op:BinOp}{x y:AV}{κ:AV→Option R}:sS e i l nn op x y κ=(sS e i l nn op x y some).bind κ:=by
 unfold sS
 simp only [cond_eq_ite]
 repeat' (first|rfl|split)
theorem nZ {op:UnOp}{x:AV}{κ:AV→Option R}:Ar op x κ=(Ar op x some).bind κ:=by
 unfold Ar
 repeat' (first|rfl|split)
theorem Option.bind_bind' {α β γ:Type}(x:Option α)(f:α→Option β)(g:β→Option γ):(x.bind f).bind g=x.bind fun a=>(f a).bind g:=by cases x<;>rfl
theorem kr {el:Option El}{a:AV}{n:Nat}{κ:List AV→Option R}:fQ S el a n κ=(fQ S el a n some).bind κ:=by
 unfold fQ
 simp only [cond_eq_ite]
 repeat' (first|rfl|split)
 all_goals (rw [Option.bind_bind'];congr 1;funext y;first|(split<;>rfl)|(rw [Option.bind_bind'];congr 1;funext p;split<;>rfl))
theorem eW {t:El}{x i:AV}{κ:AV→Option R}:cq S t x i κ=(cq S t x i some).bind κ:=by
 unfold cq
 simp only [cond_eq_ite]
 repeat' (first|rfl|split)
 all_goals (first|(generalize rd _ _=q;cases q<;>rfl))
theorem ly {ty:Option fD}{x:AV}{κ:AV→Option R}:nA S ty x κ=(nA S ty x some).bind κ:=by
 unfold nA
 simp only [cond_eq_ite]
 repeat' (first|rfl|split)
theorem il {o:Option Operand}{y d:Nat}{κ:Nat→Option R}:bN S o y d κ=(bN S o y d some).bind κ:=by
 unfold bN
 simp only [cond_eq_ite]
 repeat' (first|rfl|split)
def q2 {R:Type}(κ:AV→Option ac→Option R)(p:AV×Option ac):Option R:=κ p.1 p.2
def q0 (a:AV)(r:Option ac):Option (AV×Option ac):=some (a,r)
theorem m5 {κ:AV→Option ac→Option R}(x:Option AV):(x.bind fun a=>κ a none)=(x.bind fun a=>q0 a none).bind (q2 κ):=by cases x<;>rfl
theorem nT {E:TypeId→Option fD}{o:Oper}{κ:AV→Option ac→Option R}:bJ E o S κ=(bJ E o S q0).bind (q2 κ):=by
 unfold bJ
 cases o.op with
 |binOp op xT x y c=>
  simp only
  rw [lC,lC (κ:=fun a=>q0 a none)]
  exact m5 _
 |unOp op t x=>
  simp only
  rw [nZ,nZ (κ:=fun a=>q0 a none)]
  exact m5 _
 |load T x=>
  simp only
  split
  ·rename_i i hi
   refine kr.trans (Eq.symm ((congrArg (fun q=>Option.bind q (q2 κ)) kr).trans ?_))
   generalize fQ S _ _ _ some=q
   cases q with
   |none=>rfl
   |some l=>simp only [Option.bind_some];split<;>rfl
  ·rfl
 |indexAddr T x i=>
  simp only
  split
  ·rw [eW,eW (κ:=fun a=>q0 a none)]
   exact m5 _
  ·rfl
 |index T x i=>
  simp only [cond_eq_ite]
  repeat' (first|rfl|split)
  generalize rd _ _=q
  cases q<;>rfl
 |slice T x lo hi mx=>
  cases mx with
  |some m=>rfl
  |none=>
   simp only [cond_eq_ite]
   have key:∀(y d:Nat) (f:Nat→Nat→AV),(bN S hi y d fun h=>bN S lo h 0 fun l=>κ (f h l) none)=(bN S hi y d fun h=>bN S lo h 0 fun l=>q0 (f h l) none).bind (q2 κ):=by
    intro y d f
    rw [il,il (κ:=fun h=>bN S lo h 0 fun l=>q0 (f h l) none),Option.bind_bind']
    congr 1
    funext h
    rw [il,il (κ:=fun l=>q0 (f h l) none),Option.bind_bind']
    rfl
   repeat' (first|rfl|exact key _ _ _|split)
 |call c=>
  simp only
  split
  ·split
   ·rw [ly,ly (κ:=fun a=>q0 a none)]
    exact m5 _
   ·rfl
  ·repeat' (first|rfl|split)
  ·repeat' (first|rfl|split)
  ·rfl
 |makeFunc fn first captured=>
  cases fn with
  |func f=>simp only [cond_eq_ite];split<;>rfl
  |_=>rfl
 |_=>
  simp only [cond_eq_ite]
  repeat' (first|rfl|split)
theorem tq {E:db}{lv:Lv E.sig}{o:Oper}{c:Call}{κ:AV→Option ac→Option R}:stepC E lv o c S κ=(stepC E lv o c S q0).bind (q2 κ):=by
 unfold stepC
 simp only [cond_eq_ite]
 repeat' (first|rfl|split)
 all_goals (rw [Option.bind_bind'];rfl)
theorem fp {E:db}{lv:Lv E.sig}{o:Oper}{κ:AV→Option ac→Option R}:ax E lv o S κ=(ax E lv o S q0).bind (q2 κ):=by
 unfold ax
 split
 ·split
  ·exact nT
  ·exact tq
 ·exact nT
def w4 {R:Type}(κ:AV→Option ac→List (Nat×ac)→List Nat→Option R)(p:AV×Option ac×List (Nat×ac)×List Nat):Option R:=κ p.1 p.2.1 p.2.2.1 p.2.2.2
def w0 (a:AV)(r:Option ac)(rs:List (Nat×ac))(ks:List Nat):Option (AV×Option ac×List (Nat×ac)×List Nat):=some (a,r,rs,ks)
theorem rE {a:AV}{l:List AV}{κ:AV→Option ac→List (Nat×ac)→List Nat→Option R}:fm S a l (κ .und none)=(fm S a l (w0 .und none)).bind (w4 κ):=by
 unfold fm
 simp only [cond_eq_ite]
 repeat' (first|rfl|split)
 all_goals (rw [Option.bind_bind'];congr 1;funext y;repeat' (first|rfl|split))
theorem sY {s j lo n:Nat}{t:El}{x:AV}{κ:AV→Option ac→List (Nat×ac)→List Nat→Option R}:iD S s j lo n t x (fun a rs=>κ a none rs [])=(iD S s j lo n t x (fun a rs=>w0 a none rs [])).bind (w4 κ):=by
 unfold iD
 simp only [cond_eq_ite]
 repeat' (first|rfl|split)
theorem wC {s:Nat}{x:List UInt8}{κ:AV→Option ac→List (Nat×ac)→List Nat→Option R}:yH S s x (fun rs=>κ .und none rs [s])=(yH S s x (fun rs=>w0 .und none rs [s])).bind (w4 κ):=by
 unfold yH
 simp only [cond_eq_ite]
 repeat' (first|rfl|split)
theorem xk {s e:Nat}{κ:AV→Option ac→List (Nat×ac)→List Nat→Option R}:yC S s e (fun a rs=>κ a none rs [s])=(yC S s e (fun a rs=>w0 a none rs [s])).bind (w4 κ):=by
 unfold yC
 simp only [cond_eq_ite]
 repeat' (first|rfl|split)
theorem sO {sig:FuncId→bc}{pks:FuncId→List PK}{lv:Lv sig}{d:Nat}{f:FuncId}{as:List AV}{κ:AV→Option ac→List (Nat×ac)→List Nat→Option R}:gG sig pks lv d S f as κ=(gG sig pks lv d S f as w0).bind (w4 κ):=by
 unfold gG
 simp only [cond_eq_ite]
 split
 ·split
  ·rw [Option.bind_bind']
   congr 1
   funext r
   split<;>rfl
  ·rfl
 ·rfl
theorem tG {E:db}{lv:Lv E.sig}{o:Oper}{κ:AV→Option ac→List (Nat×ac)→List Nat→Option R}:gA E lv o S κ=(gA E lv o S w0).bind (w4 κ):=by
 unfold gA
 cases o.op with
 |store T a x=>
  simp only [cond_eq_ite]
  repeat' (first|rfl|exact rE|split)
 |call c=>
  simp only
  split
  ·simp only [cond_eq_ite]
   repeat' (first|rfl|split)
   all_goals (rw [Option.bind_bind'];congr 1;funext c;rw [Option.bind_bind'];congr 1;funext p;split<;>rfl)
  ·simp only [cond_eq_ite]
   repeat' (first|rfl|exact sY|split)
  ·simp only [cond_eq_ite]
   repeat' (first|rfl|exact wC|exact xk|exact sO|split)
  ·rfl
 |_=>rfl
theorem oy {E:db}{lv:Lv E.sig}{o:Oper}{κ:AV→Option ac→List (Nat×ac)→List Nat→Option R}:step1 E lv o S κ=(step1 E lv o S w0).bind (w4 κ):=by
 unfold step1
 cases bF E.pks o with
 |true=>
  simp only [cond]
  rw [fp,fp (κ:=fun a r=>w0 a r S.roots []),Option.bind_bind']
  rfl
 |false=>exact tG
end
end Go.Proofs.YtjkokaockhecnaaGreatDoorA
