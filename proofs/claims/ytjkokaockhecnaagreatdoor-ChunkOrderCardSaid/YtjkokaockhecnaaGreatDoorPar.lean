/- One operation: its continuation, and what of a state it looks at. -/
import Derived.Test.YtjkokaockhecnaaGreatDoorLvl
namespace Go.Proofs.YtjkokaockhecnaaGreatDoorA
open Go
section
variable {R:Type}{S S':St}
theorem nh {e i l nn:Bool}{op:BinOp}{x y:AV}{κ:AV→Option R}:vw e i l nn op x y κ=(vw e i l nn op x y some).bind κ:=by
 unfold vw
 simp only [cond_eq_ite]
 repeat' (first|rfl|split)
theorem qB {op:UnOp}{x:AV}{κ:AV→Option R}:Em op x κ=(Em op x some).bind κ:=by
 unfold Em
 repeat' (first|rfl|split)
theorem Option.bind_bind' {α β γ:Type}(x:Option α)(f:α→Option β)(g:β→Option γ):(x.bind f).bind g=x.bind fun a=>(f a).bind g:=by cases x<;>rfl
theorem lz {el:Option El}{a:AV}{n:Nat}{κ:List AV→Option R}:hZ S el a n κ=(hZ S el a n some).bind κ:=by
 unfold hZ
 simp only [cond_eq_ite]
 repeat' (first|rfl|split)
 all_goals (rw [Option.bind_bind'];congr 1;funext y;first|(split<;>rfl)|(rw [Option.bind_bind'];congr 1;funext p;split<;>rfl))
theorem fU {t:El}{x i:AV}{κ:AV→Option R}:cR S t x i κ=(cR S t x i some).bind κ:=by
 unfold cR
 simp only [cond_eq_ite]
 repeat' (first|rfl|split)
 all_goals (first|(generalize rd _ _=q;cases q<;>rfl))
theorem m8 {ty:Option gB}{x:AV}{κ:AV→Option R}:qh S ty x κ=(qh S ty x some).bind κ:=by
 unfold qh
 simp only [cond_eq_ite]
 repeat' (first|rfl|split)
theorem iP {o:Option Operand}{y d:Nat}{κ:Nat→Option R}:cd S o y d κ=(cd S o y d some).bind κ:=by
 unfold cd
 simp only [cond_eq_ite]
 repeat' (first|rfl|split)
def q2 {R:Type}(κ:AV→Option ac→Option R)(p:AV×Option ac):Option R:=κ p.1 p.2
def q0 (a:AV)(r:Option ac):Option (AV×Option ac):=some (a,r)
theorem oP {κ:AV→Option ac→Option R}(x:Option AV):(x.bind fun a=>κ a none)=(x.bind fun a=>q0 a none).bind (q2 κ):=by cases x<;>rfl
theorem pE {E:TypeId→Option gB}{o:Oper}{κ:AV→Option ac→Option R}:ca E o S κ=(ca E o S q0).bind (q2 κ):=by
 unfold ca
 cases o.op with
 |binOp op xT x y c=>
  simp only
  rw [nh,nh (κ:=fun a=>q0 a none)]
  exact oP _
 |unOp op t x=>
  simp only
  rw [qB,qB (κ:=fun a=>q0 a none)]
  exact oP _
 |load T x=>
  simp only
  split
  ·rename_i i hi
   refine lz.trans (Eq.symm ((congrArg (fun q=>Option.bind q (q2 κ)) lz).trans ?_))
   generalize hZ S _ _ _ some=q
   cases q with
   |none=>rfl
   |some l=>simp only [Option.bind_some];split<;>rfl
  ·rfl
 |indexAddr T x i=>
  simp only
  split
  ·rw [fU,fU (κ:=fun a=>q0 a none)]
   exact oP _
  ·rfl
 |index T x i=>
  simp only [cond_eq_ite]
  repeat' (first|rfl|split)
  generalize rd _ _=q
  cases q<;>rfl
 |slice T x lo hi mx=>
  cases mx with
  |some m=>rfl
  |none=>
   simp only [cond_eq_ite]
   have key:∀(y d:Nat) (f:Nat→Nat→AV),(cd S hi y d fun h=>cd S lo h 0 fun l=>κ (f h l) none)=(cd S hi y d fun h=>cd S lo h 0 fun l=>q0 (f h l) none).bind (q2 κ):=by
    intro y d f
    rw [iP,iP (κ:=fun h=>cd S lo h 0 fun l=>q0 (f h l) none),Option.bind_bind']
    congr 1
    funext h
    rw [iP,iP (κ:=fun l=>q0 (f h l) none),Option.bind_bind']
    rfl
   repeat' (first|rfl|exact key _ _ _|split)
 |call c=>
  simp only
  split
  ·split
   ·rw [m8,m8 (κ:=fun a=>q0 a none)]
    exact oP _
   ·rfl
  ·repeat' (first|rfl|split)
  ·repeat' (first|rfl|split)
  ·rfl
 |makeFunc fn first captured=>
  cases fn with
  |func f=>simp only [cond_eq_ite];split<;>rfl
  |_=>rfl
 |_=>
  simp only [cond_eq_ite]
  repeat' (first|rfl|split)
theorem vY {E:dK}{lv:Lv E.sig}{o:Oper}{c:Call}{κ:AV→Option ac→Option R}:stepC E lv o c S κ=(stepC E lv o c S q0).bind (q2 κ):=by
 unfold stepC
 simp only [cond_eq_ite]
 repeat' (first|rfl|split)
 all_goals (rw [Option.bind_bind'];rfl)
theorem gi {E:dK}{lv:Lv E.sig}{o:Oper}{κ:AV→Option ac→Option R}:aB E lv o S κ=(aB E lv o S q0).bind (q2 κ):=by
 unfold aB
 split
 ·split
  ·exact pE
  ·exact vY
 ·exact pE
def w4 {R:Type}(κ:AV→Option ac→List (Nat×ac)→List Nat→Option R)(p:AV×Option ac×List (Nat×ac)×List Nat):Option R:=κ p.1 p.2.1 p.2.2.1 p.2.2.2
def w0 (a:AV)(r:Option ac)(rs:List (Nat×ac))(ks:List Nat):Option (AV×Option ac×List (Nat×ac)×List Nat):=some (a,r,rs,ks)
theorem tY {a:AV}{l:List AV}{κ:AV→Option ac→List (Nat×ac)→List Nat→Option R}:gh S a l (κ .und none)=(gh S a l (w0 .und none)).bind (w4 κ):=by
 unfold gh
 simp only [cond_eq_ite]
 repeat' (first|rfl|split)
 all_goals (rw [Option.bind_bind'];congr 1;funext y;repeat' (first|rfl|split))
theorem vV {s j lo n:Nat}{t:El}{x:AV}{κ:AV→Option ac→List (Nat×ac)→List Nat→Option R}:jE S s j lo n t x (fun a rs=>κ a none rs [])=(jE S s j lo n t x (fun a rs=>w0 a none rs [])).bind (w4 κ):=by
 unfold jE
 simp only [cond_eq_ite]
 repeat' (first|rfl|split)
theorem yW {s:Nat}{x:List UInt8}{κ:AV→Option ac→List (Nat×ac)→List Nat→Option R}:BB S s x (fun rs=>κ .und none rs [s])=(BB S s x (fun rs=>w0 .und none rs [s])).bind (w4 κ):=by
 unfold BB
 simp only [cond_eq_ite]
 repeat' (first|rfl|split)
theorem y9 {s e:Nat}{κ:AV→Option ac→List (Nat×ac)→List Nat→Option R}:Be S s e (fun a rs=>κ a none rs [s])=(Be S s e (fun a rs=>w0 a none rs [s])).bind (w4 κ):=by
 unfold Be
 simp only [cond_eq_ite]
 repeat' (first|rfl|split)
theorem u0 {sig:FuncId→bC}{pks:FuncId→List PK}{lv:Lv sig}{d:Nat}{f:FuncId}{as:List AV}{κ:AV→Option ac→List (Nat×ac)→List Nat→Option R}:iy sig pks lv d S f as κ=(iy sig pks lv d S f as w0).bind (w4 κ):=by
 unfold iy
 simp only [cond_eq_ite]
 split
 ·split
  ·rw [Option.bind_bind']
   congr 1
   funext r
   split<;>rfl
  ·rfl
 ·rfl
theorem vK {E:dK}{lv:Lv E.sig}{o:Oper}{κ:AV→Option ac→List (Nat×ac)→List Nat→Option R}:iI E lv o S κ=(iI E lv o S w0).bind (w4 κ):=by
 unfold iI
 cases o.op with
 |store T a x=>
  simp only [cond_eq_ite]
  repeat' (first|rfl|exact tY|split)
 |call c=>
  simp only
  split
  ·simp only [cond_eq_ite]
   repeat' (first|rfl|split)
   all_goals (rw [Option.bind_bind'];congr 1;funext c;rw [Option.bind_bind'];congr 1;funext p;split<;>rfl)
  ·simp only [cond_eq_ite]
   repeat' (first|rfl|exact vV|split)
  ·simp only [cond_eq_ite]
   repeat' (first|rfl|exact yW|exact y9|exact u0|split)
  ·rfl
 |_=>rfl
theorem qK {E:dK}{lv:Lv E.sig}{o:Oper}{κ:AV→Option ac→List (Nat×ac)→List Nat→Option R}:step1 E lv o S κ=(step1 E lv o S w0).bind (w4 κ):=by
 unfold step1
 cases bV E.pks o with
 |true=>
  simp only [cond]
  rw [gi,gi (κ:=fun a r=>w0 a r S.roots []),Option.bind_bind']
  rfl
 |false=>exact vK
end
end Go.Proofs.YtjkokaockhecnaaGreatDoorA
