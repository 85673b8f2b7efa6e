/- One operation: its continuation, and what of a state it looks at. -/
import Derived.Test.YtjkokaockhecnaaGreatDoorLvl
namespace Go.Proofs.YtjkokaockhecnaaGreatDoorA
open Go
section
variable {R:Type}{S S':St}
theorem qw {e i l nn:Bool}{op:BinOp}{x y:AV}{κ:AV→Option R}:AM e i l nn op x y κ=(AM e i l nn op x y some).bind κ:=by
 unfold AM
 simp only [cond_eq_ite]
 repeat' (first|rfl|split)
theorem vg {op:UnOp}{x:AV}{κ:AV→Option R}:LR op x κ=(LR op x some).bind κ:=by
 unfold LR
 repeat' (first|rfl|split)
theorem Option.bind_bind' {α β γ:Type}(x:Option α)(f:α→Option β)(g:β→Option γ):(x.bind f).bind g=x.bind fun a=>(f a).bind g:=by cases x<;>rfl
theorem oy {el:Option El}{a:AV}{n:Nat}{κ:List AV→Option R}:jV S el a n κ=(jV S el a n some).bind κ:=by
 unfold jV
 simp only [cond_eq_ite]
 repeat' (first|rfl|split)
 all_goals (rw [Option.bind_bind'];congr 1;funext y;first|(split<;>rfl)|(rw [Option.bind_bind'];congr 1;funext p;split<;>rfl))
theorem iS {t:El}{x i:AV}{κ:AV→Option R}:ef S t x i κ=(ef S t x i some).bind κ:=by
 unfold ef
 simp only [cond_eq_ite]
 repeat' (first|rfl|split)
 all_goals (first|(generalize rd _ _=q;cases q<;>rfl))
theorem qA {ty:Option jJ}{x:AV}{κ:AV→Option R}:va S ty x κ=(va S ty x some).bind κ:=by
 unfold va
 simp only [cond_eq_ite]
 repeat' (first|rfl|split)
theorem lk {o:Option Operand}{y d:Nat}{κ:Nat→Option R}:dq S o y d κ=(dq S o y d some).bind κ:=by
 unfold dq
 simp only [cond_eq_ite]
 repeat' (first|rfl|split)
def q2 {R:Type}(κ:AV→Option am→Option R)(p:AV×Option am):Option R:=κ p.1 p.2
def q0 (a:AV)(r:Option am):Option (AV×Option am):=some (a,r)
theorem sS {κ:AV→Option am→Option R}(x:Option AV):(x.bind fun a=>κ a none)=(x.bind fun a=>q0 a none).bind (q2 κ):=by cases x<;>rfl
theorem uh {E:TypeId→Option jJ}{o:Oper}{κ:AV→Option am→Option R}:dk E o S κ=(dk E o S q0).bind (q2 κ):=by
 unfold dk
 cases o.op with
 |binOp op xT x y c=>
  simp only
  rw [qw,qw (κ:=fun a=>q0 a none)]
  exact sS _
 |unOp op t x=>
  simp only
  rw [vg,vg (κ:=fun a=>q0 a none)]
  exact sS _
 |load T x=>
  simp only
  split
  ·rename_i i hi
   refine oy.trans (Eq.symm ((congrArg (fun q=>Option.bind q (q2 κ)) oy).trans ?_))
   generalize jV S _ _ _ some=q
   cases q with
   |none=>rfl
   |some l=>simp only [Option.bind_some];split<;>rfl
  ·rfl
 |indexAddr T x i=>
  simp only
  split
  ·rw [iS,iS (κ:=fun a=>q0 a none)]
   exact sS _
  ·rfl
 |index T x i=>
  simp only [cond_eq_ite]
  repeat' (first|rfl|split)
  generalize rd _ _=q
  cases q<;>rfl
 |slice T x lo hi mx=>
  cases mx with
  |some m=>rfl
  |none=>
   simp only [cond_eq_ite]
   have key:∀(y d:Nat) (f:Nat→Nat→AV),(dq S hi y d fun h=>dq S lo h 0 fun l=>κ (f h l) none)=(dq S hi y d fun h=>dq S lo h 0 fun l=>q0 (f h l) none).bind (q2 κ):=by
    intro y d f
    rw [lk,lk (κ:=fun h=>dq S lo h 0 fun l=>q0 (f h l) none),Option.bind_bind']
    congr 1
    funext h
    rw [lk,lk (κ:=fun l=>q0 (f h l) none),Option.bind_bind']
    rfl
   repeat' (first|rfl|exact key _ _ _|split)
 |call c=>
  simp only
  split
  ·split
   ·rw [qA,qA (κ:=fun a=>q0 a none)]
    exact sS _
   ·rfl
  ·repeat' (first|rfl|split)
  ·repeat' (first|rfl|split)
  ·rfl
 |makeFunc fn first captured=>
  cases fn with
  |func f=>simp only [cond_eq_ite];split<;>rfl
  |_=>rfl
 |_=>
  simp only [cond_eq_ite]
  repeat' (first|rfl|split)
theorem AX {E:fA}{lv:Lv E.sig}{o:Oper}{c:Call}{κ:AV→Option am→Option R}:stepC E lv o c S κ=(stepC E lv o c S q0).bind (q2 κ):=by
 unfold stepC
 simp only [cond_eq_ite]
 repeat' (first|rfl|split)
 all_goals (rw [Option.bind_bind'];rfl)
theorem jE {E:fA}{lv:Lv E.sig}{o:Oper}{κ:AV→Option am→Option R}:bj E lv o S κ=(bj E lv o S q0).bind (q2 κ):=by
 unfold bj
 split
 ·split
  ·exact uh
  ·exact AX
 ·exact uh
def w4 {R:Type}(κ:AV→Option am→List (Nat×am)→List Nat→Option R)(p:AV×Option am×List (Nat×am)×List Nat):Option R:=κ p.1 p.2.1 p.2.2.1 p.2.2.2
def w0 (a:AV)(r:Option am)(rs:List (Nat×am))(ks:List Nat):Option (AV×Option am×List (Nat×am)×List Nat):=some (a,r,rs,ks)
theorem zu {a:AV}{l:List AV}{κ:AV→Option am→List (Nat×am)→List Nat→Option R}:jH S a l (κ .und none)=(jH S a l (w0 .und none)).bind (w4 κ):=by
 unfold jH
 simp only [cond_eq_ite]
 repeat' (first|rfl|split)
 all_goals (rw [Option.bind_bind'];congr 1;funext y;repeat' (first|rfl|split))
theorem AN {s j lo n:Nat}{t:El}{x:AV}{κ:AV→Option am→List (Nat×am)→List Nat→Option R}:lQ S s j lo n t x (fun a rs=>κ a none rs [])=(lQ S s j lo n t x (fun a rs=>w0 a none rs [])).bind (w4 κ):=by
 unfold lQ
 simp only [cond_eq_ite]
 repeat' (first|rfl|split)
theorem EQ {s:Nat}{x:List UInt8}{κ:AV→Option am→List (Nat×am)→List Nat→Option R}:IM S s x (fun rs=>κ .und none rs [s])=(IM S s x (fun rs=>w0 .und none rs [s])).bind (w4 κ):=by
 unfold IM
 simp only [cond_eq_ite]
 repeat' (first|rfl|split)
theorem Eg {s e:Nat}{κ:AV→Option am→List (Nat×am)→List Nat→Option R}:Ho S s e (fun a rs=>κ a none rs [s])=(Ho S s e (fun a rs=>w0 a none rs [s])).bind (w4 κ):=by
 unfold Ho
 simp only [cond_eq_ite]
 repeat' (first|rfl|split)
theorem zP {sig:FuncId→bR}{pks:FuncId→List PK}{lv:Lv sig}{d:Nat}{f:FuncId}{as:List AV}{κ:AV→Option am→List (Nat×am)→List Nat→Option R}:kF sig pks lv d S f as κ=(kF sig pks lv d S f as w0).bind (w4 κ):=by
 unfold kF
 simp only [cond_eq_ite]
 split
 ·split
  ·rw [Option.bind_bind']
   congr 1
   funext r
   split<;>rfl
  ·rfl
 ·rfl
theorem A4 {E:fA}{lv:Lv E.sig}{o:Oper}{κ:AV→Option am→List (Nat×am)→List Nat→Option R}:kN E lv o S κ=(kN E lv o S w0).bind (w4 κ):=by
 unfold kN
 cases o.op with
 |store T a x=>
  simp only [cond_eq_ite]
  repeat' (first|rfl|exact zu|split)
 |call c=>
  simp only
  split
  ·simp only [cond_eq_ite]
   repeat' (first|rfl|split)
   all_goals (rw [Option.bind_bind'];congr 1;funext c;rw [Option.bind_bind'];congr 1;funext p;split<;>rfl)
  ·simp only [cond_eq_ite]
   repeat' (first|rfl|exact AN|split)
  ·simp only [cond_eq_ite]
   repeat' (first|rfl|exact EQ|exact Eg|exact zP|split)
  ·rfl
 |_=>rfl
theorem sV {E:fA}{lv:Lv E.sig}{o:Oper}{κ:AV→Option am→List (Nat×am)→List Nat→Option R}:step1 E lv o S κ=(step1 E lv o S w0).bind (w4 κ):=by
 unfold step1
 cases dd E.pks o with
 |true=>
  simp only [cond]
  rw [jE,jE (κ:=fun a r=>w0 a r S.roots []),Option.bind_bind']
  rfl
 |false=>exact A4
end
end Go.Proofs.YtjkokaockhecnaaGreatDoorA
