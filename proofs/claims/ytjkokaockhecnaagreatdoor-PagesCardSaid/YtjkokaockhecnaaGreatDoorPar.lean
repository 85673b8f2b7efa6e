/- One operation: its continuation, and what of a state it looks at. -/
import Derived.Test.YtjkokaockhecnaaGreatDoorLvl
namespace Go.Proofs.YtjkokaockhecnaaGreatDoorA
open Go
section
variable {R:Type}{S S':St}
theorem qZ {e i l nn:Bool}{op:BinOp}{x y:AV}{κ:AV→Option R}:Aq e i l nn op x y κ=(Aq e i l nn op x y some).bind κ:=by
 unfold Aq
 simp only [cond_eq_ite]
 repeat' (first|rfl|split)
theorem uz {op:UnOp}{x:AV}{κ:AV→Option R}:LU op x κ=(LU op x some).bind κ:=by
 unfold LU
 repeat' (first|rfl|split)
theorem Option.bind_bind' {α β γ:Type}(x:Option α)(f:α→Option β)(g:β→Option γ):(x.bind f).bind g=x.bind fun a=>(f a).bind g:=by cases x<;>rfl
theorem oW {el:Option El}{a:AV}{n:Nat}{κ:List AV→Option R}:jX S el a n κ=(jX S el a n some).bind κ:=by
 unfold jX
 simp only [cond_eq_ite]
 repeat' (first|rfl|split)
 all_goals (rw [Option.bind_bind'];congr 1;funext y;first|(split<;>rfl)|(rw [Option.bind_bind'];congr 1;funext p;split<;>rfl))
theorem iU {t:El}{x i:AV}{κ:AV→Option R}:eh S t x i κ=(eh S t x i some).bind κ:=by
 unfold eh
 simp only [cond_eq_ite]
 repeat' (first|rfl|split)
 all_goals (first|(generalize rd _ _=q;cases q<;>rfl))
theorem rh {ty:Option jJ}{x:AV}{κ:AV→Option R}:tG S ty x κ=(tG S ty x some).bind κ:=by
 unfold tG
 simp only [cond_eq_ite]
 repeat' (first|rfl|split)
theorem lq {o:Option Operand}{y d:Nat}{κ:Nat→Option R}:dt S o y d κ=(dt S o y d some).bind κ:=by
 unfold dt
 simp only [cond_eq_ite]
 repeat' (first|rfl|split)
def q2 {R:Type}(κ:AV→Option am→Option R)(p:AV×Option am):Option R:=κ p.1 p.2
def q0 (a:AV)(r:Option am):Option (AV×Option am):=some (a,r)
theorem sQ {κ:AV→Option am→Option R}(x:Option AV):(x.bind fun a=>κ a none)=(x.bind fun a=>q0 a none).bind (q2 κ):=by cases x<;>rfl
theorem uQ {E:TypeId→Option jJ}{o:Oper}{κ:AV→Option am→Option R}:dl E o S κ=(dl E o S q0).bind (q2 κ):=by
 unfold dl
 cases o.op with
 |binOp op xT x y c=>
  simp only
  rw [qZ,qZ (κ:=fun a=>q0 a none)]
  exact sQ _
 |unOp op t x=>
  simp only
  rw [uz,uz (κ:=fun a=>q0 a none)]
  exact sQ _
 |load T x=>
  simp only
  split
  ·rename_i i hi
   refine oW.trans (Eq.symm ((congrArg (fun q=>Option.bind q (q2 κ)) oW).trans ?_))
   generalize jX S _ _ _ some=q
   cases q with
   |none=>rfl
   |some l=>simp only [Option.bind_some];split<;>rfl
  ·rfl
 |indexAddr T x i=>
  simp only
  split
  ·rw [iU,iU (κ:=fun a=>q0 a none)]
   exact sQ _
  ·rfl
 |index T x i=>
  simp only [cond_eq_ite]
  repeat' (first|rfl|split)
  generalize rd _ _=q
  cases q<;>rfl
 |slice T x lo hi mx=>
  cases mx with
  |some m=>rfl
  |none=>
   simp only [cond_eq_ite]
   have key:∀(y d:Nat) (f:Nat→Nat→AV),(dt S hi y d fun h=>dt S lo h 0 fun l=>κ (f h l) none)=(dt S hi y d fun h=>dt S lo h 0 fun l=>q0 (f h l) none).bind (q2 κ):=by
    intro y d f
    rw [lq,lq (κ:=fun h=>dt S lo h 0 fun l=>q0 (f h l) none),Option.bind_bind']
    congr 1
    funext h
    rw [lq,lq (κ:=fun l=>q0 (f h l) none),Option.bind_bind']
    rfl
   repeat' (first|rfl|exact key _ _ _|split)
 |call c=>
  simp only
  split
  ·split
   ·rw [rh,rh (κ:=fun a=>q0 a none)]
    exact sQ _
   ·rfl
  ·repeat' (first|rfl|split)
  ·repeat' (first|rfl|split)
  ·rfl
 |makeFunc fn first captured=>
  cases fn with
  |func f=>simp only [cond_eq_ite];split<;>rfl
  |_=>rfl
 |_=>
  simp only [cond_eq_ite]
  repeat' (first|rfl|split)
theorem zR {E:fA}{lv:Lv E.sig}{o:Oper}{c:Call}{κ:AV→Option am→Option R}:stepC E lv o c S κ=(stepC E lv o c S q0).bind (q2 κ):=by
 unfold stepC
 simp only [cond_eq_ite]
 repeat' (first|rfl|split)
 all_goals (rw [Option.bind_bind'];rfl)
theorem jv {E:fA}{lv:Lv E.sig}{o:Oper}{κ:AV→Option am→Option R}:bh E lv o S κ=(bh E lv o S q0).bind (q2 κ):=by
 unfold bh
 split
 ·split
  ·exact uQ
  ·exact zR
 ·exact uQ
def w4 {R:Type}(κ:AV→Option am→List (Nat×am)→List Nat→Option R)(p:AV×Option am×List (Nat×am)×List Nat):Option R:=κ p.1 p.2.1 p.2.2.1 p.2.2.2
def w0 (a:AV)(r:Option am)(rs:List (Nat×am))(ks:List Nat):Option (AV×Option am×List (Nat×am)×List Nat):=some (a,r,rs,ks)
theorem yO {a:AV}{l:List AV}{κ:AV→Option am→List (Nat×am)→List Nat→Option R}:jz S a l (κ .und none)=(jz S a l (w0 .und none)).bind (w4 κ):=by
 unfold jz
 simp only [cond_eq_ite]
 repeat' (first|rfl|split)
 all_goals (rw [Option.bind_bind'];congr 1;funext y;repeat' (first|rfl|split))
theorem zX {s j lo n:Nat}{t:El}{x:AV}{κ:AV→Option am→List (Nat×am)→List Nat→Option R}:lS S s j lo n t x (fun a rs=>κ a none rs [])=(lS S s j lo n t x (fun a rs=>w0 a none rs [])).bind (w4 κ):=by
 unfold lS
 simp only [cond_eq_ite]
 repeat' (first|rfl|split)
theorem DZ {s:Nat}{x:List UInt8}{κ:AV→Option am→List (Nat×am)→List Nat→Option R}:Je S s x (fun rs=>κ .und none rs [s])=(Je S s x (fun rs=>w0 .und none rs [s])).bind (w4 κ):=by
 unfold Je
 simp only [cond_eq_ite]
 repeat' (first|rfl|split)
theorem GZ {s e:Nat}{κ:AV→Option am→List (Nat×am)→List Nat→Option R}:H6 S s e (fun a rs=>κ a none rs [s])=(H6 S s e (fun a rs=>w0 a none rs [s])).bind (w4 κ):=by
 unfold H6
 simp only [cond_eq_ite]
 repeat' (first|rfl|split)
theorem AM {sig:FuncId→bR}{pks:FuncId→List PK}{lv:Lv sig}{d:Nat}{f:FuncId}{as:List AV}{κ:AV→Option am→List (Nat×am)→List Nat→Option R}:kD sig pks lv d S f as κ=(kD sig pks lv d S f as w0).bind (w4 κ):=by
 unfold kD
 simp only [cond_eq_ite]
 split
 ·split
  ·rw [Option.bind_bind']
   congr 1
   funext r
   split<;>rfl
  ·rfl
 ·rfl
theorem AE {E:fA}{lv:Lv E.sig}{o:Oper}{κ:AV→Option am→List (Nat×am)→List Nat→Option R}:kK E lv o S κ=(kK E lv o S w0).bind (w4 κ):=by
 unfold kK
 cases o.op with
 |store T a x=>
  simp only [cond_eq_ite]
  repeat' (first|rfl|exact yO|split)
 |call c=>
  simp only
  split
  ·simp only [cond_eq_ite]
   repeat' (first|rfl|split)
   all_goals (rw [Option.bind_bind'];congr 1;funext c;rw [Option.bind_bind'];congr 1;funext p;split<;>rfl)
  ·simp only [cond_eq_ite]
   repeat' (first|rfl|exact zX|split)
  ·simp only [cond_eq_ite]
   repeat' (first|rfl|exact DZ|exact GZ|exact AM|split)
  ·rfl
 |_=>rfl
theorem uj {E:fA}{lv:Lv E.sig}{o:Oper}{κ:AV→Option am→List (Nat×am)→List Nat→Option R}:step1 E lv o S κ=(step1 E lv o S w0).bind (w4 κ):=by
 unfold step1
 cases db E.pks o with
 |true=>
  simp only [cond]
  rw [jv,jv (κ:=fun a r=>w0 a r S.roots []),Option.bind_bind']
  rfl
 |false=>exact AE
end
end Go.Proofs.YtjkokaockhecnaaGreatDoorA
