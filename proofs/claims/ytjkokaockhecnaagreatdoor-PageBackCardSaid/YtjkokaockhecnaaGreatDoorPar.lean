/- One operation: its continuation, and what of a state it looks at. -/
import Derived.Test.YtjkokaockhecnaaGreatDoorLvl
namespace Go.Proofs.YtjkokaockhecnaaGreatDoorA
open Go
section
variable {R:Type}{S S':St}
theorem mW {e i l nn:Bool}{op:BinOp}{x y:AV}{κ:AV→Option R}:vz e i l nn op x y κ=(vz e i l nn op x y some).bind κ:=by
 unfold vz
 simp only [cond_eq_ite]
 repeat' (first|rfl|split)
theorem pL {op:UnOp}{x:AV}{κ:AV→Option R}:EC op x κ=(EC op x some).bind κ:=by
 unfold EC
 repeat' (first|rfl|split)
theorem Option.bind_bind' {α β γ:Type}(x:Option α)(f:α→Option β)(g:β→Option γ):(x.bind f).bind g=x.bind fun a=>(f a).bind g:=by cases x<;>rfl
theorem lK {el:Option El}{a:AV}{n:Nat}{κ:List AV→Option R}:g8 S el a n κ=(g8 S el a n some).bind κ:=by
 unfold g8
 simp only [cond_eq_ite]
 repeat' (first|rfl|split)
 all_goals (rw [Option.bind_bind'];congr 1;funext y;first|(split<;>rfl)|(rw [Option.bind_bind'];congr 1;funext p;split<;>rfl))
theorem fJ {t:El}{x i:AV}{κ:AV→Option R}:cL S t x i κ=(cL S t x i some).bind κ:=by
 unfold cL
 simp only [cond_eq_ite]
 repeat' (first|rfl|split)
 all_goals (first|(generalize rd _ _=q;cases q<;>rfl))
theorem mX {ty:Option gA}{x:AV}{κ:AV→Option R}:qe S ty x κ=(qe S ty x some).bind κ:=by
 unfold qe
 simp only [cond_eq_ite]
 repeat' (first|rfl|split)
theorem jf {o:Option Operand}{y d:Nat}{κ:Nat→Option R}:b9 S o y d κ=(b9 S o y d some).bind κ:=by
 unfold b9
 simp only [cond_eq_ite]
 repeat' (first|rfl|split)
def q2 {R:Type}(κ:AV→Option ae→Option R)(p:AV×Option ae):Option R:=κ p.1 p.2
def q0 (a:AV)(r:Option ae):Option (AV×Option ae):=some (a,r)
theorem oD {κ:AV→Option ae→Option R}(x:Option AV):(x.bind fun a=>κ a none)=(x.bind fun a=>q0 a none).bind (q2 κ):=by cases x<;>rfl
theorem qd {E:TypeId→Option gA}{o:Oper}{κ:AV→Option ae→Option R}:bY E o S κ=(bY E o S q0).bind (q2 κ):=by
 unfold bY
 cases o.op with
 |binOp op xT x y c=>
  simp only
  rw [mW,mW (κ:=fun a=>q0 a none)]
  exact oD _
 |unOp op t x=>
  simp only
  rw [pL,pL (κ:=fun a=>q0 a none)]
  exact oD _
 |load T x=>
  simp only
  split
  ·rename_i i hi
   refine lK.trans (Eq.symm ((congrArg (fun q=>Option.bind q (q2 κ)) lK).trans ?_))
   generalize g8 S _ _ _ some=q
   cases q with
   |none=>rfl
   |some l=>simp only [Option.bind_some];split<;>rfl
  ·rfl
 |indexAddr T x i=>
  simp only
  split
  ·rw [fJ,fJ (κ:=fun a=>q0 a none)]
   exact oD _
  ·rfl
 |index T x i=>
  simp only [cond_eq_ite]
  repeat' (first|rfl|split)
  generalize rd _ _=q
  cases q<;>rfl
 |slice T x lo hi mx=>
  cases mx with
  |some m=>rfl
  |none=>
   simp only [cond_eq_ite]
   have key:∀(y d:Nat) (f:Nat→Nat→AV),(b9 S hi y d fun h=>b9 S lo h 0 fun l=>κ (f h l) none)=(b9 S hi y d fun h=>b9 S lo h 0 fun l=>q0 (f h l) none).bind (q2 κ):=by
    intro y d f
    rw [jf,jf (κ:=fun h=>b9 S lo h 0 fun l=>q0 (f h l) none),Option.bind_bind']
    congr 1
    funext h
    rw [jf,jf (κ:=fun l=>q0 (f h l) none),Option.bind_bind']
    rfl
   repeat' (first|rfl|exact key _ _ _|split)
 |call c=>
  simp only
  split
  ·split
   ·rw [mX,mX (κ:=fun a=>q0 a none)]
    exact oD _
   ·rfl
  ·repeat' (first|rfl|split)
  ·repeat' (first|rfl|split)
  ·rfl
 |makeFunc fn first captured=>
  cases fn with
  |func f=>simp only [cond_eq_ite];split<;>rfl
  |_=>rfl
 |_=>
  simp only [cond_eq_ite]
  repeat' (first|rfl|split)
theorem vj {E:dE}{lv:Lv E.sig}{o:Oper}{c:Call}{κ:AV→Option ae→Option R}:stepC E lv o c S κ=(stepC E lv o c S q0).bind (q2 κ):=by
 unfold stepC
 simp only [cond_eq_ite]
 repeat' (first|rfl|split)
 all_goals (rw [Option.bind_bind'];rfl)
theorem gk {E:dE}{lv:Lv E.sig}{o:Oper}{κ:AV→Option ae→Option R}:aC E lv o S κ=(aC E lv o S q0).bind (q2 κ):=by
 unfold aC
 split
 ·split
  ·exact qd
  ·exact vj
 ·exact qd
def w4 {R:Type}(κ:AV→Option ae→List (Nat×ae)→List Nat→Option R)(p:AV×Option ae×List (Nat×ae)×List Nat):Option R:=κ p.1 p.2.1 p.2.2.1 p.2.2.2
def w0 (a:AV)(r:Option ae)(rs:List (Nat×ae))(ks:List Nat):Option (AV×Option ae×List (Nat×ae)×List Nat):=some (a,r,rs,ks)
theorem uo {a:AV}{l:List AV}{κ:AV→Option ae→List (Nat×ae)→List Nat→Option R}:gf S a l (κ .und none)=(gf S a l (w0 .und none)).bind (w4 κ):=by
 unfold gf
 simp only [cond_eq_ite]
 repeat' (first|rfl|split)
 all_goals (rw [Option.bind_bind'];congr 1;funext y;repeat' (first|rfl|split))
theorem vD {s j lo n:Nat}{t:El}{x:AV}{κ:AV→Option ae→List (Nat×ae)→List Nat→Option R}:jE S s j lo n t x (fun a rs=>κ a none rs [])=(jE S s j lo n t x (fun a rs=>w0 a none rs [])).bind (w4 κ):=by
 unfold jE
 simp only [cond_eq_ite]
 repeat' (first|rfl|split)
theorem AM {s:Nat}{x:List UInt8}{κ:AV→Option ae→List (Nat×ae)→List Nat→Option R}:Be S s x (fun rs=>κ .und none rs [s])=(Be S s x (fun rs=>w0 .und none rs [s])).bind (w4 κ):=by
 unfold Be
 simp only [cond_eq_ite]
 repeat' (first|rfl|split)
theorem zW {s e:Nat}{κ:AV→Option ae→List (Nat×ae)→List Nat→Option R}:Bq S s e (fun a rs=>κ a none rs [s])=(Bq S s e (fun a rs=>w0 a none rs [s])).bind (w4 κ):=by
 unfold Bq
 simp only [cond_eq_ite]
 repeat' (first|rfl|split)
theorem vc {sig:FuncId→bg}{pks:FuncId→List PK}{lv:Lv sig}{d:Nat}{f:FuncId}{as:List AV}{κ:AV→Option ae→List (Nat×ae)→List Nat→Option R}:iE sig pks lv d S f as κ=(iE sig pks lv d S f as w0).bind (w4 κ):=by
 unfold iE
 simp only [cond_eq_ite]
 split
 ·split
  ·rw [Option.bind_bind']
   congr 1
   funext r
   split<;>rfl
  ·rfl
 ·rfl
theorem vn {E:dE}{lv:Lv E.sig}{o:Oper}{κ:AV→Option ae→List (Nat×ae)→List Nat→Option R}:iy E lv o S κ=(iy E lv o S w0).bind (w4 κ):=by
 unfold iy
 cases o.op with
 |store T a x=>
  simp only [cond_eq_ite]
  repeat' (first|rfl|exact uo|split)
 |call c=>
  simp only
  split
  ·simp only [cond_eq_ite]
   repeat' (first|rfl|split)
   all_goals (rw [Option.bind_bind'];congr 1;funext c;rw [Option.bind_bind'];congr 1;funext p;split<;>rfl)
  ·simp only [cond_eq_ite]
   repeat' (first|rfl|exact vD|split)
  ·simp only [cond_eq_ite]
   repeat' (first|rfl|exact AM|exact zW|exact vc|split)
  ·rfl
 |_=>rfl
theorem o4 {E:dE}{lv:Lv E.sig}{o:Oper}{κ:AV→Option ae→List (Nat×ae)→List Nat→Option R}:step1 E lv o S κ=(step1 E lv o S w0).bind (w4 κ):=by
 unfold step1
 cases bV E.pks o with
 |true=>
  simp only [cond]
  rw [gk,gk (κ:=fun a r=>w0 a r S.roots []),Option.bind_bind']
  rfl
 |false=>exact vn
end
end Go.Proofs.YtjkokaockhecnaaGreatDoorA
