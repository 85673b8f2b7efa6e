/- One operation: its continuation, and what of a state it looks at. -/
import Derived.Test.YtjkokaockhecnaaGreatDoorLvl
namespace Go.Proofs.YtjkokaockhecnaaGreatDoorA
open Go
section
variable {R:Type}{S S':St}
theorem ox {e i l nn:Bool}{op:BinOp}{x y:AV}{κ:AV→Option R}:wQ e i l nn op x y κ=(wQ e i l nn op x y some).bind κ:=by
 unfold wQ
 simp only [cond_eq_ite]
 repeat' (first|rfl|split)
theorem se {op:UnOp}{x:AV}{κ:AV→Option R}:FB op x κ=(FB op x some).bind κ:=by
 unfold FB
 repeat' (first|rfl|split)
theorem Option.bind_bind' {α β γ:Type}(x:Option α)(f:α→Option β)(g:β→Option γ):(x.bind f).bind g=x.bind fun a=>(f a).bind g:=by cases x<;>rfl
theorem mG {el:Option El}{a:AV}{n:Nat}{κ:List AV→Option R}:iV S el a n κ=(iV S el a n some).bind κ:=by
 unfold iV
 simp only [cond_eq_ite]
 repeat' (first|rfl|split)
 all_goals (rw [Option.bind_bind'];congr 1;funext y;first|(split<;>rfl)|(rw [Option.bind_bind'];congr 1;funext p;split<;>rfl))
theorem gB {t:El}{x i:AV}{κ:AV→Option R}:dt S t x i κ=(dt S t x i some).bind κ:=by
 unfold dt
 simp only [cond_eq_ite]
 repeat' (first|rfl|split)
 all_goals (first|(generalize rd _ _=q;cases q<;>rfl))
theorem oG {ty:Option iC}{x:AV}{κ:AV→Option R}:rX S ty x κ=(rX S ty x some).bind κ:=by
 unfold rX
 simp only [cond_eq_ite]
 repeat' (first|rfl|split)
theorem jT {o:Option Operand}{y d:Nat}{κ:Nat→Option R}:cD S o y d κ=(cD S o y d some).bind κ:=by
 unfold cD
 simp only [cond_eq_ite]
 repeat' (first|rfl|split)
def q2 {R:Type}(κ:AV→Option ak→Option R)(p:AV×Option ak):Option R:=κ p.1 p.2
def q0 (a:AV)(r:Option ak):Option (AV×Option ak):=some (a,r)
theorem ql {κ:AV→Option ak→Option R}(x:Option AV):(x.bind fun a=>κ a none)=(x.bind fun a=>q0 a none).bind (q2 κ):=by cases x<;>rfl
theorem rG {E:TypeId→Option iC}{o:Oper}{κ:AV→Option ak→Option R}:cr E o S κ=(cr E o S q0).bind (q2 κ):=by
 unfold cr
 cases o.op with
 |binOp op xT x y c=>
  simp only
  rw [ox,ox (κ:=fun a=>q0 a none)]
  exact ql _
 |unOp op t x=>
  simp only
  rw [se,se (κ:=fun a=>q0 a none)]
  exact ql _
 |load T x=>
  simp only
  split
  ·rename_i i hi
   refine mG.trans (Eq.symm ((congrArg (fun q=>Option.bind q (q2 κ)) mG).trans ?_))
   generalize iV S _ _ _ some=q
   cases q with
   |none=>rfl
   |some l=>simp only [Option.bind_some];split<;>rfl
  ·rfl
 |indexAddr T x i=>
  simp only
  split
  ·rw [gB,gB (κ:=fun a=>q0 a none)]
   exact ql _
  ·rfl
 |index T x i=>
  simp only [cond_eq_ite]
  repeat' (first|rfl|split)
  generalize rd _ _=q
  cases q<;>rfl
 |slice T x lo hi mx=>
  cases mx with
  |some m=>rfl
  |none=>
   simp only [cond_eq_ite]
   have key:∀(y d:Nat) (f:Nat→Nat→AV),(cD S hi y d fun h=>cD S lo h 0 fun l=>κ (f h l) none)=(cD S hi y d fun h=>cD S lo h 0 fun l=>q0 (f h l) none).bind (q2 κ):=by
    intro y d f
    rw [jT,jT (κ:=fun h=>cD S lo h 0 fun l=>q0 (f h l) none),Option.bind_bind']
    congr 1
    funext h
    rw [jT,jT (κ:=fun l=>q0 (f h l) none),Option.bind_bind']
    rfl
   repeat' (first|rfl|exact key _ _ _|split)
 |call c=>
  simp only
  split
  ·split
   ·rw [oG,oG (κ:=fun a=>q0 a none)]
    exact ql _
   ·rfl
  ·repeat' (first|rfl|split)
  ·repeat' (first|rfl|split)
  ·rfl
 |makeFunc fn first captured=>
  cases fn with
  |func f=>simp only [cond_eq_ite];split<;>rfl
  |_=>rfl
 |_=>
  simp only [cond_eq_ite]
  repeat' (first|rfl|split)
theorem wq {E:ew}{lv:Lv E.sig}{o:Oper}{c:Call}{κ:AV→Option ak→Option R}:stepC E lv o c S κ=(stepC E lv o c S q0).bind (q2 κ):=by
 unfold stepC
 simp only [cond_eq_ite]
 repeat' (first|rfl|split)
 all_goals (rw [Option.bind_bind'];rfl)
theorem iy {E:ew}{lv:Lv E.sig}{o:Oper}{κ:AV→Option ak→Option R}:aN E lv o S κ=(aN E lv o S q0).bind (q2 κ):=by
 unfold aN
 split
 ·split
  ·exact rG
  ·exact wq
 ·exact rG
def w4 {R:Type}(κ:AV→Option ak→List (Nat×ak)→List Nat→Option R)(p:AV×Option ak×List (Nat×ak)×List Nat):Option R:=κ p.1 p.2.1 p.2.2.1 p.2.2.2
def w0 (a:AV)(r:Option ak)(rs:List (Nat×ak))(ks:List Nat):Option (AV×Option ak×List (Nat×ak)×List Nat):=some (a,r,rs,ks)
theorem vo {a:AV}{l:List AV}{κ:AV→Option ak→List (Nat×ak)→List Nat→Option R}:ik S a l (κ .und none)=(ik S a l (w0 .und none)).bind (w4 κ):=by
 unfold ik
 simp only [cond_eq_ite]
 repeat' (first|rfl|split)
 all_goals (rw [Option.bind_bind'];congr 1;funext y;repeat' (first|rfl|split))
theorem wu {s j lo n:Nat}{t:El}{x:AV}{κ:AV→Option ak→List (Nat×ak)→List Nat→Option R}:kx S s j lo n t x (fun a rs=>κ a none rs [])=(kx S s j lo n t x (fun a rs=>w0 a none rs [])).bind (w4 κ):=by
 unfold kx
 simp only [cond_eq_ite]
 repeat' (first|rfl|split)
theorem AU {s:Nat}{x:List UInt8}{κ:AV→Option ak→List (Nat×ak)→List Nat→Option R}:Ds S s x (fun rs=>κ .und none rs [s])=(Ds S s x (fun rs=>w0 .und none rs [s])).bind (w4 κ):=by
 unfold Ds
 simp only [cond_eq_ite]
 repeat' (first|rfl|split)
theorem zA {s e:Nat}{κ:AV→Option ak→List (Nat×ak)→List Nat→Option R}:B7 S s e (fun a rs=>κ a none rs [s])=(B7 S s e (fun a rs=>w0 a none rs [s])).bind (w4 κ):=by
 unfold B7
 simp only [cond_eq_ite]
 repeat' (first|rfl|split)
theorem wK {sig:FuncId→bq}{pks:FuncId→List PK}{lv:Lv sig}{d:Nat}{f:FuncId}{as:List AV}{κ:AV→Option ak→List (Nat×ak)→List Nat→Option R}:jo sig pks lv d S f as κ=(jo sig pks lv d S f as w0).bind (w4 κ):=by
 unfold jo
 simp only [cond_eq_ite]
 split
 ·split
  ·rw [Option.bind_bind']
   congr 1
   funext r
   split<;>rfl
  ·rfl
 ·rfl
theorem xu {E:ew}{lv:Lv E.sig}{o:Oper}{κ:AV→Option ak→List (Nat×ak)→List Nat→Option R}:jp E lv o S κ=(jp E lv o S w0).bind (w4 κ):=by
 unfold jp
 cases o.op with
 |store T a x=>
  simp only [cond_eq_ite]
  repeat' (first|rfl|exact vo|split)
 |call c=>
  simp only
  split
  ·simp only [cond_eq_ite]
   repeat' (first|rfl|split)
   all_goals (rw [Option.bind_bind'];congr 1;funext c;rw [Option.bind_bind'];congr 1;funext p;split<;>rfl)
  ·simp only [cond_eq_ite]
   repeat' (first|rfl|exact wu|split)
  ·simp only [cond_eq_ite]
   repeat' (first|rfl|exact AU|exact zA|exact wK|split)
  ·rfl
 |_=>rfl
theorem rD {E:ew}{lv:Lv E.sig}{o:Oper}{κ:AV→Option ak→List (Nat×ak)→List Nat→Option R}:step1 E lv o S κ=(step1 E lv o S w0).bind (w4 κ):=by
 unfold step1
 cases cg E.pks o with
 |true=>
  simp only [cond]
  rw [iy,iy (κ:=fun a r=>w0 a r S.roots []),Option.bind_bind']
  rfl
 |false=>exact xu
end
end Go.Proofs.YtjkokaockhecnaaGreatDoorA
