/- One operation: its continuation, and what of a state it looks at. -/
import Derived.Test.YtjkokaockhecnaaGreatDoorLvl
namespace Go.Proofs.YtjkokaockhecnaaGreatDoorA
open Go
section
variable {R:Type}{S S':St}
theorem oK {e i l nn:Bool}{op:BinOp}{x y:AV}{κ:AV→Option R}:wB e i l nn op x y κ=(wB e i l nn op x y some).bind κ:=by
 unfold wB
 simp only [cond_eq_ite]
 repeat' (first|rfl|split)
theorem su {op:UnOp}{x:AV}{κ:AV→Option R}:FC op x κ=(FC op x some).bind κ:=by
 unfold FC
 repeat' (first|rfl|split)
theorem Option.bind_bind' {α β γ:Type}(x:Option α)(f:α→Option β)(g:β→Option γ):(x.bind f).bind g=x.bind fun a=>(f a).bind g:=by cases x<;>rfl
theorem m7 {el:Option El}{a:AV}{n:Nat}{κ:List AV→Option R}:iK S el a n κ=(iK S el a n some).bind κ:=by
 unfold iK
 simp only [cond_eq_ite]
 repeat' (first|rfl|split)
 all_goals (rw [Option.bind_bind'];congr 1;funext y;first|(split<;>rfl)|(rw [Option.bind_bind'];congr 1;funext p;split<;>rfl))
theorem gB {t:El}{x i:AV}{κ:AV→Option R}:dt S t x i κ=(dt S t x i some).bind κ:=by
 unfold dt
 simp only [cond_eq_ite]
 repeat' (first|rfl|split)
 all_goals (first|(generalize rd _ _=q;cases q<;>rfl))
theorem om {ty:Option iC}{x:AV}{κ:AV→Option R}:rN S ty x κ=(rN S ty x some).bind κ:=by
 unfold rN
 simp only [cond_eq_ite]
 repeat' (first|rfl|split)
theorem jV {o:Option Operand}{y d:Nat}{κ:Nat→Option R}:cE S o y d κ=(cE S o y d some).bind κ:=by
 unfold cE
 simp only [cond_eq_ite]
 repeat' (first|rfl|split)
def q2 {R:Type}(κ:AV→Option ak→Option R)(p:AV×Option ak):Option R:=κ p.1 p.2
def q0 (a:AV)(r:Option ak):Option (AV×Option ak):=some (a,r)
theorem qn {κ:AV→Option ak→Option R}(x:Option AV):(x.bind fun a=>κ a none)=(x.bind fun a=>q0 a none).bind (q2 κ):=by cases x<;>rfl
theorem rR {E:TypeId→Option iC}{o:Oper}{κ:AV→Option ak→Option R}:cr E o S κ=(cr E o S q0).bind (q2 κ):=by
 unfold cr
 cases o.op with
 |binOp op xT x y c=>
  simp only
  rw [oK,oK (κ:=fun a=>q0 a none)]
  exact qn _
 |unOp op t x=>
  simp only
  rw [su,su (κ:=fun a=>q0 a none)]
  exact qn _
 |load T x=>
  simp only
  split
  ·rename_i i hi
   refine m7.trans (Eq.symm ((congrArg (fun q=>Option.bind q (q2 κ)) m7).trans ?_))
   generalize iK S _ _ _ some=q
   cases q with
   |none=>rfl
   |some l=>simp only [Option.bind_some];split<;>rfl
  ·rfl
 |indexAddr T x i=>
  simp only
  split
  ·rw [gB,gB (κ:=fun a=>q0 a none)]
   exact qn _
  ·rfl
 |index T x i=>
  simp only [cond_eq_ite]
  repeat' (first|rfl|split)
  generalize rd _ _=q
  cases q<;>rfl
 |slice T x lo hi mx=>
  cases mx with
  |some m=>rfl
  |none=>
   simp only [cond_eq_ite]
   have key:∀(y d:Nat) (f:Nat→Nat→AV),(cE S hi y d fun h=>cE S lo h 0 fun l=>κ (f h l) none)=(cE S hi y d fun h=>cE S lo h 0 fun l=>q0 (f h l) none).bind (q2 κ):=by
    intro y d f
    rw [jV,jV (κ:=fun h=>cE S lo h 0 fun l=>q0 (f h l) none),Option.bind_bind']
    congr 1
    funext h
    rw [jV,jV (κ:=fun l=>q0 (f h l) none),Option.bind_bind']
    rfl
   repeat' (first|rfl|exact key _ _ _|split)
 |call c=>
  simp only
  split
  ·split
   ·rw [om,om (κ:=fun a=>q0 a none)]
    exact qn _
   ·rfl
  ·repeat' (first|rfl|split)
  ·repeat' (first|rfl|split)
  ·rfl
 |makeFunc fn first captured=>
  cases fn with
  |func f=>simp only [cond_eq_ite];split<;>rfl
  |_=>rfl
 |_=>
  simp only [cond_eq_ite]
  repeat' (first|rfl|split)
theorem xg {E:ew}{lv:Lv E.sig}{o:Oper}{c:Call}{κ:AV→Option ak→Option R}:stepC E lv o c S κ=(stepC E lv o c S q0).bind (q2 κ):=by
 unfold stepC
 simp only [cond_eq_ite]
 repeat' (first|rfl|split)
 all_goals (rw [Option.bind_bind'];rfl)
theorem il {E:ew}{lv:Lv E.sig}{o:Oper}{κ:AV→Option ak→Option R}:aN E lv o S κ=(aN E lv o S q0).bind (q2 κ):=by
 unfold aN
 split
 ·split
  ·exact rR
  ·exact xg
 ·exact rR
def w4 {R:Type}(κ:AV→Option ak→List (Nat×ak)→List Nat→Option R)(p:AV×Option ak×List (Nat×ak)×List Nat):Option R:=κ p.1 p.2.1 p.2.2.1 p.2.2.2
def w0 (a:AV)(r:Option ak)(rs:List (Nat×ak))(ks:List Nat):Option (AV×Option ak×List (Nat×ak)×List Nat):=some (a,r,rs,ks)
theorem wb {a:AV}{l:List AV}{κ:AV→Option ak→List (Nat×ak)→List Nat→Option R}:g9 S a l (κ .und none)=(g9 S a l (w0 .und none)).bind (w4 κ):=by
 unfold g9
 simp only [cond_eq_ite]
 repeat' (first|rfl|split)
 all_goals (rw [Option.bind_bind'];congr 1;funext y;repeat' (first|rfl|split))
theorem xn {s j lo n:Nat}{t:El}{x:AV}{κ:AV→Option ak→List (Nat×ak)→List Nat→Option R}:ku S s j lo n t x (fun a rs=>κ a none rs [])=(ku S s j lo n t x (fun a rs=>w0 a none rs [])).bind (w4 κ):=by
 unfold ku
 simp only [cond_eq_ite]
 repeat' (first|rfl|split)
theorem BD {s:Nat}{x:List UInt8}{κ:AV→Option ak→List (Nat×ak)→List Nat→Option R}:CJ S s x (fun rs=>κ .und none rs [s])=(CJ S s x (fun rs=>w0 .und none rs [s])).bind (w4 κ):=by
 unfold CJ
 simp only [cond_eq_ite]
 repeat' (first|rfl|split)
theorem Bc {s e:Nat}{κ:AV→Option ak→List (Nat×ak)→List Nat→Option R}:CS S s e (fun a rs=>κ a none rs [s])=(CS S s e (fun a rs=>w0 a none rs [s])).bind (w4 κ):=by
 unfold CS
 simp only [cond_eq_ite]
 repeat' (first|rfl|split)
theorem wG {sig:FuncId→bq}{pks:FuncId→List PK}{lv:Lv sig}{d:Nat}{f:FuncId}{as:List AV}{κ:AV→Option ak→List (Nat×ak)→List Nat→Option R}:jC sig pks lv d S f as κ=(jC sig pks lv d S f as w0).bind (w4 κ):=by
 unfold jC
 simp only [cond_eq_ite]
 split
 ·split
  ·rw [Option.bind_bind']
   congr 1
   funext r
   split<;>rfl
  ·rfl
 ·rfl
theorem wM {E:ew}{lv:Lv E.sig}{o:Oper}{κ:AV→Option ak→List (Nat×ak)→List Nat→Option R}:jB E lv o S κ=(jB E lv o S w0).bind (w4 κ):=by
 unfold jB
 cases o.op with
 |store T a x=>
  simp only [cond_eq_ite]
  repeat' (first|rfl|exact wb|split)
 |call c=>
  simp only
  split
  ·simp only [cond_eq_ite]
   repeat' (first|rfl|split)
   all_goals (rw [Option.bind_bind'];congr 1;funext c;rw [Option.bind_bind'];congr 1;funext p;split<;>rfl)
  ·simp only [cond_eq_ite]
   repeat' (first|rfl|exact xn|split)
  ·simp only [cond_eq_ite]
   repeat' (first|rfl|exact BD|exact Bc|exact wG|split)
  ·rfl
 |_=>rfl
theorem qP {E:ew}{lv:Lv E.sig}{o:Oper}{κ:AV→Option ak→List (Nat×ak)→List Nat→Option R}:step1 E lv o S κ=(step1 E lv o S w0).bind (w4 κ):=by
 unfold step1
 cases cg E.pks o with
 |true=>
  simp only [cond]
  rw [il,il (κ:=fun a r=>w0 a r S.roots []),Option.bind_bind']
  rfl
 |false=>exact wM
end
end Go.Proofs.YtjkokaockhecnaaGreatDoorA
