/- One operation: its continuation, and what of a state it looks at. -/
import Derived.Test.YtjkokaockhecnaaGreatDoorLvl
namespace Go.Proofs.YtjkokaockhecnaaGreatDoorA
open Go
section
variable {R:Type}{S S':St}
theorem o8 {e i l nn:Bool}{op:BinOp}{x y:AV}{κ:AV→Option R}:xm e i l nn op x y κ=(xm e i l nn op x y some).bind κ:=by
 unfold xm
 simp only [cond_eq_ite]
 repeat' (first|rfl|split)
theorem s9 {op:UnOp}{x:AV}{κ:AV→Option R}:HS op x κ=(HS op x some).bind κ:=by
 unfold HS
 repeat' (first|rfl|split)
theorem Option.bind_bind' {α β γ:Type}(x:Option α)(f:α→Option β)(g:β→Option γ):(x.bind f).bind g=x.bind fun a=>(f a).bind g:=by cases x<;>rfl
theorem nv {el:Option El}{a:AV}{n:Nat}{κ:List AV→Option R}:jm S el a n κ=(jm S el a n some).bind κ:=by
 unfold jm
 simp only [cond_eq_ite]
 repeat' (first|rfl|split)
 all_goals (rw [Option.bind_bind'];congr 1;funext y;first|(split<;>rfl)|(rw [Option.bind_bind'];congr 1;funext p;split<;>rfl))
theorem iq {t:El}{x i:AV}{κ:AV→Option R}:d6 S t x i κ=(d6 S t x i some).bind κ:=by
 unfold d6
 simp only [cond_eq_ite]
 repeat' (first|rfl|split)
 all_goals (first|(generalize rd _ _=q;cases q<;>rfl))
theorem pm {ty:Option jg}{x:AV}{κ:AV→Option R}:rY S ty x κ=(rY S ty x some).bind κ:=by
 unfold rY
 simp only [cond_eq_ite]
 repeat' (first|rfl|split)
theorem kW {o:Option Operand}{y d:Nat}{κ:Nat→Option R}:dl S o y d κ=(dl S o y d some).bind κ:=by
 unfold dl
 simp only [cond_eq_ite]
 repeat' (first|rfl|split)
def q2 {R:Type}(κ:AV→Option ak→Option R)(p:AV×Option ak):Option R:=κ p.1 p.2
def q0 (a:AV)(r:Option ak):Option (AV×Option ak):=some (a,r)
theorem q9 {κ:AV→Option ak→Option R}(x:Option AV):(x.bind fun a=>κ a none)=(x.bind fun a=>q0 a none).bind (q2 κ):=by cases x<;>rfl
theorem rM {E:TypeId→Option jg}{o:Oper}{κ:AV→Option ak→Option R}:dd E o S κ=(dd E o S q0).bind (q2 κ):=by
 unfold dd
 cases o.op with
 |binOp op xT x y c=>
  simp only
  rw [o8,o8 (κ:=fun a=>q0 a none)]
  exact q9 _
 |unOp op t x=>
  simp only
  rw [s9,s9 (κ:=fun a=>q0 a none)]
  exact q9 _
 |load T x=>
  simp only
  split
  ·rename_i i hi
   refine nv.trans (Eq.symm ((congrArg (fun q=>Option.bind q (q2 κ)) nv).trans ?_))
   generalize jm S _ _ _ some=q
   cases q with
   |none=>rfl
   |some l=>simp only [Option.bind_some];split<;>rfl
  ·rfl
 |indexAddr T x i=>
  simp only
  split
  ·rw [iq,iq (κ:=fun a=>q0 a none)]
   exact q9 _
  ·rfl
 |index T x i=>
  simp only [cond_eq_ite]
  repeat' (first|rfl|split)
  generalize rd _ _=q
  cases q<;>rfl
 |slice T x lo hi mx=>
  cases mx with
  |some m=>rfl
  |none=>
   simp only [cond_eq_ite]
   have key:∀(y d:Nat) (f:Nat→Nat→AV),(dl S hi y d fun h=>dl S lo h 0 fun l=>κ (f h l) none)=(dl S hi y d fun h=>dl S lo h 0 fun l=>q0 (f h l) none).bind (q2 κ):=by
    intro y d f
    rw [kW,kW (κ:=fun h=>dl S lo h 0 fun l=>q0 (f h l) none),Option.bind_bind']
    congr 1
    funext h
    rw [kW,kW (κ:=fun l=>q0 (f h l) none),Option.bind_bind']
    rfl
   repeat' (first|rfl|exact key _ _ _|split)
 |call c=>
  simp only
  split
  ·split
   ·rw [pm,pm (κ:=fun a=>q0 a none)]
    exact q9 _
   ·rfl
  ·repeat' (first|rfl|split)
  ·repeat' (first|rfl|split)
  ·rfl
 |makeFunc fn first captured=>
  cases fn with
  |func f=>simp only [cond_eq_ite];split<;>rfl
  |_=>rfl
 |_=>
  simp only [cond_eq_ite]
  repeat' (first|rfl|split)
theorem xJ {E:e7}{lv:Lv E.sig}{o:Oper}{c:Call}{κ:AV→Option ak→Option R}:stepC E lv o c S κ=(stepC E lv o c S q0).bind (q2 κ):=by
 unfold stepC
 simp only [cond_eq_ite]
 repeat' (first|rfl|split)
 all_goals (rw [Option.bind_bind'];rfl)
theorem iS {E:e7}{lv:Lv E.sig}{o:Oper}{κ:AV→Option ak→Option R}:a7 E lv o S κ=(a7 E lv o S q0).bind (q2 κ):=by
 unfold a7
 split
 ·split
  ·exact rM
  ·exact xJ
 ·exact rM
def w4 {R:Type}(κ:AV→Option ak→List (Nat×ak)→List Nat→Option R)(p:AV×Option ak×List (Nat×ak)×List Nat):Option R:=κ p.1 p.2.1 p.2.2.1 p.2.2.2
def w0 (a:AV)(r:Option ak)(rs:List (Nat×ak))(ks:List Nat):Option (AV×Option ak×List (Nat×ak)×List Nat):=some (a,r,rs,ks)
theorem wH {a:AV}{l:List AV}{κ:AV→Option ak→List (Nat×ak)→List Nat→Option R}:iR S a l (κ .und none)=(iR S a l (w0 .und none)).bind (w4 κ):=by
 unfold iR
 simp only [cond_eq_ite]
 repeat' (first|rfl|split)
 all_goals (rw [Option.bind_bind'];congr 1;funext y;repeat' (first|rfl|split))
theorem xq {s j lo n:Nat}{t:El}{x:AV}{κ:AV→Option ak→List (Nat×ak)→List Nat→Option R}:k5 S s j lo n t x (fun a rs=>κ a none rs [])=(k5 S s j lo n t x (fun a rs=>w0 a none rs [])).bind (w4 κ):=by
 unfold k5
 simp only [cond_eq_ite]
 repeat' (first|rfl|split)
theorem CS {s:Nat}{x:List UInt8}{κ:AV→Option ak→List (Nat×ak)→List Nat→Option R}:E8 S s x (fun rs=>κ .und none rs [s])=(E8 S s x (fun rs=>w0 .und none rs [s])).bind (w4 κ):=by
 unfold E8
 simp only [cond_eq_ite]
 repeat' (first|rfl|split)
theorem As {s e:Nat}{κ:AV→Option ak→List (Nat×ak)→List Nat→Option R}:DV S s e (fun a rs=>κ a none rs [s])=(DV S s e (fun a rs=>w0 a none rs [s])).bind (w4 κ):=by
 unfold DV
 simp only [cond_eq_ite]
 repeat' (first|rfl|split)
theorem xc {sig:FuncId→bQ}{pks:FuncId→List PK}{lv:Lv sig}{d:Nat}{f:FuncId}{as:List AV}{κ:AV→Option ak→List (Nat×ak)→List Nat→Option R}:jZ sig pks lv d S f as κ=(jZ sig pks lv d S f as w0).bind (w4 κ):=by
 unfold jZ
 simp only [cond_eq_ite]
 split
 ·split
  ·rw [Option.bind_bind']
   congr 1
   funext r
   split<;>rfl
  ·rfl
 ·rfl
theorem xz {E:e7}{lv:Lv E.sig}{o:Oper}{κ:AV→Option ak→List (Nat×ak)→List Nat→Option R}:kj E lv o S κ=(kj E lv o S w0).bind (w4 κ):=by
 unfold kj
 cases o.op with
 |store T a x=>
  simp only [cond_eq_ite]
  repeat' (first|rfl|exact wH|split)
 |call c=>
  simp only
  split
  ·simp only [cond_eq_ite]
   repeat' (first|rfl|split)
   all_goals (rw [Option.bind_bind'];congr 1;funext c;rw [Option.bind_bind'];congr 1;funext p;split<;>rfl)
  ·simp only [cond_eq_ite]
   repeat' (first|rfl|exact xq|split)
  ·simp only [cond_eq_ite]
   repeat' (first|rfl|exact CS|exact As|exact xc|split)
  ·rfl
 |_=>rfl
theorem rZ {E:e7}{lv:Lv E.sig}{o:Oper}{κ:AV→Option ak→List (Nat×ak)→List Nat→Option R}:step1 E lv o S κ=(step1 E lv o S w0).bind (w4 κ):=by
 unfold step1
 cases cY E.pks o with
 |true=>
  simp only [cond]
  rw [iS,iS (κ:=fun a r=>w0 a r S.roots []),Option.bind_bind']
  rfl
 |false=>exact xz
end
end Go.Proofs.YtjkokaockhecnaaGreatDoorA
