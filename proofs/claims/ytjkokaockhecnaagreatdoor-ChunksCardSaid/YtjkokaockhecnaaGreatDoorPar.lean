/- One operation: its continuation, and what of a state it looks at. -/
import Derived.Test.YtjkokaockhecnaaGreatDoorLvl
namespace Go.Proofs.YtjkokaockhecnaaGreatDoorA
open Go
section
variable {R:Type}{S S':St}
theorem rE {e i l nn:Bool}{op:BinOp}{x y:AV}{κ:AV→Option R}:CB e i l nn op x y κ=(CB e i l nn op x y some).bind κ:=by
 unfold CB
 simp only [cond_eq_ite]
 repeat' (first|rfl|split)
theorem ug {op:UnOp}{x:AV}{κ:AV→Option R}:NM op x κ=(NM op x some).bind κ:=by
 unfold NM
 repeat' (first|rfl|split)
theorem Option.bind_bind' {α β γ:Type}(x:Option α)(f:α→Option β)(g:β→Option γ):(x.bind f).bind g=x.bind fun a=>(f a).bind g:=by cases x<;>rfl
theorem pC {el:Option El}{a:AV}{n:Nat}{κ:List AV→Option R}:kD S el a n κ=(kD S el a n some).bind κ:=by
 unfold kD
 simp only [cond_eq_ite]
 repeat' (first|rfl|split)
 all_goals (rw [Option.bind_bind'];congr 1;funext y;first|(split<;>rfl)|(rw [Option.bind_bind'];congr 1;funext p;split<;>rfl))
theorem js {t:El}{x i:AV}{κ:AV→Option R}:eH S t x i κ=(eH S t x i some).bind κ:=by
 unfold eH
 simp only [cond_eq_ite]
 repeat' (first|rfl|split)
 all_goals (first|(generalize rd _ _=q;cases q<;>rfl))
theorem rS {ty:Option kh}{x:AV}{κ:AV→Option R}:ve S ty x κ=(ve S ty x some).bind κ:=by
 unfold ve
 simp only [cond_eq_ite]
 repeat' (first|rfl|split)
theorem lz {o:Option Operand}{y d:Nat}{κ:Nat→Option R}:dL S o y d κ=(dL S o y d some).bind κ:=by
 unfold dL
 simp only [cond_eq_ite]
 repeat' (first|rfl|split)
def q2 {R:Type}(κ:AV→Option ap→Option R)(p:AV×Option ap):Option R:=κ p.1 p.2
def q0 (a:AV)(r:Option ap):Option (AV×Option ap):=some (a,r)
theorem tU {κ:AV→Option ap→Option R}(x:Option AV):(x.bind fun a=>κ a none)=(x.bind fun a=>q0 a none).bind (q2 κ):=by cases x<;>rfl
theorem wb {E:TypeId→Option kh}{o:Oper}{κ:AV→Option ap→Option R}:dC E o S κ=(dC E o S q0).bind (q2 κ):=by
 unfold dC
 cases o.op with
 |binOp op xT x y c=>
  simp only
  rw [rE,rE (κ:=fun a=>q0 a none)]
  exact tU _
 |unOp op t x=>
  simp only
  rw [ug,ug (κ:=fun a=>q0 a none)]
  exact tU _
 |load T x=>
  simp only
  split
  ·rename_i i hi
   refine pC.trans (Eq.symm ((congrArg (fun q=>Option.bind q (q2 κ)) pC).trans ?_))
   generalize kD S _ _ _ some=q
   cases q with
   |none=>rfl
   |some l=>simp only [Option.bind_some];split<;>rfl
  ·rfl
 |indexAddr T x i=>
  simp only
  split
  ·rw [js,js (κ:=fun a=>q0 a none)]
   exact tU _
  ·rfl
 |index T x i=>
  simp only [cond_eq_ite]
  repeat' (first|rfl|split)
  generalize rd _ _=q
  cases q<;>rfl
 |slice T x lo hi mx=>
  cases mx with
  |some m=>rfl
  |none=>
   simp only [cond_eq_ite]
   have key:∀(y d:Nat) (f:Nat→Nat→AV),(dL S hi y d fun h=>dL S lo h 0 fun l=>κ (f h l) none)=(dL S hi y d fun h=>dL S lo h 0 fun l=>q0 (f h l) none).bind (q2 κ):=by
    intro y d f
    rw [lz,lz (κ:=fun h=>dL S lo h 0 fun l=>q0 (f h l) none),Option.bind_bind']
    congr 1
    funext h
    rw [lz,lz (κ:=fun l=>q0 (f h l) none),Option.bind_bind']
    rfl
   repeat' (first|rfl|exact key _ _ _|split)
 |call c=>
  simp only
  split
  ·split
   ·rw [rS,rS (κ:=fun a=>q0 a none)]
    exact tU _
   ·rfl
  ·repeat' (first|rfl|split)
  ·repeat' (first|rfl|split)
  ·rfl
 |makeFunc fn first captured=>
  cases fn with
  |func f=>simp only [cond_eq_ite];split<;>rfl
  |_=>rfl
 |_=>
  simp only [cond_eq_ite]
  repeat' (first|rfl|split)
theorem B2 {E:f9}{lv:Lv E.sig}{o:Oper}{c:Call}{κ:AV→Option ap→Option R}:stepC E lv o c S κ=(stepC E lv o c S q0).bind (q2 κ):=by
 unfold stepC
 simp only [cond_eq_ite]
 repeat' (first|rfl|split)
 all_goals (rw [Option.bind_bind'];rfl)
theorem jG {E:f9}{lv:Lv E.sig}{o:Oper}{κ:AV→Option ap→Option R}:bA E lv o S κ=(bA E lv o S q0).bind (q2 κ):=by
 unfold bA
 split
 ·split
  ·exact wb
  ·exact B2
 ·exact wb
def w4 {R:Type}(κ:AV→Option ap→List (Nat×ap)→List Nat→Option R)(p:AV×Option ap×List (Nat×ap)×List Nat):Option R:=κ p.1 p.2.1 p.2.2.1 p.2.2.2
def w0 (a:AV)(r:Option ap)(rs:List (Nat×ap))(ks:List Nat):Option (AV×Option ap×List (Nat×ap)×List Nat):=some (a,r,rs,ks)
theorem yY {a:AV}{l:List AV}{κ:AV→Option ap→List (Nat×ap)→List Nat→Option R}:jY S a l (κ .und none)=(jY S a l (w0 .und none)).bind (w4 κ):=by
 unfold jY
 simp only [cond_eq_ite]
 repeat' (first|rfl|split)
 all_goals (rw [Option.bind_bind'];congr 1;funext y;repeat' (first|rfl|split))
theorem CJ {s j lo n:Nat}{t:El}{x:AV}{κ:AV→Option ap→List (Nat×ap)→List Nat→Option R}:mB S s j lo n t x (fun a rs=>κ a none rs [])=(mB S s j lo n t x (fun a rs=>w0 a none rs [])).bind (w4 κ):=by
 unfold mB
 simp only [cond_eq_ite]
 repeat' (first|rfl|split)
theorem GV {s:Nat}{x:List UInt8}{κ:AV→Option ap→List (Nat×ap)→List Nat→Option R}:Il S s x (fun rs=>κ .und none rs [s])=(Il S s x (fun rs=>w0 .und none rs [s])).bind (w4 κ):=by
 unfold Il
 simp only [cond_eq_ite]
 repeat' (first|rfl|split)
theorem GW {s e:Nat}{κ:AV→Option ap→List (Nat×ap)→List Nat→Option R}:IY S s e (fun a rs=>κ a none rs [s])=(IY S s e (fun a rs=>w0 a none rs [s])).bind (w4 κ):=by
 unfold IY
 simp only [cond_eq_ite]
 repeat' (first|rfl|split)
theorem B5 {sig:FuncId→bU}{pks:FuncId→List PK}{lv:Lv sig}{d:Nat}{f:FuncId}{as:List AV}{κ:AV→Option ap→List (Nat×ap)→List Nat→Option R}:k9 sig pks lv d S f as κ=(k9 sig pks lv d S f as w0).bind (w4 κ):=by
 unfold k9
 simp only [cond_eq_ite]
 split
 ·split
  ·rw [Option.bind_bind']
   congr 1
   funext r
   split<;>rfl
  ·rfl
 ·rfl
theorem Bm {E:f9}{lv:Lv E.sig}{o:Oper}{κ:AV→Option ap→List (Nat×ap)→List Nat→Option R}:lq E lv o S κ=(lq E lv o S w0).bind (w4 κ):=by
 unfold lq
 cases o.op with
 |store T a x=>
  simp only [cond_eq_ite]
  repeat' (first|rfl|exact yY|split)
 |call c=>
  simp only
  split
  ·simp only [cond_eq_ite]
   repeat' (first|rfl|split)
   all_goals (rw [Option.bind_bind'];congr 1;funext c;rw [Option.bind_bind'];congr 1;funext p;split<;>rfl)
  ·simp only [cond_eq_ite]
   repeat' (first|rfl|exact CJ|split)
  ·simp only [cond_eq_ite]
   repeat' (first|rfl|exact GV|exact GW|exact B5|split)
  ·rfl
 |_=>rfl
theorem ut {E:f9}{lv:Lv E.sig}{o:Oper}{κ:AV→Option ap→List (Nat×ap)→List Nat→Option R}:step1 E lv o S κ=(step1 E lv o S w0).bind (w4 κ):=by
 unfold step1
 cases du E.pks o with
 |true=>
  simp only [cond]
  rw [jG,jG (κ:=fun a r=>w0 a r S.roots []),Option.bind_bind']
  rfl
 |false=>exact Bm
end
end Go.Proofs.YtjkokaockhecnaaGreatDoorA
