/- An abstract machine for the model's code: slices as lists, boxes with one owner, no heap. Definitions alone. -/
import Derived.Calls
import Derived.KernelRfl
namespace Go.Proofs.YtjkokaockhecnaaGreatDoorA
open Go
structure bu where
 kind:Int
 parent:Int
 null:Bool
 deriving DecidableEq
inductive qT where
 |mk (layout offset length:Int) (valid ends data:List UInt8) (kids:List qT)
def qT.layout:qT→Int|.mk a _ _ _ _ _ _=>a
def qT.offset:qT→Int|.mk _ a _ _ _ _ _=>a
def qT.length:qT→Int|.mk _ _ a _ _ _ _=>a
def qT.valid:qT→List UInt8|.mk _ _ _ a _ _ _=>a
def qT.ends:qT→List UInt8|.mk _ _ _ _ a _ _=>a
def qT.data:qT→List UInt8|.mk _ _ _ _ _ a _=>a
def qT.kids:qT→List qT|.mk _ _ _ _ _ _ a=>a
structure Col where
 reps:List Int
 defs:List Int
 values:List (List UInt8)
structure GQ where
 at_:Int
 size:Int
 rows:Int
 sum:Int
inductive El where
 |int (k:IntKind)|bool|str|list (e:El)|node|arr|col|blk|byt
 deriving DecidableEq
abbrev El.den:El→Type
 |.int _=>Int
 |.bool=>Bool
 |.str=>List UInt8
 |.list e=>List e.den
 |.node=>bu
 |.arr=>qT
 |.col=>Col
 |.blk=>GQ
 |.byt=>Int
inductive AV where
 |und
 |bool (b:Bool)
 |int (k:IntKind) (n:Int)
 |str (s:List UInt8)
 |err (b:Bool)
 |nils
 |emp
 |L (t:El) (xs:List t.den)
 |al (s j:Nat)
 |ref (s off:Nat)
 |eref (s j sz i off:Nat)
 |bs (s n:Nat)
 |bref (s i:Nat)
 |bal (s i:Nat) (t:El) (xs:List t.den)
 |rm (t:El) (xs ys:List t.den)
 |als (s j sz lo n:Nat)
 |bad (s:Nat)
 |refT (s T:Nat)
 |fzs (e:Nat) (l:List Int)
 |vp (cs:List AV)
 |vi (cs:List AV)
 |nilp
 |optp (t:El) (x:Option t.den)
 |nq (nil:Bool) (t:El) (xs:List t.den)
 |agg (cs:List AV)
 |tup (vs:List AV)
 |fn (f:FuncId) (caps:List AV)
instance:Inhabited AV:=⟨.und⟩
def El.cells:(t:El)→t.den→List AV
 |.int k,n=>[.int k n]
 |.bool,b=>[.bool b]
 |.str,s=>[.str s]
 |.list e,xs=>[.L e xs]
 |.node,x=>[.int .i64 x.kind,.int .i64 x.parent,.bool x.null]
 |.arr,x=>[.int .i64 x.layout,.int .i64 x.offset,.int .i64 x.length,.str x.valid,.str x.ends,.str x.data,.L .arr x.kids]
 |.col,x=>[.L (.int .i64) x.reps,.L (.int .i64) x.defs,.L .str x.values]
 |.blk,x=>[.int .i64 x.at_,.int .i64 x.size,.int .i64 x.rows,.int .i64 x.sum]
 |.byt,n=>[.int .u8 n]
def El.isU8:El→Bool
 |.int .u8=>true
 |_=>false
def El.isByt:El→Bool
 |.byt=>true
 |_=>false
def El.base:El→El
 |.byt=>.int .u8
 |t=>t
def El.likes (t t':El):Bool:=decide (t=t')||(t.isByt&&t'.isU8)
def El.isList:El→Bool
 |.list _=>true
 |_=>false
def El.size:El→Nat
 |.node=>3|.arr=>7|.col=>3|.blk=>4|_=>1
def rS (t:El):AV→Option (List t.den)
 |.nils=>some []
 |.L u xs=>if h:u=t then some (h ▸ xs) else none
 |.nq _ u xs=>if h:u=t then some (h ▸ xs) else none
 |.bal _ _ u xs=>if h:u=t then some (h ▸ xs) else none
 |.rm u xs _=>if h:u=t then some (h ▸ xs) else none
 |_=>none
def El.ofCells:(t:El)→List AV→Option t.den
 |.int k,[.int k' n]=>if k=k' then some n else none
 |.bool,[.bool b]=>some b
 |.str,[.str s]=>some s
 |.list e,[x]=>rS e x
 |.node,[.int .i64 a,.int .i64 b,.bool c]=>some ⟨a,b,c⟩
 |.arr,[.int .i64 a,.int .i64 b,.int .i64 c,.str v,.str e,.str d,ks]=>(rS .arr ks).map (qT.mk a b c v e d)
 |.col,[a,b,c]=>(rS (.int .i64) a).bind fun a=>(rS (.int .i64) b).bind fun b=>(rS .str c).map fun c=>⟨a,b,c⟩
 |.blk,[.int .i64 a,.int .i64 b,.int .i64 c,.int .i64 d]=>some ⟨a,b,c,d⟩
 |.byt,[.int .u8 n]=>some n
 |_,_=>none
inductive ah where
 |av (a:AV)
 |sl (t:El) (fz:Bool) (xs:List t.den)
structure ae where
 box:Bool
 cs:List ah
structure St where
 tmps:List (Nat×AV)
 roots:List (Nat×ae)
def look {α:Type}(k:Nat):List (Nat×α)→Option α
 |[]=>none
 |(i,a) :: l=>bif Nat.beq i k then some a else look k l
def nA {α:Type}(k:Nat):List (Nat×α)→List (Nat×α)
 |[]=>[]
 |(i,a) :: l=>bif Nat.beq i k then nA k l else (i,a) :: nA k l
def lC {α:Type}(k:Nat)(a:α)(l:List (Nat×α)):List (Nat×α):=(k,a) :: nA k l
def St.tmp (S:St)(t:Nat):AV:=match look t S.tmps with|some a=>a|none=>.und
def St.root (S:St)(s:Nat):Option ae:=look s S.roots
def St.put (S:St)(t:Nat)(a:AV):St:={ S with tmps:=lC t a S.tmps }
def St.putO (S:St)(t:Option Nat)(a:AV):St:=match t with|some t=>S.put t a|none=>S
def St.setRoot (S:St)(s:Nat)(r:ae):St:={ S with roots:=lC s r S.roots }
def St.cell (S:St)(s j:Nat):Option ah:=(S.root s).bind fun r=>r.cs[j]?
def St.setCell (S:St)(s j:Nat)(c:ah):St:=
 match S.root s with
 |some r=>S.setRoot s { r with cs:=r.cs.set j c }
 |none=>S
def cellAV (s j:Nat):ah→AV
 |.av a=>a
 |.sl ..=>.al s j
def AV.names (s:Nat):AV→Bool
 |.al s' _|.ref s' _|.eref s' _ _ _ _|.bs s' _|.bref s' _|.bal s' _ _ _|.als s' _ _ _ _|.bad s'|.refT s' _=>Nat.beq s' s
 |.vp cs|.vi cs|.agg cs|.tup cs|.fn _ cs=>namesL s cs
 |_=>false
 where namesL (s:Nat):List AV→Bool
 |[]=>false
 |a :: l=>AV.names s a||namesL s l
def AV.kill (s:Nat)(a:AV):AV:=bif a.names s then .und else a
def ah.kill (s:Nat):ah→ah
 |.av a=>.av (a.kill s)
 |c=>c
def wx (s:Nat):List (Nat×AV)→List (Nat×AV)
 |[]=>[]
 |(i,a) :: l=>(i,a.kill s) :: wx s l
def killC (s:Nat):List ah→List ah
 |[]=>[]
 |c :: l=>c.kill s :: killC s l
def wk (s:Nat):List (Nat×ae)→List (Nat×ae)
 |[]=>[]
 |(i,r) :: l=>(i,⟨r.box,killC s r.cs⟩) :: wk s l
def St.clear (S:St)(s:Nat):St:=⟨wx s S.tmps,wk s (nA s S.roots)⟩
def AV.namesC (s j:Nat):AV→Bool
 |.al s' j'|.eref s' j' _ _ _|.als s' j' _ _ _=>Nat.beq s' s&&Nat.beq j' j
 |.bal s' _ _ _=>Nat.beq s' s
 |.vp cs|.vi cs|.agg cs|.tup cs|.fn _ cs=>namesCL s j cs
 |_=>false
 where namesCL (s j:Nat):List AV→Bool
 |[]=>false
 |a :: l=>AV.namesC s j a||namesCL s j l
def AV.killC (s j:Nat)(a:AV):AV:=bif a.namesC s j then .und else a
def ah.killC (s j:Nat):ah→ah
 |.av a=>.av (a.killC s j)
 |c=>c
def rQ (s j:Nat):List (Nat×AV)→List (Nat×AV)
 |[]=>[]
 |(i,a) :: l=>(i,a.killC s j) :: rQ s j l
def killCC (s j:Nat):List ah→List ah
 |[]=>[]
 |c :: l=>c.killC s j :: killCC s j l
def rO (s j:Nat):List (Nat×ae)→List (Nat×ae)
 |[]=>[]
 |(i,r) :: l=>(i,⟨r.box,killCC s j r.cs⟩) :: rO s j l
def St.clearC (S:St)(s j:Nat):St:=⟨rQ s j S.tmps,rO s j S.roots⟩
def AV.namesB (s:Nat):AV→Bool
 |.al s' _|.eref s' _ _ _ _|.bal s' _ _ _|.als s' _ _ _ _=>Nat.beq s' s
 |.vp cs|.vi cs|.agg cs|.tup cs|.fn _ cs=>namesBL s cs
 |_=>false
 where namesBL (s:Nat):List AV→Bool
 |[]=>false
 |a :: l=>AV.namesB s a||namesBL s l
def AV.killB (s:Nat)(a:AV):AV:=bif a.namesB s then .und else a
def ah.killB (s:Nat):ah→ah
 |.av a=>.av (a.killB s)
 |c=>c
def sc (s:Nat):List (Nat×AV)→List (Nat×AV)
 |[]=>[]
 |(i,a) :: l=>(i,a.killB s) :: sc s l
def bK (s:Nat):List ah→List ah
 |[]=>[]
 |c :: l=>c.killB s :: bK s l
def sE (s:Nat):List (Nat×ae)→List (Nat×ae)
 |[]=>[]
 |(i,r) :: l=>(i,⟨r.box,bK s r.cs⟩) :: sE s l
def St.clearB (S:St):List Nat→St
 |[]=>S
 |s :: l=>St.clearB ⟨sc s S.tmps,sE s S.roots⟩ l
structure gA where
 agg:Bool
 size:Nat
 bytes:Nat
 zero:List AV
 kind:Option IntKind
 str:Bool
 elem:Option El
 elemT:Nat
 ezero:List AV
 ebytes:Nat
 fields : List (Nat × Nat × Nat)     -- offset, size, type
 eqs : Bool                          -- a struct that is compared cell by cell
 isb : Bool                          -- a truth
 bld : Bool := false                 -- a strings.Builder
 ifc : Bool := false                 -- an interface
inductive LK where
 |bool|int (k:IntKind)|str|err|list (t:El)|own (t:El) (fz:Bool)|room (t:El)
inductive PK where
 |one (k:LK)
 |agg (ks:List LK)
 |ro (ks:List LK)
 |rw (ks:List LK)
 |fn
 |bw (T:Nat)
 |br (T e:Nat)
inductive RK where
 |one (k:LK)
 |agg (ks:List LK)
 |el (t:El)
 |ptr (t:El)
inductive kh where
 |v (a:AV)
 |o (c:ah)
 |g (cs:List ah)
 |b (cs:List ah)
abbrev LK.den:LK→Type
 |.bool=>Bool
 |.int _=>Int
 |.str=>List UInt8
 |.err=>Bool
 |.list t=>List t.den
 |.own t _=>List t.den
 |.room t=>List t.den×List t.den
abbrev dQ.den:List LK→Type
 |[]=>Unit
 |[k]=>k.den
 |k :: ks=>k.den×dQ.den ks
abbrev RK.den:RK→Type
 |.one k=>k.den
 |.agg ks=>dQ.den ks
 |.el t=>t.den
 |.ptr t=>Option t.den
structure bg where
 res:List RK
 back:List (Nat×List LK)
def El.dull:El→Bool
 |.int _|.bool|.str=>true
 |_=>false
def LK.lends:LK→Bool
 |.bool|.int _|.str=>true
 |.own t false=>t.dull
 |_=>false
def RK.lends:RK→Bool
 |.one k=>k.lends
 |.agg ks=>ks.all LK.lends
 |_=>false
def bg.lends (s:bg):Bool:=s.back.isEmpty&&s.res.all RK.lends
def El.noStr:El→Bool
 |.int _|.bool|.node|.arr|.blk=>true
 |.list e=>e.noStr
 |_=>false
def RK.lendsS:RK→Bool
 |.one .bool|.one (.int _)|.one .str=>true
 |.el t=>t.noStr
 |_=>false
def bg.lendsS (s:bg):Bool:=s.back.isEmpty&&s.res.all RK.lendsS
def El.isStr:El→Bool
 |.str=>true
 |_=>false
def jc:El→Bool:=fun _=>false
def bg.lendOf (s:bg):El→Bool:=fun t=>s.lends||(s.lendsS&&t.isStr)
abbrev dy.den:List RK→Type
 |[]=>Unit
 |[k]=>k.den
 |k :: ks=>k.den×dy.den ks
abbrev cM.den:List (Nat×List LK)→Type
 |[]=>Unit
 |[k]=>dQ.den k.2
 |k :: ks=>dQ.den k.2×cM.den ks
abbrev bg.den:bg→Type
 |⟨rs,[]⟩=>dy.den rs
 |⟨[],bs⟩=>cM.den bs
 |⟨rs,bs⟩=>dy.den rs×cM.den bs
def LK.cell:(k:LK)→k.den→ah
 |.bool,b=>.av (.bool b)
 |.int k,n=>.av (.int k n)
 |.str,s=>.av (.str s)
 |.err,b=>.av (.err b)
 |.list t,xs=>.av (.L t xs)
 |.own t fz,xs=>.sl t fz xs
 |.room t,p=>.av (.rm t p.1 p.2)
def dQ.cells:(ks:List LK)→dQ.den ks→List ah
 |[],_=>[]
 |[k],x=>[k.cell x]
 |k :: k' :: ks,x=>k.cell x.1 :: dQ.cells (k' :: ks) x.2
def LK.ofCell:(k:LK)→ah→Option k.den
 |.bool,.av (.bool b)=>some b
 |.int k,.av (.int k' n)=>if k=k' then some n else none
 |.str,.av (.str s)=>some s
 |.err,.av (.err b)=>some b
 |.list t,.av a=>rS t a
 |.list t,.sl u true xs=>if h:u=t then some (h ▸ xs) else none
 |.own _ _,.av .nils=>some []
 |.own t fz,.sl u fz' xs=>if h:u=t then (bif fz==fz' then some (h ▸ xs) else none) else none
 |.room t,.av (.rm u xs ys)=>if h:u=t then some (h ▸ xs,h ▸ ys) else none
 |_,_=>none
def iG:Value→AV
 |.bool b=>.bool b
 |.int k n=>.int k n
 |.string s=>.str s.data.toList
 |.slice none 0 0=>.nils
 |.pointer none=>.nilp
 |_=>.und
def cD:List Value→List AV
 |[]=>[]
 |v :: l=>iG v :: cD l
def sO:Value→AV
 |.agg cs=>.agg (cD cs.toList)
 |v=>iG v
def St.ev (S:St):Operand→AV
 |.tmp t=>S.tmp t
 |.const v=>sO v
 |.func f=>.fn f []
 |.global _=>.und
def evL (S:St):List Operand→List AV
 |[]=>[]
 |x :: l=>S.ev x :: evL S l
def AV.leaves:AV→List AV
 |.agg cs=>cs
 |a=>[a]
def AV.isVal:AV→Bool
 |.und|.tup _=>false
 |_=>true
def AV.isCell:AV→Bool
 |.und|.tup _|.agg _=>false
 |_=>true
def Ac (t:El):ah→Option (Bool×List t.den)
 |.sl u b xs=>if h:u=t then some (b,h ▸ xs) else none
 |.av _=>none
def dR:List AV→Bool
 |[]=>true
 |a :: l=>a.isCell&&dR l
def cV:AV→Nat
 |.int ..=>1
 |.bool _=>2
 |.str _=>3
 |_=>0
def fj:List AV→List AV→Bool
 |[],[]=>true
 |a :: l,b :: m=>Nat.beq (cV a) (cV b)&&fj l m
 |_,_=>false
def ax (op:BinOp)(k:IntKind)(x y:Int):Int:=
 let a:=BitVec.ofInt k.bits x
 let b:=BitVec.ofInt k.bits y
 k.wrap (match op with
  |.and=>a &&& b
  |.or=>a ||| b
  |.xor=>a ^^^ b
  |_=>a &&& ~~~b).toNat
def vV:AV→AV→Option Bool
 |.bool a,.bool b=>some (a==b)
 |.int k a,.int k' b=>if k=k' then some (a==b) else none
 |.str a,.str b=>some (a==b)
 |_,_=>none
def dV:List AV→List AV→Option Bool
 |[],[]=>some true
 |a :: l,b :: m=>(vV a b).bind fun x=>(dV l m).map fun y=>x&&y
 |_,_=>none
section
variable {R:Type}
def vz (eqs isb isl isn:Bool)(op:BinOp)(x y:AV)(κ:AV→Option R):Option R:=
 match x,y with
 |.int k a,.int k' b=>
  match op with
  |.shl=>bif decide (b<0) then none else κ (.int k (k.wrap (a*2 ^ (min b.toNat k.bits))))
  |.shr=>bif decide (b<0) then none else κ (.int k (a.fdiv (2 ^ (min b.toNat k.bits))))
  |op=>
   if k=k' then
    match op with
    |.add=>κ (.int k (k.wrap (a+b)))
    |.sub=>κ (.int k (k.wrap (a - b)))
    |.mul=>κ (.int k (k.wrap (a*b)))
    |.quo=>bif b==0 then none else κ (.int k (k.wrap (a.tdiv b)))
    |.rem=>bif b==0 then none else κ (.int k (a.tmod b))
    |.and=>κ (.int k (ax .and k a b))
    |.or=>κ (.int k (ax .or k a b))
    |.xor=>κ (.int k (ax .xor k a b))
    |.andNot=>κ (.int k (ax .andNot k a b))
    |.eql=>κ (.bool (a==b))
    |.neq=>κ (.bool (a != b))
    |.lss=>κ (.bool (decide (a<b)))
    |.leq=>κ (.bool (decide (a≤b)))
    |.gtr=>κ (.bool (decide (a>b)))
    |.geq=>κ (.bool (decide (a≥b)))
    |_=>none
   else none
 |.str a,.str b=>
  match op with
  |.add=>bif decide (a.length+b.length≤9223372036854775807) then κ (.str (a++b)) else none
  |.eql=>κ (.bool (a==b))
  |.neq=>κ (.bool (a != b))
  |_=>none
 |.bool a,.bool b=>
  match op with
  |.eql=>bif isb then κ (.bool (a==b)) else none
  |.neq=>bif isb then κ (.bool (a != b)) else none
  |_=>none
 |.agg a,.agg b=>
  match op with
  |.eql=>bif eqs then (match dV a b with|some c=>κ (.bool c)|none=>none) else none
  |.neq=>bif eqs then (match dV a b with|some c=>κ (.bool (!c))|none=>none) else none
  |_=>none
 |.nq q _ _,.nils=>
  match op with
  |.eql=>bif isl then κ (.bool q) else none
  |.neq=>bif isl then κ (.bool (!q)) else none
  |_=>none
 |.err b,_=>
  match op with
  |.eql=>bif isn then κ (.bool (!b)) else none
  |.neq=>bif isn then κ (.bool b) else none
  |_=>none
 |_,_=>none
def sC:Operand→Bool
 |.const .nilIface=>true
 |_=>false
def EC (op:UnOp)(x:AV)(κ:AV→Option R):Option R:=
 match op,x with
 |.neg,.int k n=>κ (.int k (k.wrap (0 - n)))
 |.not,.bool b=>κ (.bool (!b))
 |.xor,.int k n=>κ (.int k (ax .xor k (bif k.signed then -1 else k.max) n))
 |_,_=>none
def rd {α:Type}(xs:List α)(i:Int):Option α:=bif decide (0≤i) then xs[i.toNat]? else none
def bD {α:Type}(l:List α)(off n:Nat):Option (List α):=
 bif Nat.ble (off+n) l.length then some ((l.drop off).take n) else none
def a8 (s:Nat):Nat→List ah→List AV
 |_,[]=>[]
 |j,c :: l=>cellAV s j c :: a8 s (j+1) l
def g8 (S:St)(el:Option El)(a:AV)(n:Nat)(κ:List AV→Option R):Option R:=
 match a with
 |.ref s off=>
  match S.root s with
  |some ⟨true,cs⟩=>match bD (a8 s 0 cs) off n with|some l=>κ l|none=>none
  |_=>none
 |.eref s j sz i off=>
  match S.cell s j with
  |some (.sl t _ xs)=>bif Nat.beq sz t.size then (xs[i]?).bind fun x=>match bD (t.cells x) off n with|some l=>κ l|none=>none else none
  |_=>none
 |.vp cs|.vi cs=>match bD cs 0 n with|some l=>κ l|none=>none
 |.bref s i=>
  match S.root s with
  |some ⟨true,cs⟩=>match el with|some t=>(bif Nat.beq n 1 then (cs[i]?).bind fun c=>(Ac t c).bind fun p=>bif p.1 then κ [.bal s i t p.2] else none else none)|none=>none
  |_=>none
 |_=>none
def oY (agg:Bool)(l:List AV):Option AV:=
 match agg,l with
 |true,l=>some (.agg l)
 |false,[a]=>some a
 |_,_=>none
def cL (S:St)(t':El)(x:AV)(i:AV)(κ:AV→Option R):Option R:=
 match i with
 |.int _ i=>
  match x with
  |.L t xs=>if t=t' then (rd xs i).bind fun x=>κ (.vi (t.cells x)) else none
  |.rm t xs _=>if t=t' then (rd xs i).bind fun x=>κ (.vi (t.cells x)) else none
  |.al s j=>
   match S.cell s j with
   |some (.sl t true xs)=>if t=t' then (rd xs i).bind fun x=>κ (.vi (t.cells x)) else none
   |some (.sl t false xs)=>bif t.likes t' then (bif decide (0≤i)&&decide (i<(xs.length:Int)) then κ (.eref s j t.size i.toNat 0) else none) else none
   |_=>none
  |.bs s n=>bif t'.isList then (bif decide (0≤i)&&decide (i<(n:Int)) then κ (.bref s i.toNat) else none) else none
  |_=>none
 |_=>none
def qe (S:St)(ty:Option gA)(x:AV)(κ:AV→Option R):Option R:=
 match ty with
 |some ty=>
  match x with
  |.str s=>bif ty.str then κ (.int .i64 (s.length:Int)) else none
  |.L _ xs=>bif ty.elem.isSome then κ (.int .i64 (xs.length:Int)) else none
  |.rm _ xs _=>bif ty.elem.isSome then κ (.int .i64 (xs.length:Int)) else none
  |.nils=>bif ty.elem.isSome then κ (.int .i64 0) else none
  |.al s j=>
   match S.cell s j with
   |some (.sl _ _ xs)=>bif ty.elem.isSome then κ (.int .i64 (xs.length:Int)) else none
   |_=>none
  |.bs _ n=>bif ty.elem.isSome then κ (.int .i64 (n:Int)) else none
  |.bal _ _ _ xs=>bif ty.elem.isSome then κ (.int .i64 (xs.length:Int)) else none
  |_=>none
 |none=>none
def Dx:(t u:El)→List u.den→Option (List t.den)
 |.int .u8,.byt,xs=>some xs
 |_,_,_=>none
def fp (S:St)(t:El)(x:AV):Option (List t.den):=
 match x with
 |.al s j=>
  match S.cell s j with
  |some (.sl u _ xs)=>if h:u=t then some (h ▸ xs) else Dx t u xs
  |_=>none
 |.als s j sz lo n=>
  match S.cell s j with
  |some (.sl u _ xs)=>bif Nat.beq sz t.size&&Nat.ble (lo+n) xs.length then (if h:u=t then some (((h ▸ xs:List t.den).drop lo).take n) else none) else none
  |_=>none
 |x=>rS t x
def qz (S:St):AV→AV
 |.al s j=>(match S.cell s j with|some (.sl t true xs)=>.L t xs|_=>.al s j)
 |a=>a
def jz (S:St):AV→AV
 |.agg l=>.agg (l.map (qz S))
 |a=>qz S a
def ac (s:List UInt8):List Int:=s.map fun b=>(b.toNat:Int)
def ab (l:List Int):List UInt8:=l.map fun n=>UInt8.ofNat n.toNat
def b9 (S:St)(o:Option Operand)(y:Nat)(dflt:Nat)(κ:Nat→Option R):Option R:=
 match o with
 |none=>κ dflt
 |some x=>
  match S.ev x with
  |.int _ i=>bif decide (0≤i)&&decide (i≤(y:Int)) then κ i.toNat else none
  |_=>none
def kt (E:TypeId→Option gA)(T f:Nat):Option (Nat×Nat×Nat):=(E T).bind fun i=>i.fields[f]?
def oG (a:AV)(n:Nat):Option AV:=
 match a with
 |.ref s off=>some (.ref s (off+n))
 |.eref s j sz i off=>some (.eref s j sz i (off+n))
 |.vp cs=>some (.vp (cs.drop n))
 |.vi cs=>some (.vi (cs.drop n))
 |_=>none
def setRange {α:Type}(l:List α)(off:Nat)(new:List α):List α:=l.take off++new++l.drop (off+new.length)
def bU (l:List AV):List ah:=l.map .av
def eP (E:TypeId→Option gA)(fields:List (Nat×Nat×Nat)):List (Nat×AV)→List AV→Option (List AV)
 |[],cs=>some cs
 |(i,a) :: rest,cs=>
  match fields[i]? with
  |some (off,size,_)=>bif a.isVal&&(Nat.beq a.leaves.length size&&Nat.ble (off+size) cs.length) then eP E fields rest (setRange cs off a.leaves) else none
  |none=>none
def iW (t:El):Nat→List (Nat×AV)→Option (List t.den)
 |_,[]=>some []
 |n,(i,a) :: rest=>bif Nat.beq i n then (t.ofCells a.leaves).bind fun x=>(iW t (n+1) rest).map fun l=>x :: l else none
def bY (E:TypeId→Option gA)(o:Oper)(S:St)(κ:AV→Option ae→Option R):Option R:=
 let d:=match o.dst with|some d=>d|none=>0
 match o.op with
 |.move x|.assign x=>κ (S.ev x) none
 |.pick c a b=>match S.ev c with|.bool t=>bif t then κ (S.ev a) none else κ (S.ev b) none|_=>none
 |.nilCheck x=>match S.ev x with|.ref s f=>κ (.ref s f) none|.vp cs=>κ (.vp cs) none|.vi cs=>κ (.vi cs) none|.eref s j sz i f=>κ (.eref s j sz i f) none|.optp t x=>(match x with|some x=>κ (.vi (t.cells x)) none|none=>none)|_=>none
 |.binOp op T x y _=>vz (match E T with|some i=>i.eqs&&fj (S.ev x).leaves i.zero|none=>false) (match E T with|some i=>i.isb|none=>false) (match E T with|some i=>i.elem.isSome|none=>false) ((match E T with|some i=>i.ifc|none=>false)&&sC y) op (S.ev x) (S.ev y) fun a=>κ a none
 |.unOp op _ x=>EC op (S.ev x) fun a=>κ a none
 |.extract t i=>
  match S.ev t with
  |.tup vs=>(match vs[i]? with|some a=>κ a none|none=>none)
  |_=>none
 |.alloc T=>match E T with|some i=>κ (bif i.bld then .refT d T else .ref d 0) (some ⟨true,bU i.zero⟩)|none=>none
 |.box _ x=>bif (S.ev x).isVal then κ (.ref d 0) (some ⟨true,bU (S.ev x).leaves⟩) else none
 |.load T a=>
  match E T with
  |some i=>g8 S i.elem (S.ev a) i.size fun l=>(match oY i.agg l with|some v=>κ v none|none=>none)
  |none=>none
 |.fieldAddr T x f=>
  match kt E T f with
  |some (off,_,_)=>(match oG (S.ev x) off with|some a=>κ a none|none=>none)
  |none=>none
 |.field T x f=>
  match S.ev x,kt E T f with
  |.agg cs,some (off,n,U)=>
   (match bD cs off n with
   |some l=>(match E U with|some j=>(match oY j.agg l with|some v=>κ v none|none=>none)|none=>none)
   |none=>none)
  |_,_=>none
 |.indexAddr T x i=>match (E T).bind (·.elem) with|some t=>cL S t (S.ev x) (S.ev i) fun a=>κ a none|none=>none
 |.index T x i=>
  match E T,S.ev x,S.ev i with
  |some ty,.str s,.int _ i=>bif ty.str then (rd s i).bind fun b=>κ (.int .u8 (b.toNat:Int)) none else none
  |_,_,_=>none
 |.slice T x lo hi none=>
  match E T with
  |some ty=>
   match S.ev x with
   |.str s=>bif ty.str then b9 S hi s.length s.length fun h=>b9 S lo h 0 fun l=>κ (.str ((s.take h).drop l)) none else none
   |.L t xs=>if ty.elem=some t then b9 S hi xs.length xs.length fun h=>b9 S lo h 0 fun l=>κ (.L t ((xs.take h).drop l)) none else none
   |.al s j=>
    match S.cell s j with
    |some (.sl t true xs)=>if ty.elem=some t then b9 S hi xs.length xs.length fun h=>b9 S lo h 0 fun l=>κ (bif lo.isNone&&hi.isSome then .rm t (xs.take h) (xs.drop h) else .L t ((xs.take h).drop l)) none else none
    |some (.sl t false xs)=>if ty.elem=some t then b9 S hi xs.length xs.length fun h=>b9 S lo h 0 fun l=>κ (.als s j t.size l (h - l)) none else none
    |_=>none
   |.rm t xs ys=>if ty.elem=some t then b9 S hi (xs++ys).length xs.length fun h=>b9 S lo h 0 fun l=>κ (.L t (((xs++ys).take h).drop l)) none else none
   |_=>none
  |none=>none
 |.convert src dst x=>
  match E src,E dst with
  |some i,some j=>
   match S.ev x,j.kind with
   |.int _ n,some k=>κ (.int k (k.wrap n)) none
   |.int _ _,none=>none
   |.str s,_=>bif j.str then κ (.str s) none else
    match j.elem with
    |some (.int .u8)=>bif decide (s.length≤140737488355328) then κ (.al d 0) (some ⟨false,[.sl .byt false (ac s)]⟩) else none
    |_=>none
   |a,_=>
    bif j.str then
     match i.elem with
     |some (.int .u8)=>(match fp S (.int .u8) a with|some l=>κ (.str (ab l)) none|none=>none)
     |_=>none
    else none
  |_,_=>none
 |.build T parts=>
  match E T with
  |some i=>bif i.fields.isEmpty then none else (match eP E i.fields (parts.toList.map fun p=>(p.1,S.ev p.2)) i.zero with|some cs=>κ (.agg cs) none|none=>none)
  |none=>none
 |.buildSlice T n parts=>
  match E T with
  |some i=>
   match i.elem with
   |some t=>
    match iW t 0 (parts.toList.map fun p=>(p.1,jz S (S.ev p.2))) with
    |some l=>bif Nat.beq l.length n&&Nat.ble (n*t.size) 16777216 then κ (.al d 0) (some ⟨false,[.sl t false l]⟩) else none
    |none=>none
   |none=>none
  |none=>none
 |.makeSlice T l c=>
  match E T,S.ev l,S.ev c with
  |some i,.int _ n,.int _ m=>
   match i.elem with
   |some (.list e)=>
    match i.ezero with
    |[.nils]=>bif n==m&&(decide (0≤n)&&decide (n*(i.ebytes:Int)≤140737488355328)) then κ (.bs d n.toNat) (some ⟨true,List.replicate n.toNat (.sl e true [])⟩) else none
    |_=>none
   |some t=>
    match t.ofCells i.ezero with
    |some x=>bif n==m&&(decide (0≤n)&&decide (n*(i.ebytes:Int)≤140737488355328)) then κ (.al d 0) (some ⟨false,[.sl t false (List.replicate n.toNat x)]⟩) else none
    |none=>none
   |none=>none
  |_,_,_=>none
 |.makeFunc (.func f) first captured=>bif first.isEmpty then κ (.fn f (evL S captured.toList)) none else none
 |.call c=>
  match c.callee with
  |.builtin .len=>(match c.args.toList,c.argTypes.toList with|[x],[T]=>qe S (E T) (S.ev x) fun a=>κ a none|_,_=>none)
  |.builtin .max=>
   match evL S c.args.toList with
   |[.int k a,.int k' b]=>if k=k' then κ (.int k (bif decide (b>a) then b else a)) none else none
   |[.int k a,.int k' b,.int k'' e]=>if k=k' then if k=k'' then κ (.int k (let m:=bif decide (b>a) then b else a;bif decide (e>m) then e else m)) none else none else none
   |_=>none
  |.builtin .min=>
   match evL S c.args.toList with
   |[.int k a,.int k' b]=>if k=k' then κ (.int k (bif decide (b<a) then b else a)) none else none
   |_=>none
  |_=>none
 |_=>none
def qy (s:Nat):AV→Bool
 |.nilp=>true
 |.bad s'=>Nat.beq s' s
 |.ref s' o=>Nat.beq s' s&&Nat.beq o 0
 |_=>false
inductive xZ where
 |keep (ss:List Nat)
 |keepR (ss:List Nat)
 |own (v:Nat) (t:El) (fz:Bool)
 |view (v:Nat) (t:El)
 |cell (s j:Nat) (t:El) (fz:Bool)
 |froze (s j:Nat)
 |cellv (s j:Nat) (t:El)
 |bself (s:Nat)
def jB {α:Type}(ss:List Nat)(l:List (Nat×α)):List (Nat×α):=
 match ss with
 |[]=>[]
 |s :: ss=>match look s l with|some a=>(s,a) :: jB ss l|none=>jB ss l
def ll (n:Nat)(S:St):xZ→Option St
 |.keep ss=>some { S with tmps:=jB ss S.tmps }
 |.keepR ss=>some { S with roots:=jB ss S.roots }
 |.own v t fz=>
  bif !Nat.blt v n then none else
  match S.tmp v with
  |.nils=>some (((S.clear (2000+v)).setRoot (2000+v) ⟨false,[.sl t fz []]⟩).put v (.al (2000+v) 0))
  |.al s j=>
   match S.cell s j with
   |some (.sl u fz' xs)=>
    if u=t then
     bif fz||!fz' then
      bif Nat.beq s (2000+v) then bif Nat.beq j 0 then some ((S.setRoot (2000+v) ⟨false,[.sl u fz xs]⟩).put v (.al (2000+v) 0)) else none
      else some ((((S.setCell s j (.av .und)).clear (2000+v)).setRoot (2000+v) ⟨false,[.sl u fz xs]⟩).put v (.al (2000+v) 0))
     else none
    else none
   |_=>none
  |_=>none
 |.view v t=>
  match S.tmp v with
  |.nils=>some (S.put v (.L t []))
  |.L u xs=>some (S.put v (.L u xs))
  |.rm u xs _=>some (S.put v (.L u xs))
  |.al s j=>
   match S.cell s j with
   |some (.sl u _ xs)=>some ((S.setCell s j (.sl u true xs)).put v (.L u xs))
   |_=>none
  |_=>none
 |.cell s j t fz=>
  match S.cell s j with
  |some (.sl u fz' xs)=>if u=t then (bif fz||!fz' then some (S.setCell s j (.sl u fz xs)) else none) else none
  |some (.av .nils)=>some ((S.clearC s j).setCell s j (.sl t fz []))
  |some (.av (.al s' j'))=>
   match S.cell s' j' with
   |some (.sl u fz' xs)=>if u=t then (bif fz||!fz' then some (((S.setCell s' j' (.av .und)).clearC s j).setCell s j (.sl u fz xs)) else none) else none
   |_=>none
  |_=>none
 |.froze s j=>
  match S.cell s j with
  |some (.sl t _ xs)=>some (S.setCell s j (.sl t true xs))
  |_=>none
 |.cellv s j t=>
  match S.cell s j with
  |some (.sl t _ xs)=>some ((S.setCell s j (.sl t true xs)).setCell s j (.av (.L t xs)))
  |some (.av (.L _ _))=>some S
  |some (.av (.rm u xs _))=>some (S.setCell s j (.av (.L u xs)))
  |some (.av .nils)=>some (S.setCell s j (.av (.L t [])))
  |some (.av (.al s' j'))=>
   match S.cell s' j' with
   |some (.sl t _ xs)=>some ((S.setCell s' j' (.sl t true xs)).setCell s j (.av (.L t xs)))
   |_=>none
  |_=>none
 |.bself s=>
  match S.root s with
  |some ⟨true,.av a :: cs⟩=>bif qy s a then some (S.setRoot s ⟨true,.av (.bad s) :: cs⟩) else none
  |_=>none
def iZ (n:Nat)(S:St):List xZ→Option St
 |[]=>some S
 |c :: l=>match ll n S c with|some S=>iZ n S l|none=>none
def PK.quiet:PK→Bool
 |.one (.own ..)=>false
 |.bw _|.br _ _=>false
 |.rw _=>false
 |.agg ks=>ks.all fun k=>match k with|.own ..=>false|_=>true
 |_=>true
def e7 (lend:El→Bool)(S:St):LK→AV→Option AV
 |.bool,.bool b=>some (.bool b)
 |.int k,.int k' n=>if k=k' then some (.int k n) else none
 |.str,.str s=>some (.str s)
 |.err,.err b=>some (.err b)
 |.list t,.al s j=>
  match S.cell s j with
  |some (.sl u fz xs)=>bif fz||lend u then (if h:u=t then some (.L t (h ▸ xs)) else none) else none
  |_=>none
 |.list t,a=>(rS t a).map (.L t)
 |.room t,.rm u xs ys=>if u=t then some (.rm u xs ys) else none
 |_,_=>none
def a6 (lend:El→Bool)(S:St):List LK→List AV→Option (List AV)
 |[],[]=>some []
 |k :: ks,a :: l=>(e7 lend S k a).bind fun b=>(a6 lend S ks l).map fun m=>b :: m
 |_,_=>none
def zd (lend:El→Bool)(S:St)(ks:List LK):AV→Option AV
 |.ref s off=>
  match S.root s with
  |some ⟨true,cs⟩=>(bD (a8 s 0 cs) off ks.length).bind fun l=>(a6 lend S ks l).map .vp
  |_=>none
 |.vp cs|.vi cs=>(bD cs 0 ks.length).bind fun l=>(a6 lend S ks l).map .vp
 |_=>none
def nz (lend:El→Bool)(S:St):AV→Option AV
 |.al s j=>
  match S.cell s j with
  |some (.sl u fz xs)=>bif fz||lend u then some (.L u xs) else none
  |_=>none
 |.bool b=>some (.bool b)
 |.int k n=>some (.int k n)
 |.str s=>some (.str s)
 |.L t xs=>some (.L t xs)
 |.nils=>some .nils
 |.nilp=>some .nilp
 |_=>none
def dq (lend:El→Bool)(S:St):List AV→Option (List AV)
 |[]=>some []
 |a :: l=>(nz lend S a).bind fun b=>(dq lend S l).map fun m=>b :: m
def pP (lend:El→Bool)(S:St):AV→Option AV
 |.ref s off=>
  match S.root s with
  |some ⟨true,cs⟩=>(dq lend S ((a8 s 0 cs).drop off)).map .vp
  |_=>none
 |.vp cs|.vi cs=>(dq lend S cs).map .vp
 |_=>none
def kU (lend:El→Bool)(S:St):List AV→Option (List AV)
 |[]=>some []
 |a :: l=>(pP lend S a).bind fun b=>(kU lend S l).map fun m=>b :: m
def qf (lend:El→Bool)(S:St):PK→AV→Option kh
 |.one k,a=>(e7 lend S k a).map .v
 |.agg ks,.agg cs=>(a6 lend S ks cs).map fun l=>.v (.agg l)
 |.ro ks,a=>(zd lend S ks a).map .v
 |.fn,.fn f caps=>(kU lend S caps).map fun l=>.v (.fn f l)
 |_,_=>none
def jA (lend:El→Bool)(S:St):List PK→List AV→Option (List kh)
 |[],[]=>some []
 |k :: ks,a :: l=>(qf lend S k a).bind fun b=>(jA lend S ks l).map fun m=>b :: m
 |_,_=>none
structure fH where
 box:Option Nat
 srcs:List (Option (Nat×Nat))
def gr (S:St):LK→AV→Option (ah×Option (Nat×Nat))
 |.own t fz,.nils=>some (.sl t fz [],none)
 |.own t fz,.al s j=>
  match S.cell s j with
  |some (.sl u fz' xs)=>if u=t then (bif fz==fz' then some (.sl u fz' xs,some (s,j)) else none) else none
  |_=>none
 |k,a=>(e7 jc S k a).map fun b=>(.av b,none)
def dG (S:St):List LK→List AV→Option (List ah×List (Option (Nat×Nat)))
 |[],[]=>some ([],[])
 |k :: ks,a :: l=>(gr S k a).bind fun p=>(dG S ks l).map fun q=>(p.1 :: q.1,p.2 :: q.2)
 |_,_=>none
def aA (S:St)(s:Nat):Nat→List LK→List ah→Option (List ah×List (Option (Nat×Nat)))
 |_,[],[]=>some ([],[])
 |j,k :: ks,.av a :: l=>(gr S k a).bind fun p=>(aA S s (j+1) ks l).map fun q=>(p.1 :: q.1,p.2 :: q.2)
 |j,.own t fz :: ks,.sl u fz' xs :: l=>if u=t then (bif fz==fz' then (aA S s (j+1) ks l).map fun q=>(.sl u fz' xs :: q.1,some (s,j) :: q.2) else none) else none
 |j,.list t :: ks,.sl u true xs :: l=>if h:u=t then (aA S s (j+1) ks l).map fun q=>(.av (.L t (h ▸ xs)) :: q.1,none :: q.2) else none
 |_,_,_=>none
def qC (lend:El→Bool)(S S':St)(k:PK)(a:AV):Option (kh×fH):=
 bif k.quiet then (qf lend S' k a).map fun b=>(b,⟨none,[]⟩) else
 match k,a with
 |.one k,a=>(gr S k a).map fun p=>(.o p.1,⟨none,[p.2]⟩)
 |.agg ks,.agg cs=>(dG S ks cs).map fun p=>(.g p.1,⟨none,p.2⟩)
 |.rw ks,.ref s 0=>
  match S.root s with
  |some ⟨true,cs⟩=>(aA S s 0 ks cs).map fun p=>(.b p.1,⟨some s,p.2⟩)
  |_=>none
 |_,_=>none
def dw (lend:El→Bool)(S S':St):List PK→List AV→Option (List kh×List fH)
 |[],[]=>some ([],[])
 |k :: ks,a :: l=>(qC lend S S' k a).bind fun p=>(dw lend S S' ks l).map fun q=>(p.1 :: q.1,p.2 :: q.2)
 |_,_=>none
def oH:LK→AV→List (Nat×Nat)
 |.own _ true,.al s j=>[(s,j)]
 |_,_=>[]
def f7:List LK→List AV→List (Nat×Nat)
 |k :: ks,a :: l=>oH k a++f7 ks l
 |_,_=>[]
def jq (s:Nat):Nat→List LK→List ah→List (Nat×Nat)
 |j,k :: ks,.av a :: l=>oH k a++jq s (j+1) ks l
 |j,.own _ true :: ks,.sl .. :: l=>(s,j) :: jq s (j+1) ks l
 |j,_ :: ks,_ :: l=>jq s (j+1) ks l
 |_,_,_=>[]
def mO (S:St):PK→AV→List (Nat×Nat)
 |.one k,a=>oH k a
 |.agg ks,.agg cs=>f7 ks cs
 |.rw ks,.ref s 0=>match S.root s with|some r=>jq s 0 ks r.cs|none=>[]
 |_,_=>[]
def du (S:St):List PK→List AV→List (Nat×Nat)
 |k :: ks,a :: l=>mO S k a++du S ks l
 |_,_=>[]
def frzAt (S:St)(s j:Nat):St:=
 match S.cell s j with
 |some (.sl t false xs)=>S.setCell s j (.sl t true xs)
 |_=>S
def frzAll (S:St):List (Nat×Nat)→St
 |[]=>S
 |p :: l=>frzAll (frzAt S p.1 p.2) l
def bF:List PK→List AV→List Nat
 |.rw _ :: ks,.ref s 0 :: l=>s :: bF ks l
 |_ :: ks,_ :: l=>bF ks l
 |_,_=>[]
def dd {α:Type}(ss:List Nat)(l:List (Nat×α)):List (Nat×α):=
 match ss with
 |[]=>l
 |s :: ss=>dd ss (nA s l)
def em (S:St):List (Nat×Nat)→St
 |[]=>S
 |p :: l=>em (S.setCell p.1 p.2 (.av .und)) l
def dN:List fH→List (Nat×Nat)
 |[]=>[]
 |o :: l=>o.srcs.filterMap id++dN l
def aN:List fH→List Nat
 |[]=>[]
 |o :: l=>match o.box with|some s=>s :: aN l|none=>aN l
def nk:List Nat→Bool
 |[]=>true
 |n :: l=>l.all (fun m=>!Nat.beq m n)&&nk l
def Ap (p:Nat×Nat):List (Nat×Nat)→Bool
 |[]=>false
 |q :: l=>(Nat.beq q.1 p.1&&Nat.beq q.2 p.2)||Ap p l
def jT:List (Nat×Nat)→Bool
 |[]=>true
 |p :: l=>!Ap p l&&jT l
def b6:List ah→Bool
 |[]=>false
 |.sl .. :: _=>true
 |_ :: l=>b6 l
def FR (t:El)(x:t.den):AV:=
 match t with
 |.int k=>.int k x
 |.bool=>.bool x
 |.str=>.str x
 |.list e=>.L e x
 |.byt=>.int .u8 x
 |t=>.agg (t.cells x)
def RK.inj (d j:Nat):(k:RK)→k.den→AV×List ah
 |.one k,x=>(cellAV d j (k.cell x),[k.cell x])
 |.agg ks,x=>(.agg (a8 d j (dQ.cells ks x)),dQ.cells ks x)
 |.el t,x=>(FR t x,[])
 |.ptr t,x=>(.optp t x,[])
def dy.inj (d:Nat):(j:Nat)→(ks:List RK)→dy.den ks→List AV×List ah
 |_,[],_=>([],[])
 |j,[k],x=>let (a,l):=k.inj d j x;([a],l)
 |j,k :: k' :: ks,x=>
  let (a,l):=k.inj d j x.1
  let (as,m):=dy.inj d (j+l.length) (k' :: ks) x.2
  (a :: as,l++m)
def kp:List AV→AV
 |[a]=>a
 |l=>.tup l
def bg.res1:(s:bg)→s.den→dy.den s.res
 |⟨_,[]⟩,x=>x
 |⟨[],_ :: _⟩,_=>()
 |⟨_ :: _,_ :: _⟩,x=>x.1
def bg.back1:(s:bg)→s.den→cM.den s.back
 |⟨_,[]⟩,_=>()
 |⟨[],_ :: _⟩,x=>x
 |⟨_ :: _,_ :: _⟩,x=>x.2
def cM.cells:(bs:List (Nat×List LK))→cM.den bs→List (Nat×List ah)
 |[],_=>[]
 |[(i,ks)],x=>[(i,dQ.cells ks x)]
 |(i,ks) :: b :: bs,x=>(i,dQ.cells ks x.1) :: cM.cells (b :: bs) x.2
def cE (S:St)(os:List fH):List (Nat×List ah)→Option St
 |[]=>some S
 |(i,cs) :: l=>
  match os[i]? with
  |some ⟨some s,_⟩=>cE (S.setRoot s ⟨true,cs⟩) os l
  |_=>none
structure ce where
 ntmps:Nat
 body:Code
 results:List ResultVar
 cmdsL:List (Nat×List xZ)
 lcmdsL:List (Nat×List xZ)
 jcmdsL:List (Nat×List xZ)
 frzL:List Nat
 split:Bool
def ce.cmds (f:ce)(i:Nat):List xZ:=match look i f.cmdsL with|some l=>l|none=>[]
def ce.lcmds (f:ce)(i:Nat):List xZ:=match look i f.lcmdsL with|some l=>l|none=>[]
def ce.jcmds (f:ce)(i:Nat):Option (List xZ):=look i f.jcmdsL
def nj (n:Nat):List Nat→Bool
 |[]=>false
 |m :: l=>Nat.beq m n||nj n l
def ce.frz (f:ce)(i:Nat):Bool:=nj i f.frzL
def fV (b:Bool):List ah→List ah
 |[]=>[]
 |.sl t fz xs :: l=>.sl t (b||fz) xs :: fV b l
 |c :: l=>c :: fV b l
inductive Ex where
 |normal|exit (id:Nat)|ret
structure dE where
 fn:FuncId→Option ce
 ty:TypeId→Option gA
 pks:FuncId→List PK
 sig:FuncId→bg
 ext:(f:FuncId)→List kh→Option (sig f).den
 bar:(R:Type)→Option R→Option R
abbrev aF:=(R:Type)→Option R→Option R
abbrev Lv (sig:FuncId→bg):=(f:FuncId)→List kh→Option (sig f).den
def cj (S:St)(c:Call):Option (FuncId×List AV):=
 match c.callee with
 |.value x=>match S.ev x with|.fn f caps=>some (f,evL S c.args.toList++caps)|_=>none
 |_=>none
def gf (S:St)(a:AV)(l:List AV)(κ:List (Nat×ae)→List Nat→Option R):Option R:=
 match a with
 |.ref s off=>
  match S.root s with
  |some ⟨true,cs⟩=>bif Nat.ble (off+l.length) cs.length then κ (lC s ⟨true,setRange cs off (bU l)⟩ S.roots) [] else none
  |_=>none
 |.eref s j sz i off=>
  match S.cell s j with
  |some (.sl t false xs)=>bif Nat.beq sz t.size then (xs[i]?).bind fun x=>
   match t.ofCells (setRange (t.cells x) off l) with
   |some y=>bif Nat.ble (off+l.length) t.size then κ (S.setCell s j (.sl t false (xs.set i y))).roots [] else none
   |none=>none
   else none
  |_=>none
 |.bref s i=>
  match l with
  |[.al s' j']=>
   match S.root s with
   |some ⟨true,cs⟩=>
    match S.cell s' j' with
    |some (.sl u _ ys)=>bif Nat.beq s' s then none else bif Nat.blt i cs.length then κ ((S.setCell s' j' (.av .und)).setCell s i (.sl u true ys)).roots [s] else none
    |_=>none
   |_=>none
  |_=>none
 |_=>none
def wC:ah→Option (List Int)
 |.av .nils=>some []
 |.sl (.int .u8) false xs=>some xs
 |_=>none
def Be (S:St)(s:Nat)(x:List UInt8)(κ:List (Nat×ae)→Option R):Option R:=
 match S.root s with
 |some ⟨true,[.av a,c]⟩=>
  bif qy s a then
   match wC c with
   |some xs=>bif decide (xs.length+x.length≤140737488355328) then κ (lC s ⟨true,[.av (.bad s),.sl (.int .u8) false (xs++ac x)]⟩ S.roots) else none
   |none=>none
  else none
 |_=>none
def Bq (S:St)(s e:Nat)(κ:AV→List (Nat×ae)→Option R):Option R:=
 match S.root s with
 |some ⟨true,[.av a,c]⟩=>
  match c with
  |.av (.fzs e' l)=>bif Nat.beq e' e then κ (.str (ab l)) (lC s ⟨true,[.av a,.av (.fzs e l)]⟩ S.roots) else none
  |_=>(match wC c with|some xs=>κ (.str (ab xs)) (lC s ⟨true,[.av a,.av (.fzs e xs)]⟩ S.roots)|none=>none)
 |_=>none
def jE (S:St)(s j lo n:Nat)(t':El)(x:AV)(κ:AV→List (Nat×ae)→Option R):Option R:=
 match S.cell s j with
 |some (.sl t false xs)=>
  if t=t' then
   bif Nat.beq t.size 1&&Nat.ble (lo+n) xs.length then
    match fp S t x with
    |some ys=>κ (.int .i64 ((min ys.length n:Nat):Int)) (S.setCell s j (.sl t false (xs.take lo++ys.take n++xs.drop (lo+min ys.length n)))).roots
    |none=>none
   else none
  else none
 |_=>none
def iE (sig:FuncId→bg)(pks:FuncId→List PK)(lv:Lv sig)(d:Nat)(S:St)(f:FuncId)(as:List AV)(κ:AV→Option ae→List (Nat×ae)→List Nat→Option R):Option R:=
 let S1:=frzAll S (du S (pks f) as)
 let bs:=bF (pks f) as
 let S2:St:=⟨S1.tmps,dd bs S1.roots⟩
 match dw jc S1 S2 (pks f) as with
 |some (args,os)=>
  bif nk (aN os)&&jT (dN os) then
   (lv f args).bind fun r=>
    match cE (em S2 (dN os)) os (cM.cells (sig f).back (bg.back1 (sig f) r)) with
    |some S''=>
     let p:=dy.inj d 0 (sig f).res (bg.res1 (sig f) r)
     κ (kp p.1) (bif b6 p.2 then some ⟨false,p.2⟩ else none) S''.roots (aN os)
    |none=>none
  else none
 |none=>none
def iy (E:dE)(lv:Lv E.sig)(o:Oper)(S:St)(κ:AV→Option ae→List (Nat×ae)→List Nat→Option R):Option R:=
 let d:=match o.dst with|some d=>d|none=>0
 match o.op with
 |.store T a x=>
  match E.ty T with
  |some i=>bif Nat.beq (S.ev x).leaves.length i.size&&dR (S.ev x).leaves then gf S (S.ev a) (S.ev x).leaves (κ .und none) else none
  |none=>none
 |.call c=>
  match c.callee with
  |.builtin .append=>
   match c.args.toList,c.argTypes.toList with
   |[b,x],[T,T']=>
    match bif Nat.beq T T' then E.ty T else none with
    |some i=>
     match i.elem with
     |some t=>
      match fp S t (S.ev x) with
      |some ys=>
       match S.ev b with
       |.nils=>bif decide (ys.length*i.ebytes≤140737488355328) then κ (.al d 0) (some ⟨false,[.sl t false ys]⟩) S.roots [] else none
       |.emp=>bif decide (ys.length*i.ebytes≤140737488355328) then (bif t.isU8 then κ (.L t ys) none S.roots [] else κ (.al d 0) (some ⟨false,[.sl t false ys]⟩) S.roots []) else none
       |.al s j=>
        match S.cell s j with
        |some (.sl u b xs)=>
         if h:u=t then
          bif decide ((xs.length+ys.length)*i.ebytes≤140737488355328) then
           κ (.al d 0) (some ⟨false,[.sl t b ((h ▸ xs)++ys)]⟩) (S.setCell s j (.av .und)).roots []
          else none
         else none
        |_=>none
       |.bal s j _ _=>
        (S.cell s j).bind fun c=>(Ac t c).bind fun p=>
         bif decide ((p.2.length+ys.length)*i.ebytes≤140737488355328) then
          κ (.al d 0) (some ⟨false,[.sl t p.1 (p.2++ys)]⟩) (S.setCell s j (.av .und)).roots []
         else none
       |_=>none
      |none=>none
     |none=>none
    |none=>none
   |_,_=>none
  |.builtin .copy=>
   match c.args.toList,c.argTypes.toList with
   |[b,x],[T,T']=>
    match (bif Nat.beq T T' then E.ty T else none).bind (·.elem) with
    |some t=>
     match S.ev b with
     |.als s j sz lo n=>bif Nat.beq sz t.size then jE S s j lo n t (S.ev x) fun a rs=>κ a none rs [] else none
     |.al s j=>(match S.cell s j with|some (.sl _ _ xs)=>jE S s j 0 xs.length t (S.ev x) fun a rs=>κ a none rs []|_=>none)
     |_=>none
    |none=>none
   |_,_=>none
  |.value _=>
   match cj S c with
   |some (f,as)=>
    match E.pks f,as with
    |[.bw T,.one .str],[.refT s T',.str x]=>bif Nat.beq T' T then Be S s x fun rs=>κ .und none rs [s] else none
    |[.br T e],[.refT s T']=>bif Nat.beq T' T then Bq S s e fun a rs=>κ a none rs [s] else none
    |_,_=>iE E.sig E.pks lv d S f as κ
   |none=>none
  |_=>none
 |_=>none
def stepC (E:dE)(lv:Lv E.sig)(o:Oper)(c:Call)(S:St)(κ:AV→Option ae→Option R):Option R:=
 let d:=match o.dst with|some d=>d|none=>0
 match cj S c with
 |some (f,as)=>
  match jA (E.sig f).lendOf S (E.pks f) as with
  |some args=>bif (E.sig f).back.isEmpty then (lv f args).bind fun r=>
    let p:=dy.inj d 0 (E.sig f).res (bg.res1 (E.sig f) r)
    κ (kp p.1) (bif b6 p.2 then some ⟨false,p.2⟩ else none)
   else none
  |none=>none
 |none=>none
def bV (pks:FuncId→List PK)(o:Oper):Bool:=
 match o.op with
 |.store ..=>false
 |.call c=>
  match c.callee with
  |.builtin .append|.builtin .copy=>false
  |.value (.func f)=>(pks f).all PK.quiet
  |_=>true
 |_=>true
def aC (E:dE)(lv:Lv E.sig)(o:Oper)(S:St)(κ:AV→Option ae→Option R):Option R:=
 match o.op with
 |.call c=>
  match c.callee with
  |.builtin _=>bY E.ty o S κ
  |_=>stepC E lv o c S κ
 |_=>bY E.ty o S κ
def step1 (E:dE)(lv:Lv E.sig)(o:Oper)(S:St)(κ:AV→Option ae→List (Nat×ae)→List Nat→Option R):Option R:=
 bif bV E.pks o then aC E lv o S fun a r=>κ a r S.roots [] else iy E lv o S κ
def sr (fz:Nat→Bool)(d:Nat)(r:ae):ae:=⟨r.box,killC d (fV (fz d) r.cs)⟩
def St.gain (fz:Nat→Bool)(S:St)(o:Oper)(a:AV)(r:Option ae):St:=
 match r with
 |none=>S.putO o.dst a
 |some r=>match o.dst with|some d=>((S.clear d).setRoot d (sr fz d r)).put d a|none=>S.clear 0
def step (E:dE)(lv:Lv E.sig)(fz:Nat→Bool)(o:Oper)(S:St)(κ:St→Option R):Option R:=
 step1 E lv o S fun a r rs ks=>κ (St.gain fz (St.clearB ⟨S.tmps,rs⟩ ks) o a r)
def mQ (ops:List Oper)(o:Oper)(S:St)(yes no:St→Option R):Option R:=
 match o.guard with
 |none=>yes S
 |some (g,want)=>
  match (ops[g]?).bind (·.dst) with
  |none=>none
  |some t=>
   match S.tmp t with
   |.bool b=>bif (bif want then b else !b) then yes (S.put t (.bool want)) else no (S.put t (.bool (!want)))
   |.tup []=>no S
   |_=>none
def oZ (E:dE)(lv:Lv E.sig)(fz:Nat→Bool)(ops:List Oper):List Oper→St→(St→Option R)→Option R
 |[],S,κ=>κ S
 |o :: rest,S,κ=>
  mQ ops o S
   (fun S=>step E lv fz o S fun S=>oZ E lv fz ops rest S κ)
   (fun S=>oZ E lv fz ops rest (S.putO o.dst (.tup [])) κ)
def cB (e:Edge):Bool:=match e.ground with|.textOnly _|.gcOnly _=>false|_=>true
def ar:List Oper→List Nat→List Nat
 |[],acc=>acc
 |o :: l,acc=>ar l (acc++[o.after.toList.foldl (fun s e=>bif cB e then s ||| 2 ^ e.on ||| acc.getD e.on 0 else s) 0])
def bG (ops:List Oper)(o:Oper):List Nat:=
 (o.op.operands.toList.filterMap fun x=>match x with|.tmp t=>some t|_=>none)++
 (match o.guard with
  |some (g,_)=>match (ops[g]?).bind (·.dst) with|some d=>[d]|none=>[]
  |none=>[])
def eJ (o:Oper):Bool:=
 match o.op with
 |.move _|.assign _|.pick ..|.binOp ..|.unOp ..|.extract ..|.nilCheck _|.fieldAddr ..|.field ..|.index ..|.build ..=>true
 |_=>false
def eH (o:Oper):Bool:=
 match o.op with
 |.load ..=>true
 |.call c=>(match c.callee with|.builtin .len=>true|_=>false)
 |_=>false
def cJ (o:Oper):Bool:=eJ o||eH o
def hO (ops:List Oper)(x y:Oper):Bool:=
 (match x.dst with
  |some d=>!nj d (bG ops y)&&(match y.dst with|some e=>!Nat.beq d e|none=>true)
  |none=>true)&&
 (match y.dst with
  |some d=>!nj d (bG ops x)
  |none=>true)
def ew (ops:List Oper)(d:Nat):List Oper→Bool
 |[]=>false
 |p :: l=>nj d (bG ops p)||(match p.dst with|some e=>bif Nat.beq e d then false else ew ops d l|none=>ew ops d l)
def qD (pks:FuncId→List PK)(ops:List Oper)(o:Oper):Bool:=bV pks o&&!(match o.dst with|some d=>ew ops d ops|none=>false)
def dO (pks:FuncId→List PK)(ops:List Oper):List Oper→Bool
 |[]=>true
 |o :: l=>qD pks ops o&&dO pks ops l
def pw (pks:FuncId→List PK)(ops:List Oper)(i j:Nat)(x:Oper):Bool:=
 dO pks ops (ops.take (j+1))||(cJ x&&dO pks ops (ops.take (i+1)))
def mJ (pks:FuncId→List PK)(ops:List Oper)(bs:List Nat):Nat→List Oper→Bool
 |_,[]=>true
 |j,y :: l=>
  (ops.take j).zipIdx.all (fun (x,i)=>(bs.getD j 0).testBit i||(hO ops x y&&pw pks ops i j x))&&mJ pks ops bs (j+1) l
def ja:Nat→List Oper→Bool
 |_,[]=>true
 |i,o :: l=>o.after.toList.all (fun e=>!cB e||Nat.blt e.on i)&&ja (i+1) l
def jS:List Oper→Bool
 |[]=>true
 |o :: l=>(match o.dst with|some d=>l.all (fun p=>match p.dst with|some e=>!Nat.beq d e|none=>true)|none=>true)&&jS l
def tQ (ops:List Oper):List Oper→Bool
 |[]=>true
 |o :: l=>(bG ops o).all (fun t=>(o :: l).all fun p=>match p.dst with|some e=>!Nat.beq t e|none=>true)&&tQ ops l
def fr (pks:FuncId→List PK)(ops:List Oper):List Oper→List Oper
 |[]=>[]
 |o :: l=>bif qD pks ops o then o :: fr pks ops l else []
def sq (pks:FuncId→List PK)(ops:List Oper):Bool:=
 ja 0 ops&&jS ops&&tQ ops (fr pks ops ops)&&mJ pks ops (ar ops []) 0 ops
def fh (d:Nat):List (Nat×ae)→Bool
 |[]=>true
 |(i,r) :: l=>!Nat.beq i d&&r.cs.all (fun c=>match c with|.av a=>!a.names d|_=>true)&&fh d l
def tq (S:St)(d:Nat):Bool:=S.tmps.all (fun p=>!p.2.names d)&&fh d S.roots
def gn (S:St):List Oper→Bool
 |[]=>true
 |o :: l=>(match o.dst with|some d=>tq S d|none=>true)&&gn S l
def qs (S:St):List Oper→Bool
 |[]=>true
 |o :: l=>(match o.dst with|some d=>S.tmps.all (fun p=>!p.2.names d)&&S.roots.all (fun p=>!Nat.beq p.1 d)|none=>true)&&qs S l
def pE:List Oper→List Nat
 |[]=>[]
 |o :: l=>match o.dst with|some d=>d :: pE l|none=>pE l
def nh:List Nat→List ah→List ah
 |[],cs=>cs
 |d :: ds,cs=>nh ds (killC d cs)
def lu (ds:List Nat):List (Nat×ae)→List (Nat×ae)
 |[]=>[]
 |(i,r) :: l=>(i,⟨r.box,nh ds r.cs⟩) :: lu ds l
def St.purge (S:St)(ds:List Nat):St:=⟨S.tmps,lu ds S.roots⟩
def bE (S:St):List (Nat×ae)→St
 |[]=>S
 |(d,r) :: l=>bE (S.setRoot d r) l
def dk (ops:List Oper)(b:Nat):List Nat:=
 ops.zipIdx.filterMap fun p=>bif b.testBit p.2 then p.1.dst else none
def iM (ss:List Nat)(new:List (Nat×ae))(S:St)(a:AV)(r:Option ae)(d:Nat):Bool:=
 new.all (fun p=>nj p.1 ss||(!a.names p.1&&(match r with|some r=>r.cs.all (fun c=>match c with|.av a=>!a.names p.1|_=>true)|none=>true)))&&
 (match r with|some _=>S.tmps.all (fun p=>!p.2.names d)&&fh d new|none=>true)
def nu (S:St)(o:Oper)(r:Option ae)(ks:List Nat):Bool:=
 (match r with|some _=>(match o.dst with|some d=>S.tmps.all (fun p=>!p.2.names d)|none=>false)|none=>true)&&ks.all (fun s=>S.tmps.all (fun p=>!p.2.namesB s))
def jr:PK→Bool
 |.rw ks=>ks.all fun k=>match k with|.own ..=>false|_=>true
 |k=>k.quiet
def ww (ps:List Nat)(S:St)(d:Option Nat)(bs:List Nat):Bool:=
 (match d with|some d=>!nj d ps|none=>true)&&
 ps.all fun s=>match S.root s with
  |some r=>r.cs.all fun c=>match c with|.av a=>(match d with|some d=>!a.names d|none=>true)&&bs.all (fun b=>!a.namesB b)|_=>true
  |none=>true
def oL (pks:FuncId→List PK)(ps:List Nat)(S:St)(o:Oper):Bool:=
 ps.isEmpty||(eJ o||
  (match o.op with
   |.store _ b _=>(match S.ev b with|.ref s _=>!nj s ps|_=>false)
   |.buildSlice ..=>ww ps S o.dst []
   |.call c=>
    match c.callee with
    |.value (.func f)=>(pks f).all jr&&(bF (pks f) (evL S c.args.toList)).all (fun s=>!nj s ps)&&ww ps S o.dst (bF (pks f) (evL S c.args.toList))
    |_=>false
   |_=>false))
def pI (bs:List Nat)(i m:Nat):Bool:=((List.range bs.length).drop m).all fun j=>(bs.getD j 0).testBit i
def dm (bs:List Nat)(i m:Nat):Nat:=match ((List.range bs.length).drop m).find? (fun j=>(bs.getD j 0).testBit i) with|some j=>j|none=>bs.length
def cf (bs:List Nat)(S:St)(m:Nat):Nat→List Oper→Option (List (Nat×Nat))
 |_,[]=>some []
 |i,x :: l=>
  bif !eH x||pI bs i m then cf bs S m (i+1) l else
  match x.op with
  |.load _ a=>
   match S.ev a with
   |.ref s _=>(cf bs S m (i+1) l).map fun ps=>(s,dm bs i m) :: ps
   |.vp _|.vi _|.tup _=>cf bs S m (i+1) l
   |_=>none
  |.call c=>
   match c.args.toList with
   |[a]=>(match S.ev a with|.al ..=>none|_=>cf bs S m (i+1) l)
   |_=>none
  |_=>none
def s9 (ps:List (Nat×Nat))(k:Nat):List Nat:=(ps.filter fun p=>Nat.blt k p.2).map (·.1)
def gP (E:dE)(lv:Lv E.sig)(fz:Nat→Bool)(ops:List Oper)(ps:List (Nat×Nat)):List Oper→St→(St→Option R)→Option R
 |[],S,κ=>κ S
 |o :: rest,S,κ=>
  mQ ops o S
   (fun S=>step1 E lv o S fun a r rs ks=>
    bif nu S o r ks&&oL E.pks (s9 ps (ops.length - (rest.length+1))) S o
    then gP E lv fz ops ps rest (St.gain fz (St.clearB ⟨S.tmps,rs⟩ ks) o a r) κ else none)
   (fun S=>gP E lv fz ops ps rest (S.putO o.dst (.tup [])) κ)
def kb (o:Oper):Bool:=match o.op with|.convert ..=>true|.buildSlice ..=>true|.call c=>(match c.callee with|.value _=>true|_=>false)|_=>false
def drawS (ss:List Nat)(new:List (Nat×ae))(o:Oper)(S:St):St:=bif kb o then bE S (new.filter fun p=>nj p.1 ss) else S
def gC (E:dE)(lv:Lv E.sig)(fz:Nat→Bool)(ops:List Oper):List Oper→List Nat→(new:List (Nat×ae))→St→(St→Option R)→Option R
 |o :: rest,b :: bs,new,S,κ=>
  bif qD E.pks ops o then
   mQ ops o S
    (fun S=>aC E lv o (drawS (dk ops b) new o S) fun a r=>
     match r,o.dst with
     |none,d=>bif iM (dk ops b) new S a none 0 then gC E lv fz ops rest bs new (S.putO d a) κ else none
     |some r,some d=>bif iM (dk ops b) new S a (some r) d then gC E lv fz ops rest bs ((d,sr fz d r) :: new) (S.put d a) κ else none
     |some _,none=>none)
    (fun S=>gC E lv fz ops rest bs new (S.putO o.dst (.tup [])) κ)
  else match cf (ar ops []) S (ops.length - (rest.length+1)) 0 (ops.take (ops.length - (rest.length+1))) with
   |some ps=>gP E lv fz ops ps (o :: rest) (bE S new) κ
   |none=>none
 |_,_,new,S,κ=>κ (bE S new)
def dZ (o:Oper):Bool:=match o.op with|.buildSlice _ n ps=>Nat.beq n 0&&ps.toList.isEmpty|_=>false
def mm (ty:TypeId→Option gA)(o:Oper):Bool:=match o.op with|.buildSlice T _ _=>(match ty T with|some i=>i.elem.isSome|none=>false)|_=>false
def gx (o:Oper):Bool:=match o.op with|.indexAddr ..=>true|.slice _ _ _ _ none=>true|_=>false
def cT (ops:List Oper)(o:Oper):Bool:=(cJ o||gx o||dZ o)&&!(match o.dst with|some d=>ew ops d ops|none=>false)
def ql (ops:List Oper)(bs:List Nat):Nat→List Oper→Bool
 |_,[]=>true
 |j,y :: l=>(ops.take j).zipIdx.all (fun (x,i)=>(bs.getD j 0).testBit i||(hO ops x y&&(cT ops x||cT ops y)))&&ql ops bs (j+1) l
def Gf (ops:List Oper):Bool:=ja 0 ops&&jS ops&&ql ops (ar ops []) 0 ops
abbrev nc:=Option (Option (Nat×Nat×Nat))
def ca (E:TypeId→Option gA)(o:Oper)(S:St):nc:=
 match o.op with
 |.load T a=>
  match S.ev a with
  |.ref s off=>(E T).map fun i=>some (s,off,i.size)
  |.eref s j _ _ _=>some (some (s,j,1))
  |.vp _|.vi _=>some none
  |_=>none
 |.call c=>
  match c.args.toList with
  |[a]=>(match S.ev a with|.al s j=>some (some (s,j,1))|_=>some none)
  |_=>none
 |.indexAddr _ x _=>(match S.ev x with|.al s j=>some (some (s,j,1))|_=>some none)
 |.slice _ x _ _ _=>(match S.ev x with|.al s j=>some (some (s,j,1))|_=>some none)
 |_=>some none
abbrev EE:=Option (List (Nat×Option (Nat×Nat)))
def yK (d:Nat)(l:List (Nat×ae)):Bool:=l.all fun p=>p.2.cs.all fun c=>match c with|.av a=>!a.names d|_=>true
def cO (o:Oper)(S:St)(r:Option ae):EE:=
 match r with
 |none=>some []
 |some _=>match o.dst with|some d=>bif yK d S.roots then some [(d,none)] else none|none=>none
def CL (bs:List Nat)(l:List (Nat×ae)):Bool:=l.all fun p=>p.2.cs.all fun c=>match c with|.av a=>bs.all fun b=>!a.namesB b|_=>true
def DZ (ks:List PK):Bool:=match ks with|[.bw _,.one .str]=>false|[.br _ _]=>false|_=>true
def oM (pks:FuncId→List PK)(o:Oper)(S:St)(r:Option ae):EE:=
 match o.op with
 |.call c=>
  match c.callee with
  |.value (.func f)=>
   bif DZ (pks f)&&(pks f).all jr&&CL (bF (pks f) (evL S c.args.toList)) S.roots then
    (cO o S r).map fun l=>(bF (pks f) (evL S c.args.toList)).map (fun b=>(b,none))++l
   else none
  |_=>none
 |_=>none
def f9 (pks:FuncId→List PK)(o:Oper)(S:St)(r:Option ae)(ks:List Nat):EE:=
 bif !ks.isEmpty then oM pks o S r else
 bif bV pks o then cO o S r else
 match o.op with
 |.store _ b x=>
  match S.ev b with
  |.ref s off=>(cO o S r).map fun l=>(s,some (off,(S.ev x).leaves.length)) :: l
  |.eref s j _ _ _=>(cO o S r).map fun l=>(s,some (j,1)) :: l
  |_=>none
 |.call c=>
  match c.callee,c.args.toList with
  |.builtin .append,b :: _=>
   match S.ev b with
   |.nils|.emp=>cO o S r
   |.al s j=>(cO o S r).map fun l=>(s,some (j,1)) :: l
   |_=>none
  |_,_=>none
 |_=>none
def io (f:nc)(e:EE):Bool:=
 match f with
 |none=>false
 |some none=>true
 |some (some (s,off,n))=>match e with|none=>false|some l=>l.all fun q=>!Nat.beq q.1 s||(match q.2 with|none=>false|some (o,m)=>Nat.ble (o+m) off||Nat.ble (off+n) o)
abbrev yb:=Nat×Option Nat×List Nat×EE
def sn (b:Nat)(a:AV)(f:nc)(h:yb):Bool:=
 b.testBit h.1||((match h.2.1 with|some d=>!a.names d|none=>true)&&h.2.2.1.all (fun k=>!a.namesB k)&&io f h.2.2.2)
def jI (E:dE)(lv:Lv E.sig)(fz:Nat→Bool)(ops:List Oper):List Oper→List Nat→Nat→List (Nat×nc)→List yb→St→(St→Option R)→Option R
 |o :: rest,b :: bs,i,fs,hs,S,κ=>
  mQ ops o S
   (fun S=>
    bif dZ o then
     bif cT ops o&&mm E.ty o then jI E lv fz ops rest bs (i+1) ((i,some none) :: fs) hs (S.putO o.dst .emp) κ else none
    else
    step1 E lv o S fun a r rs ks=>
    bif cT ops o then
     bif hs.all (sn b a (ca E.ty o S)) then jI E lv fz ops rest bs (i+1) ((i,ca E.ty o S) :: fs) hs (S.putO o.dst a) κ else none
    else
     bif nu S o r ks&&fs.all (fun f=>b.testBit f.1||io f.2 (f9 E.pks o S r ks)) then
      jI E lv fz ops rest bs (i+1) fs ((i,(match r with|some _=>o.dst|none=>none),ks,f9 E.pks o S r ks) :: hs) (St.gain fz (St.clearB ⟨S.tmps,rs⟩ ks) o a r) κ
     else none)
   (fun S=>jI E lv fz ops rest bs (i+1) fs hs (S.putO o.dst (.tup [])) κ)
 |_,_,_,_,_,S,κ=>κ S
def yQ (E:dE)(lv:Lv E.sig)(fz:Nat→Bool)(ops:List Oper)(S:St)(κ:St→Option R):Option R:=
 bif sq E.pks ops then bif qs S ops then gC E lv fz ops ops (ar ops []) [] (S.purge (pE ops)) κ else none
 else bif Gf ops then jI E lv fz ops ops (ar ops []) 0 [] [] S κ else none
def gd (n:Nat):List Oper→Bool
 |[]=>true
 |o :: l=>(match o.dst with|some d=>Nat.blt d n|none=>true)&&gd n l
def region (E:dE)(lv:Lv E.sig)(fz:Nat→Bool)(n:Nat)(ops:List Oper)(draw:Bool)(S:St)(κ:St→Option R):Option R:=
 bif !gd n ops then none else
 bif draw then yQ E lv fz ops S κ
 else oZ E lv fz ops ops S κ
def gG:Code→Option Nat
 |.region id _ _=>some id
 |.seq a _=>gG a
 |.block _ c=>gG c
 |.loop c=>gG c
 |_=>none
def DY (bar:aF)(fi:ce)(b:Code)(run:St→Option R)(κ:Ex→St→Option R):Ex→St→Option R
 |.normal,S=>
  match (gG b).bind fi.jcmds with
  |some cs=>match iZ fi.ntmps S cs with|some S=>bar R (run S)|none=>none
  |none=>run S
 |.exit i,S=>κ (.exit i) S
 |.ret,S=>κ .ret S
def BO (id:Nat)(κ:Ex→St→Option R):Ex→St→Option R
 |.normal,S=>κ .normal S
 |.exit i,S=>bif Nat.beq i id then κ .normal S else κ (.exit i) S
 |.ret,S=>κ .ret S
def wI (nt:Nat)(cs:List xZ)(id:Nat)(next:St→Option R)(κ:Ex→St→Option R):Ex→St→Option R
 |.normal,S=>match iZ nt S cs with|some S=>next S|none=>none
 |.exit i,S=>bif Nat.beq i id then κ .normal S else κ (.exit i) S
 |.ret,S=>κ .ret S
def qi (nt:Nat)(cs:List xZ)(id:Nat)(body:St→(Ex→St→Option R)→Option R)(κ:Ex→St→Option R):Nat→St→Option R
 |0,_=>none
 |n+1,S=>body S (wI nt cs id (qi nt cs id body κ n) κ)
def ia (E:dE)(lv:Lv E.sig)(K:Nat)(fi:ce):Code→St→(Ex→St→Option R)→Option R
 |.skip,S,κ=>κ .normal S
 |.region id ops draw,S,κ=>match iZ fi.ntmps S (fi.cmds id) with|some S=>region E lv fi.frz fi.ntmps ops.toList draw S (κ .normal)|none=>none
 |.seq a b,S,κ=>ia E lv K fi a S (DY E.bar fi b (fun S=>ia E lv K fi b S κ) κ)
 |.cond c x y,S,κ=>match S.ev c with|.bool b=>bif b then ia E lv K fi x S κ else ia E lv K fi y S κ|_=>none
 |.block id (.loop b),S,κ=>
  match iZ fi.ntmps S (fi.lcmds id) with
  |some S=>qi fi.ntmps (fi.lcmds id) id (fun S κ=>ia E lv K fi b S κ) κ K S
  |none=>none
 |.block id c,S,κ=>ia E lv K fi c S (BO id κ)
 |.exit id,S,κ=>κ (.exit id) S
 |.ret,S,κ=>κ .ret S
 |_,_,_=>none
inductive Gj where
 |l|r|t|e|b|lp (n:Nat)
def at_ (E:dE)(lv:Lv E.sig)(K:Nat)(fi:ce):List Gj→Code→(Ex→St→Option R)→Code×(Ex→St→Option R)
 |.l :: p,.seq a b,κ=>at_ E lv K fi p a (DY E.bar fi b (fun S=>ia E lv K fi b S κ) κ)
 |.r :: p,.seq _ b,κ=>at_ E lv K fi p b κ
 |.t :: p,.cond _ x _,κ=>at_ E lv K fi p x κ
 |.e :: p,.cond _ _ y,κ=>at_ E lv K fi p y κ
 |.b :: p,.block id c,κ=>at_ E lv K fi p c (BO id κ)
 |.lp n :: p,.block id (.loop c),κ=>at_ E lv K fi p c (wI fi.ntmps (fi.lcmds id) id (qi fi.ntmps (fi.lcmds id) id (fun S κ=>ia E lv K fi c S κ) κ n) κ)
 |_,c,κ=>(c,κ)
def cN (S:St):(k:LK)→AV→Option k.den
 |.own _ _,.nils=>some []
 |.own t fz,.al s j=>
  match S.cell s j with
  |some (.sl u fz' xs)=>if h:u=t then (bif fz==fz' then some (h ▸ xs) else none) else none
  |_=>none
 |.list t,.al s j=>
  match S.cell s j with
  |some (.sl u true xs)=>if h:u=t then some (h ▸ xs) else none
  |_=>none
 |k,a=>k.ofCell (.av a)
def dL (S:St):(ks:List LK)→List AV→Option (dQ.den ks)
 |[],[]=>some ()
 |[k],[a]=>cN S k a
 |k :: k' :: ks,a :: l=>(cN S k a).bind fun x=>(dL S (k' :: ks) l).map fun y=>(x,y)
 |_,_=>none
def mP (S:St):AV→Option AV
 |.al s j=>match S.cell s j with|some (.sl t true xs)=>some (.L t xs)|_=>none
 |a=>some a
def dD (S:St):List AV→Option (List AV)
 |[]=>some []
 |a :: l=>(mP S a).bind fun b=>(dD S l).map fun m=>b :: m
def El.isAgg:El→Bool
 |.node|.arr|.col|.blk=>true
 |_=>false
def AV.isAgg:AV→Bool
 |.agg _=>true
 |_=>false
def mb (S:St):(k:RK)→AV→Option k.den
 |.one k,a=>cN S k a
 |.agg ks,.agg cs=>dL S ks cs
 |.el t,a=>bif a.isVal&&(t.isAgg==a.isAgg) then (dD S a.leaves).bind t.ofCells else none
 |.ptr _,.nilp=>some none
 |.ptr t,.vi cs=>(t.ofCells cs).map some
 |_,_=>none
def il (S:St):(ks:List RK)→List AV→Option (dy.den ks)
 |[],[]=>some ()
 |[k],[a]=>mb S k a
 |k :: k' :: ks,a :: l=>(mb S k a).bind fun x=>(il S (k' :: ks) l).map fun y=>(x,y)
 |_,_=>none
def u0:LK→AV→Option (Nat×Nat)
 |.own _ _,.al s j=>some (s,j)
 |_,_=>none
def dK:List LK→List AV→List (Option (Nat×Nat))
 |k :: ks,a :: l=>u0 k a :: dK ks l
 |_,_=>[]
def bc:List RK→List AV→List (Option (Nat×Nat))
 |.one k :: ks,a :: l=>u0 k a :: bc ks l
 |.agg ks' :: ks,.agg cs :: l=>dK ks' cs++bc ks l
 |_ :: ks,_ :: l=>bc ks l
 |_,_=>[]
def Fp:LK→AV→List (Nat×Nat)
 |.own _ true,.al s j=>[(s,j)]
 |.list _,.al s j=>[(s,j)]
 |_,_=>[]
def C2:List LK→List AV→List (Nat×Nat)
 |k :: ks,a :: l=>Fp k a++C2 ks l
 |_,_=>[]
def yC:List AV→List (Nat×Nat)
 |.al s j :: l=>(s,j) :: yC l
 |_ :: l=>yC l
 |[]=>[]
def lN:List RK→List AV→List (Nat×Nat)
 |.one k :: ks,a :: l=>Fp k a++lN ks l
 |.agg ks' :: ks,.agg cs :: l=>C2 ks' cs++lN ks l
 |.el _ :: ks,a :: l=>yC a.leaves++lN ks l
 |_ :: ks,_ :: l=>lN ks l
 |_,_=>[]
def wo (s:Nat):Nat→List LK→List ah→List (Nat×Nat)
 |j,.own _ true :: ks,.sl .. :: l=>(s,j) :: wo s (j+1) ks l
 |j,.list _ :: ks,.sl .. :: l=>(s,j) :: wo s (j+1) ks l
 |j,_ :: ks,_ :: l=>wo s (j+1) ks l
 |_,_,_=>[]
def mA (S:St):List (Nat×List LK)→List (Nat×Nat)
 |[]=>[]
 |(i,ks) :: l=>(match S.root (1000+i) with|some r=>wo (1000+i) 0 ks r.cs|none=>[])++mA S l
def dQ.ofCells:(ks:List LK)→List ah→Option (dQ.den ks)
 |[],[]=>some ()
 |[k],[c]=>k.ofCell c
 |k :: k' :: ks,c :: l=>(k.ofCell c).bind fun x=>(dQ.ofCells (k' :: ks) l).map fun y=>(x,y)
 |_,_=>none
def kj (S:St)(i:Nat)(ks:List LK):Option (dQ.den ks):=match S.root (1000+i) with|some ⟨true,cs⟩=>dQ.ofCells ks cs|_=>none
def jo (S:St):(bs:List (Nat×List LK))→Option (cM.den bs)
 |[]=>some ()
 |[(i,ks)]=>kj S i ks
 |(i,ks) :: b :: bs=>(kj S i ks).bind fun x=>(jo S (b :: bs)).map fun y=>(x,y)
def bg.mk1:(s:bg)→dy.den s.res→cM.den s.back→s.den
 |⟨_,[]⟩,x,_=>x
 |⟨[],_ :: _⟩,_,y=>y
 |⟨_ :: _,_ :: _⟩,x,y=>(x,y)
def wu (E:dE)(S:St):ResultVar→Option AV
 |.tmp t=>some (S.tmp t)
 |.cell a T=>match E.ty T with|some i=>g8 S i.elem (S.tmp a) i.size fun l=>oY i.agg l|none=>none
def m6 (E:dE)(S:St):List ResultVar→Option (List AV)
 |[]=>some []
 |r :: l=>(wu E S r).bind fun a=>(m6 E S l).map fun m=>a :: m
def pG:List (Nat×List LK)→List (Nat×Nat)→Bool
 |[],_=>true
 |(i,_) :: l,ps=>l.all (fun b=>!Nat.beq b.1 i)&&ps.all (fun p=>!Nat.beq p.1 (1000+i))&&pG l ps
def iO (E:dE)(fi:ce)(s:bg)(S:St):Option s.den:=
 match m6 E S fi.results with
 |some as=>
  let S1:=frzAll S (lN s.res as++mA S s.back)
  let ps:=(bc s.res as).filterMap id
  bif jT ps&&pG s.back ps then
   (il S1 s.res as).bind fun x=>(jo S1 s.back).bind fun y=>some (s.mk1 x y)
  else none
 |none=>none
def cm:Nat→List kh→List (Nat×AV)
 |_,[]=>[]
 |i,.v a :: l=>(i,a) :: cm (i+1) l
 |i,.o c :: l=>(i,cellAV (1000+i) 0 c) :: cm (i+1) l
 |i,.g cs :: l=>(i,.agg (a8 (1000+i) 0 cs)) :: cm (i+1) l
 |i,.b _ :: l=>(i,.ref (1000+i) 0) :: cm (i+1) l
def cU:Nat→List kh→List (Nat×ae)
 |_,[]=>[]
 |i,.v _ :: l=>cU (i+1) l
 |i,.o c :: l=>(1000+i,⟨false,[c]⟩) :: cU (i+1) l
 |i,.g cs :: l=>(1000+i,⟨false,cs⟩) :: cU (i+1) l
 |i,.b cs :: l=>(1000+i,⟨true,cs⟩) :: cU (i+1) l
def Bo (E:dE)(fi:ce)(s:bg)(S:St):Option s.den:=
 match iZ fi.ntmps S (fi.cmds 1000000) with
 |some S=>iO E fi s S
 |none=>none
def Ez (E:dE)(fi:ce)(s:bg):Ex→St→Option s.den
 |.normal,S=>Bo E fi s S
 |.exit _,_=>none
 |.ret,S=>Bo E fi s S
noncomputable def both {R:Type}(a b:Option R):Option R:=open Classical in if a=b then a else none
noncomputable def En {α R:Type}(xs:List α)(a:Option R)(b:List α→Option R):Option R:=
 match xs with
 |[]=>both a (b [])
 |x :: l=>b (x :: l)
noncomputable def tL (E:dE)(lv:Lv E.sig)(K:Nat)(f:FuncId)(fi:ce)(args:List kh):Option (E.sig f).den:=
 bif !(Nat.ble fi.ntmps 1000&&Nat.ble args.length fi.ntmps) then none else ia E lv K fi fi.body ⟨cm 0 args,cU 0 args⟩ (Ez E fi (E.sig f))
noncomputable def call (E:dE)(lv:Lv E.sig)(K:Nat)(f:FuncId)(args:List kh):Option (E.sig f).den:=
 match E.fn f with
 |some fi=>
  bif fi.split then
   match args with
   |[.v (.L t xs)]=>En xs (tL E lv K f fi [.v (.nq true t [])]) fun xs=>tL E lv K f fi [.v (.nq false t xs)]
   |_=>none
  else tL E lv K f fi args
 |none=>E.ext f args
end
noncomputable def dl (E:dE):Nat→Lv E.sig
 |0=>fun _ _=>none
 |k+1=>fun f args=>call E (dl E k) k f args
noncomputable def bq (E:dE)(k:Nat)(fi:ce)(s:bg)(p:List Gj)(n:Nat)(S:St):Option s.den:=
 match at_ E (dl E k) k fi p fi.body (Ez E fi s) with
 |(.block id (.loop b),κ)=>qi fi.ntmps (fi.lcmds id) id (fun S κ=>ia E (dl E k) k fi b S κ) κ n S
 |_=>none
noncomputable def y9 (E:dE)(k:Nat)(fi:ce)(s:bg)(p:List Gj)(S:St):Option s.den:=
 let c:=at_ E (dl E k) k fi p fi.body (Ez E fi s)
 ia E (dl E k) k fi c.1 S c.2
def aT:aF:=fun _ x=>x
end Go.Proofs.YtjkokaockhecnaaGreatDoorA
