/- An abstract machine for the model's code: slices as lists, boxes with one owner, no heap. Definitions alone. -/
import Derived.Calls
import Derived.KernelRfl
namespace Go.Proofs.YtjkokaockhecnaaGreatDoorA
open Go
structure bc where
 kind:Int
 parent:Int
 null:Bool
 deriving DecidableEq
inductive hZ where
 |mk (layout offset length:Int) (valid ends data:List UInt8) (kids:List hZ)
def hZ.layout:hZ→Int|.mk a _ _ _ _ _ _=>a
def hZ.offset:hZ→Int|.mk _ a _ _ _ _ _=>a
def hZ.length:hZ→Int|.mk _ _ a _ _ _ _=>a
def hZ.valid:hZ→List UInt8|.mk _ _ _ a _ _ _=>a
def hZ.ends:hZ→List UInt8|.mk _ _ _ _ a _ _=>a
def hZ.data:hZ→List UInt8|.mk _ _ _ _ _ a _=>a
def hZ.kids:hZ→List hZ|.mk _ _ _ _ _ _ a=>a
structure Col where
 reps:List Int
 defs:List Int
 values:List (List UInt8)
structure OY where
 at_:Int
 size:Int
 rows:Int
 sum:Int
inductive El where
 |int (k:IntKind)|bool|str|list (e:El)|node|arr|col|blk
 deriving DecidableEq
abbrev El.den:El→Type
 |.int _=>Int
 |.bool=>Bool
 |.str=>List UInt8
 |.list e=>List e.den
 |.node=>bc
 |.arr=>hZ
 |.col=>Col
 |.blk=>OY
inductive AV where
 |und
 |bool (b:Bool)
 |int (k:IntKind) (n:Int)
 |str (s:List UInt8)
 |err (b:Bool)
 |nils
 |emp
 |L (t:El) (xs:List t.den)
 |al (s j:Nat)
 |ref (s off:Nat)
 |eref (s j sz i off:Nat)
 |bs (s n:Nat)
 |bref (s i:Nat)
 |bal (s i:Nat) (t:El) (xs:List t.den)
 |rm (t:El) (xs ys:List t.den)
 |als (s j sz lo n:Nat)
 |bad (s:Nat)
 |refT (s T:Nat)
 |fzs (e:Nat) (l:List Int)
 |vp (cs:List AV)
 |vi (cs:List AV)
 |nilp
 |optp (t:El) (x:Option t.den)
 |nq (nil:Bool) (t:El) (xs:List t.den)
 |agg (cs:List AV)
 |tup (vs:List AV)
 |fn (f:FuncId) (caps:List AV)
instance:Inhabited AV:=⟨.und⟩
def El.cells:(t:El)→t.den→List AV
 |.int k,n=>[.int k n]
 |.bool,b=>[.bool b]
 |.str,s=>[.str s]
 |.list e,xs=>[.L e xs]
 |.node,x=>[.int .i64 x.kind,.int .i64 x.parent,.bool x.null]
 |.arr,x=>[.int .i64 x.layout,.int .i64 x.offset,.int .i64 x.length,.str x.valid,.str x.ends,.str x.data,.L .arr x.kids]
 |.col,x=>[.L (.int .i64) x.reps,.L (.int .i64) x.defs,.L .str x.values]
 |.blk,x=>[.int .i64 x.at_,.int .i64 x.size,.int .i64 x.rows,.int .i64 x.sum]
def El.isList:El→Bool
 |.list _=>true
 |_=>false
def El.size:El→Nat
 |.node=>3|.arr=>7|.col=>3|.blk=>4|_=>1
def xC (t:El):AV→Option (List t.den)
 |.nils=>some []
 |.L u xs=>if h:u=t then some (h ▸ xs) else none
 |.nq _ u xs=>if h:u=t then some (h ▸ xs) else none
 |.bal _ _ u xs=>if h:u=t then some (h ▸ xs) else none
 |.rm u xs _=>if h:u=t then some (h ▸ xs) else none
 |_=>none
def El.ofCells:(t:El)→List AV→Option t.den
 |.int k,[.int k' n]=>if k=k' then some n else none
 |.bool,[.bool b]=>some b
 |.str,[.str s]=>some s
 |.list e,[x]=>xC e x
 |.node,[.int .i64 a,.int .i64 b,.bool c]=>some ⟨a,b,c⟩
 |.arr,[.int .i64 a,.int .i64 b,.int .i64 c,.str v,.str e,.str d,ks]=>(xC .arr ks).map (hZ.mk a b c v e d)
 |.col,[a,b,c]=>(xC (.int .i64) a).bind fun a=>(xC (.int .i64) b).bind fun b=>(xC .str c).map fun c=>⟨a,b,c⟩
 |.blk,[.int .i64 a,.int .i64 b,.int .i64 c,.int .i64 d]=>some ⟨a,b,c,d⟩
 |_,_=>none
inductive ax where
 |av (a:AV)
 |sl (t:El) (fz:Bool) (xs:List t.den)
structure am where
 box:Bool
 cs:List ax
structure St where
 tmps:List (Nat×AV)
 roots:List (Nat×am)
def look {α:Type}(k:Nat):List (Nat×α)→Option α
 |[]=>none
 |(i,a) :: l=>bif Nat.beq i k then some a else look k l
def rA {α:Type}(k:Nat):List (Nat×α)→List (Nat×α)
 |[]=>[]
 |(i,a) :: l=>bif Nat.beq i k then rA k l else (i,a) :: rA k l
def ox {α:Type}(k:Nat)(a:α)(l:List (Nat×α)):List (Nat×α):=(k,a) :: rA k l
def St.tmp (S:St)(t:Nat):AV:=match look t S.tmps with|some a=>a|none=>.und
def St.root (S:St)(s:Nat):Option am:=look s S.roots
def St.put (S:St)(t:Nat)(a:AV):St:={ S with tmps:=ox t a S.tmps }
def St.putO (S:St)(t:Option Nat)(a:AV):St:=match t with|some t=>S.put t a|none=>S
def St.setRoot (S:St)(s:Nat)(r:am):St:={ S with roots:=ox s r S.roots }
def St.cell (S:St)(s j:Nat):Option ax:=(S.root s).bind fun r=>r.cs[j]?
def St.setCell (S:St)(s j:Nat)(c:ax):St:=
 match S.root s with
 |some r=>S.setRoot s { r with cs:=r.cs.set j c }
 |none=>S
def cellAV (s j:Nat):ax→AV
 |.av a=>a
 |.sl ..=>.al s j
def AV.names (s:Nat):AV→Bool
 |.al s' _|.ref s' _|.eref s' _ _ _ _|.bs s' _|.bref s' _|.bal s' _ _ _|.als s' _ _ _ _|.bad s'|.refT s' _=>Nat.beq s' s
 |.vp cs|.vi cs|.agg cs|.tup cs|.fn _ cs=>namesL s cs
 |_=>false
 where namesL (s:Nat):List AV→Bool
 |[]=>false
 |a :: l=>AV.names s a||namesL s l
def AV.kill (s:Nat)(a:AV):AV:=bif a.names s then .und else a
def ax.kill (s:Nat):ax→ax
 |.av a=>.av (a.kill s)
 |c=>c
def Bo (s:Nat):List (Nat×AV)→List (Nat×AV)
 |[]=>[]
 |(i,a) :: l=>(i,a.kill s) :: Bo s l
def killC (s:Nat):List ax→List ax
 |[]=>[]
 |c :: l=>c.kill s :: killC s l
def BV (s:Nat):List (Nat×am)→List (Nat×am)
 |[]=>[]
 |(i,r) :: l=>(i,⟨r.box,killC s r.cs⟩) :: BV s l
def St.clear (S:St)(s:Nat):St:=⟨Bo s S.tmps,BV s (rA s S.roots)⟩
def AV.namesC (s j:Nat):AV→Bool
 |.al s' j'|.eref s' j' _ _ _|.als s' j' _ _ _=>Nat.beq s' s&&Nat.beq j' j
 |.bal s' _ _ _=>Nat.beq s' s
 |.vp cs|.vi cs|.agg cs|.tup cs|.fn _ cs=>namesCL s j cs
 |_=>false
 where namesCL (s j:Nat):List AV→Bool
 |[]=>false
 |a :: l=>AV.namesC s j a||namesCL s j l
def AV.killC (s j:Nat)(a:AV):AV:=bif a.namesC s j then .und else a
def ax.killC (s j:Nat):ax→ax
 |.av a=>.av (a.killC s j)
 |c=>c
def xx (s j:Nat):List (Nat×AV)→List (Nat×AV)
 |[]=>[]
 |(i,a) :: l=>(i,a.killC s j) :: xx s j l
def killCC (s j:Nat):List ax→List ax
 |[]=>[]
 |c :: l=>c.killC s j :: killCC s j l
def xm (s j:Nat):List (Nat×am)→List (Nat×am)
 |[]=>[]
 |(i,r) :: l=>(i,⟨r.box,killCC s j r.cs⟩) :: xm s j l
def St.clearC (S:St)(s j:Nat):St:=⟨xx s j S.tmps,xm s j S.roots⟩
def AV.namesB (s:Nat):AV→Bool
 |.al s' _|.eref s' _ _ _ _|.bal s' _ _ _|.als s' _ _ _ _=>Nat.beq s' s
 |.vp cs|.vi cs|.agg cs|.tup cs|.fn _ cs=>namesBL s cs
 |_=>false
 where namesBL (s:Nat):List AV→Bool
 |[]=>false
 |a :: l=>AV.namesB s a||namesBL s l
def AV.killB (s:Nat)(a:AV):AV:=bif a.namesB s then .und else a
def ax.killB (s:Nat):ax→ax
 |.av a=>.av (a.killB s)
 |c=>c
def xy (s:Nat):List (Nat×AV)→List (Nat×AV)
 |[]=>[]
 |(i,a) :: l=>(i,a.killB s) :: xy s l
def cM (s:Nat):List ax→List ax
 |[]=>[]
 |c :: l=>c.killB s :: cM s l
def xE (s:Nat):List (Nat×am)→List (Nat×am)
 |[]=>[]
 |(i,r) :: l=>(i,⟨r.box,cM s r.cs⟩) :: xE s l
def St.clearB (S:St):List Nat→St
 |[]=>S
 |s :: l=>St.clearB ⟨xy s S.tmps,xE s S.roots⟩ l
structure jJ where
 agg:Bool
 size:Nat
 bytes:Nat
 zero:List AV
 kind:Option IntKind
 str:Bool
 elem:Option El
 elemT:Nat
 ezero:List AV
 ebytes:Nat
 fields : List (Nat × Nat × Nat)     -- offset, size, type
 eqs : Bool                          -- a struct that is compared cell by cell
 isb : Bool                          -- a truth
 bld : Bool := false                 -- a strings.Builder
 ifc : Bool := false                 -- an interface
inductive LK where
 |bool|int (k:IntKind)|str|err|list (t:El)|own (t:El) (fz:Bool)|room (t:El)
inductive PK where
 |one (k:LK)
 |agg (ks:List LK)
 |ro (ks:List LK)
 |rw (ks:List LK)
 |fn
 |bw (T:Nat)
 |br (T e:Nat)
inductive RK where
 |one (k:LK)
 |agg (ks:List LK)
 |el (t:El)
 |ptr (t:El)
inductive md where
 |v (a:AV)
 |o (c:ax)
 |g (cs:List ax)
 |b (cs:List ax)
abbrev LK.den:LK→Type
 |.bool=>Bool
 |.int _=>Int
 |.str=>List UInt8
 |.err=>Bool
 |.list t=>List t.den
 |.own t _=>List t.den
 |.room t=>List t.den×List t.den
abbrev hJ.den:List LK→Type
 |[]=>Unit
 |[k]=>k.den
 |k :: ks=>k.den×hJ.den ks
abbrev RK.den:RK→Type
 |.one k=>k.den
 |.agg ks=>hJ.den ks
 |.el t=>t.den
 |.ptr t=>Option t.den
structure bR where
 res:List RK
 back:List (Nat×List LK)
def bR.lends (s:bR):Bool:=
 s.back.isEmpty&&s.res.all fun r=>match r with|.one .bool|.one (.int _)|.one .str=>true|_=>false
abbrev gg.den:List RK→Type
 |[]=>Unit
 |[k]=>k.den
 |k :: ks=>k.den×gg.den ks
abbrev em.den:List (Nat×List LK)→Type
 |[]=>Unit
 |[k]=>hJ.den k.2
 |k :: ks=>hJ.den k.2×em.den ks
abbrev bR.den:bR→Type
 |⟨rs,[]⟩=>gg.den rs
 |⟨[],bs⟩=>em.den bs
 |⟨rs,bs⟩=>gg.den rs×em.den bs
def LK.cell:(k:LK)→k.den→ax
 |.bool,b=>.av (.bool b)
 |.int k,n=>.av (.int k n)
 |.str,s=>.av (.str s)
 |.err,b=>.av (.err b)
 |.list t,xs=>.av (.L t xs)
 |.own t fz,xs=>.sl t fz xs
 |.room t,p=>.av (.rm t p.1 p.2)
def hJ.cells:(ks:List LK)→hJ.den ks→List ax
 |[],_=>[]
 |[k],x=>[k.cell x]
 |k :: k' :: ks,x=>k.cell x.1 :: hJ.cells (k' :: ks) x.2
def LK.ofCell:(k:LK)→ax→Option k.den
 |.bool,.av (.bool b)=>some b
 |.int k,.av (.int k' n)=>if k=k' then some n else none
 |.str,.av (.str s)=>some s
 |.err,.av (.err b)=>some b
 |.list t,.av a=>xC t a
 |.list t,.sl u true xs=>if h:u=t then some (h ▸ xs) else none
 |.own _ _,.av .nils=>some []
 |.own t fz,.sl u fz' xs=>if h:u=t then (bif fz==fz' then some (h ▸ xs) else none) else none
 |.room t,.av (.rm u xs ys)=>if h:u=t then some (h ▸ xs,h ▸ ys) else none
 |_,_=>none
def kz:Value→AV
 |.bool b=>.bool b
 |.int k n=>.int k n
 |.string s=>.str s.data.toList
 |.slice none 0 0=>.nils
 |.pointer none=>.nilp
 |_=>.und
def dV:List Value→List AV
 |[]=>[]
 |v :: l=>kz v :: dV l
def xN:Value→AV
 |.agg cs=>.agg (dV cs.toList)
 |v=>kz v
def St.ev (S:St):Operand→AV
 |.tmp t=>S.tmp t
 |.const v=>xN v
 |.func f=>.fn f []
 |.global _=>.und
def evL (S:St):List Operand→List AV
 |[]=>[]
 |x :: l=>S.ev x :: evL S l
def AV.leaves:AV→List AV
 |.agg cs=>cs
 |a=>[a]
def AV.isVal:AV→Bool
 |.und|.tup _=>false
 |_=>true
def AV.isCell:AV→Bool
 |.und|.tup _|.agg _=>false
 |_=>true
def vP (t:El):ax→Option (Bool×List t.den)
 |.sl u b xs=>if h:u=t then some (b,h ▸ xs) else none
 |.av _=>none
def fV:List AV→Bool
 |[]=>true
 |a :: l=>a.isCell&&fV l
def eG:AV→Nat
 |.int ..=>1
 |.bool _=>2
 |.str _=>3
 |_=>0
def iw:List AV→List AV→Bool
 |[],[]=>true
 |a :: l,b :: m=>Nat.beq (eG a) (eG b)&&iw l m
 |_,_=>false
def aB (op:BinOp)(k:IntKind)(x y:Int):Int:=
 let a:=BitVec.ofInt k.bits x
 let b:=BitVec.ofInt k.bits y
 k.wrap (match op with
  |.and=>a &&& b
  |.or=>a ||| b
  |.xor=>a ^^^ b
  |_=>a &&& ~~~b).toNat
def A0:AV→AV→Option Bool
 |.bool a,.bool b=>some (a==b)
 |.int k a,.int k' b=>if k=k' then some (a==b) else none
 |.str a,.str b=>some (a==b)
 |_,_=>none
def fR:List AV→List AV→Option Bool
 |[],[]=>some true
 |a :: l,b :: m=>(A0 a b).bind fun x=>(fR l m).map fun y=>x&&y
 |_,_=>none
section
variable {R:Type}
def AM (eqs isb isl isn:Bool)(op:BinOp)(x y:AV)(κ:AV→Option R):Option R:=
 match x,y with
 |.int k a,.int k' b=>
  match op with
  |.shl=>bif decide (b<0) then none else κ (.int k (k.wrap (a*2 ^ (min b.toNat k.bits))))
  |.shr=>bif decide (b<0) then none else κ (.int k (a.fdiv (2 ^ (min b.toNat k.bits))))
  |op=>
   if k=k' then
    match op with
    |.add=>κ (.int k (k.wrap (a+b)))
    |.sub=>κ (.int k (k.wrap (a - b)))
    |.mul=>κ (.int k (k.wrap (a*b)))
    |.quo=>bif b==0 then none else κ (.int k (k.wrap (a.tdiv b)))
    |.rem=>bif b==0 then none else κ (.int k (a.tmod b))
    |.and=>κ (.int k (aB .and k a b))
    |.or=>κ (.int k (aB .or k a b))
    |.xor=>κ (.int k (aB .xor k a b))
    |.andNot=>κ (.int k (aB .andNot k a b))
    |.eql=>κ (.bool (a==b))
    |.neq=>κ (.bool (a != b))
    |.lss=>κ (.bool (decide (a<b)))
    |.leq=>κ (.bool (decide (a≤b)))
    |.gtr=>κ (.bool (decide (a>b)))
    |.geq=>κ (.bool (decide (a≥b)))
    |_=>none
   else none
 |.str a,.str b=>
  match op with
  |.add=>bif decide (a.length+b.length≤9223372036854775807) then κ (.str (a++b)) else none
  |.eql=>κ (.bool (a==b))
  |.neq=>κ (.bool (a != b))
  |_=>none
 |.bool a,.bool b=>
  match op with
  |.eql=>bif isb then κ (.bool (a==b)) else none
  |.neq=>bif isb then κ (.bool (a != b)) else none
  |_=>none
 |.agg a,.agg b=>
  match op with
  |.eql=>bif eqs then (match fR a b with|some c=>κ (.bool c)|none=>none) else none
  |.neq=>bif eqs then (match fR a b with|some c=>κ (.bool (!c))|none=>none) else none
  |_=>none
 |.nq q _ _,.nils=>
  match op with
  |.eql=>bif isl then κ (.bool q) else none
  |.neq=>bif isl then κ (.bool (!q)) else none
  |_=>none
 |.err b,_=>
  match op with
  |.eql=>bif isn then κ (.bool (!b)) else none
  |.neq=>bif isn then κ (.bool b) else none
  |_=>none
 |_,_=>none
def xd:Operand→Bool
 |.const .nilIface=>true
 |_=>false
def LR (op:UnOp)(x:AV)(κ:AV→Option R):Option R:=
 match op,x with
 |.neg,.int k n=>κ (.int k (k.wrap (0 - n)))
 |.not,.bool b=>κ (.bool (!b))
 |.xor,.int k n=>κ (.int k (aB .xor k (bif k.signed then -1 else k.max) n))
 |_,_=>none
def rd {α:Type}(xs:List α)(i:Int):Option α:=bif decide (0≤i) then xs[i.toNat]? else none
def cG {α:Type}(l:List α)(off n:Nat):Option (List α):=
 bif Nat.ble (off+n) l.length then some ((l.drop off).take n) else none
def dm (s:Nat):Nat→List ax→List AV
 |_,[]=>[]
 |j,c :: l=>cellAV s j c :: dm s (j+1) l
def jV (S:St)(el:Option El)(a:AV)(n:Nat)(κ:List AV→Option R):Option R:=
 match a with
 |.ref s off=>
  match S.root s with
  |some ⟨true,cs⟩=>match cG (dm s 0 cs) off n with|some l=>κ l|none=>none
  |_=>none
 |.eref s j sz i off=>
  match S.cell s j with
  |some (.sl t _ xs)=>bif Nat.beq sz t.size then (xs[i]?).bind fun x=>match cG (t.cells x) off n with|some l=>κ l|none=>none else none
  |_=>none
 |.vp cs|.vi cs=>match cG cs 0 n with|some l=>κ l|none=>none
 |.bref s i=>
  match S.root s with
  |some ⟨true,cs⟩=>match el with|some t=>(bif Nat.beq n 1 then (cs[i]?).bind fun c=>(vP t c).bind fun p=>bif p.1 then κ [.bal s i t p.2] else none else none)|none=>none
  |_=>none
 |_=>none
def uD (agg:Bool)(l:List AV):Option AV:=
 match agg,l with
 |true,l=>some (.agg l)
 |false,[a]=>some a
 |_,_=>none
def ef (S:St)(t':El)(x:AV)(i:AV)(κ:AV→Option R):Option R:=
 match i with
 |.int _ i=>
  match x with
  |.L t xs=>if t=t' then (rd xs i).bind fun x=>κ (.vi (t.cells x)) else none
  |.rm t xs _=>if t=t' then (rd xs i).bind fun x=>κ (.vi (t.cells x)) else none
  |.al s j=>
   match S.cell s j with
   |some (.sl t true xs)=>if t=t' then (rd xs i).bind fun x=>κ (.vi (t.cells x)) else none
   |some (.sl t false xs)=>if t=t' then (bif decide (0≤i)&&decide (i<(xs.length:Int)) then κ (.eref s j t.size i.toNat 0) else none) else none
   |_=>none
  |.bs s n=>bif t'.isList then (bif decide (0≤i)&&decide (i<(n:Int)) then κ (.bref s i.toNat) else none) else none
  |_=>none
 |_=>none
def va (S:St)(ty:Option jJ)(x:AV)(κ:AV→Option R):Option R:=
 match ty with
 |some ty=>
  match x with
  |.str s=>bif ty.str then κ (.int .i64 (s.length:Int)) else none
  |.L _ xs=>bif ty.elem.isSome then κ (.int .i64 (xs.length:Int)) else none
  |.rm _ xs _=>bif ty.elem.isSome then κ (.int .i64 (xs.length:Int)) else none
  |.nils=>bif ty.elem.isSome then κ (.int .i64 0) else none
  |.al s j=>
   match S.cell s j with
   |some (.sl _ _ xs)=>bif ty.elem.isSome then κ (.int .i64 (xs.length:Int)) else none
   |_=>none
  |.bs _ n=>bif ty.elem.isSome then κ (.int .i64 (n:Int)) else none
  |.bal _ _ _ xs=>bif ty.elem.isSome then κ (.int .i64 (xs.length:Int)) else none
  |_=>none
 |none=>none
def iD (S:St)(t:El)(x:AV):Option (List t.den):=
 match x with
 |.al s j=>
  match S.cell s j with
  |some (.sl u _ xs)=>if h:u=t then some (h ▸ xs) else none
  |_=>none
 |.als s j sz lo n=>
  match S.cell s j with
  |some (.sl u _ xs)=>bif Nat.beq sz t.size&&Nat.ble (lo+n) xs.length then (if h:u=t then some (((h ▸ xs:List t.den).drop lo).take n) else none) else none
  |_=>none
 |x=>xC t x
def tR (S:St):AV→AV
 |.al s j=>(match S.cell s j with|some (.sl t true xs)=>.L t xs|_=>.al s j)
 |a=>a
def lP (S:St):AV→AV
 |.agg l=>.agg (l.map (tR S))
 |a=>tR S a
def bE (s:List UInt8):List Int:=s.map fun b=>(b.toNat:Int)
def ag (l:List Int):List UInt8:=l.map fun n=>UInt8.ofNat n.toNat
def dq (S:St)(o:Option Operand)(y:Nat)(dflt:Nat)(κ:Nat→Option R):Option R:=
 match o with
 |none=>κ dflt
 |some x=>
  match S.ev x with
  |.int _ i=>bif decide (0≤i)&&decide (i≤(y:Int)) then κ i.toNat else none
  |_=>none
def np (E:TypeId→Option jJ)(T f:Nat):Option (Nat×Nat×Nat):=(E T).bind fun i=>i.fields[f]?
def sP (a:AV)(n:Nat):Option AV:=
 match a with
 |.ref s off=>some (.ref s (off+n))
 |.eref s j sz i off=>some (.eref s j sz i (off+n))
 |.vp cs=>some (.vp (cs.drop n))
 |.vi cs=>some (.vi (cs.drop n))
 |_=>none
def setRange {α:Type}(l:List α)(off:Nat)(new:List α):List α:=l.take off++new++l.drop (off+new.length)
def db (l:List AV):List ax:=l.map .av
def gU (E:TypeId→Option jJ)(fields:List (Nat×Nat×Nat)):List (Nat×AV)→List AV→Option (List AV)
 |[],cs=>some cs
 |(i,a) :: rest,cs=>
  match fields[i]? with
  |some (off,size,_)=>bif a.isVal&&(Nat.beq a.leaves.length size&&Nat.ble (off+size) cs.length) then gU E fields rest (setRange cs off a.leaves) else none
  |none=>none
def kQ (t:El):Nat→List (Nat×AV)→Option (List t.den)
 |_,[]=>some []
 |n,(i,a) :: rest=>bif Nat.beq i n then (t.ofCells a.leaves).bind fun x=>(kQ t (n+1) rest).map fun l=>x :: l else none
def dk (E:TypeId→Option jJ)(o:Oper)(S:St)(κ:AV→Option am→Option R):Option R:=
 let d:=match o.dst with|some d=>d|none=>0
 match o.op with
 |.move x|.assign x=>κ (S.ev x) none
 |.pick c a b=>match S.ev c with|.bool t=>bif t then κ (S.ev a) none else κ (S.ev b) none|_=>none
 |.nilCheck x=>match S.ev x with|.ref s f=>κ (.ref s f) none|.vp cs=>κ (.vp cs) none|.vi cs=>κ (.vi cs) none|.eref s j sz i f=>κ (.eref s j sz i f) none|.optp t x=>(match x with|some x=>κ (.vi (t.cells x)) none|none=>none)|_=>none
 |.binOp op T x y _=>AM (match E T with|some i=>i.eqs&&iw (S.ev x).leaves i.zero|none=>false) (match E T with|some i=>i.isb|none=>false) (match E T with|some i=>i.elem.isSome|none=>false) ((match E T with|some i=>i.ifc|none=>false)&&xd y) op (S.ev x) (S.ev y) fun a=>κ a none
 |.unOp op _ x=>LR op (S.ev x) fun a=>κ a none
 |.extract t i=>
  match S.ev t with
  |.tup vs=>(match vs[i]? with|some a=>κ a none|none=>none)
  |_=>none
 |.alloc T=>match E T with|some i=>κ (bif i.bld then .refT d T else .ref d 0) (some ⟨true,db i.zero⟩)|none=>none
 |.box _ x=>bif (S.ev x).isVal then κ (.ref d 0) (some ⟨true,db (S.ev x).leaves⟩) else none
 |.load T a=>
  match E T with
  |some i=>jV S i.elem (S.ev a) i.size fun l=>(match uD i.agg l with|some v=>κ v none|none=>none)
  |none=>none
 |.fieldAddr T x f=>
  match np E T f with
  |some (off,_,_)=>(match sP (S.ev x) off with|some a=>κ a none|none=>none)
  |none=>none
 |.field T x f=>
  match S.ev x,np E T f with
  |.agg cs,some (off,n,U)=>
   (match cG cs off n with
   |some l=>(match E U with|some j=>(match uD j.agg l with|some v=>κ v none|none=>none)|none=>none)
   |none=>none)
  |_,_=>none
 |.indexAddr T x i=>match (E T).bind (·.elem) with|some t=>ef S t (S.ev x) (S.ev i) fun a=>κ a none|none=>none
 |.index T x i=>
  match E T,S.ev x,S.ev i with
  |some ty,.str s,.int _ i=>bif ty.str then (rd s i).bind fun b=>κ (.int .u8 (b.toNat:Int)) none else none
  |_,_,_=>none
 |.slice T x lo hi none=>
  match E T with
  |some ty=>
   match S.ev x with
   |.str s=>bif ty.str then dq S hi s.length s.length fun h=>dq S lo h 0 fun l=>κ (.str ((s.take h).drop l)) none else none
   |.L t xs=>if ty.elem=some t then dq S hi xs.length xs.length fun h=>dq S lo h 0 fun l=>κ (.L t ((xs.take h).drop l)) none else none
   |.al s j=>
    match S.cell s j with
    |some (.sl t true xs)=>if ty.elem=some t then dq S hi xs.length xs.length fun h=>dq S lo h 0 fun l=>κ (bif lo.isNone&&hi.isSome then .rm t (xs.take h) (xs.drop h) else .L t ((xs.take h).drop l)) none else none
    |some (.sl t false xs)=>if ty.elem=some t then dq S hi xs.length xs.length fun h=>dq S lo h 0 fun l=>κ (.als s j t.size l (h - l)) none else none
    |_=>none
   |.rm t xs ys=>if ty.elem=some t then dq S hi (xs++ys).length xs.length fun h=>dq S lo h 0 fun l=>κ (.L t (((xs++ys).take h).drop l)) none else none
   |_=>none
  |none=>none
 |.convert src dst x=>
  match E src,E dst with
  |some i,some j=>
   match S.ev x,j.kind with
   |.int _ n,some k=>κ (.int k (k.wrap n)) none
   |.int _ _,none=>none
   |.str s,_=>bif j.str then κ (.str s) none else none
   |a,_=>
    bif j.str then
     match i.elem with
     |some (.int .u8)=>(match iD S (.int .u8) a with|some l=>κ (.str (ag l)) none|none=>none)
     |_=>none
    else none
  |_,_=>none
 |.build T parts=>
  match E T with
  |some i=>bif i.fields.isEmpty then none else (match gU E i.fields (parts.toList.map fun p=>(p.1,S.ev p.2)) i.zero with|some cs=>κ (.agg cs) none|none=>none)
  |none=>none
 |.buildSlice T n parts=>
  match E T with
  |some i=>
   match i.elem with
   |some t=>
    match kQ t 0 (parts.toList.map fun p=>(p.1,lP S (S.ev p.2))) with
    |some l=>bif Nat.beq l.length n&&Nat.ble (n*t.size) 16777216 then κ (.al d 0) (some ⟨false,[.sl t false l]⟩) else none
    |none=>none
   |none=>none
  |none=>none
 |.makeSlice T l c=>
  match E T,S.ev l,S.ev c with
  |some i,.int _ n,.int _ m=>
   match i.elem with
   |some (.list e)=>
    match i.ezero with
    |[.nils]=>bif n==m&&(decide (0≤n)&&decide (n*(i.ebytes:Int)≤140737488355328)) then κ (.bs d n.toNat) (some ⟨true,List.replicate n.toNat (.sl e true [])⟩) else none
    |_=>none
   |some t=>
    match t.ofCells i.ezero with
    |some x=>bif n==m&&(decide (0≤n)&&decide (n*(i.ebytes:Int)≤140737488355328)) then κ (.al d 0) (some ⟨false,[.sl t false (List.replicate n.toNat x)]⟩) else none
    |none=>none
   |none=>none
  |_,_,_=>none
 |.makeFunc (.func f) first captured=>bif first.isEmpty then κ (.fn f (evL S captured.toList)) none else none
 |.call c=>
  match c.callee with
  |.builtin .len=>(match c.args.toList,c.argTypes.toList with|[x],[T]=>va S (E T) (S.ev x) fun a=>κ a none|_,_=>none)
  |.builtin .max=>
   match evL S c.args.toList with
   |[.int k a,.int k' b]=>if k=k' then κ (.int k (bif decide (b>a) then b else a)) none else none
   |[.int k a,.int k' b,.int k'' e]=>if k=k' then if k=k'' then κ (.int k (let m:=bif decide (b>a) then b else a;bif decide (e>m) then e else m)) none else none else none
   |_=>none
  |.builtin .min=>
   match evL S c.args.toList with
   |[.int k a,.int k' b]=>if k=k' then κ (.int k (bif decide (b<a) then b else a)) none else none
   |_=>none
  |_=>none
 |_=>none
def vc (s:Nat):AV→Bool
 |.nilp=>true
 |.bad s'=>Nat.beq s' s
 |.ref s' o=>Nat.beq s' s&&Nat.beq o 0
 |_=>false
inductive DF where
 |keep (ss:List Nat)
 |keepR (ss:List Nat)
 |own (v:Nat) (t:El) (fz:Bool)
 |view (v:Nat) (t:El)
 |cell (s j:Nat) (t:El) (fz:Bool)
 |froze (s j:Nat)
 |cellv (s j:Nat) (t:El)
 |bself (s:Nat)
def lK {α:Type}(ss:List Nat)(l:List (Nat×α)):List (Nat×α):=
 match ss with
 |[]=>[]
 |s :: ss=>match look s l with|some a=>(s,a) :: lK ss l|none=>lK ss l
def oh (n:Nat)(S:St):DF→Option St
 |.keep ss=>some { S with tmps:=lK ss S.tmps }
 |.keepR ss=>some { S with roots:=lK ss S.roots }
 |.own v t fz=>
  bif !Nat.blt v n then none else
  match S.tmp v with
  |.nils=>some (((S.clear (2000+v)).setRoot (2000+v) ⟨false,[.sl t fz []]⟩).put v (.al (2000+v) 0))
  |.al s j=>
   match S.cell s j with
   |some (.sl u fz' xs)=>
    if u=t then
     bif fz||!fz' then
      bif Nat.beq s (2000+v) then bif Nat.beq j 0 then some ((S.setRoot (2000+v) ⟨false,[.sl u fz xs]⟩).put v (.al (2000+v) 0)) else none
      else some ((((S.setCell s j (.av .und)).clear (2000+v)).setRoot (2000+v) ⟨false,[.sl u fz xs]⟩).put v (.al (2000+v) 0))
     else none
    else none
   |_=>none
  |_=>none
 |.view v t=>
  match S.tmp v with
  |.nils=>some (S.put v (.L t []))
  |.L u xs=>some (S.put v (.L u xs))
  |.rm u xs _=>some (S.put v (.L u xs))
  |.al s j=>
   match S.cell s j with
   |some (.sl u _ xs)=>some ((S.setCell s j (.sl u true xs)).put v (.L u xs))
   |_=>none
  |_=>none
 |.cell s j t fz=>
  match S.cell s j with
  |some (.sl u fz' xs)=>if u=t then (bif fz||!fz' then some (S.setCell s j (.sl u fz xs)) else none) else none
  |some (.av .nils)=>some ((S.clearC s j).setCell s j (.sl t fz []))
  |some (.av (.al s' j'))=>
   match S.cell s' j' with
   |some (.sl u fz' xs)=>if u=t then (bif fz||!fz' then some (((S.setCell s' j' (.av .und)).clearC s j).setCell s j (.sl u fz xs)) else none) else none
   |_=>none
  |_=>none
 |.froze s j=>
  match S.cell s j with
  |some (.sl t _ xs)=>some (S.setCell s j (.sl t true xs))
  |_=>none
 |.cellv s j t=>
  match S.cell s j with
  |some (.sl t _ xs)=>some ((S.setCell s j (.sl t true xs)).setCell s j (.av (.L t xs)))
  |some (.av (.L _ _))=>some S
  |some (.av .nils)=>some (S.setCell s j (.av (.L t [])))
  |some (.av (.al s' j'))=>
   match S.cell s' j' with
   |some (.sl t _ xs)=>some ((S.setCell s' j' (.sl t true xs)).setCell s j (.av (.L t xs)))
   |_=>none
  |_=>none
 |.bself s=>
  match S.root s with
  |some ⟨true,.av a :: cs⟩=>bif vc s a then some (S.setRoot s ⟨true,.av (.bad s) :: cs⟩) else none
  |_=>none
def lg (n:Nat)(S:St):List DF→Option St
 |[]=>some S
 |c :: l=>match oh n S c with|some S=>lg n S l|none=>none
def PK.quiet:PK→Bool
 |.one (.own ..)=>false
 |.bw _|.br _ _=>false
 |.rw _=>false
 |.agg ks=>ks.all fun k=>match k with|.own ..=>false|_=>true
 |_=>true
def iy (lend:Bool)(S:St):LK→AV→Option AV
 |.bool,.bool b=>some (.bool b)
 |.int k,.int k' n=>if k=k' then some (.int k n) else none
 |.str,.str s=>some (.str s)
 |.err,.err b=>some (.err b)
 |.list t,.al s j=>
  match S.cell s j with
  |some (.sl u fz xs)=>bif fz||lend then (if h:u=t then some (.L t (h ▸ xs)) else none) else none
  |_=>none
 |.list t,a=>(xC t a).map (.L t)
 |.room t,.rm u xs ys=>if u=t then some (.rm u xs ys) else none
 |_,_=>none
def cf (lend:Bool)(S:St):List LK→List AV→Option (List AV)
 |[],[]=>some []
 |k :: ks,a :: l=>(iy lend S k a).bind fun b=>(cf lend S ks l).map fun m=>b :: m
 |_,_=>none
def GF (lend:Bool)(S:St)(ks:List LK):AV→Option AV
 |.ref s off=>
  match S.root s with
  |some ⟨true,cs⟩=>(cG (dm s 0 cs) off ks.length).bind fun l=>(cf lend S ks l).map .vp
  |_=>none
 |.vp cs|.vi cs=>(cG cs 0 ks.length).bind fun l=>(cf lend S ks l).map .vp
 |_=>none
def sn (lend:Bool)(S:St):AV→Option AV
 |.al s j=>
  match S.cell s j with
  |some (.sl u fz xs)=>bif fz||lend then some (.L u xs) else none
  |_=>none
 |.bool b=>some (.bool b)
 |.int k n=>some (.int k n)
 |.str s=>some (.str s)
 |.L t xs=>some (.L t xs)
 |.nils=>some .nils
 |.nilp=>some .nilp
 |_=>none
def fb (lend:Bool)(S:St):List AV→Option (List AV)
 |[]=>some []
 |a :: l=>(sn lend S a).bind fun b=>(fb lend S l).map fun m=>b :: m
def uK (lend:Bool)(S:St):AV→Option AV
 |.ref s off=>
  match S.root s with
  |some ⟨true,cs⟩=>(fb lend S ((dm s 0 cs).drop off)).map .vp
  |_=>none
 |.vp cs|.vi cs=>(fb lend S cs).map .vp
 |_=>none
def oq (lend:Bool)(S:St):List AV→Option (List AV)
 |[]=>some []
 |a :: l=>(uK lend S a).bind fun b=>(oq lend S l).map fun m=>b :: m
def tO (lend:Bool)(S:St):PK→AV→Option md
 |.one k,a=>(iy lend S k a).map .v
 |.agg ks,.agg cs=>(cf lend S ks cs).map fun l=>.v (.agg l)
 |.ro ks,a=>(GF lend S ks a).map .v
 |.fn,.fn f caps=>(oq lend S caps).map fun l=>.v (.fn f l)
 |_,_=>none
def lL (lend:Bool)(S:St):List PK→List AV→Option (List md)
 |[],[]=>some []
 |k :: ks,a :: l=>(tO lend S k a).bind fun b=>(lL lend S ks l).map fun m=>b :: m
 |_,_=>none
structure iU where
 box:Option Nat
 srcs:List (Option (Nat×Nat))
def jx (S:St):LK→AV→Option (ax×Option (Nat×Nat))
 |.own t fz,.nils=>some (.sl t fz [],none)
 |.own t fz,.al s j=>
  match S.cell s j with
  |some (.sl u fz' xs)=>if u=t then (bif fz==fz' then some (.sl u fz' xs,some (s,j)) else none) else none
  |_=>none
 |k,a=>(iy false S k a).map fun b=>(.av b,none)
def fH (S:St):List LK→List AV→Option (List ax×List (Option (Nat×Nat)))
 |[],[]=>some ([],[])
 |k :: ks,a :: l=>(jx S k a).bind fun p=>(fH S ks l).map fun q=>(p.1 :: q.1,p.2 :: q.2)
 |_,_=>none
def ba (S:St)(s:Nat):Nat→List LK→List ax→Option (List ax×List (Option (Nat×Nat)))
 |_,[],[]=>some ([],[])
 |j,k :: ks,.av a :: l=>(jx S k a).bind fun p=>(ba S s (j+1) ks l).map fun q=>(p.1 :: q.1,p.2 :: q.2)
 |j,.own t fz :: ks,.sl u fz' xs :: l=>if u=t then (bif fz==fz' then (ba S s (j+1) ks l).map fun q=>(.sl u fz' xs :: q.1,some (s,j) :: q.2) else none) else none
 |j,.list t :: ks,.sl u true xs :: l=>if h:u=t then (ba S s (j+1) ks l).map fun q=>(.av (.L t (h ▸ xs)) :: q.1,none :: q.2) else none
 |_,_,_=>none
def uw (lend:Bool)(S S':St)(k:PK)(a:AV):Option (md×iU):=
 bif k.quiet then (tO lend S' k a).map fun b=>(b,⟨none,[]⟩) else
 match k,a with
 |.one k,a=>(jx S k a).map fun p=>(.o p.1,⟨none,[p.2]⟩)
 |.agg ks,.agg cs=>(fH S ks cs).map fun p=>(.g p.1,⟨none,p.2⟩)
 |.rw ks,.ref s 0=>
  match S.root s with
  |some ⟨true,cs⟩=>(ba S s 0 ks cs).map fun p=>(.b p.1,⟨some s,p.2⟩)
  |_=>none
 |_,_=>none
def fg (lend:Bool)(S S':St):List PK→List AV→Option (List md×List iU)
 |[],[]=>some ([],[])
 |k :: ks,a :: l=>(uw lend S S' k a).bind fun p=>(fg lend S S' ks l).map fun q=>(p.1 :: q.1,p.2 :: q.2)
 |_,_=>none
def sR:LK→AV→List (Nat×Nat)
 |.own _ true,.al s j=>[(s,j)]
 |_,_=>[]
def jh:List LK→List AV→List (Nat×Nat)
 |k :: ks,a :: l=>sR k a++jh ks l
 |_,_=>[]
def lu (s:Nat):Nat→List LK→List ax→List (Nat×Nat)
 |j,k :: ks,.av a :: l=>sR k a++lu s (j+1) ks l
 |j,.own _ true :: ks,.sl .. :: l=>(s,j) :: lu s (j+1) ks l
 |j,_ :: ks,_ :: l=>lu s (j+1) ks l
 |_,_,_=>[]
def qq (S:St):PK→AV→List (Nat×Nat)
 |.one k,a=>sR k a
 |.agg ks,.agg cs=>jh ks cs
 |.rw ks,.ref s 0=>match S.root s with|some r=>lu s 0 ks r.cs|none=>[]
 |_,_=>[]
def fk (S:St):List PK→List AV→List (Nat×Nat)
 |k :: ks,a :: l=>qq S k a++fk S ks l
 |_,_=>[]
def frzAt (S:St)(s j:Nat):St:=
 match S.cell s j with
 |some (.sl t false xs)=>S.setCell s j (.sl t true xs)
 |_=>S
def frzAll (S:St):List (Nat×Nat)→St
 |[]=>S
 |p :: l=>frzAll (frzAt S p.1 p.2) l
def cL:List PK→List AV→List Nat
 |.rw _ :: ks,.ref s 0 :: l=>s :: cL ks l
 |_ :: ks,_ :: l=>cL ks l
 |_,_=>[]
def eL {α:Type}(ss:List Nat)(l:List (Nat×α)):List (Nat×α):=
 match ss with
 |[]=>l
 |s :: ss=>eL ss (rA s l)
def gv (S:St):List (Nat×Nat)→St
 |[]=>S
 |p :: l=>gv (S.setCell p.1 p.2 (.av .und)) l
def fK:List iU→List (Nat×Nat)
 |[]=>[]
 |o :: l=>o.srcs.filterMap id++fK l
def bM:List iU→List Nat
 |[]=>[]
 |o :: l=>match o.box with|some s=>s :: bM l|none=>bM l
def qK:List Nat→Bool
 |[]=>true
 |n :: l=>l.all (fun m=>!Nat.beq m n)&&qK l
def GY (p:Nat×Nat):List (Nat×Nat)→Bool
 |[]=>false
 |q :: l=>(Nat.beq q.1 p.1&&Nat.beq q.2 p.2)||GY p l
def mR:List (Nat×Nat)→Bool
 |[]=>true
 |p :: l=>!GY p l&&mR l
def eR:List ax→Bool
 |[]=>false
 |.sl .. :: _=>true
 |_ :: l=>eR l
def MC (t:El)(x:t.den):AV:=
 match t with
 |.int k=>.int k x
 |.bool=>.bool x
 |.str=>.str x
 |.list e=>.L e x
 |t=>.agg (t.cells x)
def RK.inj (d j:Nat):(k:RK)→k.den→AV×List ax
 |.one k,x=>(cellAV d j (k.cell x),[k.cell x])
 |.agg ks,x=>(.agg (dm d j (hJ.cells ks x)),hJ.cells ks x)
 |.el t,x=>(MC t x,[])
 |.ptr t,x=>(.optp t x,[])
def gg.inj (d:Nat):(j:Nat)→(ks:List RK)→gg.den ks→List AV×List ax
 |_,[],_=>([],[])
 |j,[k],x=>let (a,l):=k.inj d j x;([a],l)
 |j,k :: k' :: ks,x=>
  let (a,l):=k.inj d j x.1
  let (as,m):=gg.inj d (j+l.length) (k' :: ks) x.2
  (a :: as,l++m)
def pK:List AV→AV
 |[a]=>a
 |l=>.tup l
def bR.res1:(s:bR)→s.den→gg.den s.res
 |⟨_,[]⟩,x=>x
 |⟨[],_ :: _⟩,_=>()
 |⟨_ :: _,_ :: _⟩,x=>x.1
def bR.back1:(s:bR)→s.den→em.den s.back
 |⟨_,[]⟩,_=>()
 |⟨[],_ :: _⟩,x=>x
 |⟨_ :: _,_ :: _⟩,x=>x.2
def em.cells:(bs:List (Nat×List LK))→em.den bs→List (Nat×List ax)
 |[],_=>[]
 |[(i,ks)],x=>[(i,hJ.cells ks x)]
 |(i,ks) :: b :: bs,x=>(i,hJ.cells ks x.1) :: em.cells (b :: bs) x.2
def d6 (S:St)(os:List iU):List (Nat×List ax)→Option St
 |[]=>some S
 |(i,cs) :: l=>
  match os[i]? with
  |some ⟨some s,_⟩=>d6 (S.setRoot s ⟨true,cs⟩) os l
  |_=>none
structure cj where
 ntmps:Nat
 body:Code
 results:List ResultVar
 cmdsL:List (Nat×List DF)
 lcmdsL:List (Nat×List DF)
 jcmdsL:List (Nat×List DF)
 frzL:List Nat
 split:Bool
def cj.cmds (f:cj)(i:Nat):List DF:=match look i f.cmdsL with|some l=>l|none=>[]
def cj.lcmds (f:cj)(i:Nat):List DF:=match look i f.lcmdsL with|some l=>l|none=>[]
def cj.jcmds (f:cj)(i:Nat):Option (List DF):=look i f.jcmdsL
def qR (n:Nat):List Nat→Bool
 |[]=>false
 |m :: l=>Nat.beq m n||qR n l
def cj.frz (f:cj)(i:Nat):Bool:=qR i f.frzL
def iV (b:Bool):List ax→List ax
 |[]=>[]
 |.sl t fz xs :: l=>.sl t (b||fz) xs :: iV b l
 |c :: l=>c :: iV b l
inductive Ex where
 |normal|exit (id:Nat)|ret
structure fA where
 fn:FuncId→Option cj
 ty:TypeId→Option jJ
 pks:FuncId→List PK
 sig:FuncId→bR
 ext:(f:FuncId)→List md→Option (sig f).den
 bar:(R:Type)→Option R→Option R
abbrev aD:=(R:Type)→Option R→Option R
abbrev Lv (sig:FuncId→bR):=(f:FuncId)→List md→Option (sig f).den
def dK (S:St)(c:Call):Option (FuncId×List AV):=
 match c.callee with
 |.value x=>match S.ev x with|.fn f caps=>some (f,evL S c.args.toList++caps)|_=>none
 |_=>none
def jH (S:St)(a:AV)(l:List AV)(κ:List (Nat×am)→List Nat→Option R):Option R:=
 match a with
 |.ref s off=>
  match S.root s with
  |some ⟨true,cs⟩=>bif Nat.ble (off+l.length) cs.length then κ (ox s ⟨true,setRange cs off (db l)⟩ S.roots) [] else none
  |_=>none
 |.eref s j sz i off=>
  match S.cell s j with
  |some (.sl t false xs)=>bif Nat.beq sz t.size then (xs[i]?).bind fun x=>
   match t.ofCells (setRange (t.cells x) off l) with
   |some y=>bif Nat.ble (off+l.length) t.size then κ (S.setCell s j (.sl t false (xs.set i y))).roots [] else none
   |none=>none
   else none
  |_=>none
 |.bref s i=>
  match l with
  |[.al s' j']=>
   match S.root s with
   |some ⟨true,cs⟩=>
    match S.cell s' j' with
    |some (.sl u _ ys)=>bif Nat.beq s' s then none else bif Nat.blt i cs.length then κ ((S.setCell s' j' (.av .und)).setCell s i (.sl u true ys)).roots [s] else none
    |_=>none
   |_=>none
  |_=>none
 |_=>none
def BZ:ax→Option (List Int)
 |.av .nils=>some []
 |.sl (.int .u8) false xs=>some xs
 |_=>none
def IM (S:St)(s:Nat)(x:List UInt8)(κ:List (Nat×am)→Option R):Option R:=
 match S.root s with
 |some ⟨true,[.av a,c]⟩=>
  bif vc s a then
   match BZ c with
   |some xs=>bif decide (xs.length+x.length≤140737488355328) then κ (ox s ⟨true,[.av (.bad s),.sl (.int .u8) false (xs++bE x)]⟩ S.roots) else none
   |none=>none
  else none
 |_=>none
def Ho (S:St)(s e:Nat)(κ:AV→List (Nat×am)→Option R):Option R:=
 match S.root s with
 |some ⟨true,[.av a,c]⟩=>
  match c with
  |.av (.fzs e' l)=>bif Nat.beq e' e then κ (.str (ag l)) (ox s ⟨true,[.av a,.av (.fzs e l)]⟩ S.roots) else none
  |_=>(match BZ c with|some xs=>κ (.str (ag xs)) (ox s ⟨true,[.av a,.av (.fzs e xs)]⟩ S.roots)|none=>none)
 |_=>none
def lQ (S:St)(s j lo n:Nat)(t':El)(x:AV)(κ:AV→List (Nat×am)→Option R):Option R:=
 match S.cell s j with
 |some (.sl t false xs)=>
  if t=t' then
   bif Nat.beq t.size 1&&Nat.ble (lo+n) xs.length then
    match iD S t x with
    |some ys=>κ (.int .i64 ((min ys.length n:Nat):Int)) (S.setCell s j (.sl t false (xs.take lo++ys.take n++xs.drop (lo+min ys.length n)))).roots
    |none=>none
   else none
  else none
 |_=>none
def kF (sig:FuncId→bR)(pks:FuncId→List PK)(lv:Lv sig)(d:Nat)(S:St)(f:FuncId)(as:List AV)(κ:AV→Option am→List (Nat×am)→List Nat→Option R):Option R:=
 let S1:=frzAll S (fk S (pks f) as)
 let bs:=cL (pks f) as
 let S2:St:=⟨S1.tmps,eL bs S1.roots⟩
 match fg false S1 S2 (pks f) as with
 |some (args,os)=>
  bif qK (bM os)&&mR (fK os) then
   (lv f args).bind fun r=>
    match d6 (gv S2 (fK os)) os (em.cells (sig f).back (bR.back1 (sig f) r)) with
    |some S''=>
     let p:=gg.inj d 0 (sig f).res (bR.res1 (sig f) r)
     κ (pK p.1) (bif eR p.2 then some ⟨false,p.2⟩ else none) S''.roots (bM os)
    |none=>none
  else none
 |none=>none
def kN (E:fA)(lv:Lv E.sig)(o:Oper)(S:St)(κ:AV→Option am→List (Nat×am)→List Nat→Option R):Option R:=
 let d:=match o.dst with|some d=>d|none=>0
 match o.op with
 |.store T a x=>
  match E.ty T with
  |some i=>bif Nat.beq (S.ev x).leaves.length i.size&&fV (S.ev x).leaves then jH S (S.ev a) (S.ev x).leaves (κ .und none) else none
  |none=>none
 |.call c=>
  match c.callee with
  |.builtin .append=>
   match c.args.toList,c.argTypes.toList with
   |[b,x],[T,T']=>
    match bif Nat.beq T T' then E.ty T else none with
    |some i=>
     match i.elem with
     |some t=>
      match iD S t (S.ev x) with
      |some ys=>
       match S.ev b with
       |.nils=>bif decide (ys.length*i.ebytes≤140737488355328) then κ (.al d 0) (some ⟨false,[.sl t false ys]⟩) S.roots [] else none
       |.emp=>bif decide (ys.length*i.ebytes≤140737488355328) then κ (.L t ys) none S.roots [] else none
       |.al s j=>
        match S.cell s j with
        |some (.sl u b xs)=>
         if h:u=t then
          bif decide ((xs.length+ys.length)*i.ebytes≤140737488355328) then
           κ (.al d 0) (some ⟨false,[.sl t b ((h ▸ xs)++ys)]⟩) (S.setCell s j (.av .und)).roots []
          else none
         else none
        |_=>none
       |.bal s j _ _=>
        (S.cell s j).bind fun c=>(vP t c).bind fun p=>
         bif decide ((p.2.length+ys.length)*i.ebytes≤140737488355328) then
          κ (.al d 0) (some ⟨false,[.sl t p.1 (p.2++ys)]⟩) (S.setCell s j (.av .und)).roots []
         else none
       |_=>none
      |none=>none
     |none=>none
    |none=>none
   |_,_=>none
  |.builtin .copy=>
   match c.args.toList,c.argTypes.toList with
   |[b,x],[T,T']=>
    match (bif Nat.beq T T' then E.ty T else none).bind (·.elem) with
    |some t=>
     match S.ev b with
     |.als s j sz lo n=>bif Nat.beq sz t.size then lQ S s j lo n t (S.ev x) fun a rs=>κ a none rs [] else none
     |.al s j=>(match S.cell s j with|some (.sl _ _ xs)=>lQ S s j 0 xs.length t (S.ev x) fun a rs=>κ a none rs []|_=>none)
     |_=>none
    |none=>none
   |_,_=>none
  |.value _=>
   match dK S c with
   |some (f,as)=>
    match E.pks f,as with
    |[.bw T,.one .str],[.refT s T',.str x]=>bif Nat.beq T' T then IM S s x fun rs=>κ .und none rs [s] else none
    |[.br T e],[.refT s T']=>bif Nat.beq T' T then Ho S s e fun a rs=>κ a none rs [s] else none
    |_,_=>kF E.sig E.pks lv d S f as κ
   |none=>none
  |_=>none
 |_=>none
def stepC (E:fA)(lv:Lv E.sig)(o:Oper)(c:Call)(S:St)(κ:AV→Option am→Option R):Option R:=
 let d:=match o.dst with|some d=>d|none=>0
 match dK S c with
 |some (f,as)=>
  match lL (E.sig f).lends S (E.pks f) as with
  |some args=>bif (E.sig f).back.isEmpty then (lv f args).bind fun r=>
    let p:=gg.inj d 0 (E.sig f).res (bR.res1 (E.sig f) r)
    κ (pK p.1) (bif eR p.2 then some ⟨false,p.2⟩ else none)
   else none
  |none=>none
 |none=>none
def dd (pks:FuncId→List PK)(o:Oper):Bool:=
 match o.op with
 |.store ..=>false
 |.call c=>
  match c.callee with
  |.builtin .append|.builtin .copy=>false
  |.value (.func f)=>(pks f).all PK.quiet
  |_=>true
 |_=>true
def bj (E:fA)(lv:Lv E.sig)(o:Oper)(S:St)(κ:AV→Option am→Option R):Option R:=
 match o.op with
 |.call c=>
  match c.callee with
  |.builtin _=>dk E.ty o S κ
  |_=>stepC E lv o c S κ
 |_=>dk E.ty o S κ
def step1 (E:fA)(lv:Lv E.sig)(o:Oper)(S:St)(κ:AV→Option am→List (Nat×am)→List Nat→Option R):Option R:=
 bif dd E.pks o then bj E lv o S fun a r=>κ a r S.roots [] else kN E lv o S κ
def xW (fz:Nat→Bool)(d:Nat)(r:am):am:=⟨r.box,killC d (iV (fz d) r.cs)⟩
def St.gain (fz:Nat→Bool)(S:St)(o:Oper)(a:AV)(r:Option am):St:=
 match r with
 |none=>S.putO o.dst a
 |some r=>match o.dst with|some d=>((S.clear d).setRoot d (xW fz d r)).put d a|none=>S.clear 0
def step (E:fA)(lv:Lv E.sig)(fz:Nat→Bool)(o:Oper)(S:St)(κ:St→Option R):Option R:=
 step1 E lv o S fun a r rs ks=>κ (St.gain fz (St.clearB ⟨S.tmps,rs⟩ ks) o a r)
def qV (ops:List Oper)(o:Oper)(S:St)(yes no:St→Option R):Option R:=
 match o.guard with
 |none=>yes S
 |some (g,want)=>
  match (ops[g]?).bind (·.dst) with
  |none=>none
  |some t=>
   match S.tmp t with
   |.bool b=>bif (bif want then b else !b) then yes (S.put t (.bool want)) else no (S.put t (.bool (!want)))
   |.tup []=>no S
   |_=>none
def uu (E:fA)(lv:Lv E.sig)(fz:Nat→Bool)(ops:List Oper):List Oper→St→(St→Option R)→Option R
 |[],S,κ=>κ S
 |o :: rest,S,κ=>
  qV ops o S
   (fun S=>step E lv fz o S fun S=>uu E lv fz ops rest S κ)
   (fun S=>uu E lv fz ops rest (S.putO o.dst (.tup [])) κ)
def dW (e:Edge):Bool:=match e.ground with|.textOnly _|.gcOnly _=>false|_=>true
def aM:List Oper→List Nat→List Nat
 |[],acc=>acc
 |o :: l,acc=>aM l (acc++[o.after.toList.foldl (fun s e=>bif dW e then s ||| 2 ^ e.on ||| acc.getD e.on 0 else s) 0])
def cK (ops:List Oper)(o:Oper):List Nat:=
 (o.op.operands.toList.filterMap fun x=>match x with|.tmp t=>some t|_=>none)++
 (match o.guard with
  |some (g,_)=>match (ops[g]?).bind (·.dst) with|some d=>[d]|none=>[]
  |none=>[])
def gW (o:Oper):Bool:=
 match o.op with
 |.move _|.assign _|.pick ..|.binOp ..|.unOp ..|.extract ..|.nilCheck _|.fieldAddr ..|.field ..|.index ..|.build ..=>true
 |_=>false
def gG (o:Oper):Bool:=
 match o.op with
 |.load ..=>true
 |.call c=>(match c.callee with|.builtin .len=>true|_=>false)
 |_=>false
def eh (o:Oper):Bool:=gW o||gG o
def kf (ops:List Oper)(x y:Oper):Bool:=
 (match x.dst with
  |some d=>!qR d (cK ops y)&&(match y.dst with|some e=>!Nat.beq d e|none=>true)
  |none=>true)&&
 (match y.dst with
  |some d=>!qR d (cK ops x)
  |none=>true)
def gx (ops:List Oper)(d:Nat):List Oper→Bool
 |[]=>false
 |p :: l=>qR d (cK ops p)||(match p.dst with|some e=>bif Nat.beq e d then false else gx ops d l|none=>gx ops d l)
def qD (pks:FuncId→List PK)(ops:List Oper)(o:Oper):Bool:=dd pks o&&!(match o.dst with|some d=>gx ops d ops|none=>false)
def fP (pks:FuncId→List PK)(ops:List Oper):List Oper→Bool
 |[]=>true
 |o :: l=>qD pks ops o&&fP pks ops l
def tP (pks:FuncId→List PK)(ops:List Oper)(i j:Nat)(x:Oper):Bool:=
 fP pks ops (ops.take (j+1))||(eh x&&fP pks ops (ops.take (i+1)))
def pQ (pks:FuncId→List PK)(ops:List Oper)(bs:List Nat):Nat→List Oper→Bool
 |_,[]=>true
 |j,y :: l=>
  (ops.take j).zipIdx.all (fun (x,i)=>(bs.getD j 0).testBit i||(kf ops x y&&tP pks ops i j x))&&pQ pks ops bs (j+1) l
def k7:Nat→List Oper→Bool
 |_,[]=>true
 |i,o :: l=>o.after.toList.all (fun e=>!dW e||Nat.blt e.on i)&&k7 (i+1) l
def mX:List Oper→Bool
 |[]=>true
 |o :: l=>(match o.dst with|some d=>l.all (fun p=>match p.dst with|some e=>!Nat.beq d e|none=>true)|none=>true)&&mX l
def y8 (ops:List Oper):List Oper→Bool
 |[]=>true
 |o :: l=>(cK ops o).all (fun t=>(o :: l).all fun p=>match p.dst with|some e=>!Nat.beq t e|none=>true)&&y8 ops l
def iM (pks:FuncId→List PK)(ops:List Oper):List Oper→List Oper
 |[]=>[]
 |o :: l=>bif qD pks ops o then o :: iM pks ops l else []
def xB (pks:FuncId→List PK)(ops:List Oper):Bool:=
 k7 0 ops&&mX ops&&y8 ops (iM pks ops ops)&&pQ pks ops (aM ops []) 0 ops
def iu (d:Nat):List (Nat×am)→Bool
 |[]=>true
 |(i,r) :: l=>!Nat.beq i d&&r.cs.all (fun c=>match c with|.av a=>!a.names d|_=>true)&&iu d l
def zF (S:St)(d:Nat):Bool:=S.tmps.all (fun p=>!p.2.names d)&&iu d S.roots
def jB (S:St):List Oper→Bool
 |[]=>true
 |o :: l=>(match o.dst with|some d=>zF S d|none=>true)&&jB S l
def vt (S:St):List Oper→Bool
 |[]=>true
 |o :: l=>(match o.dst with|some d=>S.tmps.all (fun p=>!p.2.names d)&&S.roots.all (fun p=>!Nat.beq p.1 d)|none=>true)&&vt S l
def uW:List Oper→List Nat
 |[]=>[]
 |o :: l=>match o.dst with|some d=>d :: uW l|none=>uW l
def eI:List Nat→List ax→List ax
 |[],cs=>cs
 |d :: ds,cs=>eI ds (killC d cs)
def oS (ds:List Nat):List (Nat×am)→List (Nat×am)
 |[]=>[]
 |(i,r) :: l=>(i,⟨r.box,eI ds r.cs⟩) :: oS ds l
def St.purge (S:St)(ds:List Nat):St:=⟨S.tmps,oS ds S.roots⟩
def cE (S:St):List (Nat×am)→St
 |[]=>S
 |(d,r) :: l=>cE (S.setRoot d r) l
def eP (ops:List Oper)(b:Nat):List Nat:=
 ops.zipIdx.filterMap fun p=>bif b.testBit p.2 then p.1.dst else none
def lF (ss:List Nat)(new:List (Nat×am))(S:St)(a:AV)(r:Option am)(d:Nat):Bool:=
 new.all (fun p=>qR p.1 ss||(!a.names p.1&&(match r with|some r=>r.cs.all (fun c=>match c with|.av a=>!a.names p.1|_=>true)|none=>true)))&&
 (match r with|some _=>S.tmps.all (fun p=>!p.2.names d)&&iu d new|none=>true)
def qU (S:St)(o:Oper)(r:Option am)(ks:List Nat):Bool:=
 (match r with|some _=>(match o.dst with|some d=>S.tmps.all (fun p=>!p.2.names d)|none=>false)|none=>true)&&ks.all (fun s=>S.tmps.all (fun p=>!p.2.namesB s))
def kX:PK→Bool
 |.rw ks=>ks.all fun k=>match k with|.own ..=>false|_=>true
 |k=>k.quiet
def BU (ps:List Nat)(S:St)(d:Option Nat)(bs:List Nat):Bool:=
 (match d with|some d=>!qR d ps|none=>true)&&
 ps.all fun s=>match S.root s with
  |some r=>r.cs.all fun c=>match c with|.av a=>(match d with|some d=>!a.names d|none=>true)&&bs.all (fun b=>!a.namesB b)|_=>true
  |none=>true
def sQ (pks:FuncId→List PK)(ps:List Nat)(S:St)(o:Oper):Bool:=
 ps.isEmpty||(gW o||
  (match o.op with
   |.store _ b _=>(match S.ev b with|.ref s _=>!qR s ps|_=>false)
   |.buildSlice ..=>BU ps S o.dst []
   |.call c=>
    match c.callee with
    |.value (.func f)=>(pks f).all kX&&(cL (pks f) (evL S c.args.toList)).all (fun s=>!qR s ps)&&BU ps S o.dst (cL (pks f) (evL S c.args.toList))
    |_=>false
   |_=>false))
def vh (bs:List Nat)(i m:Nat):Bool:=((List.range bs.length).drop m).all fun j=>(bs.getD j 0).testBit i
def eV (bs:List Nat)(i m:Nat):Nat:=match ((List.range bs.length).drop m).find? (fun j=>(bs.getD j 0).testBit i) with|some j=>j|none=>bs.length
def dH (bs:List Nat)(S:St)(m:Nat):Nat→List Oper→Option (List (Nat×Nat))
 |_,[]=>some []
 |i,x :: l=>
  bif !gG x||vh bs i m then dH bs S m (i+1) l else
  match x.op with
  |.load _ a=>
   match S.ev a with
   |.ref s _=>(dH bs S m (i+1) l).map fun ps=>(s,eV bs i m) :: ps
   |.vp _|.vi _|.tup _=>dH bs S m (i+1) l
   |_=>none
  |.call c=>
   match c.args.toList with
   |[a]=>(match S.ev a with|.al ..=>none|_=>dH bs S m (i+1) l)
   |_=>none
  |_=>none
def yp (ps:List (Nat×Nat))(k:Nat):List Nat:=(ps.filter fun p=>Nat.blt k p.2).map (·.1)
def ke (E:fA)(lv:Lv E.sig)(fz:Nat→Bool)(ops:List Oper)(ps:List (Nat×Nat)):List Oper→St→(St→Option R)→Option R
 |[],S,κ=>κ S
 |o :: rest,S,κ=>
  qV ops o S
   (fun S=>step1 E lv o S fun a r rs ks=>
    bif qU S o r ks&&sQ E.pks (yp ps (ops.length - (rest.length+1))) S o
    then ke E lv fz ops ps rest (St.gain fz (St.clearB ⟨S.tmps,rs⟩ ks) o a r) κ else none)
   (fun S=>ke E lv fz ops ps rest (S.putO o.dst (.tup [])) κ)
def mU (o:Oper):Bool:=match o.op with|.convert ..=>true|.buildSlice ..=>true|.call c=>(match c.callee with|.value _=>true|_=>false)|_=>false
def drawS (ss:List Nat)(new:List (Nat×am))(o:Oper)(S:St):St:=bif mU o then cE S (new.filter fun p=>qR p.1 ss) else S
def j1 (E:fA)(lv:Lv E.sig)(fz:Nat→Bool)(ops:List Oper):List Oper→List Nat→(new:List (Nat×am))→St→(St→Option R)→Option R
 |o :: rest,b :: bs,new,S,κ=>
  bif qD E.pks ops o then
   qV ops o S
    (fun S=>bj E lv o (drawS (eP ops b) new o S) fun a r=>
     match r,o.dst with
     |none,d=>bif lF (eP ops b) new S a none 0 then j1 E lv fz ops rest bs new (S.putO d a) κ else none
     |some r,some d=>bif lF (eP ops b) new S a (some r) d then j1 E lv fz ops rest bs ((d,xW fz d r) :: new) (S.put d a) κ else none
     |some _,none=>none)
    (fun S=>j1 E lv fz ops rest bs new (S.putO o.dst (.tup [])) κ)
  else match dH (aM ops []) S (ops.length - (rest.length+1)) 0 (ops.take (ops.length - (rest.length+1))) with
   |some ps=>ke E lv fz ops ps (o :: rest) (cE S new) κ
   |none=>none
 |_,_,new,S,κ=>κ (cE S new)
def fZ (o:Oper):Bool:=match o.op with|.buildSlice _ n ps=>Nat.beq n 0&&ps.toList.isEmpty|_=>false
def pZ (ty:TypeId→Option jJ)(o:Oper):Bool:=match o.op with|.buildSlice T _ _=>(match ty T with|some i=>i.elem.isSome|none=>false)|_=>false
def jD (o:Oper):Bool:=match o.op with|.indexAddr ..=>true|.slice _ _ _ _ none=>true|_=>false
def cT (ops:List Oper)(o:Oper):Bool:=(eh o||jD o||fZ o)&&!(match o.dst with|some d=>gx ops d ops|none=>false)
def vu (ops:List Oper)(bs:List Nat):Nat→List Oper→Bool
 |_,[]=>true
 |j,y :: l=>(ops.take j).zipIdx.all (fun (x,i)=>(bs.getD j 0).testBit i||(kf ops x y&&(cT ops x||cT ops y)))&&vu ops bs (j+1) l
def Oe (ops:List Oper):Bool:=k7 0 ops&&mX ops&&vu ops (aM ops []) 0 ops
abbrev qX:=Option (Option (Nat×Nat×Nat))
def dz (E:TypeId→Option jJ)(o:Oper)(S:St):qX:=
 match o.op with
 |.load T a=>
  match S.ev a with
  |.ref s off=>(E T).map fun i=>some (s,off,i.size)
  |.eref s j _ _ _=>some (some (s,j,1))
  |.vp _|.vi _=>some none
  |_=>none
 |.call c=>
  match c.args.toList with
  |[a]=>(match S.ev a with|.al s j=>some (some (s,j,1))|_=>some none)
  |_=>none
 |.indexAddr _ x _=>(match S.ev x with|.al s j=>some (some (s,j,1))|_=>some none)
 |.slice _ x _ _ _=>(match S.ev x with|.al s j=>some (some (s,j,1))|_=>some none)
 |_=>some none
abbrev LU:=Option (List (Nat×Option (Nat×Nat)))
def GH (d:Nat)(l:List (Nat×am)):Bool:=l.all fun p=>p.2.cs.all fun c=>match c with|.av a=>!a.names d|_=>true
def eM (o:Oper)(S:St)(r:Option am):LU:=
 match r with
 |none=>some []
 |some _=>match o.dst with|some d=>bif GH d S.roots then some [(d,none)] else none|none=>none
def JU (bs:List Nat)(l:List (Nat×am)):Bool:=l.all fun p=>p.2.cs.all fun c=>match c with|.av a=>bs.all fun b=>!a.namesB b|_=>true
def KY (ks:List PK):Bool:=match ks with|[.bw _,.one .str]=>false|[.br _ _]=>false|_=>true
def sT (pks:FuncId→List PK)(o:Oper)(S:St)(r:Option am):LU:=
 match o.op with
 |.call c=>
  match c.callee with
  |.value (.func f)=>
   bif KY (pks f)&&(pks f).all kX&&JU (cL (pks f) (evL S c.args.toList)) S.roots then
    (eM o S r).map fun l=>(cL (pks f) (evL S c.args.toList)).map (fun b=>(b,none))++l
   else none
  |_=>none
 |_=>none
def js (pks:FuncId→List PK)(o:Oper)(S:St)(r:Option am)(ks:List Nat):LU:=
 bif !ks.isEmpty then sT pks o S r else
 bif dd pks o then eM o S r else
 match o.op with
 |.store _ b x=>
  match S.ev b with
  |.ref s off=>(eM o S r).map fun l=>(s,some (off,(S.ev x).leaves.length)) :: l
  |.eref s j _ _ _=>(eM o S r).map fun l=>(s,some (j,1)) :: l
  |_=>none
 |.call c=>
  match c.callee,c.args.toList with
  |.builtin .append,b :: _=>
   match S.ev b with
   |.nils|.emp=>eM o S r
   |.al s j=>(eM o S r).map fun l=>(s,some (j,1)) :: l
   |_=>none
  |_,_=>none
 |_=>none
def fits (f:qX)(e:LU):Bool:=
 match f with
 |none=>false
 |some none=>true
 |some (some (s,off,n))=>match e with|none=>false|some l=>l.all fun q=>!Nat.beq q.1 s||(match q.2 with|none=>false|some (o,m)=>Nat.ble (o+m) off||Nat.ble (off+n) o)
abbrev Da:=Nat×Option Nat×List Nat×LU
def xQ (b:Nat)(a:AV)(f:qX)(h:Da):Bool:=
 b.testBit h.1||((match h.2.1 with|some d=>!a.names d|none=>true)&&h.2.2.1.all (fun k=>!a.namesB k)&&fits f h.2.2.2)
def mJ (E:fA)(lv:Lv E.sig)(fz:Nat→Bool)(ops:List Oper):List Oper→List Nat→Nat→List (Nat×qX)→List Da→St→(St→Option R)→Option R
 |o :: rest,b :: bs,i,fs,hs,S,κ=>
  qV ops o S
   (fun S=>
    bif fZ o then
     bif cT ops o&&pZ E.ty o then mJ E lv fz ops rest bs (i+1) ((i,some none) :: fs) hs (S.putO o.dst .emp) κ else none
    else
    step1 E lv o S fun a r rs ks=>
    bif cT ops o then
     bif hs.all (xQ b a (dz E.ty o S)) then mJ E lv fz ops rest bs (i+1) ((i,dz E.ty o S) :: fs) hs (S.putO o.dst a) κ else none
    else
     bif qU S o r ks&&fs.all (fun f=>b.testBit f.1||fits f.2 (js E.pks o S r ks)) then
      mJ E lv fz ops rest bs (i+1) fs ((i,(match r with|some _=>o.dst|none=>none),ks,js E.pks o S r ks) :: hs) (St.gain fz (St.clearB ⟨S.tmps,rs⟩ ks) o a r) κ
     else none)
   (fun S=>mJ E lv fz ops rest bs (i+1) fs hs (S.putO o.dst (.tup [])) κ)
 |_,_,_,_,_,S,κ=>κ S
def GM (E:fA)(lv:Lv E.sig)(fz:Nat→Bool)(ops:List Oper)(S:St)(κ:St→Option R):Option R:=
 bif xB E.pks ops then bif vt S ops then j1 E lv fz ops ops (aM ops []) [] (S.purge (uW ops)) κ else none
 else bif Oe ops then mJ E lv fz ops ops (aM ops []) 0 [] [] S κ else none
def jG (n:Nat):List Oper→Bool
 |[]=>true
 |o :: l=>(match o.dst with|some d=>Nat.blt d n|none=>true)&&jG n l
def region (E:fA)(lv:Lv E.sig)(fz:Nat→Bool)(n:Nat)(ops:List Oper)(draw:Bool)(S:St)(κ:St→Option R):Option R:=
 bif !jG n ops then none else
 bif draw then GM E lv fz ops S κ
 else uu E lv fz ops ops S κ
def jL:Code→Option Nat
 |.region id _ _=>some id
 |.seq a _=>jL a
 |.block _ c=>jL c
 |.loop c=>jL c
 |_=>none
def KO (bar:aD)(fi:cj)(b:Code)(run:St→Option R)(κ:Ex→St→Option R):Ex→St→Option R
 |.normal,S=>
  match (jL b).bind fi.jcmds with
  |some cs=>match lg fi.ntmps S cs with|some S=>bar R (run S)|none=>none
  |none=>run S
 |.exit i,S=>κ (.exit i) S
 |.ret,S=>κ .ret S
def G5 (id:Nat)(κ:Ex→St→Option R):Ex→St→Option R
 |.normal,S=>κ .normal S
 |.exit i,S=>bif Nat.beq i id then κ .normal S else κ (.exit i) S
 |.ret,S=>κ .ret S
def BY (nt:Nat)(cs:List DF)(id:Nat)(next:St→Option R)(κ:Ex→St→Option R):Ex→St→Option R
 |.normal,S=>match lg nt S cs with|some S=>next S|none=>none
 |.exit i,S=>bif Nat.beq i id then κ .normal S else κ (.exit i) S
 |.ret,S=>κ .ret S
def uz (nt:Nat)(cs:List DF)(id:Nat)(body:St→(Ex→St→Option R)→Option R)(κ:Ex→St→Option R):Nat→St→Option R
 |0,_=>none
 |n+1,S=>body S (BY nt cs id (uz nt cs id body κ n) κ)
def kr (E:fA)(lv:Lv E.sig)(K:Nat)(fi:cj):Code→St→(Ex→St→Option R)→Option R
 |.skip,S,κ=>κ .normal S
 |.region id ops draw,S,κ=>match lg fi.ntmps S (fi.cmds id) with|some S=>region E lv fi.frz fi.ntmps ops.toList draw S (κ .normal)|none=>none
 |.seq a b,S,κ=>kr E lv K fi a S (KO E.bar fi b (fun S=>kr E lv K fi b S κ) κ)
 |.cond c x y,S,κ=>match S.ev c with|.bool b=>bif b then kr E lv K fi x S κ else kr E lv K fi y S κ|_=>none
 |.block id (.loop b),S,κ=>
  match lg fi.ntmps S (fi.lcmds id) with
  |some S=>uz fi.ntmps (fi.lcmds id) id (fun S κ=>kr E lv K fi b S κ) κ K S
  |none=>none
 |.block id c,S,κ=>kr E lv K fi c S (G5 id κ)
 |.exit id,S,κ=>κ (.exit id) S
 |.ret,S,κ=>κ .ret S
 |_,_,_=>none
inductive OR where
 |l|r|t|e|b|lp (n:Nat)
def at_ (E:fA)(lv:Lv E.sig)(K:Nat)(fi:cj):List OR→Code→(Ex→St→Option R)→Code×(Ex→St→Option R)
 |.l :: p,.seq a b,κ=>at_ E lv K fi p a (KO E.bar fi b (fun S=>kr E lv K fi b S κ) κ)
 |.r :: p,.seq _ b,κ=>at_ E lv K fi p b κ
 |.t :: p,.cond _ x _,κ=>at_ E lv K fi p x κ
 |.e :: p,.cond _ _ y,κ=>at_ E lv K fi p y κ
 |.b :: p,.block id c,κ=>at_ E lv K fi p c (G5 id κ)
 |.lp n :: p,.block id (.loop c),κ=>at_ E lv K fi p c (BY fi.ntmps (fi.lcmds id) id (uz fi.ntmps (fi.lcmds id) id (fun S κ=>kr E lv K fi c S κ) κ n) κ)
 |_,c,κ=>(c,κ)
def er (S:St):(k:LK)→AV→Option k.den
 |.own _ _,.nils=>some []
 |.own t fz,.al s j=>
  match S.cell s j with
  |some (.sl u fz' xs)=>if h:u=t then (bif fz==fz' then some (h ▸ xs) else none) else none
  |_=>none
 |.list t,.al s j=>
  match S.cell s j with
  |some (.sl u true xs)=>if h:u=t then some (h ▸ xs) else none
  |_=>none
 |k,a=>k.ofCell (.av a)
def fE (S:St):(ks:List LK)→List AV→Option (hJ.den ks)
 |[],[]=>some ()
 |[k],[a]=>er S k a
 |k :: k' :: ks,a :: l=>(er S k a).bind fun x=>(fE S (k' :: ks) l).map fun y=>(x,y)
 |_,_=>none
def qJ (S:St):AV→Option AV
 |.al s j=>match S.cell s j with|some (.sl t true xs)=>some (.L t xs)|_=>none
 |a=>some a
def fr (S:St):List AV→Option (List AV)
 |[]=>some []
 |a :: l=>(qJ S a).bind fun b=>(fr S l).map fun m=>b :: m
def El.isAgg:El→Bool
 |.node|.arr|.col|.blk=>true
 |_=>false
def AV.isAgg:AV→Bool
 |.agg _=>true
 |_=>false
def pA (S:St):(k:RK)→AV→Option k.den
 |.one k,a=>er S k a
 |.agg ks,.agg cs=>fE S ks cs
 |.el t,a=>bif a.isVal&&(t.isAgg==a.isAgg) then (fr S a.leaves).bind t.ofCells else none
 |.ptr _,.nilp=>some none
 |.ptr t,.vi cs=>(t.ofCells cs).map some
 |_,_=>none
def kh (S:St):(ks:List RK)→List AV→Option (gg.den ks)
 |[],[]=>some ()
 |[k],[a]=>pA S k a
 |k :: k' :: ks,a :: l=>(pA S k a).bind fun x=>(kh S (k' :: ks) l).map fun y=>(x,y)
 |_,_=>none
def zY:LK→AV→Option (Nat×Nat)
 |.own _ _,.al s j=>some (s,j)
 |_,_=>none
def fC:List LK→List AV→List (Option (Nat×Nat))
 |k :: ks,a :: l=>zY k a :: fC ks l
 |_,_=>[]
def ck:List RK→List AV→List (Option (Nat×Nat))
 |.one k :: ks,a :: l=>zY k a :: ck ks l
 |.agg ks' :: ks,.agg cs :: l=>fC ks' cs++ck ks l
 |_ :: ks,_ :: l=>ck ks l
 |_,_=>[]
def Np:LK→AV→List (Nat×Nat)
 |.own _ true,.al s j=>[(s,j)]
 |.list _,.al s j=>[(s,j)]
 |_,_=>[]
def Js:List LK→List AV→List (Nat×Nat)
 |k :: ks,a :: l=>Np k a++Js ks l
 |_,_=>[]
def DY:List AV→List (Nat×Nat)
 |.al s j :: l=>(s,j) :: DY l
 |_ :: l=>DY l
 |[]=>[]
def oK:List RK→List AV→List (Nat×Nat)
 |.one k :: ks,a :: l=>Np k a++oK ks l
 |.agg ks' :: ks,.agg cs :: l=>Js ks' cs++oK ks l
 |.el _ :: ks,a :: l=>DY a.leaves++oK ks l
 |_ :: ks,_ :: l=>oK ks l
 |_,_=>[]
def BR (s:Nat):Nat→List LK→List ax→List (Nat×Nat)
 |j,.own _ true :: ks,.sl .. :: l=>(s,j) :: BR s (j+1) ks l
 |j,.list _ :: ks,.sl .. :: l=>(s,j) :: BR s (j+1) ks l
 |j,_ :: ks,_ :: l=>BR s (j+1) ks l
 |_,_,_=>[]
def qa (S:St):List (Nat×List LK)→List (Nat×Nat)
 |[]=>[]
 |(i,ks) :: l=>(match S.root (1000+i) with|some r=>BR (1000+i) 0 ks r.cs|none=>[])++qa S l
def hJ.ofCells:(ks:List LK)→List ax→Option (hJ.den ks)
 |[],[]=>some ()
 |[k],[c]=>k.ofCell c
 |k :: k' :: ks,c :: l=>(k.ofCell c).bind fun x=>(hJ.ofCells (k' :: ks) l).map fun y=>(x,y)
 |_,_=>none
def mn (S:St)(i:Nat)(ks:List LK):Option (hJ.den ks):=match S.root (1000+i) with|some ⟨true,cs⟩=>hJ.ofCells ks cs|_=>none
def lm (S:St):(bs:List (Nat×List LK))→Option (em.den bs)
 |[]=>some ()
 |[(i,ks)]=>mn S i ks
 |(i,ks) :: b :: bs=>(mn S i ks).bind fun x=>(lm S (b :: bs)).map fun y=>(x,y)
def bR.mk1:(s:bR)→gg.den s.res→em.den s.back→s.den
 |⟨_,[]⟩,x,_=>x
 |⟨[],_ :: _⟩,_,y=>y
 |⟨_ :: _,_ :: _⟩,x,y=>(x,y)
def Bw (E:fA)(S:St):ResultVar→Option AV
 |.tmp t=>some (S.tmp t)
 |.cell a T=>match E.ty T with|some i=>jV S i.elem (S.tmp a) i.size fun l=>uD i.agg l|none=>none
def qF (E:fA)(S:St):List ResultVar→Option (List AV)
 |[]=>some []
 |r :: l=>(Bw E S r).bind fun a=>(qF E S l).map fun m=>a :: m
def vz:List (Nat×List LK)→List (Nat×Nat)→Bool
 |[],_=>true
 |(i,_) :: l,ps=>l.all (fun b=>!Nat.beq b.1 i)&&ps.all (fun p=>!Nat.beq p.1 (1000+i))&&vz l ps
def kV (E:fA)(fi:cj)(s:bR)(S:St):Option s.den:=
 match qF E S fi.results with
 |some as=>
  let S1:=frzAll S (oK s.res as++qa S s.back)
  let ps:=(ck s.res as).filterMap id
  bif mR ps&&vz s.back ps then
   (kh S1 s.res as).bind fun x=>(lm S1 s.back).bind fun y=>some (s.mk1 x y)
  else none
 |none=>none
def dJ:Nat→List md→List (Nat×AV)
 |_,[]=>[]
 |i,.v a :: l=>(i,a) :: dJ (i+1) l
 |i,.o c :: l=>(i,cellAV (1000+i) 0 c) :: dJ (i+1) l
 |i,.g cs :: l=>(i,.agg (dm (1000+i) 0 cs)) :: dJ (i+1) l
 |i,.b _ :: l=>(i,.ref (1000+i) 0) :: dJ (i+1) l
def eH:Nat→List md→List (Nat×am)
 |_,[]=>[]
 |i,.v _ :: l=>eH (i+1) l
 |i,.o c :: l=>(1000+i,⟨false,[c]⟩) :: eH (i+1) l
 |i,.g cs :: l=>(1000+i,⟨false,cs⟩) :: eH (i+1) l
 |i,.b cs :: l=>(1000+i,⟨true,cs⟩) :: eH (i+1) l
def I9 (E:fA)(fi:cj)(s:bR)(S:St):Option s.den:=
 match lg fi.ntmps S (fi.cmds 1000000) with
 |some S=>kV E fi s S
 |none=>none
def Lj (E:fA)(fi:cj)(s:bR):Ex→St→Option s.den
 |.normal,S=>I9 E fi s S
 |.exit _,_=>none
 |.ret,S=>I9 E fi s S
noncomputable def both {R:Type}(a b:Option R):Option R:=open Classical in if a=b then a else none
noncomputable def Lp {α R:Type}(xs:List α)(a:Option R)(b:List α→Option R):Option R:=
 match xs with
 |[]=>both a (b [])
 |x :: l=>b (x :: l)
noncomputable def yI (E:fA)(lv:Lv E.sig)(K:Nat)(f:FuncId)(fi:cj)(args:List md):Option (E.sig f).den:=
 bif !(Nat.ble fi.ntmps 1000&&Nat.ble args.length fi.ntmps) then none else kr E lv K fi fi.body ⟨dJ 0 args,eH 0 args⟩ (Lj E fi (E.sig f))
noncomputable def call (E:fA)(lv:Lv E.sig)(K:Nat)(f:FuncId)(args:List md):Option (E.sig f).den:=
 match E.fn f with
 |some fi=>
  bif fi.split then
   match args with
   |[.v (.L t xs)]=>Lp xs (yI E lv K f fi [.v (.nq true t [])]) fun xs=>yI E lv K f fi [.v (.nq false t xs)]
   |_=>none
  else yI E lv K f fi args
 |none=>E.ext f args
end
noncomputable def cH (E:fA):Nat→Lv E.sig
 |0=>fun _ _=>none
 |k+1=>fun f args=>call E (cH E k) k f args
noncomputable def aL (E:fA)(k:Nat)(fi:cj)(s:bR)(p:List OR)(n:Nat)(S:St):Option s.den:=
 match at_ E (cH E k) k fi p fi.body (Lj E fi s) with
 |(.block id (.loop b),κ)=>uz fi.ntmps (fi.lcmds id) id (fun S κ=>kr E (cH E k) k fi b S κ) κ n S
 |_=>none
noncomputable def m8 (E:fA)(k:Nat)(fi:cj)(s:bR)(p:List OR)(S:St):Option s.den:=
 let c:=at_ E (cH E k) k fi p fi.body (Lj E fi s)
 kr E (cH E k) k fi c.1 S c.2
def aF:aD:=fun _ x=>x
theorem ir (R:Type)(x:Option R):aF R x=x:=rfl
end Go.Proofs.YtjkokaockhecnaaGreatDoorA
