/- An abstract machine for the model's code: slices as lists, boxes with one owner, no heap. Definitions alone. -/
import Derived.Calls
import Derived.KernelRfl
namespace Go.Proofs.YtjkokaockhecnaaGreatDoorA
open Go
structure aM where
 kind:Int
 parent:Int
 null:Bool
 deriving DecidableEq
inductive oZ where
 |mk (layout offset length:Int) (valid ends data:List UInt8) (kids:List oZ)
def oZ.layout:oZ→Int|.mk a _ _ _ _ _ _=>a
def oZ.offset:oZ→Int|.mk _ a _ _ _ _ _=>a
def oZ.length:oZ→Int|.mk _ _ a _ _ _ _=>a
def oZ.valid:oZ→List UInt8|.mk _ _ _ a _ _ _=>a
def oZ.ends:oZ→List UInt8|.mk _ _ _ _ a _ _=>a
def oZ.data:oZ→List UInt8|.mk _ _ _ _ _ a _=>a
def oZ.kids:oZ→List oZ|.mk _ _ _ _ _ _ a=>a
structure Col where
 reps:List Int
 defs:List Int
 values:List (List UInt8)
structure C4 where
 at_:Int
 size:Int
 rows:Int
 sum:Int
inductive El where
 |int (k:IntKind)|bool|str|list (e:El)|node|arr|col|blk
 deriving DecidableEq
abbrev El.den:El→Type
 |.int _=>Int
 |.bool=>Bool
 |.str=>List UInt8
 |.list e=>List e.den
 |.node=>aM
 |.arr=>oZ
 |.col=>Col
 |.blk=>C4
inductive AV where
 |und
 |bool (b:Bool)
 |int (k:IntKind) (n:Int)
 |str (s:List UInt8)
 |err (b:Bool)
 |nils
 |emp
 |L (t:El) (xs:List t.den)
 |al (s j:Nat)
 |ref (s off:Nat)
 |eref (s j sz i off:Nat)
 |bs (s n:Nat)
 |bref (s i:Nat)
 |bal (s i:Nat) (t:El) (xs:List t.den)
 |rm (t:El) (xs ys:List t.den)
 |als (s j sz lo n:Nat)
 |bad (s:Nat)
 |refT (s T:Nat)
 |fzs (e:Nat) (l:List Int)
 |vp (cs:List AV)
 |vi (cs:List AV)
 |nilp
 |optp (t:El) (x:Option t.den)
 |nq (nil:Bool) (t:El) (xs:List t.den)
 |agg (cs:List AV)
 |tup (vs:List AV)
 |fn (f:FuncId) (caps:List AV)
instance:Inhabited AV:=⟨.und⟩
def El.cells:(t:El)→t.den→List AV
 |.int k,n=>[.int k n]
 |.bool,b=>[.bool b]
 |.str,s=>[.str s]
 |.list e,xs=>[.L e xs]
 |.node,x=>[.int .i64 x.kind,.int .i64 x.parent,.bool x.null]
 |.arr,x=>[.int .i64 x.layout,.int .i64 x.offset,.int .i64 x.length,.str x.valid,.str x.ends,.str x.data,.L .arr x.kids]
 |.col,x=>[.L (.int .i64) x.reps,.L (.int .i64) x.defs,.L .str x.values]
 |.blk,x=>[.int .i64 x.at_,.int .i64 x.size,.int .i64 x.rows,.int .i64 x.sum]
def El.isU8:El→Bool
 |.int .u8=>true
 |_=>false
def El.isList:El→Bool
 |.list _=>true
 |_=>false
def El.size:El→Nat
 |.node=>3|.arr=>7|.col=>3|.blk=>4|_=>1
def pT (t:El):AV→Option (List t.den)
 |.nils=>some []
 |.L u xs=>if h:u=t then some (h ▸ xs) else none
 |.nq _ u xs=>if h:u=t then some (h ▸ xs) else none
 |.bal _ _ u xs=>if h:u=t then some (h ▸ xs) else none
 |.rm u xs _=>if h:u=t then some (h ▸ xs) else none
 |_=>none
def El.ofCells:(t:El)→List AV→Option t.den
 |.int k,[.int k' n]=>if k=k' then some n else none
 |.bool,[.bool b]=>some b
 |.str,[.str s]=>some s
 |.list e,[x]=>pT e x
 |.node,[.int .i64 a,.int .i64 b,.bool c]=>some ⟨a,b,c⟩
 |.arr,[.int .i64 a,.int .i64 b,.int .i64 c,.str v,.str e,.str d,ks]=>(pT .arr ks).map (oZ.mk a b c v e d)
 |.col,[a,b,c]=>(pT (.int .i64) a).bind fun a=>(pT (.int .i64) b).bind fun b=>(pT .str c).map fun c=>⟨a,b,c⟩
 |.blk,[.int .i64 a,.int .i64 b,.int .i64 c,.int .i64 d]=>some ⟨a,b,c,d⟩
 |_,_=>none
inductive af where
 |av (a:AV)
 |sl (t:El) (fz:Bool) (xs:List t.den)
structure ac where
 box:Bool
 cs:List af
structure St where
 tmps:List (Nat×AV)
 roots:List (Nat×ac)
def look {α:Type}(k:Nat):List (Nat×α)→Option α
 |[]=>none
 |(i,a) :: l=>bif Nat.beq i k then some a else look k l
def mb {α:Type}(k:Nat):List (Nat×α)→List (Nat×α)
 |[]=>[]
 |(i,a) :: l=>bif Nat.beq i k then mb k l else (i,a) :: mb k l
def kn {α:Type}(k:Nat)(a:α)(l:List (Nat×α)):List (Nat×α):=(k,a) :: mb k l
def St.tmp (S:St)(t:Nat):AV:=match look t S.tmps with|some a=>a|none=>.und
def St.root (S:St)(s:Nat):Option ac:=look s S.roots
def St.put (S:St)(t:Nat)(a:AV):St:={ S with tmps:=kn t a S.tmps }
def St.putO (S:St)(t:Option Nat)(a:AV):St:=match t with|some t=>S.put t a|none=>S
def St.setRoot (S:St)(s:Nat)(r:ac):St:={ S with roots:=kn s r S.roots }
def St.cell (S:St)(s j:Nat):Option af:=(S.root s).bind fun r=>r.cs[j]?
def St.setCell (S:St)(s j:Nat)(c:af):St:=
 match S.root s with
 |some r=>S.setRoot s { r with cs:=r.cs.set j c }
 |none=>S
def cellAV (s j:Nat):af→AV
 |.av a=>a
 |.sl ..=>.al s j
def AV.names (s:Nat):AV→Bool
 |.al s' _|.ref s' _|.eref s' _ _ _ _|.bs s' _|.bref s' _|.bal s' _ _ _|.als s' _ _ _ _|.bad s'|.refT s' _=>Nat.beq s' s
 |.vp cs|.vi cs|.agg cs|.tup cs|.fn _ cs=>namesL s cs
 |_=>false
 where namesL (s:Nat):List AV→Bool
 |[]=>false
 |a :: l=>AV.names s a||namesL s l
def AV.kill (s:Nat)(a:AV):AV:=bif a.names s then .und else a
def af.kill (s:Nat):af→af
 |.av a=>.av (a.kill s)
 |c=>c
def uj (s:Nat):List (Nat×AV)→List (Nat×AV)
 |[]=>[]
 |(i,a) :: l=>(i,a.kill s) :: uj s l
def killC (s:Nat):List af→List af
 |[]=>[]
 |c :: l=>c.kill s :: killC s l
def ue (s:Nat):List (Nat×ac)→List (Nat×ac)
 |[]=>[]
 |(i,r) :: l=>(i,⟨r.box,killC s r.cs⟩) :: ue s l
def St.clear (S:St)(s:Nat):St:=⟨uj s S.tmps,ue s (mb s S.roots)⟩
def AV.namesC (s j:Nat):AV→Bool
 |.al s' j'|.eref s' j' _ _ _|.als s' j' _ _ _=>Nat.beq s' s&&Nat.beq j' j
 |.bal s' _ _ _=>Nat.beq s' s
 |.vp cs|.vi cs|.agg cs|.tup cs|.fn _ cs=>namesCL s j cs
 |_=>false
 where namesCL (s j:Nat):List AV→Bool
 |[]=>false
 |a :: l=>AV.namesC s j a||namesCL s j l
def AV.killC (s j:Nat)(a:AV):AV:=bif a.namesC s j then .und else a
def af.killC (s j:Nat):af→af
 |.av a=>.av (a.killC s j)
 |c=>c
def qw (s j:Nat):List (Nat×AV)→List (Nat×AV)
 |[]=>[]
 |(i,a) :: l=>(i,a.killC s j) :: qw s j l
def killCC (s j:Nat):List af→List af
 |[]=>[]
 |c :: l=>c.killC s j :: killCC s j l
def qb (s j:Nat):List (Nat×ac)→List (Nat×ac)
 |[]=>[]
 |(i,r) :: l=>(i,⟨r.box,killCC s j r.cs⟩) :: qb s j l
def St.clearC (S:St)(s j:Nat):St:=⟨qw s j S.tmps,qb s j S.roots⟩
def AV.namesB (s:Nat):AV→Bool
 |.al s' _|.eref s' _ _ _ _|.bal s' _ _ _|.als s' _ _ _ _=>Nat.beq s' s
 |.vp cs|.vi cs|.agg cs|.tup cs|.fn _ cs=>namesBL s cs
 |_=>false
 where namesBL (s:Nat):List AV→Bool
 |[]=>false
 |a :: l=>AV.namesB s a||namesBL s l
def AV.killB (s:Nat)(a:AV):AV:=bif a.namesB s then .und else a
def af.killB (s:Nat):af→af
 |.av a=>.av (a.killB s)
 |c=>c
def qk (s:Nat):List (Nat×AV)→List (Nat×AV)
 |[]=>[]
 |(i,a) :: l=>(i,a.killB s) :: qk s l
def bz (s:Nat):List af→List af
 |[]=>[]
 |c :: l=>c.killB s :: bz s l
def qB (s:Nat):List (Nat×ac)→List (Nat×ac)
 |[]=>[]
 |(i,r) :: l=>(i,⟨r.box,bz s r.cs⟩) :: qB s l
def St.clearB (S:St):List Nat→St
 |[]=>S
 |s :: l=>St.clearB ⟨qk s S.tmps,qB s S.roots⟩ l
structure fD where
 agg:Bool
 size:Nat
 bytes:Nat
 zero:List AV
 kind:Option IntKind
 str:Bool
 elem:Option El
 elemT:Nat
 ezero:List AV
 ebytes:Nat
 fields : List (Nat × Nat × Nat)     -- offset, size, type
 eqs : Bool                          -- a struct that is compared cell by cell
 isb : Bool                          -- a truth
 bld : Bool := false                 -- a strings.Builder
 ifc : Bool := false                 -- an interface
inductive LK where
 |bool|int (k:IntKind)|str|err|list (t:El)|own (t:El) (fz:Bool)|room (t:El)
inductive PK where
 |one (k:LK)
 |agg (ks:List LK)
 |ro (ks:List LK)
 |rw (ks:List LK)
 |fn
 |bw (T:Nat)
 |br (T e:Nat)
inductive RK where
 |one (k:LK)
 |agg (ks:List LK)
 |el (t:El)
 |ptr (t:El)
inductive jg where
 |v (a:AV)
 |o (c:af)
 |g (cs:List af)
 |b (cs:List af)
abbrev LK.den:LK→Type
 |.bool=>Bool
 |.int _=>Int
 |.str=>List UInt8
 |.err=>Bool
 |.list t=>List t.den
 |.own t _=>List t.den
 |.room t=>List t.den×List t.den
abbrev dn.den:List LK→Type
 |[]=>Unit
 |[k]=>k.den
 |k :: ks=>k.den×dn.den ks
abbrev RK.den:RK→Type
 |.one k=>k.den
 |.agg ks=>dn.den ks
 |.el t=>t.den
 |.ptr t=>Option t.den
structure bc where
 res:List RK
 back:List (Nat×List LK)
def El.dull:El→Bool
 |.int _|.bool|.str=>true
 |_=>false
def LK.lends:LK→Bool
 |.bool|.int _|.str=>true
 |.own t false=>t.dull
 |_=>false
def RK.lends:RK→Bool
 |.one k=>k.lends
 |.agg ks=>ks.all LK.lends
 |_=>false
def bc.lends (s:bc):Bool:=s.back.isEmpty&&s.res.all RK.lends
abbrev eg.den:List RK→Type
 |[]=>Unit
 |[k]=>k.den
 |k :: ks=>k.den×eg.den ks
abbrev cu.den:List (Nat×List LK)→Type
 |[]=>Unit
 |[k]=>dn.den k.2
 |k :: ks=>dn.den k.2×cu.den ks
abbrev bc.den:bc→Type
 |⟨rs,[]⟩=>eg.den rs
 |⟨[],bs⟩=>cu.den bs
 |⟨rs,bs⟩=>eg.den rs×cu.den bs
def LK.cell:(k:LK)→k.den→af
 |.bool,b=>.av (.bool b)
 |.int k,n=>.av (.int k n)
 |.str,s=>.av (.str s)
 |.err,b=>.av (.err b)
 |.list t,xs=>.av (.L t xs)
 |.own t fz,xs=>.sl t fz xs
 |.room t,p=>.av (.rm t p.1 p.2)
def dn.cells:(ks:List LK)→dn.den ks→List af
 |[],_=>[]
 |[k],x=>[k.cell x]
 |k :: k' :: ks,x=>k.cell x.1 :: dn.cells (k' :: ks) x.2
def LK.ofCell:(k:LK)→af→Option k.den
 |.bool,.av (.bool b)=>some b
 |.int k,.av (.int k' n)=>if k=k' then some n else none
 |.str,.av (.str s)=>some s
 |.err,.av (.err b)=>some b
 |.list t,.av a=>pT t a
 |.list t,.sl u true xs=>if h:u=t then some (h ▸ xs) else none
 |.own _ _,.av .nils=>some []
 |.own t fz,.sl u fz' xs=>if h:u=t then (bif fz==fz' then some (h ▸ xs) else none) else none
 |.room t,.av (.rm u xs ys)=>if h:u=t then some (h ▸ xs,h ▸ ys) else none
 |_,_=>none
def gw:Value→AV
 |.bool b=>.bool b
 |.int k n=>.int k n
 |.string s=>.str s.data.toList
 |.slice none 0 0=>.nils
 |.pointer none=>.nilp
 |_=>.und
def ce:List Value→List AV
 |[]=>[]
 |v :: l=>gw v :: ce l
def pU:Value→AV
 |.agg cs=>.agg (ce cs.toList)
 |v=>gw v
def St.ev (S:St):Operand→AV
 |.tmp t=>S.tmp t
 |.const v=>pU v
 |.func f=>.fn f []
 |.global _=>.und
def evL (S:St):List Operand→List AV
 |[]=>[]
 |x :: l=>S.ev x :: evL S l
def AV.leaves:AV→List AV
 |.agg cs=>cs
 |a=>[a]
def AV.isVal:AV→Bool
 |.und|.tup _=>false
 |_=>true
def AV.isCell:AV→Bool
 |.und|.tup _|.agg _=>false
 |_=>true
def wQ (t:El):af→Option (Bool×List t.den)
 |.sl u b xs=>if h:u=t then some (b,h ▸ xs) else none
 |.av _=>none
def dt:List AV→Bool
 |[]=>true
 |a :: l=>a.isCell&&dt l
def cH:AV→Nat
 |.int ..=>1
 |.bool _=>2
 |.str _=>3
 |_=>0
def eE:List AV→List AV→Bool
 |[],[]=>true
 |a :: l,b :: m=>Nat.beq (cH a) (cH b)&&eE l m
 |_,_=>false
def aN (op:BinOp)(k:IntKind)(x y:Int):Int:=
 let a:=BitVec.ofInt k.bits x
 let b:=BitVec.ofInt k.bits y
 k.wrap (match op with
  |.and=>a &&& b
  |.or=>a ||| b
  |.xor=>a ^^^ b
  |_=>a &&& ~~~b).toNat
def td:AV→AV→Option Bool
 |.bool a,.bool b=>some (a==b)
 |.int k a,.int k' b=>if k=k' then some (a==b) else none
 |.str a,.str b=>some (a==b)
 |_,_=>none
def dp:List AV→List AV→Option Bool
 |[],[]=>some true
 |a :: l,b :: m=>(td a b).bind fun x=>(dp l m).map fun y=>x&&y
 |_,_=>none
section
variable {R:Type}
def sS (eqs isb isl isn:Bool)(op:BinOp)(x y:AV)(κ:AV→Option R):Option R:=
 match x,y with
 |.int k a,.int k' b=>
  match op with
  |.shl=>bif decide (b<0) then none else κ (.int k (k.wrap (a*2 ^ (min b.toNat k.bits))))
  |.shr=>bif decide (b<0) then none else κ (.int k (a.fdiv (2 ^ (min b.toNat k.bits))))
  |op=>
   if k=k' then
    match op with
    |.add=>κ (.int k (k.wrap (a+b)))
    |.sub=>κ (.int k (k.wrap (a - b)))
    |.mul=>κ (.int k (k.wrap (a*b)))
    |.quo=>bif b==0 then none else κ (.int k (k.wrap (a.tdiv b)))
    |.rem=>bif b==0 then none else κ (.int k (a.tmod b))
    |.and=>κ (.int k (aN .and k a b))
    |.or=>κ (.int k (aN .or k a b))
    |.xor=>κ (.int k (aN .xor k a b))
    |.andNot=>κ (.int k (aN .andNot k a b))
    |.eql=>κ (.bool (a==b))
    |.neq=>κ (.bool (a != b))
    |.lss=>κ (.bool (decide (a<b)))
    |.leq=>κ (.bool (decide (a≤b)))
    |.gtr=>κ (.bool (decide (a>b)))
    |.geq=>κ (.bool (decide (a≥b)))
    |_=>none
   else none
 |.str a,.str b=>
  match op with
  |.add=>bif decide (a.length+b.length≤9223372036854775807) then κ (.str (a++b)) else none
  |.eql=>κ (.bool (a==b))
  |.neq=>κ (.bool (a != b))
  |_=>none
 |.bool a,.bool b=>
  match op with
  |.eql=>bif isb then κ (.bool (a==b)) else none
  |.neq=>bif isb then κ (.bool (a != b)) else none
  |_=>none
 |.agg a,.agg b=>
  match op with
  |.eql=>bif eqs then (match dp a b with|some c=>κ (.bool c)|none=>none) else none
  |.neq=>bif eqs then (match dp a b with|some c=>κ (.bool (!c))|none=>none) else none
  |_=>none
 |.nq q _ _,.nils=>
  match op with
  |.eql=>bif isl then κ (.bool q) else none
  |.neq=>bif isl then κ (.bool (!q)) else none
  |_=>none
 |.err b,_=>
  match op with
  |.eql=>bif isn then κ (.bool (!b)) else none
  |.neq=>bif isn then κ (.bool b) else none
  |_=>none
 |_,_=>none
def pO:Operand→Bool
 |.const .nilIface=>true
 |_=>false
def Ar (op:UnOp)(x:AV)(κ:AV→Option R):Option R:=
 match op,x with
 |.neg,.int k n=>κ (.int k (k.wrap (0 - n)))
 |.not,.bool b=>κ (.bool (!b))
 |.xor,.int k n=>κ (.int k (aN .xor k (bif k.signed then -1 else k.max) n))
 |_,_=>none
def rd {α:Type}(xs:List α)(i:Int):Option α:=bif decide (0≤i) then xs[i.toNat]? else none
def bk {α:Type}(l:List α)(off n:Nat):Option (List α):=
 bif Nat.ble (off+n) l.length then some ((l.drop off).take n) else none
def aV (s:Nat):Nat→List af→List AV
 |_,[]=>[]
 |j,c :: l=>cellAV s j c :: aV s (j+1) l
def fQ (S:St)(el:Option El)(a:AV)(n:Nat)(κ:List AV→Option R):Option R:=
 match a with
 |.ref s off=>
  match S.root s with
  |some ⟨true,cs⟩=>match bk (aV s 0 cs) off n with|some l=>κ l|none=>none
  |_=>none
 |.eref s j sz i off=>
  match S.cell s j with
  |some (.sl t _ xs)=>bif Nat.beq sz t.size then (xs[i]?).bind fun x=>match bk (t.cells x) off n with|some l=>κ l|none=>none else none
  |_=>none
 |.vp cs|.vi cs=>match bk cs 0 n with|some l=>κ l|none=>none
 |.bref s i=>
  match S.root s with
  |some ⟨true,cs⟩=>match el with|some t=>(bif Nat.beq n 1 then (cs[i]?).bind fun c=>(wQ t c).bind fun p=>bif p.1 then κ [.bal s i t p.2] else none else none)|none=>none
  |_=>none
 |_=>none
def nX (agg:Bool)(l:List AV):Option AV:=
 match agg,l with
 |true,l=>some (.agg l)
 |false,[a]=>some a
 |_,_=>none
def cq (S:St)(t':El)(x:AV)(i:AV)(κ:AV→Option R):Option R:=
 match i with
 |.int _ i=>
  match x with
  |.L t xs=>if t=t' then (rd xs i).bind fun x=>κ (.vi (t.cells x)) else none
  |.rm t xs _=>if t=t' then (rd xs i).bind fun x=>κ (.vi (t.cells x)) else none
  |.al s j=>
   match S.cell s j with
   |some (.sl t true xs)=>if t=t' then (rd xs i).bind fun x=>κ (.vi (t.cells x)) else none
   |some (.sl t false xs)=>if t=t' then (bif decide (0≤i)&&decide (i<(xs.length:Int)) then κ (.eref s j t.size i.toNat 0) else none) else none
   |_=>none
  |.bs s n=>bif t'.isList then (bif decide (0≤i)&&decide (i<(n:Int)) then κ (.bref s i.toNat) else none) else none
  |_=>none
 |_=>none
def nA (S:St)(ty:Option fD)(x:AV)(κ:AV→Option R):Option R:=
 match ty with
 |some ty=>
  match x with
  |.str s=>bif ty.str then κ (.int .i64 (s.length:Int)) else none
  |.L _ xs=>bif ty.elem.isSome then κ (.int .i64 (xs.length:Int)) else none
  |.rm _ xs _=>bif ty.elem.isSome then κ (.int .i64 (xs.length:Int)) else none
  |.nils=>bif ty.elem.isSome then κ (.int .i64 0) else none
  |.al s j=>
   match S.cell s j with
   |some (.sl _ _ xs)=>bif ty.elem.isSome then κ (.int .i64 (xs.length:Int)) else none
   |_=>none
  |.bs _ n=>bif ty.elem.isSome then κ (.int .i64 (n:Int)) else none
  |.bal _ _ _ xs=>bif ty.elem.isSome then κ (.int .i64 (xs.length:Int)) else none
  |_=>none
 |none=>none
def eL (S:St)(t:El)(x:AV):Option (List t.den):=
 match x with
 |.al s j=>
  match S.cell s j with
  |some (.sl u _ xs)=>if h:u=t then some (h ▸ xs) else none
  |_=>none
 |.als s j sz lo n=>
  match S.cell s j with
  |some (.sl u _ xs)=>bif Nat.beq sz t.size&&Nat.ble (lo+n) xs.length then (if h:u=t then some (((h ▸ xs:List t.den).drop lo).take n) else none) else none
  |_=>none
 |x=>pT t x
def oi (S:St):AV→AV
 |.al s j=>(match S.cell s j with|some (.sl t true xs)=>.L t xs|_=>.al s j)
 |a=>a
def iG (S:St):AV→AV
 |.agg l=>.agg (l.map (oi S))
 |a=>oi S a
def aA (s:List UInt8):List Int:=s.map fun b=>(b.toNat:Int)
def ah (l:List Int):List UInt8:=l.map fun n=>UInt8.ofNat n.toNat
def bN (S:St)(o:Option Operand)(y:Nat)(dflt:Nat)(κ:Nat→Option R):Option R:=
 match o with
 |none=>κ dflt
 |some x=>
  match S.ev x with
  |.int _ i=>bif decide (0≤i)&&decide (i≤(y:Int)) then κ i.toNat else none
  |_=>none
def jJ (E:TypeId→Option fD)(T f:Nat):Option (Nat×Nat×Nat):=(E T).bind fun i=>i.fields[f]?
def m8 (a:AV)(n:Nat):Option AV:=
 match a with
 |.ref s off=>some (.ref s (off+n))
 |.eref s j sz i off=>some (.eref s j sz i (off+n))
 |.vp cs=>some (.vp (cs.drop n))
 |.vi cs=>some (.vi (cs.drop n))
 |_=>none
def setRange {α:Type}(l:List α)(off:Nat)(new:List α):List α:=l.take off++new++l.drop (off+new.length)
def bH (l:List AV):List af:=l.map .av
def dY (E:TypeId→Option fD)(fields:List (Nat×Nat×Nat)):List (Nat×AV)→List AV→Option (List AV)
 |[],cs=>some cs
 |(i,a) :: rest,cs=>
  match fields[i]? with
  |some (off,size,_)=>bif a.isVal&&(Nat.beq a.leaves.length size&&Nat.ble (off+size) cs.length) then dY E fields rest (setRange cs off a.leaves) else none
  |none=>none
def hZ (t:El):Nat→List (Nat×AV)→Option (List t.den)
 |_,[]=>some []
 |n,(i,a) :: rest=>bif Nat.beq i n then (t.ofCells a.leaves).bind fun x=>(hZ t (n+1) rest).map fun l=>x :: l else none
def bJ (E:TypeId→Option fD)(o:Oper)(S:St)(κ:AV→Option ac→Option R):Option R:=
 let d:=match o.dst with|some d=>d|none=>0
 match o.op with
 |.move x|.assign x=>κ (S.ev x) none
 |.pick c a b=>match S.ev c with|.bool t=>bif t then κ (S.ev a) none else κ (S.ev b) none|_=>none
 |.nilCheck x=>match S.ev x with|.ref s f=>κ (.ref s f) none|.vp cs=>κ (.vp cs) none|.vi cs=>κ (.vi cs) none|.eref s j sz i f=>κ (.eref s j sz i f) none|.optp t x=>(match x with|some x=>κ (.vi (t.cells x)) none|none=>none)|_=>none
 |.binOp op T x y _=>sS (match E T with|some i=>i.eqs&&eE (S.ev x).leaves i.zero|none=>false) (match E T with|some i=>i.isb|none=>false) (match E T with|some i=>i.elem.isSome|none=>false) ((match E T with|some i=>i.ifc|none=>false)&&pO y) op (S.ev x) (S.ev y) fun a=>κ a none
 |.unOp op _ x=>Ar op (S.ev x) fun a=>κ a none
 |.extract t i=>
  match S.ev t with
  |.tup vs=>(match vs[i]? with|some a=>κ a none|none=>none)
  |_=>none
 |.alloc T=>match E T with|some i=>κ (bif i.bld then .refT d T else .ref d 0) (some ⟨true,bH i.zero⟩)|none=>none
 |.box _ x=>bif (S.ev x).isVal then κ (.ref d 0) (some ⟨true,bH (S.ev x).leaves⟩) else none
 |.load T a=>
  match E T with
  |some i=>fQ S i.elem (S.ev a) i.size fun l=>(match nX i.agg l with|some v=>κ v none|none=>none)
  |none=>none
 |.fieldAddr T x f=>
  match jJ E T f with
  |some (off,_,_)=>(match m8 (S.ev x) off with|some a=>κ a none|none=>none)
  |none=>none
 |.field T x f=>
  match S.ev x,jJ E T f with
  |.agg cs,some (off,n,U)=>
   (match bk cs off n with
   |some l=>(match E U with|some j=>(match nX j.agg l with|some v=>κ v none|none=>none)|none=>none)
   |none=>none)
  |_,_=>none
 |.indexAddr T x i=>match (E T).bind (·.elem) with|some t=>cq S t (S.ev x) (S.ev i) fun a=>κ a none|none=>none
 |.index T x i=>
  match E T,S.ev x,S.ev i with
  |some ty,.str s,.int _ i=>bif ty.str then (rd s i).bind fun b=>κ (.int .u8 (b.toNat:Int)) none else none
  |_,_,_=>none
 |.slice T x lo hi none=>
  match E T with
  |some ty=>
   match S.ev x with
   |.str s=>bif ty.str then bN S hi s.length s.length fun h=>bN S lo h 0 fun l=>κ (.str ((s.take h).drop l)) none else none
   |.L t xs=>if ty.elem=some t then bN S hi xs.length xs.length fun h=>bN S lo h 0 fun l=>κ (.L t ((xs.take h).drop l)) none else none
   |.al s j=>
    match S.cell s j with
    |some (.sl t true xs)=>if ty.elem=some t then bN S hi xs.length xs.length fun h=>bN S lo h 0 fun l=>κ (bif lo.isNone&&hi.isSome then .rm t (xs.take h) (xs.drop h) else .L t ((xs.take h).drop l)) none else none
    |some (.sl t false xs)=>if ty.elem=some t then bN S hi xs.length xs.length fun h=>bN S lo h 0 fun l=>κ (.als s j t.size l (h - l)) none else none
    |_=>none
   |.rm t xs ys=>if ty.elem=some t then bN S hi (xs++ys).length xs.length fun h=>bN S lo h 0 fun l=>κ (.L t (((xs++ys).take h).drop l)) none else none
   |_=>none
  |none=>none
 |.convert src dst x=>
  match E src,E dst with
  |some i,some j=>
   match S.ev x,j.kind with
   |.int _ n,some k=>κ (.int k (k.wrap n)) none
   |.int _ _,none=>none
   |.str s,_=>bif j.str then κ (.str s) none else none
   |a,_=>
    bif j.str then
     match i.elem with
     |some (.int .u8)=>(match eL S (.int .u8) a with|some l=>κ (.str (ah l)) none|none=>none)
     |_=>none
    else none
  |_,_=>none
 |.build T parts=>
  match E T with
  |some i=>bif i.fields.isEmpty then none else (match dY E i.fields (parts.toList.map fun p=>(p.1,S.ev p.2)) i.zero with|some cs=>κ (.agg cs) none|none=>none)
  |none=>none
 |.buildSlice T n parts=>
  match E T with
  |some i=>
   match i.elem with
   |some t=>
    match hZ t 0 (parts.toList.map fun p=>(p.1,iG S (S.ev p.2))) with
    |some l=>bif Nat.beq l.length n&&Nat.ble (n*t.size) 16777216 then κ (.al d 0) (some ⟨false,[.sl t false l]⟩) else none
    |none=>none
   |none=>none
  |none=>none
 |.makeSlice T l c=>
  match E T,S.ev l,S.ev c with
  |some i,.int _ n,.int _ m=>
   match i.elem with
   |some (.list e)=>
    match i.ezero with
    |[.nils]=>bif n==m&&(decide (0≤n)&&decide (n*(i.ebytes:Int)≤140737488355328)) then κ (.bs d n.toNat) (some ⟨true,List.replicate n.toNat (.sl e true [])⟩) else none
    |_=>none
   |some t=>
    match t.ofCells i.ezero with
    |some x=>bif n==m&&(decide (0≤n)&&decide (n*(i.ebytes:Int)≤140737488355328)) then κ (.al d 0) (some ⟨false,[.sl t false (List.replicate n.toNat x)]⟩) else none
    |none=>none
   |none=>none
  |_,_,_=>none
 |.makeFunc (.func f) first captured=>bif first.isEmpty then κ (.fn f (evL S captured.toList)) none else none
 |.call c=>
  match c.callee with
  |.builtin .len=>(match c.args.toList,c.argTypes.toList with|[x],[T]=>nA S (E T) (S.ev x) fun a=>κ a none|_,_=>none)
  |.builtin .max=>
   match evL S c.args.toList with
   |[.int k a,.int k' b]=>if k=k' then κ (.int k (bif decide (b>a) then b else a)) none else none
   |[.int k a,.int k' b,.int k'' e]=>if k=k' then if k=k'' then κ (.int k (let m:=bif decide (b>a) then b else a;bif decide (e>m) then e else m)) none else none else none
   |_=>none
  |.builtin .min=>
   match evL S c.args.toList with
   |[.int k a,.int k' b]=>if k=k' then κ (.int k (bif decide (b<a) then b else a)) none else none
   |_=>none
  |_=>none
 |_=>none
def nz (s:Nat):AV→Bool
 |.nilp=>true
 |.bad s'=>Nat.beq s' s
 |.ref s' o=>Nat.beq s' s&&Nat.beq o 0
 |_=>false
inductive ux where
 |keep (ss:List Nat)
 |keepR (ss:List Nat)
 |own (v:Nat) (t:El) (fz:Bool)
 |view (v:Nat) (t:El)
 |cell (s j:Nat) (t:El) (fz:Bool)
 |froze (s j:Nat)
 |cellv (s j:Nat) (t:El)
 |bself (s:Nat)
def iE {α:Type}(ss:List Nat)(l:List (Nat×α)):List (Nat×α):=
 match ss with
 |[]=>[]
 |s :: ss=>match look s l with|some a=>(s,a) :: iE ss l|none=>iE ss l
def j2 (n:Nat)(S:St):ux→Option St
 |.keep ss=>some { S with tmps:=iE ss S.tmps }
 |.keepR ss=>some { S with roots:=iE ss S.roots }
 |.own v t fz=>
  bif !Nat.blt v n then none else
  match S.tmp v with
  |.nils=>some (((S.clear (2000+v)).setRoot (2000+v) ⟨false,[.sl t fz []]⟩).put v (.al (2000+v) 0))
  |.al s j=>
   match S.cell s j with
   |some (.sl u fz' xs)=>
    if u=t then
     bif fz||!fz' then
      bif Nat.beq s (2000+v) then bif Nat.beq j 0 then some ((S.setRoot (2000+v) ⟨false,[.sl u fz xs]⟩).put v (.al (2000+v) 0)) else none
      else some ((((S.setCell s j (.av .und)).clear (2000+v)).setRoot (2000+v) ⟨false,[.sl u fz xs]⟩).put v (.al (2000+v) 0))
     else none
    else none
   |_=>none
  |_=>none
 |.view v t=>
  match S.tmp v with
  |.nils=>some (S.put v (.L t []))
  |.L u xs=>some (S.put v (.L u xs))
  |.rm u xs _=>some (S.put v (.L u xs))
  |.al s j=>
   match S.cell s j with
   |some (.sl u _ xs)=>some ((S.setCell s j (.sl u true xs)).put v (.L u xs))
   |_=>none
  |_=>none
 |.cell s j t fz=>
  match S.cell s j with
  |some (.sl u fz' xs)=>if u=t then (bif fz||!fz' then some (S.setCell s j (.sl u fz xs)) else none) else none
  |some (.av .nils)=>some ((S.clearC s j).setCell s j (.sl t fz []))
  |some (.av (.al s' j'))=>
   match S.cell s' j' with
   |some (.sl u fz' xs)=>if u=t then (bif fz||!fz' then some (((S.setCell s' j' (.av .und)).clearC s j).setCell s j (.sl u fz xs)) else none) else none
   |_=>none
  |_=>none
 |.froze s j=>
  match S.cell s j with
  |some (.sl t _ xs)=>some (S.setCell s j (.sl t true xs))
  |_=>none
 |.cellv s j t=>
  match S.cell s j with
  |some (.sl t _ xs)=>some ((S.setCell s j (.sl t true xs)).setCell s j (.av (.L t xs)))
  |some (.av (.L _ _))=>some S
  |some (.av (.rm u xs _))=>some (S.setCell s j (.av (.L u xs)))
  |some (.av .nils)=>some (S.setCell s j (.av (.L t [])))
  |some (.av (.al s' j'))=>
   match S.cell s' j' with
   |some (.sl t _ xs)=>some ((S.setCell s' j' (.sl t true xs)).setCell s j (.av (.L t xs)))
   |_=>none
  |_=>none
 |.bself s=>
  match S.root s with
  |some ⟨true,.av a :: cs⟩=>bif nz s a then some (S.setRoot s ⟨true,.av (.bad s) :: cs⟩) else none
  |_=>none
def h9 (n:Nat)(S:St):List ux→Option St
 |[]=>some S
 |c :: l=>match j2 n S c with|some S=>h9 n S l|none=>none
def PK.quiet:PK→Bool
 |.one (.own ..)=>false
 |.bw _|.br _ _=>false
 |.rw _=>false
 |.agg ks=>ks.all fun k=>match k with|.own ..=>false|_=>true
 |_=>true
def eH (lend:Bool)(S:St):LK→AV→Option AV
 |.bool,.bool b=>some (.bool b)
 |.int k,.int k' n=>if k=k' then some (.int k n) else none
 |.str,.str s=>some (.str s)
 |.err,.err b=>some (.err b)
 |.list t,.al s j=>
  match S.cell s j with
  |some (.sl u fz xs)=>bif fz||lend then (if h:u=t then some (.L t (h ▸ xs)) else none) else none
  |_=>none
 |.list t,a=>(pT t a).map (.L t)
 |.room t,.rm u xs ys=>if u=t then some (.rm u xs ys) else none
 |_,_=>none
def aT (lend:Bool)(S:St):List LK→List AV→Option (List AV)
 |[],[]=>some []
 |k :: ks,a :: l=>(eH lend S k a).bind fun b=>(aT lend S ks l).map fun m=>b :: m
 |_,_=>none
def we (lend:Bool)(S:St)(ks:List LK):AV→Option AV
 |.ref s off=>
  match S.root s with
  |some ⟨true,cs⟩=>(bk (aV s 0 cs) off ks.length).bind fun l=>(aT lend S ks l).map .vp
  |_=>none
 |.vp cs|.vi cs=>(bk cs 0 ks.length).bind fun l=>(aT lend S ks l).map .vp
 |_=>none
def mD (lend:Bool)(S:St):AV→Option AV
 |.al s j=>
  match S.cell s j with
  |some (.sl u fz xs)=>bif fz||lend then some (.L u xs) else none
  |_=>none
 |.bool b=>some (.bool b)
 |.int k n=>some (.int k n)
 |.str s=>some (.str s)
 |.L t xs=>some (.L t xs)
 |.nils=>some .nils
 |.nilp=>some .nilp
 |_=>none
def cU (lend:Bool)(S:St):List AV→Option (List AV)
 |[]=>some []
 |a :: l=>(mD lend S a).bind fun b=>(cU lend S l).map fun m=>b :: m
def oe (lend:Bool)(S:St):AV→Option AV
 |.ref s off=>
  match S.root s with
  |some ⟨true,cs⟩=>(cU lend S ((aV s 0 cs).drop off)).map .vp
  |_=>none
 |.vp cs|.vi cs=>(cU lend S cs).map .vp
 |_=>none
def jR (lend:Bool)(S:St):List AV→Option (List AV)
 |[]=>some []
 |a :: l=>(oe lend S a).bind fun b=>(jR lend S l).map fun m=>b :: m
def ou (lend:Bool)(S:St):PK→AV→Option jg
 |.one k,a=>(eH lend S k a).map .v
 |.agg ks,.agg cs=>(aT lend S ks cs).map fun l=>.v (.agg l)
 |.ro ks,a=>(we lend S ks a).map .v
 |.fn,.fn f caps=>(jR lend S caps).map fun l=>.v (.fn f l)
 |_,_=>none
def iI (lend:Bool)(S:St):List PK→List AV→Option (List jg)
 |[],[]=>some []
 |k :: ks,a :: l=>(ou lend S k a).bind fun b=>(iI lend S ks l).map fun m=>b :: m
 |_,_=>none
structure eT where
 box:Option Nat
 srcs:List (Option (Nat×Nat))
def fh (S:St):LK→AV→Option (af×Option (Nat×Nat))
 |.own t fz,.nils=>some (.sl t fz [],none)
 |.own t fz,.al s j=>
  match S.cell s j with
  |some (.sl u fz' xs)=>if u=t then (bif fz==fz' then some (.sl u fz' xs,some (s,j)) else none) else none
  |_=>none
 |k,a=>(eH false S k a).map fun b=>(.av b,none)
def dd (S:St):List LK→List AV→Option (List af×List (Option (Nat×Nat)))
 |[],[]=>some ([],[])
 |k :: ks,a :: l=>(fh S k a).bind fun p=>(dd S ks l).map fun q=>(p.1 :: q.1,p.2 :: q.2)
 |_,_=>none
def ar (S:St)(s:Nat):Nat→List LK→List af→Option (List af×List (Option (Nat×Nat)))
 |_,[],[]=>some ([],[])
 |j,k :: ks,.av a :: l=>(fh S k a).bind fun p=>(ar S s (j+1) ks l).map fun q=>(p.1 :: q.1,p.2 :: q.2)
 |j,.own t fz :: ks,.sl u fz' xs :: l=>if u=t then (bif fz==fz' then (ar S s (j+1) ks l).map fun q=>(.sl u fz' xs :: q.1,some (s,j) :: q.2) else none) else none
 |j,.list t :: ks,.sl u true xs :: l=>if h:u=t then (ar S s (j+1) ks l).map fun q=>(.av (.L t (h ▸ xs)) :: q.1,none :: q.2) else none
 |_,_,_=>none
def nG (lend:Bool)(S S':St)(k:PK)(a:AV):Option (jg×eT):=
 bif k.quiet then (ou lend S' k a).map fun b=>(b,⟨none,[]⟩) else
 match k,a with
 |.one k,a=>(fh S k a).map fun p=>(.o p.1,⟨none,[p.2]⟩)
 |.agg ks,.agg cs=>(dd S ks cs).map fun p=>(.g p.1,⟨none,p.2⟩)
 |.rw ks,.ref s 0=>
  match S.root s with
  |some ⟨true,cs⟩=>(ar S s 0 ks cs).map fun p=>(.b p.1,⟨some s,p.2⟩)
  |_=>none
 |_,_=>none
def cX (lend:Bool)(S S':St):List PK→List AV→Option (List jg×List eT)
 |[],[]=>some ([],[])
 |k :: ks,a :: l=>(nG lend S S' k a).bind fun p=>(cX lend S S' ks l).map fun q=>(p.1 :: q.1,p.2 :: q.2)
 |_,_=>none
def m3:LK→AV→List (Nat×Nat)
 |.own _ true,.al s j=>[(s,j)]
 |_,_=>[]
def fc:List LK→List AV→List (Nat×Nat)
 |k :: ks,a :: l=>m3 k a++fc ks l
 |_,_=>[]
def ic (s:Nat):Nat→List LK→List af→List (Nat×Nat)
 |j,k :: ks,.av a :: l=>m3 k a++ic s (j+1) ks l
 |j,.own _ true :: ks,.sl .. :: l=>(s,j) :: ic s (j+1) ks l
 |j,_ :: ks,_ :: l=>ic s (j+1) ks l
 |_,_,_=>[]
def lE (S:St):PK→AV→List (Nat×Nat)
 |.one k,a=>m3 k a
 |.agg ks,.agg cs=>fc ks cs
 |.rw ks,.ref s 0=>match S.root s with|some r=>ic s 0 ks r.cs|none=>[]
 |_,_=>[]
def cV (S:St):List PK→List AV→List (Nat×Nat)
 |k :: ks,a :: l=>lE S k a++cV S ks l
 |_,_=>[]
def frzAt (S:St)(s j:Nat):St:=
 match S.cell s j with
 |some (.sl t false xs)=>S.setCell s j (.sl t true xs)
 |_=>S
def frzAll (S:St):List (Nat×Nat)→St
 |[]=>S
 |p :: l=>frzAll (frzAt S p.1 p.2) l
def bm:List PK→List AV→List Nat
 |.rw _ :: ks,.ref s 0 :: l=>s :: bm ks l
 |_ :: ks,_ :: l=>bm ks l
 |_,_=>[]
def cN {α:Type}(ss:List Nat)(l:List (Nat×α)):List (Nat×α):=
 match ss with
 |[]=>l
 |s :: ss=>cN ss (mb s l)
def dC (S:St):List (Nat×Nat)→St
 |[]=>S
 |p :: l=>dC (S.setCell p.1 p.2 (.av .und)) l
def dm:List eT→List (Nat×Nat)
 |[]=>[]
 |o :: l=>o.srcs.filterMap id++dm l
def aG:List eT→List Nat
 |[]=>[]
 |o :: l=>match o.box with|some s=>s :: aG l|none=>aG l
def lI:List Nat→Bool
 |[]=>true
 |n :: l=>l.all (fun m=>!Nat.beq m n)&&lI l
def wA (p:Nat×Nat):List (Nat×Nat)→Bool
 |[]=>false
 |q :: l=>(Nat.beq q.1 p.1&&Nat.beq q.2 p.2)||wA p l
def i7:List (Nat×Nat)→Bool
 |[]=>true
 |p :: l=>!wA p l&&i7 l
def bP:List af→Bool
 |[]=>false
 |.sl .. :: _=>true
 |_ :: l=>bP l
def AY (t:El)(x:t.den):AV:=
 match t with
 |.int k=>.int k x
 |.bool=>.bool x
 |.str=>.str x
 |.list e=>.L e x
 |t=>.agg (t.cells x)
def RK.inj (d j:Nat):(k:RK)→k.den→AV×List af
 |.one k,x=>(cellAV d j (k.cell x),[k.cell x])
 |.agg ks,x=>(.agg (aV d j (dn.cells ks x)),dn.cells ks x)
 |.el t,x=>(AY t x,[])
 |.ptr t,x=>(.optp t x,[])
def eg.inj (d:Nat):(j:Nat)→(ks:List RK)→eg.den ks→List AV×List af
 |_,[],_=>([],[])
 |j,[k],x=>let (a,l):=k.inj d j x;([a],l)
 |j,k :: k' :: ks,x=>
  let (a,l):=k.inj d j x.1
  let (as,m):=eg.inj d (j+l.length) (k' :: ks) x.2
  (a :: as,l++m)
def kU:List AV→AV
 |[a]=>a
 |l=>.tup l
def bc.res1:(s:bc)→s.den→eg.den s.res
 |⟨_,[]⟩,x=>x
 |⟨[],_ :: _⟩,_=>()
 |⟨_ :: _,_ :: _⟩,x=>x.1
def bc.back1:(s:bc)→s.den→cu.den s.back
 |⟨_,[]⟩,_=>()
 |⟨[],_ :: _⟩,x=>x
 |⟨_ :: _,_ :: _⟩,x=>x.2
def cu.cells:(bs:List (Nat×List LK))→cu.den bs→List (Nat×List af)
 |[],_=>[]
 |[(i,ks)],x=>[(i,dn.cells ks x)]
 |(i,ks) :: b :: bs,x=>(i,dn.cells ks x.1) :: cu.cells (b :: bs) x.2
def cm (S:St)(os:List eT):List (Nat×List af)→Option St
 |[]=>some S
 |(i,cs) :: l=>
  match os[i]? with
  |some ⟨some s,_⟩=>cm (S.setRoot s ⟨true,cs⟩) os l
  |_=>none
structure bT where
 ntmps:Nat
 body:Code
 results:List ResultVar
 cmdsL:List (Nat×List ux)
 lcmdsL:List (Nat×List ux)
 jcmdsL:List (Nat×List ux)
 frzL:List Nat
 split:Bool
def bT.cmds (f:bT)(i:Nat):List ux:=match look i f.cmdsL with|some l=>l|none=>[]
def bT.lcmds (f:bT)(i:Nat):List ux:=match look i f.lcmdsL with|some l=>l|none=>[]
def bT.jcmds (f:bT)(i:Nat):Option (List ux):=look i f.jcmdsL
def lU (n:Nat):List Nat→Bool
 |[]=>false
 |m :: l=>Nat.beq m n||lU n l
def bT.frz (f:bT)(i:Nat):Bool:=lU i f.frzL
def e7 (b:Bool):List af→List af
 |[]=>[]
 |.sl t fz xs :: l=>.sl t (b||fz) xs :: e7 b l
 |c :: l=>c :: e7 b l
inductive Ex where
 |normal|exit (id:Nat)|ret
structure db where
 fn:FuncId→Option bT
 ty:TypeId→Option fD
 pks:FuncId→List PK
 sig:FuncId→bc
 ext:(f:FuncId)→List jg→Option (sig f).den
 bar:(R:Type)→Option R→Option R
abbrev aX:=(R:Type)→Option R→Option R
abbrev Lv (sig:FuncId→bc):=(f:FuncId)→List jg→Option (sig f).den
def bV (S:St)(c:Call):Option (FuncId×List AV):=
 match c.callee with
 |.value x=>match S.ev x with|.fn f caps=>some (f,evL S c.args.toList++caps)|_=>none
 |_=>none
def fm (S:St)(a:AV)(l:List AV)(κ:List (Nat×ac)→List Nat→Option R):Option R:=
 match a with
 |.ref s off=>
  match S.root s with
  |some ⟨true,cs⟩=>bif Nat.ble (off+l.length) cs.length then κ (kn s ⟨true,setRange cs off (bH l)⟩ S.roots) [] else none
  |_=>none
 |.eref s j sz i off=>
  match S.cell s j with
  |some (.sl t false xs)=>bif Nat.beq sz t.size then (xs[i]?).bind fun x=>
   match t.ofCells (setRange (t.cells x) off l) with
   |some y=>bif Nat.ble (off+l.length) t.size then κ (S.setCell s j (.sl t false (xs.set i y))).roots [] else none
   |none=>none
   else none
  |_=>none
 |.bref s i=>
  match l with
  |[.al s' j']=>
   match S.root s with
   |some ⟨true,cs⟩=>
    match S.cell s' j' with
    |some (.sl u _ ys)=>bif Nat.beq s' s then none else bif Nat.blt i cs.length then κ ((S.setCell s' j' (.av .und)).setCell s i (.sl u true ys)).roots [s] else none
    |_=>none
   |_=>none
  |_=>none
 |_=>none
def ui:af→Option (List Int)
 |.av .nils=>some []
 |.sl (.int .u8) false xs=>some xs
 |_=>none
def yH (S:St)(s:Nat)(x:List UInt8)(κ:List (Nat×ac)→Option R):Option R:=
 match S.root s with
 |some ⟨true,[.av a,c]⟩=>
  bif nz s a then
   match ui c with
   |some xs=>bif decide (xs.length+x.length≤140737488355328) then κ (kn s ⟨true,[.av (.bad s),.sl (.int .u8) false (xs++aA x)]⟩ S.roots) else none
   |none=>none
  else none
 |_=>none
def yC (S:St)(s e:Nat)(κ:AV→List (Nat×ac)→Option R):Option R:=
 match S.root s with
 |some ⟨true,[.av a,c]⟩=>
  match c with
  |.av (.fzs e' l)=>bif Nat.beq e' e then κ (.str (ah l)) (kn s ⟨true,[.av a,.av (.fzs e l)]⟩ S.roots) else none
  |_=>(match ui c with|some xs=>κ (.str (ah xs)) (kn s ⟨true,[.av a,.av (.fzs e xs)]⟩ S.roots)|none=>none)
 |_=>none
def iD (S:St)(s j lo n:Nat)(t':El)(x:AV)(κ:AV→List (Nat×ac)→Option R):Option R:=
 match S.cell s j with
 |some (.sl t false xs)=>
  if t=t' then
   bif Nat.beq t.size 1&&Nat.ble (lo+n) xs.length then
    match eL S t x with
    |some ys=>κ (.int .i64 ((min ys.length n:Nat):Int)) (S.setCell s j (.sl t false (xs.take lo++ys.take n++xs.drop (lo+min ys.length n)))).roots
    |none=>none
   else none
  else none
 |_=>none
def gG (sig:FuncId→bc)(pks:FuncId→List PK)(lv:Lv sig)(d:Nat)(S:St)(f:FuncId)(as:List AV)(κ:AV→Option ac→List (Nat×ac)→List Nat→Option R):Option R:=
 let S1:=frzAll S (cV S (pks f) as)
 let bs:=bm (pks f) as
 let S2:St:=⟨S1.tmps,cN bs S1.roots⟩
 match cX false S1 S2 (pks f) as with
 |some (args,os)=>
  bif lI (aG os)&&i7 (dm os) then
   (lv f args).bind fun r=>
    match cm (dC S2 (dm os)) os (cu.cells (sig f).back (bc.back1 (sig f) r)) with
    |some S''=>
     let p:=eg.inj d 0 (sig f).res (bc.res1 (sig f) r)
     κ (kU p.1) (bif bP p.2 then some ⟨false,p.2⟩ else none) S''.roots (aG os)
    |none=>none
  else none
 |none=>none
def gA (E:db)(lv:Lv E.sig)(o:Oper)(S:St)(κ:AV→Option ac→List (Nat×ac)→List Nat→Option R):Option R:=
 let d:=match o.dst with|some d=>d|none=>0
 match o.op with
 |.store T a x=>
  match E.ty T with
  |some i=>bif Nat.beq (S.ev x).leaves.length i.size&&dt (S.ev x).leaves then fm S (S.ev a) (S.ev x).leaves (κ .und none) else none
  |none=>none
 |.call c=>
  match c.callee with
  |.builtin .append=>
   match c.args.toList,c.argTypes.toList with
   |[b,x],[T,T']=>
    match bif Nat.beq T T' then E.ty T else none with
    |some i=>
     match i.elem with
     |some t=>
      match eL S t (S.ev x) with
      |some ys=>
       match S.ev b with
       |.nils=>bif decide (ys.length*i.ebytes≤140737488355328) then κ (.al d 0) (some ⟨false,[.sl t false ys]⟩) S.roots [] else none
       |.emp=>bif decide (ys.length*i.ebytes≤140737488355328) then (bif t.isU8 then κ (.L t ys) none S.roots [] else κ (.al d 0) (some ⟨false,[.sl t false ys]⟩) S.roots []) else none
       |.al s j=>
        match S.cell s j with
        |some (.sl u b xs)=>
         if h:u=t then
          bif decide ((xs.length+ys.length)*i.ebytes≤140737488355328) then
           κ (.al d 0) (some ⟨false,[.sl t b ((h ▸ xs)++ys)]⟩) (S.setCell s j (.av .und)).roots []
          else none
         else none
        |_=>none
       |.bal s j _ _=>
        (S.cell s j).bind fun c=>(wQ t c).bind fun p=>
         bif decide ((p.2.length+ys.length)*i.ebytes≤140737488355328) then
          κ (.al d 0) (some ⟨false,[.sl t p.1 (p.2++ys)]⟩) (S.setCell s j (.av .und)).roots []
         else none
       |_=>none
      |none=>none
     |none=>none
    |none=>none
   |_,_=>none
  |.builtin .copy=>
   match c.args.toList,c.argTypes.toList with
   |[b,x],[T,T']=>
    match (bif Nat.beq T T' then E.ty T else none).bind (·.elem) with
    |some t=>
     match S.ev b with
     |.als s j sz lo n=>bif Nat.beq sz t.size then iD S s j lo n t (S.ev x) fun a rs=>κ a none rs [] else none
     |.al s j=>(match S.cell s j with|some (.sl _ _ xs)=>iD S s j 0 xs.length t (S.ev x) fun a rs=>κ a none rs []|_=>none)
     |_=>none
    |none=>none
   |_,_=>none
  |.value _=>
   match bV S c with
   |some (f,as)=>
    match E.pks f,as with
    |[.bw T,.one .str],[.refT s T',.str x]=>bif Nat.beq T' T then yH S s x fun rs=>κ .und none rs [s] else none
    |[.br T e],[.refT s T']=>bif Nat.beq T' T then yC S s e fun a rs=>κ a none rs [s] else none
    |_,_=>gG E.sig E.pks lv d S f as κ
   |none=>none
  |_=>none
 |_=>none
def stepC (E:db)(lv:Lv E.sig)(o:Oper)(c:Call)(S:St)(κ:AV→Option ac→Option R):Option R:=
 let d:=match o.dst with|some d=>d|none=>0
 match bV S c with
 |some (f,as)=>
  match iI (E.sig f).lends S (E.pks f) as with
  |some args=>bif (E.sig f).back.isEmpty then (lv f args).bind fun r=>
    let p:=eg.inj d 0 (E.sig f).res (bc.res1 (E.sig f) r)
    κ (kU p.1) (bif bP p.2 then some ⟨false,p.2⟩ else none)
   else none
  |none=>none
 |none=>none
def bF (pks:FuncId→List PK)(o:Oper):Bool:=
 match o.op with
 |.store ..=>false
 |.call c=>
  match c.callee with
  |.builtin .append|.builtin .copy=>false
  |.value (.func f)=>(pks f).all PK.quiet
  |_=>true
 |_=>true
def ax (E:db)(lv:Lv E.sig)(o:Oper)(S:St)(κ:AV→Option ac→Option R):Option R:=
 match o.op with
 |.call c=>
  match c.callee with
  |.builtin _=>bJ E.ty o S κ
  |_=>stepC E lv o c S κ
 |_=>bJ E.ty o S κ
def step1 (E:db)(lv:Lv E.sig)(o:Oper)(S:St)(κ:AV→Option ac→List (Nat×ac)→List Nat→Option R):Option R:=
 bif bF E.pks o then ax E lv o S fun a r=>κ a r S.roots [] else gA E lv o S κ
def qC (fz:Nat→Bool)(d:Nat)(r:ac):ac:=⟨r.box,killC d (e7 (fz d) r.cs)⟩
def St.gain (fz:Nat→Bool)(S:St)(o:Oper)(a:AV)(r:Option ac):St:=
 match r with
 |none=>S.putO o.dst a
 |some r=>match o.dst with|some d=>((S.clear d).setRoot d (qC fz d r)).put d a|none=>S.clear 0
def step (E:db)(lv:Lv E.sig)(fz:Nat→Bool)(o:Oper)(S:St)(κ:St→Option R):Option R:=
 step1 E lv o S fun a r rs ks=>κ (St.gain fz (St.clearB ⟨S.tmps,rs⟩ ks) o a r)
def lz (ops:List Oper)(o:Oper)(S:St)(yes no:St→Option R):Option R:=
 match o.guard with
 |none=>yes S
 |some (g,want)=>
  match (ops[g]?).bind (·.dst) with
  |none=>none
  |some t=>
   match S.tmp t with
   |.bool b=>bif (bif want then b else !b) then yes (S.put t (.bool want)) else no (S.put t (.bool (!want)))
   |.tup []=>no S
   |_=>none
def oJ (E:db)(lv:Lv E.sig)(fz:Nat→Bool)(ops:List Oper):List Oper→St→(St→Option R)→Option R
 |[],S,κ=>κ S
 |o :: rest,S,κ=>
  lz ops o S
   (fun S=>step E lv fz o S fun S=>oJ E lv fz ops rest S κ)
   (fun S=>oJ E lv fz ops rest (S.putO o.dst (.tup [])) κ)
def cj (e:Edge):Bool:=match e.ground with|.textOnly _|.gcOnly _=>false|_=>true
def ak:List Oper→List Nat→List Nat
 |[],acc=>acc
 |o :: l,acc=>ak l (acc++[o.after.toList.foldl (fun s e=>bif cj e then s ||| 2 ^ e.on ||| acc.getD e.on 0 else s) 0])
def bn (ops:List Oper)(o:Oper):List Nat:=
 (o.op.operands.toList.filterMap fun x=>match x with|.tmp t=>some t|_=>none)++
 (match o.guard with
  |some (g,_)=>match (ops[g]?).bind (·.dst) with|some d=>[d]|none=>[]
  |none=>[])
def dW (o:Oper):Bool:=
 match o.op with
 |.move _|.assign _|.pick ..|.binOp ..|.unOp ..|.extract ..|.nilCheck _|.fieldAddr ..|.field ..|.index ..|.build ..=>true
 |_=>false
def dU (o:Oper):Bool:=
 match o.op with
 |.load ..=>true
 |.call c=>(match c.callee with|.builtin .len=>true|_=>false)
 |_=>false
def ct (o:Oper):Bool:=dW o||dU o
def fL (ops:List Oper)(x y:Oper):Bool:=
 (match x.dst with
  |some d=>!lU d (bn ops y)&&(match y.dst with|some e=>!Nat.beq d e|none=>true)
  |none=>true)&&
 (match y.dst with
  |some d=>!lU d (bn ops x)
  |none=>true)
def dJ (ops:List Oper)(d:Nat):List Oper→Bool
 |[]=>false
 |p :: l=>lU d (bn ops p)||(match p.dst with|some e=>bif Nat.beq e d then false else dJ ops d l|none=>dJ ops d l)
def qD (pks:FuncId→List PK)(ops:List Oper)(o:Oper):Bool:=bF pks o&&!(match o.dst with|some d=>dJ ops d ops|none=>false)
def dr (pks:FuncId→List PK)(ops:List Oper):List Oper→Bool
 |[]=>true
 |o :: l=>qD pks ops o&&dr pks ops l
def nP (pks:FuncId→List PK)(ops:List Oper)(i j:Nat)(x:Oper):Bool:=
 dr pks ops (ops.take (j+1))||(ct x&&dr pks ops (ops.take (i+1)))
def kH (pks:FuncId→List PK)(ops:List Oper)(bs:List Nat):Nat→List Oper→Bool
 |_,[]=>true
 |j,y :: l=>
  (ops.take j).zipIdx.all (fun (x,i)=>(bs.getD j 0).testBit i||(fL ops x y&&nP pks ops i j x))&&kH pks ops bs (j+1) l
def iw:Nat→List Oper→Bool
 |_,[]=>true
 |i,o :: l=>o.after.toList.all (fun e=>!cj e||Nat.blt e.on i)&&iw (i+1) l
def iQ:List Oper→Bool
 |[]=>true
 |o :: l=>(match o.dst with|some d=>l.all (fun p=>match p.dst with|some e=>!Nat.beq d e|none=>true)|none=>true)&&iQ l
def qK (ops:List Oper):List Oper→Bool
 |[]=>true
 |o :: l=>(bn ops o).all (fun t=>(o :: l).all fun p=>match p.dst with|some e=>!Nat.beq t e|none=>true)&&qK ops l
def eQ (pks:FuncId→List PK)(ops:List Oper):List Oper→List Oper
 |[]=>[]
 |o :: l=>bif qD pks ops o then o :: eQ pks ops l else []
def pW (pks:FuncId→List PK)(ops:List Oper):Bool:=
 iw 0 ops&&iQ ops&&qK ops (eQ pks ops ops)&&kH pks ops (ak ops []) 0 ops
def eD (d:Nat):List (Nat×ac)→Bool
 |[]=>true
 |(i,r) :: l=>!Nat.beq i d&&r.cs.all (fun c=>match c with|.av a=>!a.names d|_=>true)&&eD d l
def sn (S:St)(d:Nat):Bool:=S.tmps.all (fun p=>!p.2.names d)&&eD d S.roots
def fq (S:St):List Oper→Bool
 |[]=>true
 |o :: l=>(match o.dst with|some d=>sn S d|none=>true)&&fq S l
def oh (S:St):List Oper→Bool
 |[]=>true
 |o :: l=>(match o.dst with|some d=>S.tmps.all (fun p=>!p.2.names d)&&S.roots.all (fun p=>!Nat.beq p.1 d)|none=>true)&&oh S l
def nH:List Oper→List Nat
 |[]=>[]
 |o :: l=>match o.dst with|some d=>d :: nH l|none=>nH l
def lT:List Nat→List af→List af
 |[],cs=>cs
 |d :: ds,cs=>lT ds (killC d cs)
def kB (ds:List Nat):List (Nat×ac)→List (Nat×ac)
 |[]=>[]
 |(i,r) :: l=>(i,⟨r.box,lT ds r.cs⟩) :: kB ds l
def St.purge (S:St)(ds:List Nat):St:=⟨S.tmps,kB ds S.roots⟩
def bi (S:St):List (Nat×ac)→St
 |[]=>S
 |(d,r) :: l=>bi (S.setRoot d r) l
def cM (ops:List Oper)(b:Nat):List Nat:=
 ops.zipIdx.filterMap fun p=>bif b.testBit p.2 then p.1.dst else none
def ij (ss:List Nat)(new:List (Nat×ac))(S:St)(a:AV)(r:Option ac)(d:Nat):Bool:=
 new.all (fun p=>lU p.1 ss||(!a.names p.1&&(match r with|some r=>r.cs.all (fun c=>match c with|.av a=>!a.names p.1|_=>true)|none=>true)))&&
 (match r with|some _=>S.tmps.all (fun p=>!p.2.names d)&&eD d new|none=>true)
def lL (S:St)(o:Oper)(r:Option ac)(ks:List Nat):Bool:=
 (match r with|some _=>(match o.dst with|some d=>S.tmps.all (fun p=>!p.2.names d)|none=>false)|none=>true)&&ks.all (fun s=>S.tmps.all (fun p=>!p.2.namesB s))
def ii:PK→Bool
 |.rw ks=>ks.all fun k=>match k with|.own ..=>false|_=>true
 |k=>k.quiet
def tM (ps:List Nat)(S:St)(d:Option Nat)(bs:List Nat):Bool:=
 (match d with|some d=>!lU d ps|none=>true)&&
 ps.all fun s=>match S.root s with
  |some r=>r.cs.all fun c=>match c with|.av a=>(match d with|some d=>!a.names d|none=>true)&&bs.all (fun b=>!a.namesB b)|_=>true
  |none=>true
def m4 (pks:FuncId→List PK)(ps:List Nat)(S:St)(o:Oper):Bool:=
 ps.isEmpty||(dW o||
  (match o.op with
   |.store _ b _=>(match S.ev b with|.ref s _=>!lU s ps|_=>false)
   |.buildSlice ..=>tM ps S o.dst []
   |.call c=>
    match c.callee with
    |.value (.func f)=>(pks f).all ii&&(bm (pks f) (evL S c.args.toList)).all (fun s=>!lU s ps)&&tM ps S o.dst (bm (pks f) (evL S c.args.toList))
    |_=>false
   |_=>false))
def ow (bs:List Nat)(i m:Nat):Bool:=((List.range bs.length).drop m).all fun j=>(bs.getD j 0).testBit i
def cR (bs:List Nat)(i m:Nat):Nat:=match ((List.range bs.length).drop m).find? (fun j=>(bs.getD j 0).testBit i) with|some j=>j|none=>bs.length
def bU (bs:List Nat)(S:St)(m:Nat):Nat→List Oper→Option (List (Nat×Nat))
 |_,[]=>some []
 |i,x :: l=>
  bif !dU x||ow bs i m then bU bs S m (i+1) l else
  match x.op with
  |.load _ a=>
   match S.ev a with
   |.ref s _=>(bU bs S m (i+1) l).map fun ps=>(s,cR bs i m) :: ps
   |.vp _|.vi _|.tup _=>bU bs S m (i+1) l
   |_=>none
  |.call c=>
   match c.args.toList with
   |[a]=>(match S.ev a with|.al ..=>none|_=>bU bs S m (i+1) l)
   |_=>none
  |_=>none
def sb (ps:List (Nat×Nat))(k:Nat):List Nat:=(ps.filter fun p=>Nat.blt k p.2).map (·.1)
def fY (E:db)(lv:Lv E.sig)(fz:Nat→Bool)(ops:List Oper)(ps:List (Nat×Nat)):List Oper→St→(St→Option R)→Option R
 |[],S,κ=>κ S
 |o :: rest,S,κ=>
  lz ops o S
   (fun S=>step1 E lv o S fun a r rs ks=>
    bif lL S o r ks&&m4 E.pks (sb ps (ops.length - (rest.length+1))) S o
    then fY E lv fz ops ps rest (St.gain fz (St.clearB ⟨S.tmps,rs⟩ ks) o a r) κ else none)
   (fun S=>fY E lv fz ops ps rest (S.putO o.dst (.tup [])) κ)
def ju (o:Oper):Bool:=match o.op with|.convert ..=>true|.buildSlice ..=>true|.call c=>(match c.callee with|.value _=>true|_=>false)|_=>false
def drawS (ss:List Nat)(new:List (Nat×ac))(o:Oper)(S:St):St:=bif ju o then bi S (new.filter fun p=>lU p.1 ss) else S
def fG (E:db)(lv:Lv E.sig)(fz:Nat→Bool)(ops:List Oper):List Oper→List Nat→(new:List (Nat×ac))→St→(St→Option R)→Option R
 |o :: rest,b :: bs,new,S,κ=>
  bif qD E.pks ops o then
   lz ops o S
    (fun S=>ax E lv o (drawS (cM ops b) new o S) fun a r=>
     match r,o.dst with
     |none,d=>bif ij (cM ops b) new S a none 0 then fG E lv fz ops rest bs new (S.putO d a) κ else none
     |some r,some d=>bif ij (cM ops b) new S a (some r) d then fG E lv fz ops rest bs ((d,qC fz d r) :: new) (S.put d a) κ else none
     |some _,none=>none)
    (fun S=>fG E lv fz ops rest bs new (S.putO o.dst (.tup [])) κ)
  else match bU (ak ops []) S (ops.length - (rest.length+1)) 0 (ops.take (ops.length - (rest.length+1))) with
   |some ps=>fY E lv fz ops ps (o :: rest) (bi S new) κ
   |none=>none
 |_,_,new,S,κ=>κ (bi S new)
def dw (o:Oper):Bool:=match o.op with|.buildSlice _ n ps=>Nat.beq n 0&&ps.toList.isEmpty|_=>false
def lj (ty:TypeId→Option fD)(o:Oper):Bool:=match o.op with|.buildSlice T _ _=>(match ty T with|some i=>i.elem.isSome|none=>false)|_=>false
def fr (o:Oper):Bool:=match o.op with|.indexAddr ..=>true|.slice _ _ _ _ none=>true|_=>false
def cT (ops:List Oper)(o:Oper):Bool:=(ct o||fr o||dw o)&&!(match o.dst with|some d=>dJ ops d ops|none=>false)
def nD (ops:List Oper)(bs:List Nat):Nat→List Oper→Bool
 |_,[]=>true
 |j,y :: l=>(ops.take j).zipIdx.all (fun (x,i)=>(bs.getD j 0).testBit i||(fL ops x y&&(cT ops x||cT ops y)))&&nD ops bs (j+1) l
def B2 (ops:List Oper):Bool:=iw 0 ops&&iQ ops&&nD ops (ak ops []) 0 ops
abbrev lY:=Option (Option (Nat×Nat×Nat))
def bO (E:TypeId→Option fD)(o:Oper)(S:St):lY:=
 match o.op with
 |.load T a=>
  match S.ev a with
  |.ref s off=>(E T).map fun i=>some (s,off,i.size)
  |.eref s j _ _ _=>some (some (s,j,1))
  |.vp _|.vi _=>some none
  |_=>none
 |.call c=>
  match c.args.toList with
  |[a]=>(match S.ev a with|.al s j=>some (some (s,j,1))|_=>some none)
  |_=>none
 |.indexAddr _ x _=>(match S.ev x with|.al s j=>some (some (s,j,1))|_=>some none)
 |.slice _ x _ _ _=>(match S.ev x with|.al s j=>some (some (s,j,1))|_=>some none)
 |_=>some none
abbrev Aw:=Option (List (Nat×Option (Nat×Nat)))
def xc (d:Nat)(l:List (Nat×ac)):Bool:=l.all fun p=>p.2.cs.all fun c=>match c with|.av a=>!a.names d|_=>true
def cD (o:Oper)(S:St)(r:Option ac):Aw:=
 match r with
 |none=>some []
 |some _=>match o.dst with|some d=>bif xc d S.roots then some [(d,none)] else none|none=>none
def zu (bs:List Nat)(l:List (Nat×ac)):Bool:=l.all fun p=>p.2.cs.all fun c=>match c with|.av a=>bs.all fun b=>!a.namesB b|_=>true
def zT (ks:List PK):Bool:=match ks with|[.bw _,.one .str]=>false|[.br _ _]=>false|_=>true
def m7 (pks:FuncId→List PK)(o:Oper)(S:St)(r:Option ac):Aw:=
 match o.op with
 |.call c=>
  match c.callee with
  |.value (.func f)=>
   bif zT (pks f)&&(pks f).all ii&&zu (bm (pks f) (evL S c.args.toList)) S.roots then
    (cD o S r).map fun l=>(bm (pks f) (evL S c.args.toList)).map (fun b=>(b,none))++l
   else none
  |_=>none
 |_=>none
def ff (pks:FuncId→List PK)(o:Oper)(S:St)(r:Option ac)(ks:List Nat):Aw:=
 bif !ks.isEmpty then m7 pks o S r else
 bif bF pks o then cD o S r else
 match o.op with
 |.store _ b x=>
  match S.ev b with
  |.ref s off=>(cD o S r).map fun l=>(s,some (off,(S.ev x).leaves.length)) :: l
  |.eref s j _ _ _=>(cD o S r).map fun l=>(s,some (j,1)) :: l
  |_=>none
 |.call c=>
  match c.callee,c.args.toList with
  |.builtin .append,b :: _=>
   match S.ev b with
   |.nils|.emp=>cD o S r
   |.al s j=>(cD o S r).map fun l=>(s,some (j,1)) :: l
   |_=>none
  |_,_=>none
 |_=>none
def gp (f:lY)(e:Aw):Bool:=
 match f with
 |none=>false
 |some none=>true
 |some (some (s,off,n))=>match e with|none=>false|some l=>l.all fun q=>!Nat.beq q.1 s||(match q.2 with|none=>false|some (o,m)=>Nat.ble (o+m) off||Nat.ble (off+n) o)
abbrev uR:=Nat×Option Nat×List Nat×Aw
def qf (b:Nat)(a:AV)(f:lY)(h:uR):Bool:=
 b.testBit h.1||((match h.2.1 with|some d=>!a.names d|none=>true)&&h.2.2.1.all (fun k=>!a.namesB k)&&gp f h.2.2.2)
def pi (E:db)(lv:Lv E.sig)(fz:Nat→Bool)(ops:List Oper):List Oper→List Nat→Nat→List (Nat×lY)→List uR→St→(St→Option R)→Option R
 |o :: rest,b :: bs,i,fs,hs,S,κ=>
  lz ops o S
   (fun S=>
    bif dw o then
     bif cT ops o&&lj E.ty o then pi E lv fz ops rest bs (i+1) ((i,some none) :: fs) hs (S.putO o.dst .emp) κ else none
    else
    step1 E lv o S fun a r rs ks=>
    bif cT ops o then
     bif hs.all (qf b a (bO E.ty o S)) then pi E lv fz ops rest bs (i+1) ((i,bO E.ty o S) :: fs) hs (S.putO o.dst a) κ else none
    else
     bif lL S o r ks&&fs.all (fun f=>b.testBit f.1||gp f.2 (ff E.pks o S r ks)) then
      pi E lv fz ops rest bs (i+1) fs ((i,(match r with|some _=>o.dst|none=>none),ks,ff E.pks o S r ks) :: hs) (St.gain fz (St.clearB ⟨S.tmps,rs⟩ ks) o a r) κ
     else none)
   (fun S=>pi E lv fz ops rest bs (i+1) fs hs (S.putO o.dst (.tup [])) κ)
 |_,_,_,_,_,S,κ=>κ S
def wl (E:db)(lv:Lv E.sig)(fz:Nat→Bool)(ops:List Oper)(S:St)(κ:St→Option R):Option R:=
 bif pW E.pks ops then bif oh S ops then fG E lv fz ops ops (ak ops []) [] (S.purge (nH ops)) κ else none
 else bif B2 ops then pi E lv fz ops ops (ak ops []) 0 [] [] S κ else none
def fj (n:Nat):List Oper→Bool
 |[]=>true
 |o :: l=>(match o.dst with|some d=>Nat.blt d n|none=>true)&&fj n l
def region (E:db)(lv:Lv E.sig)(fz:Nat→Bool)(n:Nat)(ops:List Oper)(draw:Bool)(S:St)(κ:St→Option R):Option R:=
 bif !fj n ops then none else
 bif draw then wl E lv fz ops S κ
 else oJ E lv fz ops ops S κ
def fE:Code→Option Nat
 |.region id _ _=>some id
 |.seq a _=>fE a
 |.block _ c=>fE c
 |.loop c=>fE c
 |_=>none
def zI (bar:aX)(fi:bT)(b:Code)(run:St→Option R)(κ:Ex→St→Option R):Ex→St→Option R
 |.normal,S=>
  match (fE b).bind fi.jcmds with
  |some cs=>match h9 fi.ntmps S cs with|some S=>bar R (run S)|none=>none
  |none=>run S
 |.exit i,S=>κ (.exit i) S
 |.ret,S=>κ .ret S
def yO (id:Nat)(κ:Ex→St→Option R):Ex→St→Option R
 |.normal,S=>κ .normal S
 |.exit i,S=>bif Nat.beq i id then κ .normal S else κ (.exit i) S
 |.ret,S=>κ .ret S
def ug (nt:Nat)(cs:List ux)(id:Nat)(next:St→Option R)(κ:Ex→St→Option R):Ex→St→Option R
 |.normal,S=>match h9 nt S cs with|some S=>next S|none=>none
 |.exit i,S=>bif Nat.beq i id then κ .normal S else κ (.exit i) S
 |.ret,S=>κ .ret S
def nK (nt:Nat)(cs:List ux)(id:Nat)(body:St→(Ex→St→Option R)→Option R)(κ:Ex→St→Option R):Nat→St→Option R
 |0,_=>none
 |n+1,S=>body S (ug nt cs id (nK nt cs id body κ n) κ)
def ge (E:db)(lv:Lv E.sig)(K:Nat)(fi:bT):Code→St→(Ex→St→Option R)→Option R
 |.skip,S,κ=>κ .normal S
 |.region id ops draw,S,κ=>match h9 fi.ntmps S (fi.cmds id) with|some S=>region E lv fi.frz fi.ntmps ops.toList draw S (κ .normal)|none=>none
 |.seq a b,S,κ=>ge E lv K fi a S (zI E.bar fi b (fun S=>ge E lv K fi b S κ) κ)
 |.cond c x y,S,κ=>match S.ev c with|.bool b=>bif b then ge E lv K fi x S κ else ge E lv K fi y S κ|_=>none
 |.block id (.loop b),S,κ=>
  match h9 fi.ntmps S (fi.lcmds id) with
  |some S=>nK fi.ntmps (fi.lcmds id) id (fun S κ=>ge E lv K fi b S κ) κ K S
  |none=>none
 |.block id c,S,κ=>ge E lv K fi c S (yO id κ)
 |.exit id,S,κ=>κ (.exit id) S
 |.ret,S,κ=>κ .ret S
 |_,_,_=>none
inductive CJ where
 |l|r|t|e|b|lp (n:Nat)
def at_ (E:db)(lv:Lv E.sig)(K:Nat)(fi:bT):List CJ→Code→(Ex→St→Option R)→Code×(Ex→St→Option R)
 |.l :: p,.seq a b,κ=>at_ E lv K fi p a (zI E.bar fi b (fun S=>ge E lv K fi b S κ) κ)
 |.r :: p,.seq _ b,κ=>at_ E lv K fi p b κ
 |.t :: p,.cond _ x _,κ=>at_ E lv K fi p x κ
 |.e :: p,.cond _ _ y,κ=>at_ E lv K fi p y κ
 |.b :: p,.block id c,κ=>at_ E lv K fi p c (yO id κ)
 |.lp n :: p,.block id (.loop c),κ=>at_ E lv K fi p c (ug fi.ntmps (fi.lcmds id) id (nK fi.ntmps (fi.lcmds id) id (fun S κ=>ge E lv K fi c S κ) κ n) κ)
 |_,c,κ=>(c,κ)
def cv (S:St):(k:LK)→AV→Option k.den
 |.own _ _,.nils=>some []
 |.own t fz,.al s j=>
  match S.cell s j with
  |some (.sl u fz' xs)=>if h:u=t then (bif fz==fz' then some (h ▸ xs) else none) else none
  |_=>none
 |.list t,.al s j=>
  match S.cell s j with
  |some (.sl u true xs)=>if h:u=t then some (h ▸ xs) else none
  |_=>none
 |k,a=>k.ofCell (.av a)
def di (S:St):(ks:List LK)→List AV→Option (dn.den ks)
 |[],[]=>some ()
 |[k],[a]=>cv S k a
 |k :: k' :: ks,a :: l=>(cv S k a).bind fun x=>(di S (k' :: ks) l).map fun y=>(x,y)
 |_,_=>none
def lO (S:St):AV→Option AV
 |.al s j=>match S.cell s j with|some (.sl t true xs)=>some (.L t xs)|_=>none
 |a=>some a
def cZ (S:St):List AV→Option (List AV)
 |[]=>some []
 |a :: l=>(lO S a).bind fun b=>(cZ S l).map fun m=>b :: m
def El.isAgg:El→Bool
 |.node|.arr|.col|.blk=>true
 |_=>false
def AV.isAgg:AV→Bool
 |.agg _=>true
 |_=>false
def lr (S:St):(k:RK)→AV→Option k.den
 |.one k,a=>cv S k a
 |.agg ks,.agg cs=>di S ks cs
 |.el t,a=>bif a.isVal&&(t.isAgg==a.isAgg) then (cZ S a.leaves).bind t.ofCells else none
 |.ptr _,.nilp=>some none
 |.ptr t,.vi cs=>(t.ofCells cs).map some
 |_,_=>none
def gf (S:St):(ks:List RK)→List AV→Option (eg.den ks)
 |[],[]=>some ()
 |[k],[a]=>lr S k a
 |k :: k' :: ks,a :: l=>(lr S k a).bind fun x=>(gf S (k' :: ks) l).map fun y=>(x,y)
 |_,_=>none
def tB:LK→AV→Option (Nat×Nat)
 |.own _ _,.al s j=>some (s,j)
 |_,_=>none
def dj:List LK→List AV→List (Option (Nat×Nat))
 |k :: ks,a :: l=>tB k a :: dj ks l
 |_,_=>[]
def aY:List RK→List AV→List (Option (Nat×Nat))
 |.one k :: ks,a :: l=>tB k a :: aY ks l
 |.agg ks' :: ks,.agg cs :: l=>dj ks' cs++aY ks l
 |_ :: ks,_ :: l=>aY ks l
 |_,_=>[]
def AH:LK→AV→List (Nat×Nat)
 |.own _ true,.al s j=>[(s,j)]
 |.list _,.al s j=>[(s,j)]
 |_,_=>[]
def zc:List LK→List AV→List (Nat×Nat)
 |k :: ks,a :: l=>AH k a++zc ks l
 |_,_=>[]
def wF:List AV→List (Nat×Nat)
 |.al s j :: l=>(s,j) :: wF l
 |_ :: l=>wF l
 |[]=>[]
def ku:List RK→List AV→List (Nat×Nat)
 |.one k :: ks,a :: l=>AH k a++ku ks l
 |.agg ks' :: ks,.agg cs :: l=>zc ks' cs++ku ks l
 |.el _ :: ks,a :: l=>wF a.leaves++ku ks l
 |_ :: ks,_ :: l=>ku ks l
 |_,_=>[]
def un (s:Nat):Nat→List LK→List af→List (Nat×Nat)
 |j,.own _ true :: ks,.sl .. :: l=>(s,j) :: un s (j+1) ks l
 |j,.list _ :: ks,.sl .. :: l=>(s,j) :: un s (j+1) ks l
 |j,_ :: ks,_ :: l=>un s (j+1) ks l
 |_,_,_=>[]
def kQ (S:St):List (Nat×List LK)→List (Nat×Nat)
 |[]=>[]
 |(i,ks) :: l=>(match S.root (1000+i) with|some r=>un (1000+i) 0 ks r.cs|none=>[])++kQ S l
def dn.ofCells:(ks:List LK)→List af→Option (dn.den ks)
 |[],[]=>some ()
 |[k],[c]=>k.ofCell c
 |k :: k' :: ks,c :: l=>(k.ofCell c).bind fun x=>(dn.ofCells (k' :: ks) l).map fun y=>(x,y)
 |_,_=>none
def iY (S:St)(i:Nat)(ks:List LK):Option (dn.den ks):=match S.root (1000+i) with|some ⟨true,cs⟩=>dn.ofCells ks cs|_=>none
def gQ (S:St):(bs:List (Nat×List LK))→Option (cu.den bs)
 |[]=>some ()
 |[(i,ks)]=>iY S i ks
 |(i,ks) :: b :: bs=>(iY S i ks).bind fun x=>(gQ S (b :: bs)).map fun y=>(x,y)
def bc.mk1:(s:bc)→eg.den s.res→cu.den s.back→s.den
 |⟨_,[]⟩,x,_=>x
 |⟨[],_ :: _⟩,_,y=>y
 |⟨_ :: _,_ :: _⟩,x,y=>(x,y)
def ua (E:db)(S:St):ResultVar→Option AV
 |.tmp t=>some (S.tmp t)
 |.cell a T=>match E.ty T with|some i=>fQ S i.elem (S.tmp a) i.size fun l=>nX i.agg l|none=>none
def lD (E:db)(S:St):List ResultVar→Option (List AV)
 |[]=>some []
 |r :: l=>(ua E S r).bind fun a=>(lD E S l).map fun m=>a :: m
def oc:List (Nat×List LK)→List (Nat×Nat)→Bool
 |[],_=>true
 |(i,_) :: l,ps=>l.all (fun b=>!Nat.beq b.1 i)&&ps.all (fun p=>!Nat.beq p.1 (1000+i))&&oc l ps
def gV (E:db)(fi:bT)(s:bc)(S:St):Option s.den:=
 match lD E S fi.results with
 |some as=>
  let S1:=frzAll S (ku s.res as++kQ S s.back)
  let ps:=(aY s.res as).filterMap id
  bif i7 ps&&oc s.back ps then
   (gf S1 s.res as).bind fun x=>(gQ S1 s.back).bind fun y=>some (s.mk1 x y)
  else none
 |none=>none
def bX:Nat→List jg→List (Nat×AV)
 |_,[]=>[]
 |i,.v a :: l=>(i,a) :: bX (i+1) l
 |i,.o c :: l=>(i,cellAV (1000+i) 0 c) :: bX (i+1) l
 |i,.g cs :: l=>(i,.agg (aV (1000+i) 0 cs)) :: bX (i+1) l
 |i,.b _ :: l=>(i,.ref (1000+i) 0) :: bX (i+1) l
def cA:Nat→List jg→List (Nat×ac)
 |_,[]=>[]
 |i,.v _ :: l=>cA (i+1) l
 |i,.o c :: l=>(1000+i,⟨false,[c]⟩) :: cA (i+1) l
 |i,.g cs :: l=>(1000+i,⟨false,cs⟩) :: cA (i+1) l
 |i,.b cs :: l=>(1000+i,⟨true,cs⟩) :: cA (i+1) l
def xP (E:db)(fi:bT)(s:bc)(S:St):Option s.den:=
 match h9 fi.ntmps S (fi.cmds 1000000) with
 |some S=>gV E fi s S
 |none=>none
def Ai (E:db)(fi:bT)(s:bc):Ex→St→Option s.den
 |.normal,S=>xP E fi s S
 |.exit _,_=>none
 |.ret,S=>xP E fi s S
noncomputable def both {R:Type}(a b:Option R):Option R:=open Classical in if a=b then a else none
noncomputable def zG {α R:Type}(xs:List α)(a:Option R)(b:List α→Option R):Option R:=
 match xs with
 |[]=>both a (b [])
 |x :: l=>b (x :: l)
noncomputable def rj (E:db)(lv:Lv E.sig)(K:Nat)(f:FuncId)(fi:bT)(args:List jg):Option (E.sig f).den:=
 bif !(Nat.ble fi.ntmps 1000&&Nat.ble args.length fi.ntmps) then none else ge E lv K fi fi.body ⟨bX 0 args,cA 0 args⟩ (Ai E fi (E.sig f))
noncomputable def call (E:db)(lv:Lv E.sig)(K:Nat)(f:FuncId)(args:List jg):Option (E.sig f).den:=
 match E.fn f with
 |some fi=>
  bif fi.split then
   match args with
   |[.v (.L t xs)]=>zG xs (rj E lv K f fi [.v (.nq true t [])]) fun xs=>rj E lv K f fi [.v (.nq false t xs)]
   |_=>none
  else rj E lv K f fi args
 |none=>E.ext f args
end
noncomputable def ej (E:db):Nat→Lv E.sig
 |0=>fun _ _=>none
 |k+1=>fun f args=>call E (ej E k) k f args
noncomputable def b9 (E:db)(k:Nat)(fi:bT)(s:bc)(p:List CJ)(n:Nat)(S:St):Option s.den:=
 match at_ E (ej E k) k fi p fi.body (Ai E fi s) with
 |(.block id (.loop b),κ)=>nK fi.ntmps (fi.lcmds id) id (fun S κ=>ge E (ej E k) k fi b S κ) κ n S
 |_=>none
noncomputable def Bf (E:db)(k:Nat)(fi:bT)(s:bc)(p:List CJ)(S:St):Option s.den:=
 let c:=at_ E (ej E k) k fi p fi.body (Ai E fi s)
 ge E (ej E k) k fi c.1 S c.2
def bK:aX:=fun _ x=>x
theorem dR (R:Type)(x:Option R):bK R x=x:=rfl
end Go.Proofs.YtjkokaockhecnaaGreatDoorA
