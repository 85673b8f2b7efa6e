/- An abstract machine for the model's code: slices as lists, boxes with one owner, no heap. Definitions alone. -/
import Derived.Calls
import Derived.KernelRfl
namespace Go.Proofs.YtjkokaockhecnaaGreatDoorA
open Go
structure aL where
 kind:Int
 parent:Int
 null:Bool
 deriving DecidableEq
inductive g8 where
 |mk (layout offset length:Int) (valid ends data:List UInt8) (kids:List g8)
def g8.layout:g8→Int|.mk a _ _ _ _ _ _=>a
def g8.offset:g8→Int|.mk _ a _ _ _ _ _=>a
def g8.length:g8→Int|.mk _ _ a _ _ _ _=>a
def g8.valid:g8→List UInt8|.mk _ _ _ a _ _ _=>a
def g8.ends:g8→List UInt8|.mk _ _ _ _ a _ _=>a
def g8.data:g8→List UInt8|.mk _ _ _ _ _ a _=>a
def g8.kids:g8→List g8|.mk _ _ _ _ _ _ a=>a
structure Col where
 reps:List Int
 defs:List Int
 values:List (List UInt8)
structure Kv where
 at_:Int
 size:Int
 rows:Int
 sum:Int
inductive El where
 |int (k:IntKind)|bool|str|list (e:El)|node|arr|col|blk
 deriving DecidableEq
abbrev El.den:El→Type
 |.int _=>Int
 |.bool=>Bool
 |.str=>List UInt8
 |.list e=>List e.den
 |.node=>aL
 |.arr=>g8
 |.col=>Col
 |.blk=>Kv
inductive AV where
 |und
 |bool (b:Bool)
 |int (k:IntKind) (n:Int)
 |str (s:List UInt8)
 |err (b:Bool)
 |nils
 |emp
 |L (t:El) (xs:List t.den)
 |al (s j:Nat)
 |ref (s off:Nat)
 |eref (s j sz i off:Nat)
 |bs (s n:Nat)
 |bref (s i:Nat)
 |bal (s i:Nat) (t:El) (xs:List t.den)
 |rm (t:El) (xs ys:List t.den)
 |als (s j sz lo n:Nat)
 |bad (s:Nat)
 |refT (s T:Nat)
 |fzs (e:Nat) (l:List Int)
 |vp (cs:List AV)
 |vi (cs:List AV)
 |nilp
 |optp (t:El) (x:Option t.den)
 |nq (nil:Bool) (t:El) (xs:List t.den)
 |agg (cs:List AV)
 |tup (vs:List AV)
 |fn (f:FuncId) (caps:List AV)
instance:Inhabited AV:=⟨.und⟩
def El.cells:(t:El)→t.den→List AV
 |.int k,n=>[.int k n]
 |.bool,b=>[.bool b]
 |.str,s=>[.str s]
 |.list e,xs=>[.L e xs]
 |.node,x=>[.int .i64 x.kind,.int .i64 x.parent,.bool x.null]
 |.arr,x=>[.int .i64 x.layout,.int .i64 x.offset,.int .i64 x.length,.str x.valid,.str x.ends,.str x.data,.L .arr x.kids]
 |.col,x=>[.L (.int .i64) x.reps,.L (.int .i64) x.defs,.L .str x.values]
 |.blk,x=>[.int .i64 x.at_,.int .i64 x.size,.int .i64 x.rows,.int .i64 x.sum]
def El.isList:El→Bool
 |.list _=>true
 |_=>false
def El.size:El→Nat
 |.node=>3|.arr=>7|.col=>3|.blk=>4|_=>1
def uU (t:El):AV→Option (List t.den)
 |.nils=>some []
 |.L u xs=>if h:u=t then some (h ▸ xs) else none
 |.nq _ u xs=>if h:u=t then some (h ▸ xs) else none
 |.bal _ _ u xs=>if h:u=t then some (h ▸ xs) else none
 |.rm u xs _=>if h:u=t then some (h ▸ xs) else none
 |_=>none
def El.ofCells:(t:El)→List AV→Option t.den
 |.int k,[.int k' n]=>if k=k' then some n else none
 |.bool,[.bool b]=>some b
 |.str,[.str s]=>some s
 |.list e,[x]=>uU e x
 |.node,[.int .i64 a,.int .i64 b,.bool c]=>some ⟨a,b,c⟩
 |.arr,[.int .i64 a,.int .i64 b,.int .i64 c,.str v,.str e,.str d,ks]=>(uU .arr ks).map (g8.mk a b c v e d)
 |.col,[a,b,c]=>(uU (.int .i64) a).bind fun a=>(uU (.int .i64) b).bind fun b=>(uU .str c).map fun c=>⟨a,b,c⟩
 |.blk,[.int .i64 a,.int .i64 b,.int .i64 c,.int .i64 d]=>some ⟨a,b,c,d⟩
 |_,_=>none
inductive au where
 |av (a:AV)
 |sl (t:El) (fz:Bool) (xs:List t.den)
structure ak where
 box:Bool
 cs:List au
structure St where
 tmps:List (Nat×AV)
 roots:List (Nat×ak)
def look {α:Type}(k:Nat):List (Nat×α)→Option α
 |[]=>none
 |(i,a) :: l=>bif Nat.beq i k then some a else look k l
def pV {α:Type}(k:Nat):List (Nat×α)→List (Nat×α)
 |[]=>[]
 |(i,a) :: l=>bif Nat.beq i k then pV k l else (i,a) :: pV k l
def ns {α:Type}(k:Nat)(a:α)(l:List (Nat×α)):List (Nat×α):=(k,a) :: pV k l
def St.tmp (S:St)(t:Nat):AV:=match look t S.tmps with|some a=>a|none=>.und
def St.root (S:St)(s:Nat):Option ak:=look s S.roots
def St.put (S:St)(t:Nat)(a:AV):St:={ S with tmps:=ns t a S.tmps }
def St.putO (S:St)(t:Option Nat)(a:AV):St:=match t with|some t=>S.put t a|none=>S
def St.setRoot (S:St)(s:Nat)(r:ak):St:={ S with roots:=ns s r S.roots }
def St.cell (S:St)(s j:Nat):Option au:=(S.root s).bind fun r=>r.cs[j]?
def St.setCell (S:St)(s j:Nat)(c:au):St:=
 match S.root s with
 |some r=>S.setRoot s { r with cs:=r.cs.set j c }
 |none=>S
def cellAV (s j:Nat):au→AV
 |.av a=>a
 |.sl ..=>.al s j
def AV.names (s:Nat):AV→Bool
 |.al s' _|.ref s' _|.eref s' _ _ _ _|.bs s' _|.bref s' _|.bal s' _ _ _|.als s' _ _ _ _|.bad s'|.refT s' _=>Nat.beq s' s
 |.vp cs|.vi cs|.agg cs|.tup cs|.fn _ cs=>namesL s cs
 |_=>false
 where namesL (s:Nat):List AV→Bool
 |[]=>false
 |a :: l=>AV.names s a||namesL s l
def AV.kill (s:Nat)(a:AV):AV:=bif a.names s then .und else a
def au.kill (s:Nat):au→au
 |.av a=>.av (a.kill s)
 |c=>c
def yq (s:Nat):List (Nat×AV)→List (Nat×AV)
 |[]=>[]
 |(i,a) :: l=>(i,a.kill s) :: yq s l
def killC (s:Nat):List au→List au
 |[]=>[]
 |c :: l=>c.kill s :: killC s l
def yr (s:Nat):List (Nat×ak)→List (Nat×ak)
 |[]=>[]
 |(i,r) :: l=>(i,⟨r.box,killC s r.cs⟩) :: yr s l
def St.clear (S:St)(s:Nat):St:=⟨yq s S.tmps,yr s (pV s S.roots)⟩
def AV.namesC (s j:Nat):AV→Bool
 |.al s' j'|.eref s' j' _ _ _|.als s' j' _ _ _=>Nat.beq s' s&&Nat.beq j' j
 |.bal s' _ _ _=>Nat.beq s' s
 |.vp cs|.vi cs|.agg cs|.tup cs|.fn _ cs=>namesCL s j cs
 |_=>false
 where namesCL (s j:Nat):List AV→Bool
 |[]=>false
 |a :: l=>AV.namesC s j a||namesCL s j l
def AV.killC (s j:Nat)(a:AV):AV:=bif a.namesC s j then .und else a
def au.killC (s j:Nat):au→au
 |.av a=>.av (a.killC s j)
 |c=>c
def va (s j:Nat):List (Nat×AV)→List (Nat×AV)
 |[]=>[]
 |(i,a) :: l=>(i,a.killC s j) :: va s j l
def killCC (s j:Nat):List au→List au
 |[]=>[]
 |c :: l=>c.killC s j :: killCC s j l
def vg (s j:Nat):List (Nat×ak)→List (Nat×ak)
 |[]=>[]
 |(i,r) :: l=>(i,⟨r.box,killCC s j r.cs⟩) :: vg s j l
def St.clearC (S:St)(s j:Nat):St:=⟨va s j S.tmps,vg s j S.roots⟩
def AV.namesB (s:Nat):AV→Bool
 |.al s' _|.eref s' _ _ _ _|.bal s' _ _ _|.als s' _ _ _ _=>Nat.beq s' s
 |.vp cs|.vi cs|.agg cs|.tup cs|.fn _ cs=>namesBL s cs
 |_=>false
 where namesBL (s:Nat):List AV→Bool
 |[]=>false
 |a :: l=>AV.namesB s a||namesBL s l
def AV.killB (s:Nat)(a:AV):AV:=bif a.namesB s then .und else a
def au.killB (s:Nat):au→au
 |.av a=>.av (a.killB s)
 |c=>c
def vw (s:Nat):List (Nat×AV)→List (Nat×AV)
 |[]=>[]
 |(i,a) :: l=>(i,a.killB s) :: vw s l
def cI (s:Nat):List au→List au
 |[]=>[]
 |c :: l=>c.killB s :: cI s l
def uZ (s:Nat):List (Nat×ak)→List (Nat×ak)
 |[]=>[]
 |(i,r) :: l=>(i,⟨r.box,cI s r.cs⟩) :: uZ s l
def St.clearB (S:St):List Nat→St
 |[]=>S
 |s :: l=>St.clearB ⟨vw s S.tmps,uZ s S.roots⟩ l
structure jg where
 agg:Bool
 size:Nat
 bytes:Nat
 zero:List AV
 kind:Option IntKind
 str:Bool
 elem:Option El
 elemT:Nat
 ezero:List AV
 ebytes:Nat
 fields : List (Nat × Nat × Nat)     -- offset, size, type
 eqs : Bool                          -- a struct that is compared cell by cell
 isb : Bool                          -- a truth
 bld : Bool := false                 -- a strings.Builder
 ifc : Bool := false                 -- an interface
inductive LK where
 |bool|int (k:IntKind)|str|err|list (t:El)|own (t:El) (fz:Bool)|room (t:El)
inductive PK where
 |one (k:LK)
 |agg (ks:List LK)
 |ro (ks:List LK)
 |rw (ks:List LK)
 |fn
 |bw (T:Nat)
 |br (T e:Nat)
inductive RK where
 |one (k:LK)
 |agg (ks:List LK)
 |el (t:El)
 |ptr (t:El)
inductive lM where
 |v (a:AV)
 |o (c:au)
 |g (cs:List au)
 |b (cs:List au)
abbrev LK.den:LK→Type
 |.bool=>Bool
 |.int _=>Int
 |.str=>List UInt8
 |.err=>Bool
 |.list t=>List t.den
 |.own t _=>List t.den
 |.room t=>List t.den×List t.den
abbrev gw.den:List LK→Type
 |[]=>Unit
 |[k]=>k.den
 |k :: ks=>k.den×gw.den ks
abbrev RK.den:RK→Type
 |.one k=>k.den
 |.agg ks=>gw.den ks
 |.el t=>t.den
 |.ptr t=>Option t.den
structure bQ where
 res:List RK
 back:List (Nat×List LK)
def El.dull:El→Bool
 |.int _|.bool|.str=>true
 |_=>false
def RK.lends:RK→Bool
 |.one .bool|.one (.int _)|.one .str=>true
 |.one (.own t false)=>t.dull
 |_=>false
def bQ.lends (s:bQ):Bool:=s.back.isEmpty&&s.res.all RK.lends
abbrev gu.den:List RK→Type
 |[]=>Unit
 |[k]=>k.den
 |k :: ks=>k.den×gu.den ks
abbrev ee.den:List (Nat×List LK)→Type
 |[]=>Unit
 |[k]=>gw.den k.2
 |k :: ks=>gw.den k.2×ee.den ks
abbrev bQ.den:bQ→Type
 |⟨rs,[]⟩=>gu.den rs
 |⟨[],bs⟩=>ee.den bs
 |⟨rs,bs⟩=>gu.den rs×ee.den bs
def LK.cell:(k:LK)→k.den→au
 |.bool,b=>.av (.bool b)
 |.int k,n=>.av (.int k n)
 |.str,s=>.av (.str s)
 |.err,b=>.av (.err b)
 |.list t,xs=>.av (.L t xs)
 |.own t fz,xs=>.sl t fz xs
 |.room t,p=>.av (.rm t p.1 p.2)
def gw.cells:(ks:List LK)→gw.den ks→List au
 |[],_=>[]
 |[k],x=>[k.cell x]
 |k :: k' :: ks,x=>k.cell x.1 :: gw.cells (k' :: ks) x.2
def LK.ofCell:(k:LK)→au→Option k.den
 |.bool,.av (.bool b)=>some b
 |.int k,.av (.int k' n)=>if k=k' then some n else none
 |.str,.av (.str s)=>some s
 |.err,.av (.err b)=>some b
 |.list t,.av a=>uU t a
 |.list t,.sl u true xs=>if h:u=t then some (h ▸ xs) else none
 |.own _ _,.av .nils=>some []
 |.own t fz,.sl u fz' xs=>if h:u=t then (bif fz==fz' then some (h ▸ xs) else none) else none
 |.room t,.av (.rm u xs ys)=>if h:u=t then some (h ▸ xs,h ▸ ys) else none
 |_,_=>none
def jW:Value→AV
 |.bool b=>.bool b
 |.int k n=>.int k n
 |.string s=>.str s.data.toList
 |.slice none 0 0=>.nils
 |.pointer none=>.nilp
 |_=>.und
def dQ:List Value→List AV
 |[]=>[]
 |v :: l=>jW v :: dQ l
def uV:Value→AV
 |.agg cs=>.agg (dQ cs.toList)
 |v=>jW v
def St.ev (S:St):Operand→AV
 |.tmp t=>S.tmp t
 |.const v=>uV v
 |.func f=>.fn f []
 |.global _=>.und
def evL (S:St):List Operand→List AV
 |[]=>[]
 |x :: l=>S.ev x :: evL S l
def AV.leaves:AV→List AV
 |.agg cs=>cs
 |a=>[a]
def AV.isVal:AV→Bool
 |.und|.tup _=>false
 |_=>true
def AV.isCell:AV→Bool
 |.und|.tup _|.agg _=>false
 |_=>true
def tZ (t:El):au→Option (Bool×List t.den)
 |.sl u b xs=>if h:u=t then some (b,h ▸ xs) else none
 |.av _=>none
def fr:List AV→Bool
 |[]=>true
 |a :: l=>a.isCell&&fr l
def en:AV→Nat
 |.int ..=>1
 |.bool _=>2
 |.str _=>3
 |_=>0
def gV:List AV→List AV→Bool
 |[],[]=>true
 |a :: l,b :: m=>Nat.beq (en a) (en b)&&gV l m
 |_,_=>false
def aH (op:BinOp)(k:IntKind)(x y:Int):Int:=
 let a:=BitVec.ofInt k.bits x
 let b:=BitVec.ofInt k.bits y
 k.wrap (match op with
  |.and=>a &&& b
  |.or=>a ||| b
  |.xor=>a ^^^ b
  |_=>a &&& ~~~b).toNat
def yb:AV→AV→Option Bool
 |.bool a,.bool b=>some (a==b)
 |.int k a,.int k' b=>if k=k' then some (a==b) else none
 |.str a,.str b=>some (a==b)
 |_,_=>none
def fw:List AV→List AV→Option Bool
 |[],[]=>some true
 |a :: l,b :: m=>(yb a b).bind fun x=>(fw l m).map fun y=>x&&y
 |_,_=>none
section
variable {R:Type}
def xm (eqs isb isl isn:Bool)(op:BinOp)(x y:AV)(κ:AV→Option R):Option R:=
 match x,y with
 |.int k a,.int k' b=>
  match op with
  |.shl=>bif decide (b<0) then none else κ (.int k (k.wrap (a*2 ^ (min b.toNat k.bits))))
  |.shr=>bif decide (b<0) then none else κ (.int k (a.fdiv (2 ^ (min b.toNat k.bits))))
  |op=>
   if k=k' then
    match op with
    |.add=>κ (.int k (k.wrap (a+b)))
    |.sub=>κ (.int k (k.wrap (a - b)))
    |.mul=>κ (.int k (k.wrap (a*b)))
    |.quo=>bif b==0 then none else κ (.int k (k.wrap (a.tdiv b)))
    |.rem=>bif b==0 then none else κ (.int k (a.tmod b))
    |.and=>κ (.int k (aH .and k a b))
    |.or=>κ (.int k (aH .or k a b))
    |.xor=>κ (.int k (aH .xor k a b))
    |.andNot=>κ (.int k (aH .andNot k a b))
    |.eql=>κ (.bool (a==b))
    |.neq=>κ (.bool (a != b))
    |.lss=>κ (.bool (decide (a<b)))
    |.leq=>κ (.bool (decide (a≤b)))
    |.gtr=>κ (.bool (decide (a>b)))
    |.geq=>κ (.bool (decide (a≥b)))
    |_=>none
   else none
 |.str a,.str b=>
  match op with
  |.add=>bif decide (a.length+b.length≤9223372036854775807) then κ (.str (a++b)) else none
  |.eql=>κ (.bool (a==b))
  |.neq=>κ (.bool (a != b))
  |_=>none
 |.bool a,.bool b=>
  match op with
  |.eql=>bif isb then κ (.bool (a==b)) else none
  |.neq=>bif isb then κ (.bool (a != b)) else none
  |_=>none
 |.agg a,.agg b=>
  match op with
  |.eql=>bif eqs then (match fw a b with|some c=>κ (.bool c)|none=>none) else none
  |.neq=>bif eqs then (match fw a b with|some c=>κ (.bool (!c))|none=>none) else none
  |_=>none
 |.nq q _ _,.nils=>
  match op with
  |.eql=>bif isl then κ (.bool q) else none
  |.neq=>bif isl then κ (.bool (!q)) else none
  |_=>none
 |.err b,_=>
  match op with
  |.eql=>bif isn then κ (.bool (!b)) else none
  |.neq=>bif isn then κ (.bool b) else none
  |_=>none
 |_,_=>none
def uS:Operand→Bool
 |.const .nilIface=>true
 |_=>false
def HS (op:UnOp)(x:AV)(κ:AV→Option R):Option R:=
 match op,x with
 |.neg,.int k n=>κ (.int k (k.wrap (0 - n)))
 |.not,.bool b=>κ (.bool (!b))
 |.xor,.int k n=>κ (.int k (aH .xor k (bif k.signed then -1 else k.max) n))
 |_,_=>none
def rd {α:Type}(xs:List α)(i:Int):Option α:=bif decide (0≤i) then xs[i.toNat]? else none
def cB {α:Type}(l:List α)(off n:Nat):Option (List α):=
 bif Nat.ble (off+n) l.length then some ((l.drop off).take n) else none
def de (s:Nat):Nat→List au→List AV
 |_,[]=>[]
 |j,c :: l=>cellAV s j c :: de s (j+1) l
def jm (S:St)(el:Option El)(a:AV)(n:Nat)(κ:List AV→Option R):Option R:=
 match a with
 |.ref s off=>
  match S.root s with
  |some ⟨true,cs⟩=>match cB (de s 0 cs) off n with|some l=>κ l|none=>none
  |_=>none
 |.eref s j sz i off=>
  match S.cell s j with
  |some (.sl t _ xs)=>bif Nat.beq sz t.size then (xs[i]?).bind fun x=>match cB (t.cells x) off n with|some l=>κ l|none=>none else none
  |_=>none
 |.vp cs|.vi cs=>match cB cs 0 n with|some l=>κ l|none=>none
 |.bref s i=>
  match S.root s with
  |some ⟨true,cs⟩=>match el with|some t=>(bif Nat.beq n 1 then (cs[i]?).bind fun c=>(tZ t c).bind fun p=>bif p.1 then κ [.bal s i t p.2] else none else none)|none=>none
  |_=>none
 |_=>none
def tj (agg:Bool)(l:List AV):Option AV:=
 match agg,l with
 |true,l=>some (.agg l)
 |false,[a]=>some a
 |_,_=>none
def d6 (S:St)(t':El)(x:AV)(i:AV)(κ:AV→Option R):Option R:=
 match i with
 |.int _ i=>
  match x with
  |.L t xs=>if t=t' then (rd xs i).bind fun x=>κ (.vi (t.cells x)) else none
  |.rm t xs _=>if t=t' then (rd xs i).bind fun x=>κ (.vi (t.cells x)) else none
  |.al s j=>
   match S.cell s j with
   |some (.sl t true xs)=>if t=t' then (rd xs i).bind fun x=>κ (.vi (t.cells x)) else none
   |some (.sl t false xs)=>if t=t' then (bif decide (0≤i)&&decide (i<(xs.length:Int)) then κ (.eref s j t.size i.toNat 0) else none) else none
   |_=>none
  |.bs s n=>bif t'.isList then (bif decide (0≤i)&&decide (i<(n:Int)) then κ (.bref s i.toNat) else none) else none
  |_=>none
 |_=>none
def rY (S:St)(ty:Option jg)(x:AV)(κ:AV→Option R):Option R:=
 match ty with
 |some ty=>
  match x with
  |.str s=>bif ty.str then κ (.int .i64 (s.length:Int)) else none
  |.L _ xs=>bif ty.elem.isSome then κ (.int .i64 (xs.length:Int)) else none
  |.rm _ xs _=>bif ty.elem.isSome then κ (.int .i64 (xs.length:Int)) else none
  |.nils=>bif ty.elem.isSome then κ (.int .i64 0) else none
  |.al s j=>
   match S.cell s j with
   |some (.sl _ _ xs)=>bif ty.elem.isSome then κ (.int .i64 (xs.length:Int)) else none
   |_=>none
  |.bs _ n=>bif ty.elem.isSome then κ (.int .i64 (n:Int)) else none
  |.bal _ _ _ xs=>bif ty.elem.isSome then κ (.int .i64 (xs.length:Int)) else none
  |_=>none
 |none=>none
def hJ (S:St)(t:El)(x:AV):Option (List t.den):=
 match x with
 |.al s j=>
  match S.cell s j with
  |some (.sl u _ xs)=>if h:u=t then some (h ▸ xs) else none
  |_=>none
 |.als s j sz lo n=>
  match S.cell s j with
  |some (.sl u _ xs)=>bif Nat.beq sz t.size&&Nat.ble (lo+n) xs.length then (if h:u=t then some (((h ▸ xs:List t.den).drop lo).take n) else none) else none
  |_=>none
 |x=>uU t x
def sn (S:St):AV→AV
 |.al s j=>(match S.cell s j with|some (.sl t true xs)=>.L t xs|_=>.al s j)
 |a=>a
def k9 (S:St):AV→AV
 |.agg l=>.agg (l.map (sn S))
 |a=>sn S a
def bz (s:List UInt8):List Int:=s.map fun b=>(b.toNat:Int)
def ae (l:List Int):List UInt8:=l.map fun n=>UInt8.ofNat n.toNat
def dl (S:St)(o:Option Operand)(y:Nat)(dflt:Nat)(κ:Nat→Option R):Option R:=
 match o with
 |none=>κ dflt
 |some x=>
  match S.ev x with
  |.int _ i=>bif decide (0≤i)&&decide (i≤(y:Int)) then κ i.toNat else none
  |_=>none
def mB (E:TypeId→Option jg)(T f:Nat):Option (Nat×Nat×Nat):=(E T).bind fun i=>i.fields[f]?
def qZ (a:AV)(n:Nat):Option AV:=
 match a with
 |.ref s off=>some (.ref s (off+n))
 |.eref s j sz i off=>some (.eref s j sz i (off+n))
 |.vp cs=>some (.vp (cs.drop n))
 |.vi cs=>some (.vi (cs.drop n))
 |_=>none
def setRange {α:Type}(l:List α)(off:Nat)(new:List α):List α:=l.take off++new++l.drop (off+new.length)
def cZ (l:List AV):List au:=l.map .av
def f7 (E:TypeId→Option jg)(fields:List (Nat×Nat×Nat)):List (Nat×AV)→List AV→Option (List AV)
 |[],cs=>some cs
 |(i,a) :: rest,cs=>
  match fields[i]? with
  |some (off,size,_)=>bif a.isVal&&(Nat.beq a.leaves.length size&&Nat.ble (off+size) cs.length) then f7 E fields rest (setRange cs off a.leaves) else none
  |none=>none
def kU (t:El):Nat→List (Nat×AV)→Option (List t.den)
 |_,[]=>some []
 |n,(i,a) :: rest=>bif Nat.beq i n then (t.ofCells a.leaves).bind fun x=>(kU t (n+1) rest).map fun l=>x :: l else none
def dd (E:TypeId→Option jg)(o:Oper)(S:St)(κ:AV→Option ak→Option R):Option R:=
 let d:=match o.dst with|some d=>d|none=>0
 match o.op with
 |.move x|.assign x=>κ (S.ev x) none
 |.pick c a b=>match S.ev c with|.bool t=>bif t then κ (S.ev a) none else κ (S.ev b) none|_=>none
 |.nilCheck x=>match S.ev x with|.ref s f=>κ (.ref s f) none|.vp cs=>κ (.vp cs) none|.vi cs=>κ (.vi cs) none|.eref s j sz i f=>κ (.eref s j sz i f) none|.optp t x=>(match x with|some x=>κ (.vi (t.cells x)) none|none=>none)|_=>none
 |.binOp op T x y _=>xm (match E T with|some i=>i.eqs&&gV (S.ev x).leaves i.zero|none=>false) (match E T with|some i=>i.isb|none=>false) (match E T with|some i=>i.elem.isSome|none=>false) ((match E T with|some i=>i.ifc|none=>false)&&uS y) op (S.ev x) (S.ev y) fun a=>κ a none
 |.unOp op _ x=>HS op (S.ev x) fun a=>κ a none
 |.extract t i=>
  match S.ev t with
  |.tup vs=>(match vs[i]? with|some a=>κ a none|none=>none)
  |_=>none
 |.alloc T=>match E T with|some i=>κ (bif i.bld then .refT d T else .ref d 0) (some ⟨true,cZ i.zero⟩)|none=>none
 |.box _ x=>bif (S.ev x).isVal then κ (.ref d 0) (some ⟨true,cZ (S.ev x).leaves⟩) else none
 |.load T a=>
  match E T with
  |some i=>jm S i.elem (S.ev a) i.size fun l=>(match tj i.agg l with|some v=>κ v none|none=>none)
  |none=>none
 |.fieldAddr T x f=>
  match mB E T f with
  |some (off,_,_)=>(match qZ (S.ev x) off with|some a=>κ a none|none=>none)
  |none=>none
 |.field T x f=>
  match S.ev x,mB E T f with
  |.agg cs,some (off,n,U)=>
   (match cB cs off n with
   |some l=>(match E U with|some j=>(match tj j.agg l with|some v=>κ v none|none=>none)|none=>none)
   |none=>none)
  |_,_=>none
 |.indexAddr T x i=>match (E T).bind (·.elem) with|some t=>d6 S t (S.ev x) (S.ev i) fun a=>κ a none|none=>none
 |.index T x i=>
  match E T,S.ev x,S.ev i with
  |some ty,.str s,.int _ i=>bif ty.str then (rd s i).bind fun b=>κ (.int .u8 (b.toNat:Int)) none else none
  |_,_,_=>none
 |.slice T x lo hi none=>
  match E T with
  |some ty=>
   match S.ev x with
   |.str s=>bif ty.str then dl S hi s.length s.length fun h=>dl S lo h 0 fun l=>κ (.str ((s.take h).drop l)) none else none
   |.L t xs=>if ty.elem=some t then dl S hi xs.length xs.length fun h=>dl S lo h 0 fun l=>κ (.L t ((xs.take h).drop l)) none else none
   |.al s j=>
    match S.cell s j with
    |some (.sl t true xs)=>if ty.elem=some t then dl S hi xs.length xs.length fun h=>dl S lo h 0 fun l=>κ (bif lo.isNone&&hi.isSome then .rm t (xs.take h) (xs.drop h) else .L t ((xs.take h).drop l)) none else none
    |some (.sl t false xs)=>if ty.elem=some t then dl S hi xs.length xs.length fun h=>dl S lo h 0 fun l=>κ (.als s j t.size l (h - l)) none else none
    |_=>none
   |.rm t xs ys=>if ty.elem=some t then dl S hi (xs++ys).length xs.length fun h=>dl S lo h 0 fun l=>κ (.L t (((xs++ys).take h).drop l)) none else none
   |_=>none
  |none=>none
 |.convert src dst x=>
  match E src,E dst with
  |some i,some j=>
   match S.ev x,j.kind with
   |.int _ n,some k=>κ (.int k (k.wrap n)) none
   |.int _ _,none=>none
   |.str s,_=>bif j.str then κ (.str s) none else none
   |a,_=>
    bif j.str then
     match i.elem with
     |some (.int .u8)=>(match hJ S (.int .u8) a with|some l=>κ (.str (ae l)) none|none=>none)
     |_=>none
    else none
  |_,_=>none
 |.build T parts=>
  match E T with
  |some i=>bif i.fields.isEmpty then none else (match f7 E i.fields (parts.toList.map fun p=>(p.1,S.ev p.2)) i.zero with|some cs=>κ (.agg cs) none|none=>none)
  |none=>none
 |.buildSlice T n parts=>
  match E T with
  |some i=>
   match i.elem with
   |some t=>
    match kU t 0 (parts.toList.map fun p=>(p.1,k9 S (S.ev p.2))) with
    |some l=>bif Nat.beq l.length n&&Nat.ble (n*t.size) 16777216 then κ (.al d 0) (some ⟨false,[.sl t false l]⟩) else none
    |none=>none
   |none=>none
  |none=>none
 |.makeSlice T l c=>
  match E T,S.ev l,S.ev c with
  |some i,.int _ n,.int _ m=>
   match i.elem with
   |some (.list e)=>
    match i.ezero with
    |[.nils]=>bif n==m&&(decide (0≤n)&&decide (n*(i.ebytes:Int)≤140737488355328)) then κ (.bs d n.toNat) (some ⟨true,List.replicate n.toNat (.sl e true [])⟩) else none
    |_=>none
   |some t=>
    match t.ofCells i.ezero with
    |some x=>bif n==m&&(decide (0≤n)&&decide (n*(i.ebytes:Int)≤140737488355328)) then κ (.al d 0) (some ⟨false,[.sl t false (List.replicate n.toNat x)]⟩) else none
    |none=>none
   |none=>none
  |_,_,_=>none
 |.makeFunc (.func f) first captured=>bif first.isEmpty then κ (.fn f (evL S captured.toList)) none else none
 |.call c=>
  match c.callee with
  |.builtin .len=>(match c.args.toList,c.argTypes.toList with|[x],[T]=>rY S (E T) (S.ev x) fun a=>κ a none|_,_=>none)
  |.builtin .max=>
   match evL S c.args.toList with
   |[.int k a,.int k' b]=>if k=k' then κ (.int k (bif decide (b>a) then b else a)) none else none
   |[.int k a,.int k' b,.int k'' e]=>if k=k' then if k=k'' then κ (.int k (let m:=bif decide (b>a) then b else a;bif decide (e>m) then e else m)) none else none else none
   |_=>none
  |.builtin .min=>
   match evL S c.args.toList with
   |[.int k a,.int k' b]=>if k=k' then κ (.int k (bif decide (b<a) then b else a)) none else none
   |_=>none
  |_=>none
 |_=>none
def sb (s:Nat):AV→Bool
 |.nilp=>true
 |.bad s'=>Nat.beq s' s
 |.ref s' o=>Nat.beq s' s&&Nat.beq o 0
 |_=>false
inductive zd where
 |keep (ss:List Nat)
 |keepR (ss:List Nat)
 |own (v:Nat) (t:El) (fz:Bool)
 |view (v:Nat) (t:El)
 |cell (s j:Nat) (t:El) (fz:Bool)
 |froze (s j:Nat)
 |cellv (s j:Nat) (t:El)
 |bself (s:Nat)
def k6 {α:Type}(ss:List Nat)(l:List (Nat×α)):List (Nat×α):=
 match ss with
 |[]=>[]
 |s :: ss=>match look s l with|some a=>(s,a) :: k6 ss l|none=>k6 ss l
def mL (n:Nat)(S:St):zd→Option St
 |.keep ss=>some { S with tmps:=k6 ss S.tmps }
 |.keepR ss=>some { S with roots:=k6 ss S.roots }
 |.own v t fz=>
  bif !Nat.blt v n then none else
  match S.tmp v with
  |.nils=>some (((S.clear (2000+v)).setRoot (2000+v) ⟨false,[.sl t fz []]⟩).put v (.al (2000+v) 0))
  |.al s j=>
   match S.cell s j with
   |some (.sl u fz' xs)=>
    if u=t then
     bif fz||!fz' then
      bif Nat.beq s (2000+v) then bif Nat.beq j 0 then some ((S.setRoot (2000+v) ⟨false,[.sl u fz xs]⟩).put v (.al (2000+v) 0)) else none
      else some ((((S.setCell s j (.av .und)).clear (2000+v)).setRoot (2000+v) ⟨false,[.sl u fz xs]⟩).put v (.al (2000+v) 0))
     else none
    else none
   |_=>none
  |_=>none
 |.view v t=>
  match S.tmp v with
  |.nils=>some (S.put v (.L t []))
  |.L u xs=>some (S.put v (.L u xs))
  |.rm u xs _=>some (S.put v (.L u xs))
  |.al s j=>
   match S.cell s j with
   |some (.sl u _ xs)=>some ((S.setCell s j (.sl u true xs)).put v (.L u xs))
   |_=>none
  |_=>none
 |.cell s j t fz=>
  match S.cell s j with
  |some (.sl u fz' xs)=>if u=t then (bif fz||!fz' then some (S.setCell s j (.sl u fz xs)) else none) else none
  |some (.av .nils)=>some ((S.clearC s j).setCell s j (.sl t fz []))
  |some (.av (.al s' j'))=>
   match S.cell s' j' with
   |some (.sl u fz' xs)=>if u=t then (bif fz||!fz' then some (((S.setCell s' j' (.av .und)).clearC s j).setCell s j (.sl u fz xs)) else none) else none
   |_=>none
  |_=>none
 |.froze s j=>
  match S.cell s j with
  |some (.sl t _ xs)=>some (S.setCell s j (.sl t true xs))
  |_=>none
 |.cellv s j t=>
  match S.cell s j with
  |some (.sl t _ xs)=>some ((S.setCell s j (.sl t true xs)).setCell s j (.av (.L t xs)))
  |some (.av (.L _ _))=>some S
  |some (.av .nils)=>some (S.setCell s j (.av (.L t [])))
  |some (.av (.al s' j'))=>
   match S.cell s' j' with
   |some (.sl t _ xs)=>some ((S.setCell s' j' (.sl t true xs)).setCell s j (.av (.L t xs)))
   |_=>none
  |_=>none
 |.bself s=>
  match S.root s with
  |some ⟨true,.av a :: cs⟩=>bif sb s a then some (S.setRoot s ⟨true,.av (.bad s) :: cs⟩) else none
  |_=>none
def kG (n:Nat)(S:St):List zd→Option St
 |[]=>some S
 |c :: l=>match mL n S c with|some S=>kG n S l|none=>none
def PK.quiet:PK→Bool
 |.one (.own ..)=>false
 |.bw _|.br _ _=>false
 |.rw _=>false
 |.agg ks=>ks.all fun k=>match k with|.own ..=>false|_=>true
 |_=>true
def gX (lend:Bool)(S:St):LK→AV→Option AV
 |.bool,.bool b=>some (.bool b)
 |.int k,.int k' n=>if k=k' then some (.int k n) else none
 |.str,.str s=>some (.str s)
 |.err,.err b=>some (.err b)
 |.list t,.al s j=>
  match S.cell s j with
  |some (.sl u fz xs)=>bif fz||lend then (if h:u=t then some (.L t (h ▸ xs)) else none) else none
  |_=>none
 |.list t,a=>(uU t a).map (.L t)
 |.room t,.rm u xs ys=>if u=t then some (.rm u xs ys) else none
 |_,_=>none
def ca (lend:Bool)(S:St):List LK→List AV→Option (List AV)
 |[],[]=>some []
 |k :: ks,a :: l=>(gX lend S k a).bind fun b=>(ca lend S ks l).map fun m=>b :: m
 |_,_=>none
def AC (lend:Bool)(S:St)(ks:List LK):AV→Option AV
 |.ref s off=>
  match S.root s with
  |some ⟨true,cs⟩=>(cB (de s 0 cs) off ks.length).bind fun l=>(ca lend S ks l).map .vp
  |_=>none
 |.vp cs|.vi cs=>(cB cs 0 ks.length).bind fun l=>(ca lend S ks l).map .vp
 |_=>none
def qI (lend:Bool)(S:St):AV→Option AV
 |.al s j=>
  match S.cell s j with
  |some (.sl u fz xs)=>bif fz||lend then some (.L u xs) else none
  |_=>none
 |.bool b=>some (.bool b)
 |.int k n=>some (.int k n)
 |.str s=>some (.str s)
 |.L t xs=>some (.L t xs)
 |.nils=>some .nils
 |.nilp=>some .nilp
 |_=>none
def eO (lend:Bool)(S:St):List AV→Option (List AV)
 |[]=>some []
 |a :: l=>(qI lend S a).bind fun b=>(eO lend S l).map fun m=>b :: m
def sf (lend:Bool)(S:St):AV→Option AV
 |.ref s off=>
  match S.root s with
  |some ⟨true,cs⟩=>(eO lend S ((de s 0 cs).drop off)).map .vp
  |_=>none
 |.vp cs|.vi cs=>(eO lend S cs).map .vp
 |_=>none
def nj (lend:Bool)(S:St):List AV→Option (List AV)
 |[]=>some []
 |a :: l=>(sf lend S a).bind fun b=>(nj lend S l).map fun m=>b :: m
def sC (lend:Bool)(S:St):PK→AV→Option lM
 |.one k,a=>(gX lend S k a).map .v
 |.agg ks,.agg cs=>(ca lend S ks cs).map fun l=>.v (.agg l)
 |.ro ks,a=>(AC lend S ks a).map .v
 |.fn,.fn f caps=>(nj lend S caps).map fun l=>.v (.fn f l)
 |_,_=>none
def lh (lend:Bool)(S:St):List PK→List AV→Option (List lM)
 |[],[]=>some []
 |k :: ks,a :: l=>(sC lend S k a).bind fun b=>(lh lend S ks l).map fun m=>b :: m
 |_,_=>none
structure ik where
 box:Option Nat
 srcs:List (Option (Nat×Nat))
def iV (S:St):LK→AV→Option (au×Option (Nat×Nat))
 |.own t fz,.nils=>some (.sl t fz [],none)
 |.own t fz,.al s j=>
  match S.cell s j with
  |some (.sl u fz' xs)=>if u=t then (bif fz==fz' then some (.sl u fz' xs,some (s,j)) else none) else none
  |_=>none
 |k,a=>(gX false S k a).map fun b=>(.av b,none)
def fg (S:St):List LK→List AV→Option (List au×List (Option (Nat×Nat)))
 |[],[]=>some ([],[])
 |k :: ks,a :: l=>(iV S k a).bind fun p=>(fg S ks l).map fun q=>(p.1 :: q.1,p.2 :: q.2)
 |_,_=>none
def aX (S:St)(s:Nat):Nat→List LK→List au→Option (List au×List (Option (Nat×Nat)))
 |_,[],[]=>some ([],[])
 |j,k :: ks,.av a :: l=>(iV S k a).bind fun p=>(aX S s (j+1) ks l).map fun q=>(p.1 :: q.1,p.2 :: q.2)
 |j,.own t fz :: ks,.sl u fz' xs :: l=>if u=t then (bif fz==fz' then (aX S s (j+1) ks l).map fun q=>(.sl u fz' xs :: q.1,some (s,j) :: q.2) else none) else none
 |j,.list t :: ks,.sl u true xs :: l=>if h:u=t then (aX S s (j+1) ks l).map fun q=>(.av (.L t (h ▸ xs)) :: q.1,none :: q.2) else none
 |_,_,_=>none
def sO (lend:Bool)(S S':St)(k:PK)(a:AV):Option (lM×ik):=
 bif k.quiet then (sC lend S' k a).map fun b=>(b,⟨none,[]⟩) else
 match k,a with
 |.one k,a=>(iV S k a).map fun p=>(.o p.1,⟨none,[p.2]⟩)
 |.agg ks,.agg cs=>(fg S ks cs).map fun p=>(.g p.1,⟨none,p.2⟩)
 |.rw ks,.ref s 0=>
  match S.root s with
  |some ⟨true,cs⟩=>(aX S s 0 ks cs).map fun p=>(.b p.1,⟨some s,p.2⟩)
  |_=>none
 |_,_=>none
def eP (lend:Bool)(S S':St):List PK→List AV→Option (List lM×List ik)
 |[],[]=>some ([],[])
 |k :: ks,a :: l=>(sO lend S S' k a).bind fun p=>(eP lend S S' ks l).map fun q=>(p.1 :: q.1,p.2 :: q.2)
 |_,_=>none
def ra:LK→AV→List (Nat×Nat)
 |.own _ true,.al s j=>[(s,j)]
 |_,_=>[]
def iH:List LK→List AV→List (Nat×Nat)
 |k :: ks,a :: l=>ra k a++iH ks l
 |_,_=>[]
def kw (s:Nat):Nat→List LK→List au→List (Nat×Nat)
 |j,k :: ks,.av a :: l=>ra k a++kw s (j+1) ks l
 |j,.own _ true :: ks,.sl .. :: l=>(s,j) :: kw s (j+1) ks l
 |j,_ :: ks,_ :: l=>kw s (j+1) ks l
 |_,_,_=>[]
def o0 (S:St):PK→AV→List (Nat×Nat)
 |.one k,a=>ra k a
 |.agg ks,.agg cs=>iH ks cs
 |.rw ks,.ref s 0=>match S.root s with|some r=>kw s 0 ks r.cs|none=>[]
 |_,_=>[]
def eS (S:St):List PK→List AV→List (Nat×Nat)
 |k :: ks,a :: l=>o0 S k a++eS S ks l
 |_,_=>[]
def frzAt (S:St)(s j:Nat):St:=
 match S.cell s j with
 |some (.sl t false xs)=>S.setCell s j (.sl t true xs)
 |_=>S
def frzAll (S:St):List (Nat×Nat)→St
 |[]=>S
 |p :: l=>frzAll (frzAt S p.1 p.2) l
def cD:List PK→List AV→List Nat
 |.rw _ :: ks,.ref s 0 :: l=>s :: cD ks l
 |_ :: ks,_ :: l=>cD ks l
 |_,_=>[]
def eF {α:Type}(ss:List Nat)(l:List (Nat×α)):List (Nat×α):=
 match ss with
 |[]=>l
 |s :: ss=>eF ss (pV s l)
def fL (S:St):List (Nat×Nat)→St
 |[]=>S
 |p :: l=>fL (S.setCell p.1 p.2 (.av .und)) l
def fm:List ik→List (Nat×Nat)
 |[]=>[]
 |o :: l=>o.srcs.filterMap id++fm l
def bG:List ik→List Nat
 |[]=>[]
 |o :: l=>match o.box with|some s=>s :: bG l|none=>bG l
def o5:List Nat→Bool
 |[]=>true
 |n :: l=>l.all (fun m=>!Nat.beq m n)&&o5 l
def AA (p:Nat×Nat):List (Nat×Nat)→Bool
 |[]=>false
 |q :: l=>(Nat.beq q.1 p.1&&Nat.beq q.2 p.2)||AA p l
def lW:List (Nat×Nat)→Bool
 |[]=>true
 |p :: l=>!AA p l&&lW l
def eE:List au→Bool
 |[]=>false
 |.sl .. :: _=>true
 |_ :: l=>eE l
def Ia (t:El)(x:t.den):AV:=
 match t with
 |.int k=>.int k x
 |.bool=>.bool x
 |.str=>.str x
 |.list e=>.L e x
 |t=>.agg (t.cells x)
def RK.inj (d j:Nat):(k:RK)→k.den→AV×List au
 |.one k,x=>(cellAV d j (k.cell x),[k.cell x])
 |.agg ks,x=>(.agg (de d j (gw.cells ks x)),gw.cells ks x)
 |.el t,x=>(Ia t x,[])
 |.ptr t,x=>(.optp t x,[])
def gu.inj (d:Nat):(j:Nat)→(ks:List RK)→gu.den ks→List AV×List au
 |_,[],_=>([],[])
 |j,[k],x=>let (a,l):=k.inj d j x;([a],l)
 |j,k :: k' :: ks,x=>
  let (a,l):=k.inj d j x.1
  let (as,m):=gu.inj d (j+l.length) (k' :: ks) x.2
  (a :: as,l++m)
def oU:List AV→AV
 |[a]=>a
 |l=>.tup l
def bQ.res1:(s:bQ)→s.den→gu.den s.res
 |⟨_,[]⟩,x=>x
 |⟨[],_ :: _⟩,_=>()
 |⟨_ :: _,_ :: _⟩,x=>x.1
def bQ.back1:(s:bQ)→s.den→ee.den s.back
 |⟨_,[]⟩,_=>()
 |⟨[],_ :: _⟩,x=>x
 |⟨_ :: _,_ :: _⟩,x=>x.2
def ee.cells:(bs:List (Nat×List LK))→ee.den bs→List (Nat×List au)
 |[],_=>[]
 |[(i,ks)],x=>[(i,gw.cells ks x)]
 |(i,ks) :: b :: bs,x=>(i,gw.cells ks x.1) :: ee.cells (b :: bs) x.2
def dP (S:St)(os:List ik):List (Nat×List au)→Option St
 |[]=>some S
 |(i,cs) :: l=>
  match os[i]? with
  |some ⟨some s,_⟩=>dP (S.setRoot s ⟨true,cs⟩) os l
  |_=>none
structure ct where
 ntmps:Nat
 body:Code
 results:List ResultVar
 cmdsL:List (Nat×List zd)
 lcmdsL:List (Nat×List zd)
 jcmdsL:List (Nat×List zd)
 frzL:List Nat
 split:Bool
def ct.cmds (f:ct)(i:Nat):List zd:=match look i f.cmdsL with|some l=>l|none=>[]
def ct.lcmds (f:ct)(i:Nat):List zd:=match look i f.lcmdsL with|some l=>l|none=>[]
def ct.jcmds (f:ct)(i:Nat):Option (List zd):=look i f.jcmdsL
def pg (n:Nat):List Nat→Bool
 |[]=>false
 |m :: l=>Nat.beq m n||pg n l
def ct.frz (f:ct)(i:Nat):Bool:=pg i f.frzL
def ix (b:Bool):List au→List au
 |[]=>[]
 |.sl t fz xs :: l=>.sl t (b||fz) xs :: ix b l
 |c :: l=>c :: ix b l
inductive Ex where
 |normal|exit (id:Nat)|ret
structure e7 where
 fn:FuncId→Option ct
 ty:TypeId→Option jg
 pks:FuncId→List PK
 sig:FuncId→bQ
 ext:(f:FuncId)→List lM→Option (sig f).den
 bar:(R:Type)→Option R→Option R
abbrev aF:=(R:Type)→Option R→Option R
abbrev Lv (sig:FuncId→bQ):=(f:FuncId)→List lM→Option (sig f).den
def dG (S:St)(c:Call):Option (FuncId×List AV):=
 match c.callee with
 |.value x=>match S.ev x with|.fn f caps=>some (f,evL S c.args.toList++caps)|_=>none
 |_=>none
def iR (S:St)(a:AV)(l:List AV)(κ:List (Nat×ak)→List Nat→Option R):Option R:=
 match a with
 |.ref s off=>
  match S.root s with
  |some ⟨true,cs⟩=>bif Nat.ble (off+l.length) cs.length then κ (ns s ⟨true,setRange cs off (cZ l)⟩ S.roots) [] else none
  |_=>none
 |.eref s j sz i off=>
  match S.cell s j with
  |some (.sl t false xs)=>bif Nat.beq sz t.size then (xs[i]?).bind fun x=>
   match t.ofCells (setRange (t.cells x) off l) with
   |some y=>bif Nat.ble (off+l.length) t.size then κ (S.setCell s j (.sl t false (xs.set i y))).roots [] else none
   |none=>none
   else none
  |_=>none
 |.bref s i=>
  match l with
  |[.al s' j']=>
   match S.root s with
   |some ⟨true,cs⟩=>
    match S.cell s' j' with
    |some (.sl u _ ys)=>bif Nat.beq s' s then none else bif Nat.blt i cs.length then κ ((S.setCell s' j' (.av .und)).setCell s i (.sl u true ys)).roots [s] else none
    |_=>none
   |_=>none
  |_=>none
 |_=>none
def yO:au→Option (List Int)
 |.av .nils=>some []
 |.sl (.int .u8) false xs=>some xs
 |_=>none
def E8 (S:St)(s:Nat)(x:List UInt8)(κ:List (Nat×ak)→Option R):Option R:=
 match S.root s with
 |some ⟨true,[.av a,c]⟩=>
  bif sb s a then
   match yO c with
   |some xs=>bif decide (xs.length+x.length≤140737488355328) then κ (ns s ⟨true,[.av (.bad s),.sl (.int .u8) false (xs++bz x)]⟩ S.roots) else none
   |none=>none
  else none
 |_=>none
def DV (S:St)(s e:Nat)(κ:AV→List (Nat×ak)→Option R):Option R:=
 match S.root s with
 |some ⟨true,[.av a,c]⟩=>
  match c with
  |.av (.fzs e' l)=>bif Nat.beq e' e then κ (.str (ae l)) (ns s ⟨true,[.av a,.av (.fzs e l)]⟩ S.roots) else none
  |_=>(match yO c with|some xs=>κ (.str (ae xs)) (ns s ⟨true,[.av a,.av (.fzs e xs)]⟩ S.roots)|none=>none)
 |_=>none
def k5 (S:St)(s j lo n:Nat)(t':El)(x:AV)(κ:AV→List (Nat×ak)→Option R):Option R:=
 match S.cell s j with
 |some (.sl t false xs)=>
  if t=t' then
   bif Nat.beq t.size 1&&Nat.ble (lo+n) xs.length then
    match hJ S t x with
    |some ys=>κ (.int .i64 ((min ys.length n:Nat):Int)) (S.setCell s j (.sl t false (xs.take lo++ys.take n++xs.drop (lo+min ys.length n)))).roots
    |none=>none
   else none
  else none
 |_=>none
def jZ (sig:FuncId→bQ)(pks:FuncId→List PK)(lv:Lv sig)(d:Nat)(S:St)(f:FuncId)(as:List AV)(κ:AV→Option ak→List (Nat×ak)→List Nat→Option R):Option R:=
 let S1:=frzAll S (eS S (pks f) as)
 let bs:=cD (pks f) as
 let S2:St:=⟨S1.tmps,eF bs S1.roots⟩
 match eP false S1 S2 (pks f) as with
 |some (args,os)=>
  bif o5 (bG os)&&lW (fm os) then
   (lv f args).bind fun r=>
    match dP (fL S2 (fm os)) os (ee.cells (sig f).back (bQ.back1 (sig f) r)) with
    |some S''=>
     let p:=gu.inj d 0 (sig f).res (bQ.res1 (sig f) r)
     κ (oU p.1) (bif eE p.2 then some ⟨false,p.2⟩ else none) S''.roots (bG os)
    |none=>none
  else none
 |none=>none
def kj (E:e7)(lv:Lv E.sig)(o:Oper)(S:St)(κ:AV→Option ak→List (Nat×ak)→List Nat→Option R):Option R:=
 let d:=match o.dst with|some d=>d|none=>0
 match o.op with
 |.store T a x=>
  match E.ty T with
  |some i=>bif Nat.beq (S.ev x).leaves.length i.size&&fr (S.ev x).leaves then iR S (S.ev a) (S.ev x).leaves (κ .und none) else none
  |none=>none
 |.call c=>
  match c.callee with
  |.builtin .append=>
   match c.args.toList,c.argTypes.toList with
   |[b,x],[T,T']=>
    match bif Nat.beq T T' then E.ty T else none with
    |some i=>
     match i.elem with
     |some t=>
      match hJ S t (S.ev x) with
      |some ys=>
       match S.ev b with
       |.nils=>bif decide (ys.length*i.ebytes≤140737488355328) then κ (.al d 0) (some ⟨false,[.sl t false ys]⟩) S.roots [] else none
       |.emp=>bif decide (ys.length*i.ebytes≤140737488355328) then κ (.L t ys) none S.roots [] else none
       |.al s j=>
        match S.cell s j with
        |some (.sl u b xs)=>
         if h:u=t then
          bif decide ((xs.length+ys.length)*i.ebytes≤140737488355328) then
           κ (.al d 0) (some ⟨false,[.sl t b ((h ▸ xs)++ys)]⟩) (S.setCell s j (.av .und)).roots []
          else none
         else none
        |_=>none
       |.bal s j _ _=>
        (S.cell s j).bind fun c=>(tZ t c).bind fun p=>
         bif decide ((p.2.length+ys.length)*i.ebytes≤140737488355328) then
          κ (.al d 0) (some ⟨false,[.sl t p.1 (p.2++ys)]⟩) (S.setCell s j (.av .und)).roots []
         else none
       |_=>none
      |none=>none
     |none=>none
    |none=>none
   |_,_=>none
  |.builtin .copy=>
   match c.args.toList,c.argTypes.toList with
   |[b,x],[T,T']=>
    match (bif Nat.beq T T' then E.ty T else none).bind (·.elem) with
    |some t=>
     match S.ev b with
     |.als s j sz lo n=>bif Nat.beq sz t.size then k5 S s j lo n t (S.ev x) fun a rs=>κ a none rs [] else none
     |.al s j=>(match S.cell s j with|some (.sl _ _ xs)=>k5 S s j 0 xs.length t (S.ev x) fun a rs=>κ a none rs []|_=>none)
     |_=>none
    |none=>none
   |_,_=>none
  |.value _=>
   match dG S c with
   |some (f,as)=>
    match E.pks f,as with
    |[.bw T,.one .str],[.refT s T',.str x]=>bif Nat.beq T' T then E8 S s x fun rs=>κ .und none rs [s] else none
    |[.br T e],[.refT s T']=>bif Nat.beq T' T then DV S s e fun a rs=>κ a none rs [s] else none
    |_,_=>jZ E.sig E.pks lv d S f as κ
   |none=>none
  |_=>none
 |_=>none
def stepC (E:e7)(lv:Lv E.sig)(o:Oper)(c:Call)(S:St)(κ:AV→Option ak→Option R):Option R:=
 let d:=match o.dst with|some d=>d|none=>0
 match dG S c with
 |some (f,as)=>
  match lh (E.sig f).lends S (E.pks f) as with
  |some args=>bif (E.sig f).back.isEmpty then (lv f args).bind fun r=>
    let p:=gu.inj d 0 (E.sig f).res (bQ.res1 (E.sig f) r)
    κ (oU p.1) (bif eE p.2 then some ⟨false,p.2⟩ else none)
   else none
  |none=>none
 |none=>none
def cY (pks:FuncId→List PK)(o:Oper):Bool:=
 match o.op with
 |.store ..=>false
 |.call c=>
  match c.callee with
  |.builtin .append|.builtin .copy=>false
  |.value (.func f)=>(pks f).all PK.quiet
  |_=>true
 |_=>true
def a7 (E:e7)(lv:Lv E.sig)(o:Oper)(S:St)(κ:AV→Option ak→Option R):Option R:=
 match o.op with
 |.call c=>
  match c.callee with
  |.builtin _=>dd E.ty o S κ
  |_=>stepC E lv o c S κ
 |_=>dd E.ty o S κ
def step1 (E:e7)(lv:Lv E.sig)(o:Oper)(S:St)(κ:AV→Option ak→List (Nat×ak)→List Nat→Option R):Option R:=
 bif cY E.pks o then a7 E lv o S fun a r=>κ a r S.roots [] else kj E lv o S κ
def uW (fz:Nat→Bool)(d:Nat)(r:ak):ak:=⟨r.box,killC d (ix (fz d) r.cs)⟩
def St.gain (fz:Nat→Bool)(S:St)(o:Oper)(a:AV)(r:Option ak):St:=
 match r with
 |none=>S.putO o.dst a
 |some r=>match o.dst with|some d=>((S.clear d).setRoot d (uW fz d r)).put d a|none=>S.clear 0
def step (E:e7)(lv:Lv E.sig)(fz:Nat→Bool)(o:Oper)(S:St)(κ:St→Option R):Option R:=
 step1 E lv o S fun a r rs ks=>κ (St.gain fz (St.clearB ⟨S.tmps,rs⟩ ks) o a r)
def pJ (ops:List Oper)(o:Oper)(S:St)(yes no:St→Option R):Option R:=
 match o.guard with
 |none=>yes S
 |some (g,want)=>
  match (ops[g]?).bind (·.dst) with
  |none=>none
  |some t=>
   match S.tmp t with
   |.bool b=>bif (bif want then b else !b) then yes (S.put t (.bool want)) else no (S.put t (.bool (!want)))
   |.tup []=>no S
   |_=>none
def s5 (E:e7)(lv:Lv E.sig)(fz:Nat→Bool)(ops:List Oper):List Oper→St→(St→Option R)→Option R
 |[],S,κ=>κ S
 |o :: rest,S,κ=>
  pJ ops o S
   (fun S=>step E lv fz o S fun S=>s5 E lv fz ops rest S κ)
   (fun S=>s5 E lv fz ops rest (S.putO o.dst (.tup [])) κ)
def dW (e:Edge):Bool:=match e.ground with|.textOnly _|.gcOnly _=>false|_=>true
def aN:List Oper→List Nat→List Nat
 |[],acc=>acc
 |o :: l,acc=>aN l (acc++[o.after.toList.foldl (fun s e=>bif dW e then s ||| 2 ^ e.on ||| acc.getD e.on 0 else s) 0])
def cH (ops:List Oper)(o:Oper):List Nat:=
 (o.op.operands.toList.filterMap fun x=>match x with|.tmp t=>some t|_=>none)++
 (match o.guard with
  |some (g,_)=>match (ops[g]?).bind (·.dst) with|some d=>[d]|none=>[]
  |none=>[])
def gn (o:Oper):Bool:=
 match o.op with
 |.move _|.assign _|.pick ..|.binOp ..|.unOp ..|.extract ..|.nilCheck _|.fieldAddr ..|.field ..|.index ..|.build ..=>true
 |_=>false
def gp (o:Oper):Bool:=
 match o.op with
 |.load ..=>true
 |.call c=>(match c.callee with|.builtin .len=>true|_=>false)
 |_=>false
def d5 (o:Oper):Bool:=gn o||gp o
def jF (ops:List Oper)(x y:Oper):Bool:=
 (match x.dst with
  |some d=>!pg d (cH ops y)&&(match y.dst with|some e=>!Nat.beq d e|none=>true)
  |none=>true)&&
 (match y.dst with
  |some d=>!pg d (cH ops x)
  |none=>true)
def fV (ops:List Oper)(d:Nat):List Oper→Bool
 |[]=>false
 |p :: l=>pg d (cH ops p)||(match p.dst with|some e=>bif Nat.beq e d then false else fV ops d l|none=>fV ops d l)
def qD (pks:FuncId→List PK)(ops:List Oper)(o:Oper):Bool:=cY pks o&&!(match o.dst with|some d=>fV ops d ops|none=>false)
def fx (pks:FuncId→List PK)(ops:List Oper):List Oper→Bool
 |[]=>true
 |o :: l=>qD pks ops o&&fx pks ops l
def tn (pks:FuncId→List PK)(ops:List Oper)(i j:Nat)(x:Oper):Bool:=
 fx pks ops (ops.take (j+1))||(d5 x&&fx pks ops (ops.take (i+1)))
def og (pks:FuncId→List PK)(ops:List Oper)(bs:List Nat):Nat→List Oper→Bool
 |_,[]=>true
 |j,y :: l=>
  (ops.take j).zipIdx.all (fun (x,i)=>(bs.getD j 0).testBit i||(jF ops x y&&tn pks ops i j x))&&og pks ops bs (j+1) l
def kE:Nat→List Oper→Bool
 |_,[]=>true
 |i,o :: l=>o.after.toList.all (fun e=>!dW e||Nat.blt e.on i)&&kE (i+1) l
def lV:List Oper→Bool
 |[]=>true
 |o :: l=>(match o.dst with|some d=>l.all (fun p=>match p.dst with|some e=>!Nat.beq d e|none=>true)|none=>true)&&lV l
def wT (ops:List Oper):List Oper→Bool
 |[]=>true
 |o :: l=>(cH ops o).all (fun t=>(o :: l).all fun p=>match p.dst with|some e=>!Nat.beq t e|none=>true)&&wT ops l
def hO (pks:FuncId→List PK)(ops:List Oper):List Oper→List Oper
 |[]=>[]
 |o :: l=>bif qD pks ops o then o :: hO pks ops l else []
def u7 (pks:FuncId→List PK)(ops:List Oper):Bool:=
 kE 0 ops&&lV ops&&wT ops (hO pks ops ops)&&og pks ops (aN ops []) 0 ops
def gQ (d:Nat):List (Nat×ak)→Bool
 |[]=>true
 |(i,r) :: l=>!Nat.beq i d&&r.cs.all (fun c=>match c with|.av a=>!a.names d|_=>true)&&gQ d l
def wc (S:St)(d:Nat):Bool:=S.tmps.all (fun p=>!p.2.names d)&&gQ d S.roots
def iP (S:St):List Oper→Bool
 |[]=>true
 |o :: l=>(match o.dst with|some d=>wc S d|none=>true)&&iP S l
def sY (S:St):List Oper→Bool
 |[]=>true
 |o :: l=>(match o.dst with|some d=>S.tmps.all (fun p=>!p.2.names d)&&S.roots.all (fun p=>!Nat.beq p.1 d)|none=>true)&&sY S l
def sc:List Oper→List Nat
 |[]=>[]
 |o :: l=>match o.dst with|some d=>d :: sc l|none=>sc l
def eh:List Nat→List au→List au
 |[],cs=>cs
 |d :: ds,cs=>eh ds (killC d cs)
def nK (ds:List Nat):List (Nat×ak)→List (Nat×ak)
 |[]=>[]
 |(i,r) :: l=>(i,⟨r.box,eh ds r.cs⟩) :: nK ds l
def St.purge (S:St)(ds:List Nat):St:=⟨S.tmps,nK ds S.roots⟩
def cz (S:St):List (Nat×ak)→St
 |[]=>S
 |(d,r) :: l=>cz (S.setRoot d r) l
def eB (ops:List Oper)(b:Nat):List Nat:=
 ops.zipIdx.filterMap fun p=>bif b.testBit p.2 then p.1.dst else none
def kP (ss:List Nat)(new:List (Nat×ak))(S:St)(a:AV)(r:Option ak)(d:Nat):Bool:=
 new.all (fun p=>pg p.1 ss||(!a.names p.1&&(match r with|some r=>r.cs.all (fun c=>match c with|.av a=>!a.names p.1|_=>true)|none=>true)))&&
 (match r with|some _=>S.tmps.all (fun p=>!p.2.names d)&&gQ d new|none=>true)
def oY (S:St)(o:Oper)(r:Option ak)(ks:List Nat):Bool:=
 (match r with|some _=>(match o.dst with|some d=>S.tmps.all (fun p=>!p.2.names d)|none=>false)|none=>true)&&ks.all (fun s=>S.tmps.all (fun p=>!p.2.namesB s))
def kr:PK→Bool
 |.rw ks=>ks.all fun k=>match k with|.own ..=>false|_=>true
 |k=>k.quiet
def yL (ps:List Nat)(S:St)(d:Option Nat)(bs:List Nat):Bool:=
 (match d with|some d=>!pg d ps|none=>true)&&
 ps.all fun s=>match S.root s with
  |some r=>r.cs.all fun c=>match c with|.av a=>(match d with|some d=>!a.names d|none=>true)&&bs.all (fun b=>!a.namesB b)|_=>true
  |none=>true
def q8 (pks:FuncId→List PK)(ps:List Nat)(S:St)(o:Oper):Bool:=
 ps.isEmpty||(gn o||
  (match o.op with
   |.store _ b _=>(match S.ev b with|.ref s _=>!pg s ps|_=>false)
   |.buildSlice ..=>yL ps S o.dst []
   |.call c=>
    match c.callee with
    |.value (.func f)=>(pks f).all kr&&(cD (pks f) (evL S c.args.toList)).all (fun s=>!pg s ps)&&yL ps S o.dst (cD (pks f) (evL S c.args.toList))
    |_=>false
   |_=>false))
def rf (bs:List Nat)(i m:Nat):Bool:=((List.range bs.length).drop m).all fun j=>(bs.getD j 0).testBit i
def eL (bs:List Nat)(i m:Nat):Nat:=match ((List.range bs.length).drop m).find? (fun j=>(bs.getD j 0).testBit i) with|some j=>j|none=>bs.length
def dA (bs:List Nat)(S:St)(m:Nat):Nat→List Oper→Option (List (Nat×Nat))
 |_,[]=>some []
 |i,x :: l=>
  bif !gp x||rf bs i m then dA bs S m (i+1) l else
  match x.op with
  |.load _ a=>
   match S.ev a with
   |.ref s _=>(dA bs S m (i+1) l).map fun ps=>(s,eL bs i m) :: ps
   |.vp _|.vi _|.tup _=>dA bs S m (i+1) l
   |_=>none
  |.call c=>
   match c.args.toList with
   |[a]=>(match S.ev a with|.al ..=>none|_=>dA bs S m (i+1) l)
   |_=>none
  |_=>none
def wM (ps:List (Nat×Nat))(k:Nat):List Nat:=(ps.filter fun p=>Nat.blt k p.2).map (·.1)
def jy (E:e7)(lv:Lv E.sig)(fz:Nat→Bool)(ops:List Oper)(ps:List (Nat×Nat)):List Oper→St→(St→Option R)→Option R
 |[],S,κ=>κ S
 |o :: rest,S,κ=>
  pJ ops o S
   (fun S=>step1 E lv o S fun a r rs ks=>
    bif oY S o r ks&&q8 E.pks (wM ps (ops.length - (rest.length+1))) S o
    then jy E lv fz ops ps rest (St.gain fz (St.clearB ⟨S.tmps,rs⟩ ks) o a r) κ else none)
   (fun S=>jy E lv fz ops ps rest (S.putO o.dst (.tup [])) κ)
def lr (o:Oper):Bool:=match o.op with|.convert ..=>true|.buildSlice ..=>true|.call c=>(match c.callee with|.value _=>true|_=>false)|_=>false
def drawS (ss:List Nat)(new:List (Nat×ak))(o:Oper)(S:St):St:=bif lr o then cz S (new.filter fun p=>pg p.1 ss) else S
def js (E:e7)(lv:Lv E.sig)(fz:Nat→Bool)(ops:List Oper):List Oper→List Nat→(new:List (Nat×ak))→St→(St→Option R)→Option R
 |o :: rest,b :: bs,new,S,κ=>
  bif qD E.pks ops o then
   pJ ops o S
    (fun S=>a7 E lv o (drawS (eB ops b) new o S) fun a r=>
     match r,o.dst with
     |none,d=>bif kP (eB ops b) new S a none 0 then js E lv fz ops rest bs new (S.putO d a) κ else none
     |some r,some d=>bif kP (eB ops b) new S a (some r) d then js E lv fz ops rest bs ((d,uW fz d r) :: new) (S.put d a) κ else none
     |some _,none=>none)
    (fun S=>js E lv fz ops rest bs new (S.putO o.dst (.tup [])) κ)
  else match dA (aN ops []) S (ops.length - (rest.length+1)) 0 (ops.take (ops.length - (rest.length+1))) with
   |some ps=>jy E lv fz ops ps (o :: rest) (cz S new) κ
   |none=>none
 |_,_,new,S,κ=>κ (cz S new)
def fB (o:Oper):Bool:=match o.op with|.buildSlice _ n ps=>Nat.beq n 0&&ps.toList.isEmpty|_=>false
def oc (ty:TypeId→Option jg)(o:Oper):Bool:=match o.op with|.buildSlice T _ _=>(match ty T with|some i=>i.elem.isSome|none=>false)|_=>false
def iW (o:Oper):Bool:=match o.op with|.indexAddr ..=>true|.slice _ _ _ _ none=>true|_=>false
def cT (ops:List Oper)(o:Oper):Bool:=(d5 o||iW o||fB o)&&!(match o.dst with|some d=>fV ops d ops|none=>false)
def sK (ops:List Oper)(bs:List Nat):Nat→List Oper→Bool
 |_,[]=>true
 |j,y :: l=>(ops.take j).zipIdx.all (fun (x,i)=>(bs.getD j 0).testBit i||(jF ops x y&&(cT ops x||cT ops y)))&&sK ops bs (j+1) l
def Jz (ops:List Oper):Bool:=kE 0 ops&&lV ops&&sK ops (aN ops []) 0 ops
abbrev pL:=Option (Option (Nat×Nat×Nat))
def dy (E:TypeId→Option jg)(o:Oper)(S:St):pL:=
 match o.op with
 |.load T a=>
  match S.ev a with
  |.ref s off=>(E T).map fun i=>some (s,off,i.size)
  |.eref s j _ _ _=>some (some (s,j,1))
  |.vp _|.vi _=>some none
  |_=>none
 |.call c=>
  match c.args.toList with
  |[a]=>(match S.ev a with|.al s j=>some (some (s,j,1))|_=>some none)
  |_=>none
 |.indexAddr _ x _=>(match S.ev x with|.al s j=>some (some (s,j,1))|_=>some none)
 |.slice _ x _ _ _=>(match S.ev x with|.al s j=>some (some (s,j,1))|_=>some none)
 |_=>some none
abbrev HN:=Option (List (Nat×Option (Nat×Nat)))
def Ao (d:Nat)(l:List (Nat×ak)):Bool:=l.all fun p=>p.2.cs.all fun c=>match c with|.av a=>!a.names d|_=>true
def ez (o:Oper)(S:St)(r:Option ak):HN:=
 match r with
 |none=>some []
 |some _=>match o.dst with|some d=>bif Ao d S.roots then some [(d,none)] else none|none=>none
def Gs (bs:List Nat)(l:List (Nat×ak)):Bool:=l.all fun p=>p.2.cs.all fun c=>match c with|.av a=>bs.all fun b=>!a.namesB b|_=>true
def HJ (ks:List PK):Bool:=match ks with|[.bw _,.one .str]=>false|[.br _ _]=>false|_=>true
def qY (pks:FuncId→List PK)(o:Oper)(S:St)(r:Option ak):HN:=
 match o.op with
 |.call c=>
  match c.callee with
  |.value (.func f)=>
   bif HJ (pks f)&&(pks f).all kr&&Gs (cD (pks f) (evL S c.args.toList)) S.roots then
    (ez o S r).map fun l=>(cD (pks f) (evL S c.args.toList)).map (fun b=>(b,none))++l
   else none
  |_=>none
 |_=>none
def iN (pks:FuncId→List PK)(o:Oper)(S:St)(r:Option ak)(ks:List Nat):HN:=
 bif !ks.isEmpty then qY pks o S r else
 bif cY pks o then ez o S r else
 match o.op with
 |.store _ b x=>
  match S.ev b with
  |.ref s off=>(ez o S r).map fun l=>(s,some (off,(S.ev x).leaves.length)) :: l
  |.eref s j _ _ _=>(ez o S r).map fun l=>(s,some (j,1)) :: l
  |_=>none
 |.call c=>
  match c.callee,c.args.toList with
  |.builtin .append,b :: _=>
   match S.ev b with
   |.nils|.emp=>ez o S r
   |.al s j=>(ez o S r).map fun l=>(s,some (j,1)) :: l
   |_=>none
  |_,_=>none
 |_=>none
def jM (f:pL)(e:HN):Bool:=
 match f with
 |none=>false
 |some none=>true
 |some (some (s,off,n))=>match e with|none=>false|some l=>l.all fun q=>!Nat.beq q.1 s||(match q.2 with|none=>false|some (o,m)=>Nat.ble (o+m) off||Nat.ble (off+n) o)
abbrev zT:=Nat×Option Nat×List Nat×HN
def vm (b:Nat)(a:AV)(f:pL)(h:zT):Bool:=
 b.testBit h.1||((match h.2.1 with|some d=>!a.names d|none=>true)&&h.2.2.1.all (fun k=>!a.namesB k)&&jM f h.2.2.2)
def mg (E:e7)(lv:Lv E.sig)(fz:Nat→Bool)(ops:List Oper):List Oper→List Nat→Nat→List (Nat×pL)→List zT→St→(St→Option R)→Option R
 |o :: rest,b :: bs,i,fs,hs,S,κ=>
  pJ ops o S
   (fun S=>
    bif fB o then
     bif cT ops o&&oc E.ty o then mg E lv fz ops rest bs (i+1) ((i,some none) :: fs) hs (S.putO o.dst .emp) κ else none
    else
    step1 E lv o S fun a r rs ks=>
    bif cT ops o then
     bif hs.all (vm b a (dy E.ty o S)) then mg E lv fz ops rest bs (i+1) ((i,dy E.ty o S) :: fs) hs (S.putO o.dst a) κ else none
    else
     bif oY S o r ks&&fs.all (fun f=>b.testBit f.1||jM f.2 (iN E.pks o S r ks)) then
      mg E lv fz ops rest bs (i+1) fs ((i,(match r with|some _=>o.dst|none=>none),ks,iN E.pks o S r ks) :: hs) (St.gain fz (St.clearB ⟨S.tmps,rs⟩ ks) o a r) κ
     else none)
   (fun S=>mg E lv fz ops rest bs (i+1) fs hs (S.putO o.dst (.tup [])) κ)
 |_,_,_,_,_,S,κ=>κ S
def Ce (E:e7)(lv:Lv E.sig)(fz:Nat→Bool)(ops:List Oper)(S:St)(κ:St→Option R):Option R:=
 bif u7 E.pks ops then bif sY S ops then js E lv fz ops ops (aN ops []) [] (S.purge (sc ops)) κ else none
 else bif Jz ops then mg E lv fz ops ops (aN ops []) 0 [] [] S κ else none
def jb (n:Nat):List Oper→Bool
 |[]=>true
 |o :: l=>(match o.dst with|some d=>Nat.blt d n|none=>true)&&jb n l
def region (E:e7)(lv:Lv E.sig)(fz:Nat→Bool)(n:Nat)(ops:List Oper)(draw:Bool)(S:St)(κ:St→Option R):Option R:=
 bif !jb n ops then none else
 bif draw then Ce E lv fz ops S κ
 else s5 E lv fz ops ops S κ
def jq:Code→Option Nat
 |.region id _ _=>some id
 |.seq a _=>jq a
 |.block _ c=>jq c
 |.loop c=>jq c
 |_=>none
def GY (bar:aF)(fi:ct)(b:Code)(run:St→Option R)(κ:Ex→St→Option R):Ex→St→Option R
 |.normal,S=>
  match (jq b).bind fi.jcmds with
  |some cs=>match kG fi.ntmps S cs with|some S=>bar R (run S)|none=>none
  |none=>run S
 |.exit i,S=>κ (.exit i) S
 |.ret,S=>κ .ret S
def EJ (id:Nat)(κ:Ex→St→Option R):Ex→St→Option R
 |.normal,S=>κ .normal S
 |.exit i,S=>bif Nat.beq i id then κ .normal S else κ (.exit i) S
 |.ret,S=>κ .ret S
def yR (nt:Nat)(cs:List zd)(id:Nat)(next:St→Option R)(κ:Ex→St→Option R):Ex→St→Option R
 |.normal,S=>match kG nt S cs with|some S=>next S|none=>none
 |.exit i,S=>bif Nat.beq i id then κ .normal S else κ (.exit i) S
 |.ret,S=>κ .ret S
def rD (nt:Nat)(cs:List zd)(id:Nat)(body:St→(Ex→St→Option R)→Option R)(κ:Ex→St→Option R):Nat→St→Option R
 |0,_=>none
 |n+1,S=>body S (yR nt cs id (rD nt cs id body κ n) κ)
def jP (E:e7)(lv:Lv E.sig)(K:Nat)(fi:ct):Code→St→(Ex→St→Option R)→Option R
 |.skip,S,κ=>κ .normal S
 |.region id ops draw,S,κ=>match kG fi.ntmps S (fi.cmds id) with|some S=>region E lv fi.frz fi.ntmps ops.toList draw S (κ .normal)|none=>none
 |.seq a b,S,κ=>jP E lv K fi a S (GY E.bar fi b (fun S=>jP E lv K fi b S κ) κ)
 |.cond c x y,S,κ=>match S.ev c with|.bool b=>bif b then jP E lv K fi x S κ else jP E lv K fi y S κ|_=>none
 |.block id (.loop b),S,κ=>
  match kG fi.ntmps S (fi.lcmds id) with
  |some S=>rD fi.ntmps (fi.lcmds id) id (fun S κ=>jP E lv K fi b S κ) κ K S
  |none=>none
 |.block id c,S,κ=>jP E lv K fi c S (EJ id κ)
 |.exit id,S,κ=>κ (.exit id) S
 |.ret,S,κ=>κ .ret S
 |_,_,_=>none
inductive JF where
 |l|r|t|e|b|lp (n:Nat)
def at_ (E:e7)(lv:Lv E.sig)(K:Nat)(fi:ct):List JF→Code→(Ex→St→Option R)→Code×(Ex→St→Option R)
 |.l :: p,.seq a b,κ=>at_ E lv K fi p a (GY E.bar fi b (fun S=>jP E lv K fi b S κ) κ)
 |.r :: p,.seq _ b,κ=>at_ E lv K fi p b κ
 |.t :: p,.cond _ x _,κ=>at_ E lv K fi p x κ
 |.e :: p,.cond _ _ y,κ=>at_ E lv K fi p y κ
 |.b :: p,.block id c,κ=>at_ E lv K fi p c (EJ id κ)
 |.lp n :: p,.block id (.loop c),κ=>at_ E lv K fi p c (yR fi.ntmps (fi.lcmds id) id (rD fi.ntmps (fi.lcmds id) id (fun S κ=>jP E lv K fi c S κ) κ n) κ)
 |_,c,κ=>(c,κ)
def eg (S:St):(k:LK)→AV→Option k.den
 |.own _ _,.nils=>some []
 |.own t fz,.al s j=>
  match S.cell s j with
  |some (.sl u fz' xs)=>if h:u=t then (bif fz==fz' then some (h ▸ xs) else none) else none
  |_=>none
 |.list t,.al s j=>
  match S.cell s j with
  |some (.sl u true xs)=>if h:u=t then some (h ▸ xs) else none
  |_=>none
 |k,a=>k.ofCell (.av a)
def ff (S:St):(ks:List LK)→List AV→Option (gw.den ks)
 |[],[]=>some ()
 |[k],[a]=>eg S k a
 |k :: k' :: ks,a :: l=>(eg S k a).bind fun x=>(ff S (k' :: ks) l).map fun y=>(x,y)
 |_,_=>none
def pB (S:St):AV→Option AV
 |.al s j=>match S.cell s j with|some (.sl t true xs)=>some (.L t xs)|_=>none
 |a=>some a
def eZ (S:St):List AV→Option (List AV)
 |[]=>some []
 |a :: l=>(pB S a).bind fun b=>(eZ S l).map fun m=>b :: m
def El.isAgg:El→Bool
 |.node|.arr|.col|.blk=>true
 |_=>false
def AV.isAgg:AV→Bool
 |.agg _=>true
 |_=>false
def oo (S:St):(k:RK)→AV→Option k.den
 |.one k,a=>eg S k a
 |.agg ks,.agg cs=>ff S ks cs
 |.el t,a=>bif a.isVal&&(t.isAgg==a.isAgg) then (eZ S a.leaves).bind t.ofCells else none
 |.ptr _,.nilp=>some none
 |.ptr t,.vi cs=>(t.ofCells cs).map some
 |_,_=>none
def jL (S:St):(ks:List RK)→List AV→Option (gu.den ks)
 |[],[]=>some ()
 |[k],[a]=>oo S k a
 |k :: k' :: ks,a :: l=>(oo S k a).bind fun x=>(jL S (k' :: ks) l).map fun y=>(x,y)
 |_,_=>none
def xu:LK→AV→Option (Nat×Nat)
 |.own _ _,.al s j=>some (s,j)
 |_,_=>none
def fk:List LK→List AV→List (Option (Nat×Nat))
 |k :: ks,a :: l=>xu k a :: fk ks l
 |_,_=>[]
def ce:List RK→List AV→List (Option (Nat×Nat))
 |.one k :: ks,a :: l=>xu k a :: ce ks l
 |.agg ks' :: ks,.agg cs :: l=>fk ks' cs++ce ks l
 |_ :: ks,_ :: l=>ce ks l
 |_,_=>[]
def Il:LK→AV→List (Nat×Nat)
 |.own _ true,.al s j=>[(s,j)]
 |.list _,.al s j=>[(s,j)]
 |_,_=>[]
def Gi:List LK→List AV→List (Nat×Nat)
 |k :: ks,a :: l=>Il k a++Gi ks l
 |_,_=>[]
def AM:List AV→List (Nat×Nat)
 |.al s j :: l=>(s,j) :: AM l
 |_ :: l=>AM l
 |[]=>[]
def nk:List RK→List AV→List (Nat×Nat)
 |.one k :: ks,a :: l=>Il k a++nk ks l
 |.agg ks' :: ks,.agg cs :: l=>Gi ks' cs++nk ks l
 |.el _ :: ks,a :: l=>AM a.leaves++nk ks l
 |_ :: ks,_ :: l=>nk ks l
 |_,_=>[]
def yF (s:Nat):Nat→List LK→List au→List (Nat×Nat)
 |j,.own _ true :: ks,.sl .. :: l=>(s,j) :: yF s (j+1) ks l
 |j,.list _ :: ks,.sl .. :: l=>(s,j) :: yF s (j+1) ks l
 |j,_ :: ks,_ :: l=>yF s (j+1) ks l
 |_,_,_=>[]
def oR (S:St):List (Nat×List LK)→List (Nat×Nat)
 |[]=>[]
 |(i,ks) :: l=>(match S.root (1000+i) with|some r=>yF (1000+i) 0 ks r.cs|none=>[])++oR S l
def gw.ofCells:(ks:List LK)→List au→Option (gw.den ks)
 |[],[]=>some ()
 |[k],[c]=>k.ofCell c
 |k :: k' :: ks,c :: l=>(k.ofCell c).bind fun x=>(gw.ofCells (k' :: ks) l).map fun y=>(x,y)
 |_,_=>none
def mm (S:St)(i:Nat)(ks:List LK):Option (gw.den ks):=match S.root (1000+i) with|some ⟨true,cs⟩=>gw.ofCells ks cs|_=>none
def kS (S:St):(bs:List (Nat×List LK))→Option (ee.den bs)
 |[]=>some ()
 |[(i,ks)]=>mm S i ks
 |(i,ks) :: b :: bs=>(mm S i ks).bind fun x=>(kS S (b :: bs)).map fun y=>(x,y)
def bQ.mk1:(s:bQ)→gu.den s.res→ee.den s.back→s.den
 |⟨_,[]⟩,x,_=>x
 |⟨[],_ :: _⟩,_,y=>y
 |⟨_ :: _,_ :: _⟩,x,y=>(x,y)
def yN (E:e7)(S:St):ResultVar→Option AV
 |.tmp t=>some (S.tmp t)
 |.cell a T=>match E.ty T with|some i=>jm S i.elem (S.tmp a) i.size fun l=>tj i.agg l|none=>none
def pp (E:e7)(S:St):List ResultVar→Option (List AV)
 |[]=>some []
 |r :: l=>(yN E S r).bind fun a=>(pp E S l).map fun m=>a :: m
def rV:List (Nat×List LK)→List (Nat×Nat)→Bool
 |[],_=>true
 |(i,_) :: l,ps=>l.all (fun b=>!Nat.beq b.1 i)&&ps.all (fun p=>!Nat.beq p.1 (1000+i))&&rV l ps
def kL (E:e7)(fi:ct)(s:bQ)(S:St):Option s.den:=
 match pp E S fi.results with
 |some as=>
  let S1:=frzAll S (nk s.res as++oR S s.back)
  let ps:=(ce s.res as).filterMap id
  bif lW ps&&rV s.back ps then
   (jL S1 s.res as).bind fun x=>(kS S1 s.back).bind fun y=>some (s.mk1 x y)
  else none
 |none=>none
def dC:Nat→List lM→List (Nat×AV)
 |_,[]=>[]
 |i,.v a :: l=>(i,a) :: dC (i+1) l
 |i,.o c :: l=>(i,cellAV (1000+i) 0 c) :: dC (i+1) l
 |i,.g cs :: l=>(i,.agg (de (1000+i) 0 cs)) :: dC (i+1) l
 |i,.b _ :: l=>(i,.ref (1000+i) 0) :: dC (i+1) l
def ei:Nat→List lM→List (Nat×ak)
 |_,[]=>[]
 |i,.v _ :: l=>ei (i+1) l
 |i,.o c :: l=>(1000+i,⟨false,[c]⟩) :: ei (i+1) l
 |i,.g cs :: l=>(1000+i,⟨false,cs⟩) :: ei (i+1) l
 |i,.b cs :: l=>(1000+i,⟨true,cs⟩) :: ei (i+1) l
def Eb (E:e7)(fi:ct)(s:bQ)(S:St):Option s.den:=
 match kG fi.ntmps S (fi.cmds 1000000) with
 |some S=>kL E fi s S
 |none=>none
def HI (E:e7)(fi:ct)(s:bQ):Ex→St→Option s.den
 |.normal,S=>Eb E fi s S
 |.exit _,_=>none
 |.ret,S=>Eb E fi s S
noncomputable def both {R:Type}(a b:Option R):Option R:=open Classical in if a=b then a else none
noncomputable def G4 {α R:Type}(xs:List α)(a:Option R)(b:List α→Option R):Option R:=
 match xs with
 |[]=>both a (b [])
 |x :: l=>b (x :: l)
noncomputable def vQ (E:e7)(lv:Lv E.sig)(K:Nat)(f:FuncId)(fi:ct)(args:List lM):Option (E.sig f).den:=
 bif !(Nat.ble fi.ntmps 1000&&Nat.ble args.length fi.ntmps) then none else jP E lv K fi fi.body ⟨dC 0 args,ei 0 args⟩ (HI E fi (E.sig f))
noncomputable def call (E:e7)(lv:Lv E.sig)(K:Nat)(f:FuncId)(args:List lM):Option (E.sig f).den:=
 match E.fn f with
 |some fi=>
  bif fi.split then
   match args with
   |[.v (.L t xs)]=>G4 xs (vQ E lv K f fi [.v (.nq true t [])]) fun xs=>vQ E lv K f fi [.v (.nq false t xs)]
   |_=>none
  else vQ E lv K f fi args
 |none=>E.ext f args
end
noncomputable def cX (E:e7):Nat→Lv E.sig
 |0=>fun _ _=>none
 |k+1=>fun f args=>call E (cX E k) k f args
noncomputable def aS (E:e7)(k:Nat)(fi:ct)(s:bQ)(p:List JF)(n:Nat)(S:St):Option s.den:=
 match at_ E (cX E k) k fi p fi.body (HI E fi s) with
 |(.block id (.loop b),κ)=>rD fi.ntmps (fi.lcmds id) id (fun S κ=>jP E (cX E k) k fi b S κ) κ n S
 |_=>none
noncomputable def pX (E:e7)(k:Nat)(fi:ct)(s:bQ)(p:List JF)(S:St):Option s.den:=
 let c:=at_ E (cX E k) k fi p fi.body (HI E fi s)
 jP E (cX E k) k fi c.1 S c.2
def aG:aF:=fun _ x=>x
theorem sj (R:Type)(x:Option R):aG R x=x:=rfl
end Go.Proofs.YtjkokaockhecnaaGreatDoorA
