/- An abstract machine for the model's code: slices as lists, boxes with one owner, no heap. Definitions alone. -/
import Derived.Calls
import Derived.KernelRfl
namespace Go.Proofs.YtjkokaockhecnaaGreatDoorA
open Go

/-! ### Data -/
structure Nod where
  kind : Int
  parent : Int
  null : Bool
  deriving DecidableEq

inductive Arr where
  | mk (layout offset length : Int) (valid ends data : List UInt8) (kids : List Arr)
def Arr.layout : Arr → Int | .mk a _ _ _ _ _ _ => a
def Arr.offset : Arr → Int | .mk _ a _ _ _ _ _ => a
def Arr.length : Arr → Int | .mk _ _ a _ _ _ _ => a
def Arr.valid : Arr → List UInt8 | .mk _ _ _ a _ _ _ => a
def Arr.ends : Arr → List UInt8 | .mk _ _ _ _ a _ _ => a
def Arr.data : Arr → List UInt8 | .mk _ _ _ _ _ a _ => a
def Arr.kids : Arr → List Arr | .mk _ _ _ _ _ _ a => a

structure Col where
  reps : List Int
  defs : List Int
  values : List (List UInt8)

structure Blk where
  at_ : Int
  size : Int
  rows : Int
  sum : Int

inductive El where
  | int (k : IntKind) | bool | str | list (e : El) | node | arr | col | blk
  deriving DecidableEq

abbrev El.den : El → Type
  | .int _ => Int
  | .bool => Bool
  | .str => List UInt8
  | .list e => List e.den
  | .node => Nod
  | .arr => Arr
  | .col => Col
  | .blk => Blk

/-! ### Abstract values -/
inductive AV where
  | und
  | bool (b : Bool)
  | int (k : IntKind) (n : Int)
  | str (s : List UInt8)
  | err (b : Bool)
  | nils
  | L (t : El) (xs : List t.den)
  | al (s j : Nat)
  | ref (s off : Nat)
  | eref (s j sz i off : Nat)
  | bs (s n : Nat)
  | bref (s i : Nat)
  | bal (s i : Nat) (t : El) (xs : List t.den)
  | rm (t : El) (xs ys : List t.den)
  | als (s j sz lo n : Nat)
  | bad (s : Nat)
  | refT (s T : Nat)
  | fzs (e : Nat) (l : List Int)
  | vp (cs : List AV)
  | vi (cs : List AV)
  | nilp
  | optp (t : El) (x : Option t.den)
  | nq (nil : Bool) (t : El) (xs : List t.den)
  | agg (cs : List AV)
  | tup (vs : List AV)
  | fn (f : FuncId) (caps : List AV)

instance : Inhabited AV := ⟨.und⟩

def El.cells : (t : El) → t.den → List AV
  | .int k, n => [.int k n]
  | .bool, b => [.bool b]
  | .str, s => [.str s]
  | .list e, xs => [.L e xs]
  | .node, x => [.int .i64 x.kind, .int .i64 x.parent, .bool x.null]
  | .arr, x => [.int .i64 x.layout, .int .i64 x.offset, .int .i64 x.length, .str x.valid, .str x.ends, .str x.data, .L .arr x.kids]
  | .col, x => [.L (.int .i64) x.reps, .L (.int .i64) x.defs, .L .str x.values]
  | .blk, x => [.int .i64 x.at_, .int .i64 x.size, .int .i64 x.rows, .int .i64 x.sum]

def El.isList : El → Bool
  | .list _ => true
  | _ => false
def El.size : El → Nat
  | .node => 3 | .arr => 7 | .col => 3 | .blk => 4 | _ => 1

/-- The list that a cell of a slice's type holds. -/
def asL (t : El) : AV → Option (List t.den)
  | .nils => some []
  | .L u xs => if h : u = t then some (h ▸ xs) else none
  | .nq _ u xs => if h : u = t then some (h ▸ xs) else none
  | .bal _ _ u xs => if h : u = t then some (h ▸ xs) else none
  | .rm u xs _ => if h : u = t then some (h ▸ xs) else none
  | _ => none

def El.ofCells : (t : El) → List AV → Option t.den
  | .int k, [.int k' n] => if k = k' then some n else none
  | .bool, [.bool b] => some b
  | .str, [.str s] => some s
  | .list e, [x] => asL e x
  | .node, [.int .i64 a, .int .i64 b, .bool c] => some ⟨a, b, c⟩
  | .arr, [.int .i64 a, .int .i64 b, .int .i64 c, .str v, .str e, .str d, ks] => (asL .arr ks).map (Arr.mk a b c v e d)
  | .col, [a, b, c] => (asL (.int .i64) a).bind fun a => (asL (.int .i64) b).bind fun b => (asL .str c).map fun c => ⟨a, b, c⟩
  | .blk, [.int .i64 a, .int .i64 b, .int .i64 c, .int .i64 d] => some ⟨a, b, c, d⟩
  | _, _ => none

/-! ### The state -/
inductive Cell where
  | av (a : AV)
  | sl (t : El) (fz : Bool) (xs : List t.den)

/-- Cells that a slot owns: in memory (a box), or kept apart. -/
structure Root where
  box : Bool
  cs : List Cell

structure St where
  tmps : List (Nat × AV)
  roots : List (Nat × Root)

def look {α : Type} (k : Nat) : List (Nat × α) → Option α
  | [] => none
  | (i, a) :: l => bif Nat.beq i k then some a else look k l
def drop1 {α : Type} (k : Nat) : List (Nat × α) → List (Nat × α)
  | [] => []
  | (i, a) :: l => bif Nat.beq i k then drop1 k l else (i, a) :: drop1 k l
def put1 {α : Type} (k : Nat) (a : α) (l : List (Nat × α)) : List (Nat × α) := (k, a) :: drop1 k l

def St.tmp (S : St) (t : Nat) : AV := match look t S.tmps with | some a => a | none => .und
def St.root (S : St) (s : Nat) : Option Root := look s S.roots
def St.put (S : St) (t : Nat) (a : AV) : St := { S with tmps := put1 t a S.tmps }
def St.putO (S : St) (t : Option Nat) (a : AV) : St := match t with | some t => S.put t a | none => S
def St.setRoot (S : St) (s : Nat) (r : Root) : St := { S with roots := put1 s r S.roots }
def St.cell (S : St) (s j : Nat) : Option Cell := (S.root s).bind fun r => r.cs[j]?
def St.setCell (S : St) (s j : Nat) (c : Cell) : St :=
  match S.root s with
  | some r => S.setRoot s { r with cs := r.cs.set j c }
  | none => S

def cellAV (s j : Nat) : Cell → AV
  | .av a => a
  | .sl .. => .al s j

/-- Does a value name what slot s owns? -/
def AV.names (s : Nat) : AV → Bool
  | .al s' _ | .ref s' _ | .eref s' _ _ _ _ | .bs s' _ | .bref s' _ | .bal s' _ _ _ | .als s' _ _ _ _ | .bad s' | .refT s' _ => Nat.beq s' s
  | .vp cs | .vi cs | .agg cs | .tup cs | .fn _ cs => namesL s cs
  | _ => false
  where namesL (s : Nat) : List AV → Bool
  | [] => false
  | a :: l => AV.names s a || namesL s l

def AV.kill (s : Nat) (a : AV) : AV := bif a.names s then .und else a
def Cell.kill (s : Nat) : Cell → Cell
  | .av a => .av (a.kill s)
  | c => c
def killT (s : Nat) : List (Nat × AV) → List (Nat × AV)
  | [] => []
  | (i, a) :: l => (i, a.kill s) :: killT s l
def killC (s : Nat) : List Cell → List Cell
  | [] => []
  | c :: l => c.kill s :: killC s l
def killR (s : Nat) : List (Nat × Root) → List (Nat × Root)
  | [] => []
  | (i, r) :: l => (i, ⟨r.box, killC s r.cs⟩) :: killR s l
/-- What slot s owned is forgotten, so that it may own anew. -/
def St.clear (S : St) (s : Nat) : St := ⟨killT s S.tmps, killR s (drop1 s S.roots)⟩

/-- Does a value name part j of what slot s owns? -/
def AV.namesC (s j : Nat) : AV → Bool
  | .al s' j' | .eref s' j' _ _ _ | .als s' j' _ _ _ => Nat.beq s' s && Nat.beq j' j
  | .bal s' _ _ _ => Nat.beq s' s
  | .vp cs | .vi cs | .agg cs | .tup cs | .fn _ cs => namesCL s j cs
  | _ => false
  where namesCL (s j : Nat) : List AV → Bool
  | [] => false
  | a :: l => AV.namesC s j a || namesCL s j l
def AV.killC (s j : Nat) (a : AV) : AV := bif a.namesC s j then .und else a
def Cell.killC (s j : Nat) : Cell → Cell
  | .av a => .av (a.killC s j)
  | c => c
def killCT (s j : Nat) : List (Nat × AV) → List (Nat × AV)
  | [] => []
  | (i, a) :: l => (i, a.killC s j) :: killCT s j l
def killCC (s j : Nat) : List Cell → List Cell
  | [] => []
  | c :: l => c.killC s j :: killCC s j l
def killCR (s j : Nat) : List (Nat × Root) → List (Nat × Root)
  | [] => []
  | (i, r) :: l => (i, ⟨r.box, killCC s j r.cs⟩) :: killCR s j l
/-- What names part j of slot s is forgotten. -/
def St.clearC (S : St) (s j : Nat) : St := ⟨killCT s j S.tmps, killCR s j S.roots⟩

/-- Does a value name a part of what slot s owns (not the box itself)? -/
def AV.namesB (s : Nat) : AV → Bool
  | .al s' _ | .eref s' _ _ _ _ | .bal s' _ _ _ | .als s' _ _ _ _ => Nat.beq s' s
  | .vp cs | .vi cs | .agg cs | .tup cs | .fn _ cs => namesBL s cs
  | _ => false
  where namesBL (s : Nat) : List AV → Bool
  | [] => false
  | a :: l => AV.namesB s a || namesBL s l
def AV.killB (s : Nat) (a : AV) : AV := bif a.namesB s then .und else a
def Cell.killB (s : Nat) : Cell → Cell
  | .av a => .av (a.killB s)
  | c => c
def killBT (s : Nat) : List (Nat × AV) → List (Nat × AV)
  | [] => []
  | (i, a) :: l => (i, a.killB s) :: killBT s l
def killBC (s : Nat) : List Cell → List Cell
  | [] => []
  | c :: l => c.killB s :: killBC s l
def killBR (s : Nat) : List (Nat × Root) → List (Nat × Root)
  | [] => []
  | (i, r) :: l => (i, ⟨r.box, killBC s r.cs⟩) :: killBR s l
/-- What names parts of slots is forgotten. -/
def St.clearB (S : St) : List Nat → St
  | [] => S
  | s :: l => St.clearB ⟨killBT s S.tmps, killBR s S.roots⟩ l

/-! ### Types of the program, as far as they are wanted -/
structure TyI where
  agg : Bool
  size : Nat
  bytes : Nat
  zero : List AV
  kind : Option IntKind
  str : Bool
  elem : Option El
  elemT : Nat
  ezero : List AV
  ebytes : Nat
  fields : List (Nat × Nat × Nat)     -- offset, size, type
  eqs : Bool                          -- a struct that is compared cell by cell
  isb : Bool                          -- a truth
  bld : Bool := false                 -- a strings.Builder
  ifc : Bool := false                 -- an interface

/-! ### What a call takes and gives -/
/-- The kind of a cell. -/
inductive LK where
  | bool | int (k : IntKind) | str | err | list (t : El) | own (t : El) (fz : Bool) | room (t : El)
/-- The kind of a parameter. -/
inductive PK where
  | one (k : LK)
  | agg (ks : List LK)
  | ro (ks : List LK)
  | rw (ks : List LK)
  | fn
  | bw (T : Nat)
  | br (T e : Nat)
/-- The kind of a result. -/
inductive RK where
  | one (k : LK)
  | agg (ks : List LK)
  | el (t : El)
  | ptr (t : El)
/-- An argument. -/
inductive Arg where
  | v (a : AV)
  | o (c : Cell)
  | g (cs : List Cell)
  | b (cs : List Cell)

abbrev LK.den : LK → Type
  | .bool => Bool
  | .int _ => Int
  | .str => List UInt8
  | .err => Bool
  | .list t => List t.den
  | .own t _ => List t.den
  | .room t => List t.den × List t.den
abbrev LKs.den : List LK → Type
  | [] => Unit
  | [k] => k.den
  | k :: ks => k.den × LKs.den ks
abbrev RK.den : RK → Type
  | .one k => k.den
  | .agg ks => LKs.den ks
  | .el t => t.den
  | .ptr t => Option t.den
/-- Results, then what is written back into boxes. -/
structure Sig where
  res : List RK
  back : List (Nat × List LK)
/-- Results that point nowhere: what such a function is handed may be written again behind it. -/
def Sig.lends (s : Sig) : Bool :=
  s.back.isEmpty && s.res.all fun r => match r with | .one .bool | .one (.int _) | .one .str => true | _ => false
abbrev RKs.den : List RK → Type
  | [] => Unit
  | [k] => k.den
  | k :: ks => k.den × RKs.den ks
abbrev Backs.den : List (Nat × List LK) → Type
  | [] => Unit
  | [k] => LKs.den k.2
  | k :: ks => LKs.den k.2 × Backs.den ks
abbrev Sig.den : Sig → Type
  | ⟨rs, []⟩ => RKs.den rs
  | ⟨[], bs⟩ => Backs.den bs
  | ⟨rs, bs⟩ => RKs.den rs × Backs.den bs

def LK.cell : (k : LK) → k.den → Cell
  | .bool, b => .av (.bool b)
  | .int k, n => .av (.int k n)
  | .str, s => .av (.str s)
  | .err, b => .av (.err b)
  | .list t, xs => .av (.L t xs)
  | .own t fz, xs => .sl t fz xs
  | .room t, p => .av (.rm t p.1 p.2)
def LKs.cells : (ks : List LK) → LKs.den ks → List Cell
  | [], _ => []
  | [k], x => [k.cell x]
  | k :: k' :: ks, x => k.cell x.1 :: LKs.cells (k' :: ks) x.2

/-- A cell of a kind, out of what a state holds: the cell, and (of what is owned) whose it was. -/
def LK.ofCell : (k : LK) → Cell → Option k.den
  | .bool, .av (.bool b) => some b
  | .int k, .av (.int k' n) => if k = k' then some n else none
  | .str, .av (.str s) => some s
  | .err, .av (.err b) => some b
  | .list t, .av a => asL t a
  | .list t, .sl u true xs => if h : u = t then some (h ▸ xs) else none
  | .own _ _, .av .nils => some []
  | .own t fz, .sl u fz' xs => if h : u = t then (bif fz == fz' then some (h ▸ xs) else none) else none
  | .room t, .av (.rm u xs ys) => if h : u = t then some (h ▸ xs, h ▸ ys) else none
  | _, _ => none

/-! ### Operations -/
def constLeaf : Value → AV
  | .bool b => .bool b
  | .int k n => .int k n
  | .string s => .str s.data.toList
  | .slice none 0 0 => .nils
  | .pointer none => .nilp
  | _ => .und
def constLeaves : List Value → List AV
  | [] => []
  | v :: l => constLeaf v :: constLeaves l
def constAV : Value → AV
  | .agg cs => .agg (constLeaves cs.toList)
  | v => constLeaf v
def St.ev (S : St) : Operand → AV
  | .tmp t => S.tmp t
  | .const v => constAV v
  | .func f => .fn f []
  | .global _ => .und
def evL (S : St) : List Operand → List AV
  | [] => []
  | x :: l => S.ev x :: evL S l

def AV.leaves : AV → List AV
  | .agg cs => cs
  | a => [a]

/-- Is something known of a value? -/
def AV.isVal : AV → Bool
  | .und | .tup _ => false
  | _ => true
/-- Is it a value of one cell? -/
def AV.isCell : AV → Bool
  | .und | .tup _ | .agg _ => false
  | _ => true
/-- The list that a cell owns. -/
def slOf (t : El) : Cell → Option (Bool × List t.den)
  | .sl u b xs => if h : u = t then some (b, h ▸ xs) else none
  | .av _ => none
def allCells : List AV → Bool
  | [] => true
  | a :: l => a.isCell && allCells l

def kindOf : AV → Nat
  | .int .. => 1
  | .bool _ => 2
  | .str _ => 3
  | _ => 0
def sameKinds : List AV → List AV → Bool
  | [], [] => true
  | a :: l, b :: m => Nat.beq (kindOf a) (kindOf b) && sameKinds l m
  | _, _ => false

def bitsOp (op : BinOp) (k : IntKind) (x y : Int) : Int :=
  let a := BitVec.ofInt k.bits x
  let b := BitVec.ofInt k.bits y
  k.wrap (match op with
    | .and => a &&& b
    | .or => a ||| b
    | .xor => a ^^^ b
    | _ => a &&& ~~~b).toNat

/-- Leaf by leaf the same? -/
def eqLeaf : AV → AV → Option Bool
  | .bool a, .bool b => some (a == b)
  | .int k a, .int k' b => if k = k' then some (a == b) else none
  | .str a, .str b => some (a == b)
  | _, _ => none
def eqLeaves : List AV → List AV → Option Bool
  | [], [] => some true
  | a :: l, b :: m => (eqLeaf a b).bind fun x => (eqLeaves l m).map fun y => x && y
  | _, _ => none

section
variable {R : Type}

def binK (eqs isb isl isn : Bool) (op : BinOp) (x y : AV) (κ : AV → Option R) : Option R :=
  match x, y with
  | .int k a, .int k' b =>
    match op with
    | .shl => bif decide (b < 0) then none else κ (.int k (k.wrap (a * 2 ^ (min b.toNat k.bits))))
    | .shr => bif decide (b < 0) then none else κ (.int k (a.fdiv (2 ^ (min b.toNat k.bits))))
    | op =>
      if k = k' then
        match op with
        | .add => κ (.int k (k.wrap (a + b)))
        | .sub => κ (.int k (k.wrap (a - b)))
        | .mul => κ (.int k (k.wrap (a * b)))
        | .quo => bif b == 0 then none else κ (.int k (k.wrap (a.tdiv b)))
        | .rem => bif b == 0 then none else κ (.int k (a.tmod b))
        | .and => κ (.int k (bitsOp .and k a b))
        | .or => κ (.int k (bitsOp .or k a b))
        | .xor => κ (.int k (bitsOp .xor k a b))
        | .andNot => κ (.int k (bitsOp .andNot k a b))
        | .eql => κ (.bool (a == b))
        | .neq => κ (.bool (a != b))
        | .lss => κ (.bool (decide (a < b)))
        | .leq => κ (.bool (decide (a ≤ b)))
        | .gtr => κ (.bool (decide (a > b)))
        | .geq => κ (.bool (decide (a ≥ b)))
        | _ => none
      else none
  | .str a, .str b =>
    match op with
    | .add => bif decide (a.length + b.length ≤ 9223372036854775807) then κ (.str (a ++ b)) else none
    | .eql => κ (.bool (a == b))
    | .neq => κ (.bool (a != b))
    | _ => none
  | .bool a, .bool b =>
    match op with
    | .eql => bif isb then κ (.bool (a == b)) else none
    | .neq => bif isb then κ (.bool (a != b)) else none
    | _ => none
  | .agg a, .agg b =>
    match op with
    | .eql => bif eqs then (match eqLeaves a b with | some c => κ (.bool c) | none => none) else none
    | .neq => bif eqs then (match eqLeaves a b with | some c => κ (.bool (!c)) | none => none) else none
    | _ => none
  | .nq q _ _, .nils =>
    match op with
    | .eql => bif isl then κ (.bool q) else none
    | .neq => bif isl then κ (.bool (!q)) else none
    | _ => none
  | .err b, _ =>
    match op with
    | .eql => bif isn then κ (.bool (!b)) else none
    | .neq => bif isn then κ (.bool b) else none
    | _ => none
  | _, _ => none

def isNilC : Operand → Bool
  | .const .nilIface => true
  | _ => false

def unK (op : UnOp) (x : AV) (κ : AV → Option R) : Option R :=
  match op, x with
  | .neg, .int k n => κ (.int k (k.wrap (0 - n)))
  | .not, .bool b => κ (.bool (!b))
  | .xor, .int k n => κ (.int k (bitsOp .xor k (bif k.signed then -1 else k.max) n))
  | _, _ => none

/-- The element of a list at a number. -/
def rd {α : Type} (xs : List α) (i : Int) : Option α := bif decide (0 ≤ i) then xs[i.toNat]? else none

def takeExact {α : Type} (l : List α) (off n : Nat) : Option (List α) :=
  bif Nat.ble (off + n) l.length then some ((l.drop off).take n) else none

def cellsAV (s : Nat) : Nat → List Cell → List AV
  | _, [] => []
  | j, c :: l => cellAV s j c :: cellsAV s (j + 1) l

/-- The cells at an address. -/
def loadK (S : St) (el : Option El) (a : AV) (n : Nat) (κ : List AV → Option R) : Option R :=
  match a with
  | .ref s off =>
    match S.root s with
    | some ⟨true, cs⟩ => match takeExact (cellsAV s 0 cs) off n with | some l => κ l | none => none
    | _ => none
  | .eref s j sz i off =>
    match S.cell s j with
    | some (.sl t _ xs) => bif Nat.beq sz t.size then (xs[i]?).bind fun x => match takeExact (t.cells x) off n with | some l => κ l | none => none else none
    | _ => none
  | .vp cs | .vi cs => match takeExact cs 0 n with | some l => κ l | none => none
  | .bref s i =>
    match S.root s with
    | some ⟨true, cs⟩ => match el with | some t => (bif Nat.beq n 1 then (cs[i]?).bind fun c => (slOf t c).bind fun p => bif p.1 then κ [.bal s i t p.2] else none else none) | none => none
    | _ => none
  | _ => none

def asVal (agg : Bool) (l : List AV) : Option AV :=
  match agg, l with
  | true, l => some (.agg l)
  | false, [a] => some a
  | _, _ => none

def indexAddrK (S : St) (t' : El) (x : AV) (i : AV) (κ : AV → Option R) : Option R :=
  match i with
  | .int _ i =>
    match x with
    | .L t xs => if t = t' then (rd xs i).bind fun x => κ (.vi (t.cells x)) else none
    | .rm t xs _ => if t = t' then (rd xs i).bind fun x => κ (.vi (t.cells x)) else none
    | .al s j =>
      match S.cell s j with
      | some (.sl t true xs) => if t = t' then (rd xs i).bind fun x => κ (.vi (t.cells x)) else none
      | some (.sl t false xs) => if t = t' then (bif decide (0 ≤ i) && decide (i < (xs.length : Int)) then κ (.eref s j t.size i.toNat 0) else none) else none
      | _ => none
    | .bs s n => bif t'.isList then (bif decide (0 ≤ i) && decide (i < (n : Int)) then κ (.bref s i.toNat) else none) else none
    | _ => none
  | _ => none

def lenK (S : St) (ty : Option TyI) (x : AV) (κ : AV → Option R) : Option R :=
  match ty with
  | some ty =>
    match x with
    | .str s => bif ty.str then κ (.int .i64 (s.length : Int)) else none
    | .L _ xs => bif ty.elem.isSome then κ (.int .i64 (xs.length : Int)) else none
    | .rm _ xs _ => bif ty.elem.isSome then κ (.int .i64 (xs.length : Int)) else none
    | .nils => bif ty.elem.isSome then κ (.int .i64 0) else none
    | .al s j =>
      match S.cell s j with
      | some (.sl _ _ xs) => bif ty.elem.isSome then κ (.int .i64 (xs.length : Int)) else none
      | _ => none
    | .bs _ n => bif ty.elem.isSome then κ (.int .i64 (n : Int)) else none
    | .bal _ _ _ xs => bif ty.elem.isSome then κ (.int .i64 (xs.length : Int)) else none
    | _ => none
  | none => none

/-- The elements of a slice (or a string), as far as they are known. -/
def elemsOf (S : St) (t : El) (x : AV) : Option (List t.den) :=
  match x with
  | .al s j =>
    match S.cell s j with
    | some (.sl u _ xs) => if h : u = t then some (h ▸ xs) else none
    | _ => none
  | .als s j sz lo n =>
    match S.cell s j with
    | some (.sl u _ xs) => bif Nat.beq sz t.size && Nat.ble (lo + n) xs.length then (if h : u = t then some (((h ▸ xs : List t.den).drop lo).take n) else none) else none
    | _ => none
  | x => asL t x

/-- What is owned and frozen, as a list. -/
def thaw1 (S : St) : AV → AV
  | .al s j => (match S.cell s j with | some (.sl t true xs) => .L t xs | _ => .al s j)
  | a => a
def thawA (S : St) : AV → AV
  | .agg l => .agg (l.map (thaw1 S))
  | a => thaw1 S a
def bytesOfStr (s : List UInt8) : List Int := s.map fun b => (b.toNat : Int)
def strOfBytes (l : List Int) : List UInt8 := l.map fun n => UInt8.ofNat n.toNat

def bound (S : St) (o : Option Operand) (y : Nat) (dflt : Nat) (κ : Nat → Option R) : Option R :=
  match o with
  | none => κ dflt
  | some x =>
    match S.ev x with
    | .int _ i => bif decide (0 ≤ i) && decide (i ≤ (y : Int)) then κ i.toNat else none
    | _ => none

def fieldOf (E : TypeId → Option TyI) (T f : Nat) : Option (Nat × Nat × Nat) := (E T).bind fun i => i.fields[f]?

def addrAdd (a : AV) (n : Nat) : Option AV :=
  match a with
  | .ref s off => some (.ref s (off + n))
  | .eref s j sz i off => some (.eref s j sz i (off + n))
  | .vp cs => some (.vp (cs.drop n))
  | .vi cs => some (.vi (cs.drop n))
  | _ => none

def setRange {α : Type} (l : List α) (off : Nat) (new : List α) : List α := l.take off ++ new ++ l.drop (off + new.length)

def avCells (l : List AV) : List Cell := l.map .av

def setParts (E : TypeId → Option TyI) (fields : List (Nat × Nat × Nat)) : List (Nat × AV) → List AV → Option (List AV)
  | [], cs => some cs
  | (i, a) :: rest, cs =>
    match fields[i]? with
    | some (off, size, _) => bif a.isVal && (Nat.beq a.leaves.length size && Nat.ble (off + size) cs.length) then setParts E fields rest (setRange cs off a.leaves) else none
    | none => none

def partsOf (t : El) : Nat → List (Nat × AV) → Option (List t.den)
  | _, [] => some []
  | n, (i, a) :: rest => bif Nat.beq i n then (t.ofCells a.leaves).bind fun x => (partsOf t (n + 1) rest).map fun l => x :: l else none

/-- Operations that leave what is owned alone, but for what their own slot may come to own: a value, and that. -/
def stepV (E : TypeId → Option TyI) (o : Oper) (S : St) (κ : AV → Option Root → Option R) : Option R :=
  let d := match o.dst with | some d => d | none => 0
  match o.op with
  | .move x | .assign x => κ (S.ev x) none
  | .pick c a b => match S.ev c with | .bool t => bif t then κ (S.ev a) none else κ (S.ev b) none | _ => none
  | .nilCheck x => match S.ev x with | .ref s f => κ (.ref s f) none | .vp cs => κ (.vp cs) none | .vi cs => κ (.vi cs) none | .eref s j sz i f => κ (.eref s j sz i f) none | .optp t x => (match x with | some x => κ (.vi (t.cells x)) none | none => none) | _ => none
  | .binOp op T x y _ => binK (match E T with | some i => i.eqs && sameKinds (S.ev x).leaves i.zero | none => false) (match E T with | some i => i.isb | none => false) (match E T with | some i => i.elem.isSome | none => false) ((match E T with | some i => i.ifc | none => false) && isNilC y) op (S.ev x) (S.ev y) fun a => κ a none
  | .unOp op _ x => unK op (S.ev x) fun a => κ a none
  | .extract t i =>
    match S.ev t with
    | .tup vs => (match vs[i]? with | some a => κ a none | none => none)
    | _ => none
  | .alloc T => match E T with | some i => κ (bif i.bld then .refT d T else .ref d 0) (some ⟨true, avCells i.zero⟩) | none => none
  | .box _ x => bif (S.ev x).isVal then κ (.ref d 0) (some ⟨true, avCells (S.ev x).leaves⟩) else none
  | .load T a =>
    match E T with
    | some i => loadK S i.elem (S.ev a) i.size fun l => (match asVal i.agg l with | some v => κ v none | none => none)
    | none => none
  | .fieldAddr T x f =>
    match fieldOf E T f with
    | some (off, _, _) => (match addrAdd (S.ev x) off with | some a => κ a none | none => none)
    | none => none
  | .field T x f =>
    match S.ev x, fieldOf E T f with
    | .agg cs, some (off, n, U) =>
      (match takeExact cs off n with
      | some l => (match E U with | some j => (match asVal j.agg l with | some v => κ v none | none => none) | none => none)
      | none => none)
    | _, _ => none
  | .indexAddr T x i => match (E T).bind (·.elem) with | some t => indexAddrK S t (S.ev x) (S.ev i) fun a => κ a none | none => none
  | .index T x i =>
    match E T, S.ev x, S.ev i with
    | some ty, .str s, .int _ i => bif ty.str then (rd s i).bind fun b => κ (.int .u8 (b.toNat : Int)) none else none
    | _, _, _ => none
  | .slice T x lo hi none =>
    match E T with
    | some ty =>
      match S.ev x with
      | .str s => bif ty.str then bound S hi s.length s.length fun h => bound S lo h 0 fun l => κ (.str ((s.take h).drop l)) none else none
      | .L t xs => if ty.elem = some t then bound S hi xs.length xs.length fun h => bound S lo h 0 fun l => κ (.L t ((xs.take h).drop l)) none else none
      | .al s j =>
        match S.cell s j with
        | some (.sl t true xs) => if ty.elem = some t then bound S hi xs.length xs.length fun h => bound S lo h 0 fun l => κ (bif lo.isNone && hi.isSome then .rm t (xs.take h) (xs.drop h) else .L t ((xs.take h).drop l)) none else none
        | some (.sl t false xs) => if ty.elem = some t then bound S hi xs.length xs.length fun h => bound S lo h 0 fun l => κ (.als s j t.size l (h - l)) none else none
        | _ => none
      | .rm t xs ys => if ty.elem = some t then bound S hi (xs ++ ys).length xs.length fun h => bound S lo h 0 fun l => κ (.L t (((xs ++ ys).take h).drop l)) none else none
      | _ => none
    | none => none
  | .convert src dst x =>
    match E src, E dst with
    | some i, some j =>
      match S.ev x, j.kind with
      | .int _ n, some k => κ (.int k (k.wrap n)) none
      | .int _ _, none => none
      | .str s, _ => bif j.str then κ (.str s) none else none
      | a, _ =>
        bif j.str then
          match i.elem with
          | some (.int .u8) => (match elemsOf S (.int .u8) a with | some l => κ (.str (strOfBytes l)) none | none => none)
          | _ => none
        else none
    | _, _ => none
  | .build T parts =>
    match E T with
    | some i => bif i.fields.isEmpty then none else (match setParts E i.fields (parts.toList.map fun p => (p.1, S.ev p.2)) i.zero with | some cs => κ (.agg cs) none | none => none)
    | none => none
  | .buildSlice T n parts =>
    match E T with
    | some i =>
      match i.elem with
      | some t =>
        match partsOf t 0 (parts.toList.map fun p => (p.1, thawA S (S.ev p.2))) with
        | some l => bif Nat.beq l.length n && Nat.ble (n * t.size) 16777216 then κ (.al d 0) (some ⟨false, [.sl t false l]⟩) else none
        | none => none
      | none => none
    | none => none
  | .makeSlice T l c =>
    match E T, S.ev l, S.ev c with
    | some i, .int _ n, .int _ m =>
      match i.elem with
      | some (.list e) =>
        match i.ezero with
        | [.nils] => bif n == m && (decide (0 ≤ n) && decide (n * (i.ebytes : Int) ≤ 140737488355328)) then κ (.bs d n.toNat) (some ⟨true, List.replicate n.toNat (.sl e true [])⟩) else none
        | _ => none
      | some t =>
        match t.ofCells i.ezero with
        | some x => bif n == m && (decide (0 ≤ n) && decide (n * (i.ebytes : Int) ≤ 140737488355328)) then κ (.al d 0) (some ⟨false, [.sl t false (List.replicate n.toNat x)]⟩) else none
        | none => none
      | none => none
    | _, _, _ => none
  | .makeFunc (.func f) first captured => bif first.isEmpty then κ (.fn f (evL S captured.toList)) none else none
  | .call c =>
    match c.callee with
    | .builtin .len => (match c.args.toList, c.argTypes.toList with | [x], [T] => lenK S (E T) (S.ev x) fun a => κ a none | _, _ => none)
    | .builtin .max =>
      match evL S c.args.toList with
      | [.int k a, .int k' b] => if k = k' then κ (.int k (bif decide (b > a) then b else a)) none else none
      | [.int k a, .int k' b, .int k'' e] => if k = k' then if k = k'' then κ (.int k (let m := bif decide (b > a) then b else a; bif decide (e > m) then e else m)) none else none else none
      | _ => none
    | .builtin .min =>
      match evL S c.args.toList with
      | [.int k a, .int k' b] => if k = k' then κ (.int k (bif decide (b < a) then b else a)) none else none
      | _ => none
    | _ => none
  | _ => none

/-- Is it a builder's address of itself, or none? -/
def badOK (s : Nat) : AV → Bool
  | .nilp => true
  | .bad s' => Nat.beq s' s
  | .ref s' o => Nat.beq s' s && Nat.beq o 0
  | _ => false
/-- What is done to a state between two regions: nothing that the program does. -/
inductive Cmd where
  | keep (ss : List Nat)
  | keepR (ss : List Nat)
  | own (v : Nat) (t : El) (fz : Bool)
  | view (v : Nat) (t : El)
  | cell (s j : Nat) (t : El) (fz : Bool)
  | froze (s j : Nat)
  | cellv (s j : Nat) (t : El)
  | bself (s : Nat)

def keepL {α : Type} (ss : List Nat) (l : List (Nat × α)) : List (Nat × α) :=
  match ss with
  | [] => []
  | s :: ss => match look s l with | some a => (s, a) :: keepL ss l | none => keepL ss l
def doCmd (n : Nat) (S : St) : Cmd → Option St
  | .keep ss => some { S with tmps := keepL ss S.tmps }
  | .keepR ss => some { S with roots := keepL ss S.roots }
  | .own v t fz =>
    bif !Nat.blt v n then none else
    match S.tmp v with
    | .nils => some (((S.clear (2000 + v)).setRoot (2000 + v) ⟨false, [.sl t fz []]⟩).put v (.al (2000 + v) 0))
    | .al s j =>
      match S.cell s j with
      | some (.sl u fz' xs) =>
        if u = t then
          bif fz || !fz' then
            bif Nat.beq s (2000 + v) then bif Nat.beq j 0 then some ((S.setRoot (2000 + v) ⟨false, [.sl u fz xs]⟩).put v (.al (2000 + v) 0)) else none
            else some ((((S.setCell s j (.av .und)).clear (2000 + v)).setRoot (2000 + v) ⟨false, [.sl u fz xs]⟩).put v (.al (2000 + v) 0))
          else none
        else none
      | _ => none
    | _ => none
  | .view v t =>
    match S.tmp v with
    | .nils => some (S.put v (.L t []))
    | .L u xs => some (S.put v (.L u xs))
    | .rm u xs _ => some (S.put v (.L u xs))
    | .al s j =>
      match S.cell s j with
      | some (.sl u _ xs) => some ((S.setCell s j (.sl u true xs)).put v (.L u xs))
      | _ => none
    | _ => none
  | .cell s j t fz =>
    match S.cell s j with
    | some (.sl u fz' xs) => if u = t then (bif fz || !fz' then some (S.setCell s j (.sl u fz xs)) else none) else none
    | some (.av .nils) => some ((S.clearC s j).setCell s j (.sl t fz []))
    | some (.av (.al s' j')) =>
      match S.cell s' j' with
      | some (.sl u fz' xs) => if u = t then (bif fz || !fz' then some (((S.setCell s' j' (.av .und)).clearC s j).setCell s j (.sl u fz xs)) else none) else none
      | _ => none
    | _ => none
  | .froze s j =>
    match S.cell s j with
    | some (.sl t _ xs) => some (S.setCell s j (.sl t true xs))
    | _ => none
  | .cellv s j t =>
    match S.cell s j with
    | some (.sl t _ xs) => some ((S.setCell s j (.sl t true xs)).setCell s j (.av (.L t xs)))
    | some (.av (.L _ _)) => some S
    | some (.av .nils) => some (S.setCell s j (.av (.L t [])))
    | some (.av (.al s' j')) =>
      match S.cell s' j' with
      | some (.sl t _ xs) => some ((S.setCell s' j' (.sl t true xs)).setCell s j (.av (.L t xs)))
      | _ => none
    | _ => none
  | .bself s =>
    match S.root s with
    | some ⟨true, .av a :: cs⟩ => bif badOK s a then some (S.setRoot s ⟨true, .av (.bad s) :: cs⟩) else none
    | _ => none
def doCmds (n : Nat) (S : St) : List Cmd → Option St
  | [] => some S
  | c :: l => match doCmd n S c with | some S => doCmds n S l | none => none

/-! ### Calls -/
def PK.quiet : PK → Bool
  | .one (.own ..) => false
  | .bw _ | .br _ _ => false
  | .rw _ => false
  | .agg ks => ks.all fun k => match k with | .own .. => false | _ => true
  | _ => true


/-- A leaf handed over: nothing that is owned. -/
def leafAV (lend : Bool) (S : St) : LK → AV → Option AV
  | .bool, .bool b => some (.bool b)
  | .int k, .int k' n => if k = k' then some (.int k n) else none
  | .str, .str s => some (.str s)
  | .err, .err b => some (.err b)
  | .list t, .al s j =>
    match S.cell s j with
    | some (.sl u fz xs) => bif fz || lend then (if h : u = t then some (.L t (h ▸ xs)) else none) else none
    | _ => none
  | .list t, a => (asL t a).map (.L t)
  | .room t, .rm u xs ys => if u = t then some (.rm u xs ys) else none
  | _, _ => none
def leavesAV (lend : Bool) (S : St) : List LK → List AV → Option (List AV)
  | [], [] => some []
  | k :: ks, a :: l => (leafAV lend S k a).bind fun b => (leavesAV lend S ks l).map fun m => b :: m
  | _, _ => none
def roAV (lend : Bool) (S : St) (ks : List LK) : AV → Option AV
  | .ref s off =>
    match S.root s with
    | some ⟨true, cs⟩ => (takeExact (cellsAV s 0 cs) off ks.length).bind fun l => (leavesAV lend S ks l).map .vp
    | _ => none
  | .vp cs | .vi cs => (takeExact cs 0 ks.length).bind fun l => (leavesAV lend S ks l).map .vp
  | _ => none
def anyAV (lend : Bool) (S : St) : AV → Option AV
  | .al s j =>
    match S.cell s j with
    | some (.sl u fz xs) => bif fz || lend then some (.L u xs) else none
    | _ => none
  | .bool b => some (.bool b)
  | .int k n => some (.int k n)
  | .str s => some (.str s)
  | .L t xs => some (.L t xs)
  | .nils => some .nils
  | .nilp => some .nilp
  | _ => none
def anysAV (lend : Bool) (S : St) : List AV → Option (List AV)
  | [] => some []
  | a :: l => (anyAV lend S a).bind fun b => (anysAV lend S l).map fun m => b :: m
def roAny (lend : Bool) (S : St) : AV → Option AV
  | .ref s off =>
    match S.root s with
    | some ⟨true, cs⟩ => (anysAV lend S ((cellsAV s 0 cs).drop off)).map .vp
    | _ => none
  | .vp cs | .vi cs => (anysAV lend S cs).map .vp
  | _ => none
def rosAV (lend : Bool) (S : St) : List AV → Option (List AV)
  | [] => some []
  | a :: l => (roAny lend S a).bind fun b => (rosAV lend S l).map fun m => b :: m
/-- An argument that leaves what is owned where it is. -/
def argQ (lend : Bool) (S : St) : PK → AV → Option Arg
  | .one k, a => (leafAV lend S k a).map .v
  | .agg ks, .agg cs => (leavesAV lend S ks cs).map fun l => .v (.agg l)
  | .ro ks, a => (roAV lend S ks a).map .v
  | .fn, .fn f caps => (rosAV lend S caps).map fun l => .v (.fn f l)
  | _, _ => none
def argsQ (lend : Bool) (S : St) : List PK → List AV → Option (List Arg)
  | [], [] => some []
  | k :: ks, a :: l => (argQ lend S k a).bind fun b => (argsQ lend S ks l).map fun m => b :: m
  | _, _ => none

/-- What is handed over with an argument: a box, and where its owned parts were. -/
structure Out where
  box : Option Nat
  srcs : List (Option (Nat × Nat))

/-- A leaf that may be taken out of the state: it, and where it was. -/
def leafW (S : St) : LK → AV → Option (Cell × Option (Nat × Nat))
  | .own t fz, .nils => some (.sl t fz [], none)
  | .own t fz, .al s j =>
    match S.cell s j with
    | some (.sl u fz' xs) => if u = t then (bif fz == fz' then some (.sl u fz' xs, some (s, j)) else none) else none
    | _ => none
  | k, a => (leafAV false S k a).map fun b => (.av b, none)
def leavesW (S : St) : List LK → List AV → Option (List Cell × List (Option (Nat × Nat)))
  | [], [] => some ([], [])
  | k :: ks, a :: l => (leafW S k a).bind fun p => (leavesW S ks l).map fun q => (p.1 :: q.1, p.2 :: q.2)
  | _, _ => none
/-- The cells of a box that is handed over whole. -/
def boxCells (S : St) (s : Nat) : Nat → List LK → List Cell → Option (List Cell × List (Option (Nat × Nat)))
  | _, [], [] => some ([], [])
  | j, k :: ks, .av a :: l => (leafW S k a).bind fun p => (boxCells S s (j + 1) ks l).map fun q => (p.1 :: q.1, p.2 :: q.2)
  | j, .own t fz :: ks, .sl u fz' xs :: l => if u = t then (bif fz == fz' then (boxCells S s (j + 1) ks l).map fun q => (.sl u fz' xs :: q.1, some (s, j) :: q.2) else none) else none
  | j, .list t :: ks, .sl u true xs :: l => if h : u = t then (boxCells S s (j + 1) ks l).map fun q => (.av (.L t (h ▸ xs)) :: q.1, none :: q.2) else none
  | _, _, _ => none
/-- An argument, of a state; what is not handed over is looked at in the state S'. -/
def argW (lend : Bool) (S S' : St) (k : PK) (a : AV) : Option (Arg × Out) :=
  bif k.quiet then (argQ lend S' k a).map fun b => (b, ⟨none, []⟩) else
  match k, a with
  | .one k, a => (leafW S k a).map fun p => (.o p.1, ⟨none, [p.2]⟩)
  | .agg ks, .agg cs => (leavesW S ks cs).map fun p => (.g p.1, ⟨none, p.2⟩)
  | .rw ks, .ref s 0 =>
    match S.root s with
    | some ⟨true, cs⟩ => (boxCells S s 0 ks cs).map fun p => (.b p.1, ⟨some s, p.2⟩)
    | _ => none
  | _, _ => none
def argsW (lend : Bool) (S S' : St) : List PK → List AV → Option (List Arg × List Out)
  | [], [] => some ([], [])
  | k :: ks, a :: l => (argW lend S S' k a).bind fun p => (argsW lend S S' ks l).map fun q => (p.1 :: q.1, p.2 :: q.2)
  | _, _ => none

/-- What is frozen ahead of a call. -/
def frzLeaf : LK → AV → List (Nat × Nat)
  | .own _ true, .al s j => [(s, j)]
  | _, _ => []
def frzLeaves : List LK → List AV → List (Nat × Nat)
  | k :: ks, a :: l => frzLeaf k a ++ frzLeaves ks l
  | _, _ => []
def frzBox (s : Nat) : Nat → List LK → List Cell → List (Nat × Nat)
  | j, k :: ks, .av a :: l => frzLeaf k a ++ frzBox s (j + 1) ks l
  | j, .own _ true :: ks, .sl .. :: l => (s, j) :: frzBox s (j + 1) ks l
  | j, _ :: ks, _ :: l => frzBox s (j + 1) ks l
  | _, _, _ => []
def frzArg (S : St) : PK → AV → List (Nat × Nat)
  | .one k, a => frzLeaf k a
  | .agg ks, .agg cs => frzLeaves ks cs
  | .rw ks, .ref s 0 => match S.root s with | some r => frzBox s 0 ks r.cs | none => []
  | _, _ => []
def frzArgs (S : St) : List PK → List AV → List (Nat × Nat)
  | k :: ks, a :: l => frzArg S k a ++ frzArgs S ks l
  | _, _ => []
def frzAt (S : St) (s j : Nat) : St :=
  match S.cell s j with
  | some (.sl t false xs) => S.setCell s j (.sl t true xs)
  | _ => S
def frzAll (S : St) : List (Nat × Nat) → St
  | [] => S
  | p :: l => frzAll (frzAt S p.1 p.2) l
def boxesOf : List PK → List AV → List Nat
  | .rw _ :: ks, .ref s 0 :: l => s :: boxesOf ks l
  | _ :: ks, _ :: l => boxesOf ks l
  | _, _ => []
def dropAll {α : Type} (ss : List Nat) (l : List (Nat × α)) : List (Nat × α) :=
  match ss with
  | [] => l
  | s :: ss => dropAll ss (drop1 s l)
def forgetAll (S : St) : List (Nat × Nat) → St
  | [] => S
  | p :: l => forgetAll (S.setCell p.1 p.2 (.av .und)) l
def srcsOf : List Out → List (Nat × Nat)
  | [] => []
  | o :: l => o.srcs.filterMap id ++ srcsOf l
def boxesIn : List Out → List Nat
  | [] => []
  | o :: l => match o.box with | some s => s :: boxesIn l | none => boxesIn l
def nodupN : List Nat → Bool
  | [] => true
  | n :: l => l.all (fun m => !Nat.beq m n) && nodupN l
def memP (p : Nat × Nat) : List (Nat × Nat) → Bool
  | [] => false
  | q :: l => (Nat.beq q.1 p.1 && Nat.beq q.2 p.2) || memP p l
def nodupP : List (Nat × Nat) → Bool
  | [] => true
  | p :: l => !memP p l && nodupP l

def hasOwn : List Cell → Bool
  | [] => false
  | .sl .. :: _ => true
  | _ :: l => hasOwn l
def elAV (t : El) (x : t.den) : AV :=
  match t with
  | .int k => .int k x
  | .bool => .bool x
  | .str => .str x
  | .list e => .L e x
  | t => .agg (t.cells x)
/-- A result: its value, and what slot d comes to own of it, from part j on. -/
def RK.inj (d j : Nat) : (k : RK) → k.den → AV × List Cell
  | .one k, x => (cellAV d j (k.cell x), [k.cell x])
  | .agg ks, x => (.agg (cellsAV d j (LKs.cells ks x)), LKs.cells ks x)
  | .el t, x => (elAV t x, [])
  | .ptr t, x => (.optp t x, [])
def RKs.inj (d : Nat) : (j : Nat) → (ks : List RK) → RKs.den ks → List AV × List Cell
  | _, [], _ => ([], [])
  | j, [k], x => let (a, l) := k.inj d j x; ([a], l)
  | j, k :: k' :: ks, x =>
    let (a, l) := k.inj d j x.1
    let (as, m) := RKs.inj d (j + l.length) (k' :: ks) x.2
    (a :: as, l ++ m)
def valOf : List AV → AV
  | [a] => a
  | l => .tup l
def Sig.res1 : (s : Sig) → s.den → RKs.den s.res
  | ⟨_, []⟩, x => x
  | ⟨[], _ :: _⟩, _ => ()
  | ⟨_ :: _, _ :: _⟩, x => x.1
def Sig.back1 : (s : Sig) → s.den → Backs.den s.back
  | ⟨_, []⟩, _ => ()
  | ⟨[], _ :: _⟩, x => x
  | ⟨_ :: _, _ :: _⟩, x => x.2
def Backs.cells : (bs : List (Nat × List LK)) → Backs.den bs → List (Nat × List Cell)
  | [], _ => []
  | [(i, ks)], x => [(i, LKs.cells ks x)]
  | (i, ks) :: b :: bs, x => (i, LKs.cells ks x.1) :: Backs.cells (b :: bs) x.2
/-- What came back goes into the boxes that were handed over. -/
def putBacks (S : St) (os : List Out) : List (Nat × List Cell) → Option St
  | [] => some S
  | (i, cs) :: l =>
    match os[i]? with
    | some ⟨some s, _⟩ => putBacks (S.setRoot s ⟨true, cs⟩) os l
    | _ => none

/-- A function of the program, as the machine is told of it. -/
structure FnI where
  ntmps : Nat
  body : Code
  results : List ResultVar
  cmdsL : List (Nat × List Cmd)
  lcmdsL : List (Nat × List Cmd)
  jcmdsL : List (Nat × List Cmd)
  frzL : List Nat
  split : Bool
def FnI.cmds (f : FnI) (i : Nat) : List Cmd := match look i f.cmdsL with | some l => l | none => []
def FnI.lcmds (f : FnI) (i : Nat) : List Cmd := match look i f.lcmdsL with | some l => l | none => []
def FnI.jcmds (f : FnI) (i : Nat) : Option (List Cmd) := look i f.jcmdsL
def memN (n : Nat) : List Nat → Bool
  | [] => false
  | m :: l => Nat.beq m n || memN n l
def FnI.frz (f : FnI) (i : Nat) : Bool := memN i f.frzL
def frzC (b : Bool) : List Cell → List Cell
  | [] => []
  | .sl t fz xs :: l => .sl t (b || fz) xs :: frzC b l
  | c :: l => c :: frzC b l

inductive Ex where
  | normal | exit (id : Nat) | ret

structure Env where
  fn : FuncId → Option FnI
  ty : TypeId → Option TyI
  pks : FuncId → List PK
  sig : FuncId → Sig
  ext : (f : FuncId) → List Arg → Option (sig f).den
  bar : (R : Type) → Option R → Option R

/-- A bar is no more than its argument: it stands where a piece of code has a name of its own. -/
abbrev Bar := (R : Type) → Option R → Option R
/-- What the calls of a level answer. -/
abbrev Lv (sig : FuncId → Sig) := (f : FuncId) → List Arg → Option (sig f).den

/-- The function and the first arguments of a call. -/
def calleeOf (S : St) (c : Call) : Option (FuncId × List AV) :=
  match c.callee with
  | .value x => match S.ev x with | .fn f caps => some (f, evL S c.args.toList ++ caps) | _ => none
  | _ => none

/-- Where a store goes: what is owned behind it. -/
def storeK (S : St) (a : AV) (l : List AV) (κ : List (Nat × Root) → List Nat → Option R) : Option R :=
  match a with
  | .ref s off =>
    match S.root s with
    | some ⟨true, cs⟩ => bif Nat.ble (off + l.length) cs.length then κ (put1 s ⟨true, setRange cs off (avCells l)⟩ S.roots) [] else none
    | _ => none
  | .eref s j sz i off =>
    match S.cell s j with
    | some (.sl t false xs) => bif Nat.beq sz t.size then (xs[i]?).bind fun x =>
      match t.ofCells (setRange (t.cells x) off l) with
      | some y => bif Nat.ble (off + l.length) t.size then κ (S.setCell s j (.sl t false (xs.set i y))).roots [] else none
      | none => none
      else none
    | _ => none
  | .bref s i =>
    match l with
    | [.al s' j'] =>
      match S.root s with
      | some ⟨true, cs⟩ =>
        match S.cell s' j' with
        | some (.sl u _ ys) => bif Nat.beq s' s then none else bif Nat.blt i cs.length then κ ((S.setCell s' j' (.av .und)).setCell s i (.sl u true ys)).roots [s] else none
        | _ => none
      | _ => none
    | _ => none
  | _ => none

/-- A builder's buffer. -/
def bufOf : Cell → Option (List Int)
  | .av .nils => some []
  | .sl (.int .u8) false xs => some xs
  | _ => none
/-- A text goes into a builder. -/
def bwK (S : St) (s : Nat) (x : List UInt8) (κ : List (Nat × Root) → Option R) : Option R :=
  match S.root s with
  | some ⟨true, [.av a, c]⟩ =>
    bif badOK s a then
      match bufOf c with
      | some xs => bif decide (xs.length + x.length ≤ 140737488355328) then κ (put1 s ⟨true, [.av (.bad s), .sl (.int .u8) false (xs ++ bytesOfStr x)]⟩ S.roots) else none
      | none => none
    else none
  | _ => none
/-- A builder's text. -/
def brK (S : St) (s e : Nat) (κ : AV → List (Nat × Root) → Option R) : Option R :=
  match S.root s with
  | some ⟨true, [.av a, c]⟩ =>
    match c with
    | .av (.fzs e' l) => bif Nat.beq e' e then κ (.str (strOfBytes l)) (put1 s ⟨true, [.av a, .av (.fzs e l)]⟩ S.roots) else none
    | _ => (match bufOf c with | some xs => κ (.str (strOfBytes xs)) (put1 s ⟨true, [.av a, .av (.fzs e xs)]⟩ S.roots) | none => none)
  | _ => none
/-- Some elements go over into a list that is owned. -/
def copyK (S : St) (s j lo n : Nat) (t' : El) (x : AV) (κ : AV → List (Nat × Root) → Option R) : Option R :=
  match S.cell s j with
  | some (.sl t false xs) =>
    if t = t' then
      bif Nat.beq t.size 1 && Nat.ble (lo + n) xs.length then
        match elemsOf S t x with
        | some ys => κ (.int .i64 ((min ys.length n : Nat) : Int)) (S.setCell s j (.sl t false (xs.take lo ++ ys.take n ++ xs.drop (lo + min ys.length n)))).roots
        | none => none
      else none
    else none
  | _ => none

def callW (sig : FuncId → Sig) (pks : FuncId → List PK) (lv : Lv sig) (d : Nat) (S : St) (f : FuncId) (as : List AV) (κ : AV → Option Root → List (Nat × Root) → List Nat → Option R) : Option R :=
  let S1 := frzAll S (frzArgs S (pks f) as)
  let bs := boxesOf (pks f) as
  let S2 : St := ⟨S1.tmps, dropAll bs S1.roots⟩
  match argsW false S1 S2 (pks f) as with
  | some (args, os) =>
    bif nodupN (boxesIn os) && nodupP (srcsOf os) then
      (lv f args).bind fun r =>
        match putBacks (forgetAll S2 (srcsOf os)) os (Backs.cells (sig f).back (Sig.back1 (sig f) r)) with
        | some S'' =>
          let p := RKs.inj d 0 (sig f).res (Sig.res1 (sig f) r)
          κ (valOf p.1) (bif hasOwn p.2 then some ⟨false, p.2⟩ else none) S''.roots (boxesIn os)
        | none => none
    else none
  | none => none

/-- Operations that change what is owned: a value, what its slot comes to own, and what the others own then. -/
def stepW (E : Env) (lv : Lv E.sig) (o : Oper) (S : St) (κ : AV → Option Root → List (Nat × Root) → List Nat → Option R) : Option R :=
  let d := match o.dst with | some d => d | none => 0
  match o.op with
  | .store T a x =>
    match E.ty T with
    | some i => bif Nat.beq (S.ev x).leaves.length i.size && allCells (S.ev x).leaves then storeK S (S.ev a) (S.ev x).leaves (κ .und none) else none
    | none => none
  | .call c =>
    match c.callee with
    | .builtin .append =>
      match c.args.toList, c.argTypes.toList with
      | [b, x], [T, T'] =>
        match bif Nat.beq T T' then E.ty T else none with
        | some i =>
          match i.elem with
          | some t =>
            match elemsOf S t (S.ev x) with
            | some ys =>
              match S.ev b with
              | .nils => bif decide (ys.length * i.ebytes ≤ 140737488355328) then κ (.al d 0) (some ⟨false, [.sl t false ys]⟩) S.roots [] else none
              | .al s j =>
                match S.cell s j with
                | some (.sl u b xs) =>
                  if h : u = t then
                    bif decide ((xs.length + ys.length) * i.ebytes ≤ 140737488355328) then
                      κ (.al d 0) (some ⟨false, [.sl t b ((h ▸ xs) ++ ys)]⟩) (S.setCell s j (.av .und)).roots []
                    else none
                  else none
                | _ => none
              | .bal s j _ _ =>
                (S.cell s j).bind fun c => (slOf t c).bind fun p =>
                  bif decide ((p.2.length + ys.length) * i.ebytes ≤ 140737488355328) then
                    κ (.al d 0) (some ⟨false, [.sl t p.1 (p.2 ++ ys)]⟩) (S.setCell s j (.av .und)).roots []
                  else none
              | _ => none
            | none => none
          | none => none
        | none => none
      | _, _ => none
    | .builtin .copy =>
      match c.args.toList, c.argTypes.toList with
      | [b, x], [T, T'] =>
        match (bif Nat.beq T T' then E.ty T else none).bind (·.elem) with
        | some t =>
          match S.ev b with
          | .als s j sz lo n => bif Nat.beq sz t.size then copyK S s j lo n t (S.ev x) fun a rs => κ a none rs [] else none
          | .al s j => (match S.cell s j with | some (.sl _ _ xs) => copyK S s j 0 xs.length t (S.ev x) fun a rs => κ a none rs [] | _ => none)
          | _ => none
        | none => none
      | _, _ => none
    | .value _ =>
      match calleeOf S c with
      | some (f, as) =>
        match E.pks f, as with
        | [.bw T, .one .str], [.refT s T', .str x] => bif Nat.beq T' T then bwK S s x fun rs => κ .und none rs [s] else none
        | [.br T e], [.refT s T'] => bif Nat.beq T' T then brK S s e fun a rs => κ a none rs [s] else none
        | _, _ => callW E.sig E.pks lv d S f as κ
      | none => none
    | _ => none
  | _ => none

/-- A call that leaves what is owned alone. -/
def stepC (E : Env) (lv : Lv E.sig) (o : Oper) (c : Call) (S : St) (κ : AV → Option Root → Option R) : Option R :=
  let d := match o.dst with | some d => d | none => 0
  match calleeOf S c with
  | some (f, as) =>
    match argsQ (E.sig f).lends S (E.pks f) as with
    | some args => bif (E.sig f).back.isEmpty then (lv f args).bind fun r =>
        let p := RKs.inj d 0 (E.sig f).res (Sig.res1 (E.sig f) r)
        κ (valOf p.1) (bif hasOwn p.2 then some ⟨false, p.2⟩ else none)
      else none
    | none => none
  | none => none

/-- Does an operation leave what is owned alone? Told by the operation and its callee alone. -/
def quietOp (pks : FuncId → List PK) (o : Oper) : Bool :=
  match o.op with
  | .store .. => false
  | .call c =>
    match c.callee with
    | .builtin .append | .builtin .copy => false
    | .value (.func f) => (pks f).all PK.quiet
    | _ => true
  | _ => true

def stepQ (E : Env) (lv : Lv E.sig) (o : Oper) (S : St) (κ : AV → Option Root → Option R) : Option R :=
  match o.op with
  | .call c =>
    match c.callee with
    | .builtin _ => stepV E.ty o S κ
    | _ => stepC E lv o c S κ
  | _ => stepV E.ty o S κ

/-- One operation: its value, what its slot comes to own, what the others own then. -/
def step1 (E : Env) (lv : Lv E.sig) (o : Oper) (S : St) (κ : AV → Option Root → List (Nat × Root) → List Nat → Option R) : Option R :=
  bif quietOp E.pks o then stepQ E lv o S fun a r => κ a r S.roots [] else stepW E lv o S κ

def frzR (fz : Nat → Bool) (d : Nat) (r : Root) : Root := ⟨r.box, killC d (frzC (fz d) r.cs)⟩
def St.gain (fz : Nat → Bool) (S : St) (o : Oper) (a : AV) (r : Option Root) : St :=
  match r with
  | none => S.putO o.dst a
  | some r => match o.dst with | some d => ((S.clear d).setRoot d (frzR fz d r)).put d a | none => S.clear 0

/-- One operation, in the order of the text. -/
def step (E : Env) (lv : Lv E.sig) (fz : Nat → Bool) (o : Oper) (S : St) (κ : St → Option R) : Option R :=
  step1 E lv o S fun a r rs ks => κ (St.gain fz (St.clearB ⟨S.tmps, rs⟩ ks) o a r)

/-- Is an operation carried out, by its guard? -/
def guardK (ops : List Oper) (o : Oper) (S : St) (yes no : St → Option R) : Option R :=
  match o.guard with
  | none => yes S
  | some (g, want) =>
    match (ops[g]?).bind (·.dst) with
    | none => none
    | some t =>
      match S.tmp t with
      | .bool b => bif (bif want then b else !b) then yes (S.put t (.bool want)) else no (S.put t (.bool (!want)))
      | .tup [] => no S
      | _ => none

def runOps (E : Env) (lv : Lv E.sig) (fz : Nat → Bool) (ops : List Oper) : List Oper → St → (St → Option R) → Option R
  | [], S, κ => κ S
  | o :: rest, S, κ =>
    guardK ops o S
      (fun S => step E lv fz o S fun S => runOps E lv fz ops rest S κ)
      (fun S => runOps E lv fz ops rest (S.putO o.dst (.tup [])) κ)

/-! ### Regions that draw their order -/
def bindsAny (e : Edge) : Bool := match e.ground with | .textOnly _ | .gcOnly _ => false | _ => true
def befores : List Oper → List Nat → List Nat
  | [], acc => acc
  | o :: l, acc => befores l (acc ++ [o.after.toList.foldl (fun s e => bif bindsAny e then s ||| 2 ^ e.on ||| acc.getD e.on 0 else s) 0])
def looksOf (ops : List Oper) (o : Oper) : List Nat :=
  (o.op.operands.toList.filterMap fun x => match x with | .tmp t => some t | _ => none) ++
  (match o.guard with
   | some (g, _) => match (ops[g]?).bind (·.dst) with | some d => [d] | none => []
   | none => [])
/-- Operations that do not even look at what is owned. -/
def blindOp (o : Oper) : Bool :=
  match o.op with
  | .move _ | .assign _ | .pick .. | .binOp .. | .unOp .. | .extract .. | .nilCheck _ | .fieldAddr .. | .field .. | .index .. | .build .. => true
  | _ => false
/-- Operations that look at memory, and do no more. -/
def loadOp (o : Oper) : Bool :=
  match o.op with
  | .load .. => true
  | .call c => (match c.callee with | .builtin .len => true | _ => false)
  | _ => false
def calmOp (o : Oper) : Bool := blindOp o || loadOp o
def apartOp (ops : List Oper) (x y : Oper) : Bool :=
  (match x.dst with
   | some d => !memN d (looksOf ops y) && (match y.dst with | some e => !Nat.beq d e | none => true)
   | none => true) &&
  (match y.dst with
   | some d => !memN d (looksOf ops x)
   | none => true)
/-- Does an operation that comes no later look at a slot? -/
def warBefore (ops : List Oper) (d : Nat) : List Oper → Bool
  | [] => false
  | p :: l => memN d (looksOf ops p) || (match p.dst with | some e => bif Nat.beq e d then false else warBefore ops d l | none => warBefore ops d l)
/-- Quiet, and its slot is looked at by none that comes no later. -/
def qD (pks : FuncId → List PK) (ops : List Oper) (o : Oper) : Bool := quietOp pks o && !(match o.dst with | some d => warBefore ops d ops | none => false)
def quietAll (pks : FuncId → List PK) (ops : List Oper) : List Oper → Bool
  | [] => true
  | o :: l => qD pks ops o && quietAll pks ops l
/-- Quiet operations may come in any order that their edges allow; the rest come in the order of the text, but that operations that do not look at what is owned may come later than their place. -/
def freeOp (pks : FuncId → List PK) (ops : List Oper) (i j : Nat) (x : Oper) : Bool :=
  quietAll pks ops (ops.take (j + 1)) || (calmOp x && quietAll pks ops (ops.take (i + 1)))
def pairsOk (pks : FuncId → List PK) (ops : List Oper) (bs : List Nat) : Nat → List Oper → Bool
  | _, [] => true
  | j, y :: l =>
    (ops.take j).zipIdx.all (fun (x, i) => (bs.getD j 0).testBit i || (apartOp ops x y && freeOp pks ops i j x)) && pairsOk pks ops bs (j + 1) l
def edgesOk : Nat → List Oper → Bool
  | _, [] => true
  | i, o :: l => o.after.toList.all (fun e => !bindsAny e || Nat.blt e.on i) && edgesOk (i + 1) l
def dstsOk : List Oper → Bool
  | [] => true
  | o :: l => (match o.dst with | some d => l.all (fun p => match p.dst with | some e => !Nat.beq d e | none => true) | none => true) && dstsOk l
/-- No operation looks at a slot of its own or of a later one. -/
def warOk (ops : List Oper) : List Oper → Bool
  | [] => true
  | o :: l => (looksOf ops o).all (fun t => (o :: l).all fun p => match p.dst with | some e => !Nat.beq t e | none => true) && warOk ops l
/-- The quiet ones at the head. -/
def quietPre (pks : FuncId → List PK) (ops : List Oper) : List Oper → List Oper
  | [] => []
  | o :: l => bif qD pks ops o then o :: quietPre pks ops l else []
def drawOk (pks : FuncId → List PK) (ops : List Oper) : Bool :=
  edgesOk 0 ops && dstsOk ops && warOk ops (quietPre pks ops ops) && pairsOk pks ops (befores ops []) 0 ops
def freshR (d : Nat) : List (Nat × Root) → Bool
  | [] => true
  | (i, r) :: l => !Nat.beq i d && r.cs.all (fun c => match c with | .av a => !a.names d | _ => true) && freshR d l
def fresh (S : St) (d : Nat) : Bool := S.tmps.all (fun p => !p.2.names d) && freshR d S.roots
def freshAll (S : St) : List Oper → Bool
  | [] => true
  | o :: l => (match o.dst with | some d => fresh S d | none => true) && freshAll S l

/-- No slot of the region's is told of in a value, or owns anything. -/
def freshT (S : St) : List Oper → Bool
  | [] => true
  | o :: l => (match o.dst with | some d => S.tmps.all (fun p => !p.2.names d) && S.roots.all (fun p => !Nat.beq p.1 d) | none => true) && freshT S l
def dstsL : List Oper → List Nat
  | [] => []
  | o :: l => match o.dst with | some d => d :: dstsL l | none => dstsL l
def killsC : List Nat → List Cell → List Cell
  | [], cs => cs
  | d :: ds, cs => killsC ds (killC d cs)
def purgeR (ds : List Nat) : List (Nat × Root) → List (Nat × Root)
  | [] => []
  | (i, r) :: l => (i, ⟨r.box, killsC ds r.cs⟩) :: purgeR ds l
/-- Nothing that is owned tells of some slots. -/
def St.purge (S : St) (ds : List Nat) : St := ⟨S.tmps, purgeR ds S.roots⟩
def addRoots (S : St) : List (Nat × Root) → St
  | [] => S
  | (d, r) :: l => addRoots (S.setRoot d r) l

/-- The slots of what comes before an operation. -/
def slotsOf (ops : List Oper) (b : Nat) : List Nat :=
  ops.zipIdx.filterMap fun p => bif b.testBit p.2 then p.1.dst else none
/-- A new value names no new slot but of what comes before it; a new slot is named nowhere. -/
def drawFit (ss : List Nat) (new : List (Nat × Root)) (S : St) (a : AV) (r : Option Root) (d : Nat) : Bool :=
  new.all (fun p => memN p.1 ss || (!a.names p.1 && (match r with | some r => r.cs.all (fun c => match c with | .av a => !a.names p.1 | _ => true) | none => true))) &&
  (match r with | some _ => S.tmps.all (fun p => !p.2.names d) && freshR d new | none => true)

/-- Nothing that is known is forgotten. -/
def lateOk (S : St) (o : Oper) (r : Option Root) (ks : List Nat) : Bool :=
  (match r with | some _ => (match o.dst with | some d => S.tmps.all (fun p => !p.2.names d) | none => false) | none => true) && ks.all (fun s => S.tmps.all (fun p => !p.2.namesB s))
/-- Are the roots that are still to be looked at left as they are? -/
def plainRw : PK → Bool
  | .rw ks => ks.all fun k => match k with | .own .. => false | _ => true
  | k => k.quiet
/-- Roots that don't tell of a slot, nor of parts of some others. -/
def deafs (ps : List Nat) (S : St) (d : Option Nat) (bs : List Nat) : Bool :=
  (match d with | some d => !memN d ps | none => true) &&
  ps.all fun s => match S.root s with
    | some r => r.cs.all fun c => match c with | .av a => (match d with | some d => !a.names d | none => true) && bs.all (fun b => !a.namesB b) | _ => true
    | none => true
def keepsOf (pks : FuncId → List PK) (ps : List Nat) (S : St) (o : Oper) : Bool :=
  ps.isEmpty || (blindOp o ||
    (match o.op with
     | .store _ b _ => (match S.ev b with | .ref s _ => !memN s ps | _ => false)
     | .buildSlice .. => deafs ps S o.dst []
     | .call c =>
       match c.callee with
       | .value (.func f) => (pks f).all plainRw && (boxesOf (pks f) (evL S c.args.toList)).all (fun s => !memN s ps) && deafs ps S o.dst (boxesOf (pks f) (evL S c.args.toList))
       | _ => false
     | _ => false))
/-- Does all that is late come behind an operation? -/
def lateBits (bs : List Nat) (i m : Nat) : Bool := ((List.range bs.length).drop m).all fun j => (bs.getD j 0).testBit i
/-- The first of the late ones that comes behind an operation. -/
def firstBit (bs : List Nat) (i m : Nat) : Nat := match ((List.range bs.length).drop m).find? (fun j => (bs.getD j 0).testBit i) with | some j => j | none => bs.length
/-- The roots that may still be looked at behind the first of the late ones, and up to which of them. -/
def calmSlots (bs : List Nat) (S : St) (m : Nat) : Nat → List Oper → Option (List (Nat × Nat))
  | _, [] => some []
  | i, x :: l =>
    bif !loadOp x || lateBits bs i m then calmSlots bs S m (i + 1) l else
    match x.op with
    | .load _ a =>
      match S.ev a with
      | .ref s _ => (calmSlots bs S m (i + 1) l).map fun ps => (s, firstBit bs i m) :: ps
      | .vp _ | .vi _ | .tup _ => calmSlots bs S m (i + 1) l
      | _ => none
    | .call c =>
      match c.args.toList with
      | [a] => (match S.ev a with | .al .. => none | _ => calmSlots bs S m (i + 1) l)
      | _ => none
    | _ => none
/-- The roots that may still be looked at behind a late one. -/
def psAt (ps : List (Nat × Nat)) (k : Nat) : List Nat := (ps.filter fun p => Nat.blt k p.2).map (·.1)
/-- Behind the last of the quiet ones: in the order of the text. -/
def runLate (E : Env) (lv : Lv E.sig) (fz : Nat → Bool) (ops : List Oper) (ps : List (Nat × Nat)) : List Oper → St → (St → Option R) → Option R
  | [], S, κ => κ S
  | o :: rest, S, κ =>
    guardK ops o S
      (fun S => step1 E lv o S fun a r rs ks =>
        bif lateOk S o r ks && keepsOf E.pks (psAt ps (ops.length - (rest.length + 1))) S o
        then runLate E lv fz ops ps rest (St.gain fz (St.clearB ⟨S.tmps, rs⟩ ks) o a r) κ else none)
      (fun S => runLate E lv fz ops ps rest (S.putO o.dst (.tup [])) κ)

/-- Text made of bytes, and a call, look at what the region itself has made. -/
def convOp (o : Oper) : Bool := match o.op with | .convert .. => true | .buildSlice .. => true | .call c => (match c.callee with | .value _ => true | _ => false) | _ => false
/-- What an operation of a region sees: of the new, if it looks at it, what comes before it. -/
def drawS (ss : List Nat) (new : List (Nat × Root)) (o : Oper) (S : St) : St := bif convOp o then addRoots S (new.filter fun p => memN p.1 ss) else S
/-- Quiet operations look at what was owned when the region began; what they gain is there behind them. -/
def runDraw (E : Env) (lv : Lv E.sig) (fz : Nat → Bool) (ops : List Oper) : List Oper → List Nat → (new : List (Nat × Root)) → St → (St → Option R) → Option R
  | o :: rest, b :: bs, new, S, κ =>
    bif qD E.pks ops o then
      guardK ops o S
        (fun S => stepQ E lv o (drawS (slotsOf ops b) new o S) fun a r =>
          match r, o.dst with
          | none, d => bif drawFit (slotsOf ops b) new S a none 0 then runDraw E lv fz ops rest bs new (S.putO d a) κ else none
          | some r, some d => bif drawFit (slotsOf ops b) new S a (some r) d then runDraw E lv fz ops rest bs ((d, frzR fz d r) :: new) (S.put d a) κ else none
          | some _, none => none)
        (fun S => runDraw E lv fz ops rest bs new (S.putO o.dst (.tup [])) κ)
    else match calmSlots (befores ops []) S (ops.length - (rest.length + 1)) 0 (ops.take (ops.length - (rest.length + 1))) with
      | some ps => runLate E lv fz ops ps (o :: rest) (addRoots S new) κ
      | none => none
  | _, _, new, S, κ => κ (addRoots S new)

/-! ### Regions whose operations that change what is owned are chained -/
/-- Calm, and its slot is looked at by none that comes no later. -/
def cT (ops : List Oper) (o : Oper) : Bool := calmOp o && !(match o.dst with | some d => warBefore ops d ops | none => false)
def pairsT (ops : List Oper) (bs : List Nat) : Nat → List Oper → Bool
  | _, [] => true
  | j, y :: l => (ops.take j).zipIdx.all (fun (x, i) => (bs.getD j 0).testBit i || (apartOp ops x y && (cT ops x || cT ops y))) && pairsT ops bs (j + 1) l
def tOk (ops : List Oper) : Bool := edgesOk 0 ops && dstsOk ops && pairsT ops (befores ops []) 0 ops
/-- What a calm operation looks at: all, nothing, some cells of a slot. -/
abbrev Foot := Option (Option (Nat × Nat × Nat))
def footOf (E : TypeId → Option TyI) (o : Oper) (S : St) : Foot :=
  match o.op with
  | .load T a =>
    match S.ev a with
    | .ref s off => (E T).map fun i => some (s, off, i.size)
    | .vp _ | .vi _ => some none
    | _ => none
  | .call c =>
    match c.args.toList with
    | [a] => (match S.ev a with | .al s j => some (some (s, j, 1)) | _ => some none)
    | _ => none
  | _ => some none
/-- What may be changed: anything, or some cells of some slots. -/
abbrev Eff := Option (List (Nat × Option (Nat × Nat)))
def deafR (d : Nat) (l : List (Nat × Root)) : Bool := l.all fun p => p.2.cs.all fun c => match c with | .av a => !a.names d | _ => true
def effOwn (o : Oper) (S : St) (r : Option Root) : Eff :=
  match r with
  | none => some []
  | some _ => match o.dst with | some d => bif deafR d S.roots then some [(d, none)] else none | none => none
def effOf (pks : FuncId → List PK) (o : Oper) (S : St) (r : Option Root) (ks : List Nat) : Eff :=
  bif !ks.isEmpty then none else
  bif quietOp pks o then effOwn o S r else
  match o.op with
  | .store _ b x =>
    match S.ev b with
    | .ref s off => (effOwn o S r).map fun l => (s, some (off, (S.ev x).leaves.length)) :: l
    | .eref s j _ _ _ => (effOwn o S r).map fun l => (s, some (j, 1)) :: l
    | _ => none
  | .call c =>
    match c.callee, c.args.toList with
    | .builtin .append, b :: _ =>
      match S.ev b with
      | .nils => effOwn o S r
      | .al s j => (effOwn o S r).map fun l => (s, some (j, 1)) :: l
      | _ => none
    | _, _ => none
  | _ => none
def fits (f : Foot) (e : Eff) : Bool :=
  match f with
  | none => false
  | some none => true
  | some (some (s, off, n)) => match e with | none => false | some l => l.all fun q => !Nat.beq q.1 s || (match q.2 with | none => false | some (o, m) => Nat.ble (o + m) off || Nat.ble (off + n) o)
/-- What one has gained, whose names it has killed, what it may have changed. -/
abbrev Hist := Nat × Option Nat × List Nat × Eff
def histOk (b : Nat) (a : AV) (f : Foot) (h : Hist) : Bool :=
  b.testBit h.1 || ((match h.2.1 with | some d => !a.names d | none => true) && h.2.2.1.all (fun k => !a.namesB k) && fits f h.2.2.2)
/-- In the order of the text: those that change what is owned come one behind the other; what is calm comes when its edges allow it. -/
def runT (E : Env) (lv : Lv E.sig) (fz : Nat → Bool) (ops : List Oper) : List Oper → List Nat → Nat → List (Nat × Foot) → List Hist → St → (St → Option R) → Option R
  | o :: rest, b :: bs, i, fs, hs, S, κ =>
    guardK ops o S
      (fun S => step1 E lv o S fun a r rs ks =>
        bif cT ops o then
          bif hs.all (histOk b a (footOf E.ty o S)) then runT E lv fz ops rest bs (i + 1) ((i, footOf E.ty o S) :: fs) hs (S.putO o.dst a) κ else none
        else
          bif lateOk S o r ks && fs.all (fun f => b.testBit f.1 || fits f.2 (effOf E.pks o S r ks)) then
            runT E lv fz ops rest bs (i + 1) fs ((i, (match r with | some _ => o.dst | none => none), ks, effOf E.pks o S r ks) :: hs) (St.gain fz (St.clearB ⟨S.tmps, rs⟩ ks) o a r) κ
          else none)
      (fun S => runT E lv fz ops rest bs (i + 1) fs hs (S.putO o.dst (.tup [])) κ)
  | _, _, _, _, _, S, κ => κ S
/-- A region that draws its order. -/
def drawK (E : Env) (lv : Lv E.sig) (fz : Nat → Bool) (ops : List Oper) (S : St) (κ : St → Option R) : Option R :=
  bif drawOk E.pks ops then bif freshT S ops then runDraw E lv fz ops ops (befores ops []) [] (S.purge (dstsL ops)) κ else none
  else bif tOk ops then runT E lv fz ops ops (befores ops []) 0 [] [] S κ else none

def dstsIn (n : Nat) : List Oper → Bool
  | [] => true
  | o :: l => (match o.dst with | some d => Nat.blt d n | none => true) && dstsIn n l
def region (E : Env) (lv : Lv E.sig) (fz : Nat → Bool) (n : Nat) (ops : List Oper) (draw : Bool) (S : St) (κ : St → Option R) : Option R :=
  bif !dstsIn n ops then none else
  bif draw then drawK E lv fz ops S κ
  else runOps E lv fz ops ops S κ

/-! ### Code -/
def firstRegion : Code → Option Nat
  | .region id _ _ => some id
  | .seq a _ => firstRegion a
  | .block _ c => firstRegion c
  | .loop c => firstRegion c
  | _ => none

/-- Behind the first of two. -/
def kSeq (bar : Bar) (fi : FnI) (b : Code) (run : St → Option R) (κ : Ex → St → Option R) : Ex → St → Option R
  | .normal, S =>
    match (firstRegion b).bind fi.jcmds with
    | some cs => match doCmds fi.ntmps S cs with | some S => bar R (run S) | none => none
    | none => run S
  | .exit i, S => κ (.exit i) S
  | .ret, S => κ .ret S
/-- Behind a block's body. -/
def kBlk (id : Nat) (κ : Ex → St → Option R) : Ex → St → Option R
  | .normal, S => κ .normal S
  | .exit i, S => bif Nat.beq i id then κ .normal S else κ (.exit i) S
  | .ret, S => κ .ret S
/-- Behind a loop's round. -/
def kLoop (nt : Nat) (cs : List Cmd) (id : Nat) (next : St → Option R) (κ : Ex → St → Option R) : Ex → St → Option R
  | .normal, S => match doCmds nt S cs with | some S => next S | none => none
  | .exit i, S => bif Nat.beq i id then κ .normal S else κ (.exit i) S
  | .ret, S => κ .ret S
/-- So many rounds at most. -/
def loopN (nt : Nat) (cs : List Cmd) (id : Nat) (body : St → (Ex → St → Option R) → Option R) (κ : Ex → St → Option R) : Nat → St → Option R
  | 0, _ => none
  | n + 1, S => body S (kLoop nt cs id (loopN nt cs id body κ n) κ)

def exec (E : Env) (lv : Lv E.sig) (K : Nat) (fi : FnI) : Code → St → (Ex → St → Option R) → Option R
  | .skip, S, κ => κ .normal S
  | .region id ops draw, S, κ => match doCmds fi.ntmps S (fi.cmds id) with | some S => region E lv fi.frz fi.ntmps ops.toList draw S (κ .normal) | none => none
  | .seq a b, S, κ => exec E lv K fi a S (kSeq E.bar fi b (fun S => exec E lv K fi b S κ) κ)
  | .cond c x y, S, κ => match S.ev c with | .bool b => bif b then exec E lv K fi x S κ else exec E lv K fi y S κ | _ => none
  | .block id (.loop b), S, κ =>
    match doCmds fi.ntmps S (fi.lcmds id) with
    | some S => loopN fi.ntmps (fi.lcmds id) id (fun S κ => exec E lv K fi b S κ) κ K S
    | none => none
  | .block id c, S, κ => exec E lv K fi c S (kBlk id κ)
  | .exit id, S, κ => κ (.exit id) S
  | .ret, S, κ => κ .ret S
  | _, _, _ => none

/-- The way to a piece of code: its left, its right, a branch, a block's body, a loop's body with so many rounds left. -/
inductive Way where
  | l | r | t | e | b | lp (n : Nat)
/-- The piece of code at the end of a way, and what stands behind it. -/
def at_ (E : Env) (lv : Lv E.sig) (K : Nat) (fi : FnI) : List Way → Code → (Ex → St → Option R) → Code × (Ex → St → Option R)
  | .l :: p, .seq a b, κ => at_ E lv K fi p a (kSeq E.bar fi b (fun S => exec E lv K fi b S κ) κ)
  | .r :: p, .seq _ b, κ => at_ E lv K fi p b κ
  | .t :: p, .cond _ x _, κ => at_ E lv K fi p x κ
  | .e :: p, .cond _ _ y, κ => at_ E lv K fi p y κ
  | .b :: p, .block id c, κ => at_ E lv K fi p c (kBlk id κ)
  | .lp n :: p, .block id (.loop c), κ => at_ E lv K fi p c (kLoop fi.ntmps (fi.lcmds id) id (loopN fi.ntmps (fi.lcmds id) id (fun S κ => exec E lv K fi c S κ) κ n) κ)
  | _, c, κ => (c, κ)

/-! ### Functions -/
/-- A leaf of a result. -/
def leafOut (S : St) : (k : LK) → AV → Option k.den
  | .own _ _, .nils => some []
  | .own t fz, .al s j =>
    match S.cell s j with
    | some (.sl u fz' xs) => if h : u = t then (bif fz == fz' then some (h ▸ xs) else none) else none
    | _ => none
  | .list t, .al s j =>
    match S.cell s j with
    | some (.sl u true xs) => if h : u = t then some (h ▸ xs) else none
    | _ => none
  | k, a => k.ofCell (.av a)
def leavesOut (S : St) : (ks : List LK) → List AV → Option (LKs.den ks)
  | [], [] => some ()
  | [k], [a] => leafOut S k a
  | k :: k' :: ks, a :: l => (leafOut S k a).bind fun x => (leavesOut S (k' :: ks) l).map fun y => (x, y)
  | _, _ => none
def plainLeaf (S : St) : AV → Option AV
  | .al s j => match S.cell s j with | some (.sl t true xs) => some (.L t xs) | _ => none
  | a => some a
def plainLeaves (S : St) : List AV → Option (List AV)
  | [] => some []
  | a :: l => (plainLeaf S a).bind fun b => (plainLeaves S l).map fun m => b :: m
def El.isAgg : El → Bool
  | .node | .arr | .col | .blk => true
  | _ => false
def AV.isAgg : AV → Bool
  | .agg _ => true
  | _ => false
def outOf (S : St) : (k : RK) → AV → Option k.den
  | .one k, a => leafOut S k a
  | .agg ks, .agg cs => leavesOut S ks cs
  | .el t, a => bif a.isVal && (t.isAgg == a.isAgg) then (plainLeaves S a.leaves).bind t.ofCells else none
  | .ptr _, .nilp => some none
  | .ptr t, .vi cs => (t.ofCells cs).map some
  | _, _ => none
def outsOf (S : St) : (ks : List RK) → List AV → Option (RKs.den ks)
  | [], [] => some ()
  | [k], [a] => outOf S k a
  | k :: k' :: ks, a :: l => (outOf S k a).bind fun x => (outsOf S (k' :: ks) l).map fun y => (x, y)
  | _, _ => none
/-- The places that own results leave. -/
def srcOut : LK → AV → Option (Nat × Nat)
  | .own _ _, .al s j => some (s, j)
  | _, _ => none
def srcsOut : List LK → List AV → List (Option (Nat × Nat))
  | k :: ks, a :: l => srcOut k a :: srcsOut ks l
  | _, _ => []
def srcsRes : List RK → List AV → List (Option (Nat × Nat))
  | .one k :: ks, a :: l => srcOut k a :: srcsRes ks l
  | .agg ks' :: ks, .agg cs :: l => srcsOut ks' cs ++ srcsRes ks l
  | _ :: ks, _ :: l => srcsRes ks l
  | _, _ => []
/-- What is frozen at the end. -/
def frzO : LK → AV → List (Nat × Nat)
  | .own _ true, .al s j => [(s, j)]
  | .list _, .al s j => [(s, j)]
  | _, _ => []
def frzOs : List LK → List AV → List (Nat × Nat)
  | k :: ks, a :: l => frzO k a ++ frzOs ks l
  | _, _ => []
def frzEl : List AV → List (Nat × Nat)
  | .al s j :: l => (s, j) :: frzEl l
  | _ :: l => frzEl l
  | [] => []
def frzRes : List RK → List AV → List (Nat × Nat)
  | .one k :: ks, a :: l => frzO k a ++ frzRes ks l
  | .agg ks' :: ks, .agg cs :: l => frzOs ks' cs ++ frzRes ks l
  | .el _ :: ks, a :: l => frzEl a.leaves ++ frzRes ks l
  | _ :: ks, _ :: l => frzRes ks l
  | _, _ => []
def frzCs (s : Nat) : Nat → List LK → List Cell → List (Nat × Nat)
  | j, .own _ true :: ks, .sl .. :: l => (s, j) :: frzCs s (j + 1) ks l
  | j, .list _ :: ks, .sl .. :: l => (s, j) :: frzCs s (j + 1) ks l
  | j, _ :: ks, _ :: l => frzCs s (j + 1) ks l
  | _, _, _ => []
def frzBacks (S : St) : List (Nat × List LK) → List (Nat × Nat)
  | [] => []
  | (i, ks) :: l => (match S.root (1000 + i) with | some r => frzCs (1000 + i) 0 ks r.cs | none => []) ++ frzBacks S l
def LKs.ofCells : (ks : List LK) → List Cell → Option (LKs.den ks)
  | [], [] => some ()
  | [k], [c] => k.ofCell c
  | k :: k' :: ks, c :: l => (k.ofCell c).bind fun x => (LKs.ofCells (k' :: ks) l).map fun y => (x, y)
  | _, _ => none
def backRoot (S : St) (i : Nat) (ks : List LK) : Option (LKs.den ks) := match S.root (1000 + i) with | some ⟨true, cs⟩ => LKs.ofCells ks cs | _ => none
def backsOf (S : St) : (bs : List (Nat × List LK)) → Option (Backs.den bs)
  | [] => some ()
  | [(i, ks)] => backRoot S i ks
  | (i, ks) :: b :: bs => (backRoot S i ks).bind fun x => (backsOf S (b :: bs)).map fun y => (x, y)
def Sig.mk1 : (s : Sig) → RKs.den s.res → Backs.den s.back → s.den
  | ⟨_, []⟩, x, _ => x
  | ⟨[], _ :: _⟩, _, y => y
  | ⟨_ :: _, _ :: _⟩, x, y => (x, y)
def resAV (E : Env) (S : St) : ResultVar → Option AV
  | .tmp t => some (S.tmp t)
  | .cell a T => match E.ty T with | some i => loadK S i.elem (S.tmp a) i.size fun l => asVal i.agg l | none => none
def resAVs (E : Env) (S : St) : List ResultVar → Option (List AV)
  | [] => some []
  | r :: l => (resAV E S r).bind fun a => (resAVs E S l).map fun m => a :: m
/-- Boxes that go back are told once, and nothing of them is a result. -/
def backOk : List (Nat × List LK) → List (Nat × Nat) → Bool
  | [], _ => true
  | (i, _) :: l, ps => l.all (fun b => !Nat.beq b.1 i) && ps.all (fun p => !Nat.beq p.1 (1000 + i)) && backOk l ps
/-- What a call answers. -/
def finish (E : Env) (fi : FnI) (s : Sig) (S : St) : Option s.den :=
  match resAVs E S fi.results with
  | some as =>
    let S1 := frzAll S (frzRes s.res as ++ frzBacks S s.back)
    let ps := (srcsRes s.res as).filterMap id
    bif nodupP ps && backOk s.back ps then
      (outsOf S1 s.res as).bind fun x => (backsOf S1 s.back).bind fun y => some (s.mk1 x y)
    else none
  | none => none

def enterT : Nat → List Arg → List (Nat × AV)
  | _, [] => []
  | i, .v a :: l => (i, a) :: enterT (i + 1) l
  | i, .o c :: l => (i, cellAV (1000 + i) 0 c) :: enterT (i + 1) l
  | i, .g cs :: l => (i, .agg (cellsAV (1000 + i) 0 cs)) :: enterT (i + 1) l
  | i, .b _ :: l => (i, .ref (1000 + i) 0) :: enterT (i + 1) l
def enterR : Nat → List Arg → List (Nat × Root)
  | _, [] => []
  | i, .v _ :: l => enterR (i + 1) l
  | i, .o c :: l => (1000 + i, ⟨false, [c]⟩) :: enterR (i + 1) l
  | i, .g cs :: l => (1000 + i, ⟨false, cs⟩) :: enterR (i + 1) l
  | i, .b cs :: l => (1000 + i, ⟨true, cs⟩) :: enterR (i + 1) l

/-- The end: what is to be said of the state first, then the answer. -/
def kFin (E : Env) (fi : FnI) (s : Sig) (S : St) : Option s.den :=
  match doCmds fi.ntmps S (fi.cmds 1000000) with
  | some S => finish E fi s S
  | none => none
/-- Behind a function's body. -/
def kEnd (E : Env) (fi : FnI) (s : Sig) : Ex → St → Option s.den
  | .normal, S => kFin E fi s S
  | .exit _, _ => none
  | .ret, S => kFin E fi s S

noncomputable def both {R : Type} (a b : Option R) : Option R := open Classical in if a = b then a else none
/-- A list that may be nil only if it is empty. -/
noncomputable def splitK {α R : Type} (xs : List α) (a : Option R) (b : List α → Option R) : Option R :=
  match xs with
  | [] => both a (b [])
  | x :: l => b (x :: l)
noncomputable def call1 (E : Env) (lv : Lv E.sig) (K : Nat) (f : FuncId) (fi : FnI) (args : List Arg) : Option (E.sig f).den :=
  bif !(Nat.ble fi.ntmps 1000 && Nat.ble args.length fi.ntmps) then none else exec E lv K fi fi.body ⟨enterT 0 args, enterR 0 args⟩ (kEnd E fi (E.sig f))
noncomputable def call (E : Env) (lv : Lv E.sig) (K : Nat) (f : FuncId) (args : List Arg) : Option (E.sig f).den :=
  match E.fn f with
  | some fi =>
    bif fi.split then
      match args with
      | [.v (.L t xs)] => splitK xs (call1 E lv K f fi [.v (.nq true t [])]) fun xs => call1 E lv K f fi [.v (.nq false t xs)]
      | _ => none
    else call1 E lv K f fi args
  | none => E.ext f args

end

noncomputable def lvl (E : Env) : Nat → Lv E.sig
  | 0 => fun _ _ => none
  | k + 1 => fun f args => call E (lvl E k) k f args

/-- A function's code from a loop on. -/
noncomputable def loopAt (E : Env) (k : Nat) (fi : FnI) (s : Sig) (p : List Way) (n : Nat) (S : St) : Option s.den :=
  match at_ E (lvl E k) k fi p fi.body (kEnd E fi s) with
  | (.block id (.loop b), κ) => loopN fi.ntmps (fi.lcmds id) id (fun S κ => exec E (lvl E k) k fi b S κ) κ n S
  | _ => none
/-- A function's code from a cut on. -/
noncomputable def cutAt (E : Env) (k : Nat) (fi : FnI) (s : Sig) (p : List Way) (S : St) : Option s.den :=
  let c := at_ E (lvl E k) k fi p fi.body (kEnd E fi s)
  exec E (lvl E k) k fi c.1 S c.2
def idb : Bar := fun _ x => x
theorem idb_eq (R : Type) (x : Option R) : idb R x = x := rfl

end Go.Proofs.YtjkokaockhecnaaGreatDoorA
