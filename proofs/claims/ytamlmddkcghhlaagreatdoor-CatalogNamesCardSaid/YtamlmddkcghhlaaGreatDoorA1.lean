/-
  OPERATIONS ON BOTH SIDES: binary operations, conversions, assertions.
-/
import GoSem.Step
import Derived.Lib.Bytealg
import GoSem.Machine.Early
import Derived.Laws.Sem
import Derived.Laws.Append
import Derived.Laws.StructEq
set_option linter.unusedSimpArgs false
set_option linter.unusedVariables false
namespace Go.Ab

/-- Persistent maps from numbers. -/
inductive PT (α : Type) where
  | lf
  | nd (v : Option α) (l r : PT α)

def PT.get {α : Type} : PT α → Nat → Option α
  | .lf, _ => none
  | .nd v l r, i => match i with
    | 0 => v
    | i + 1 => bif Nat.beq (i % 2) 0 then l.get (i / 2) else r.get (i / 2)

def PT.setA {α : Type} : Nat → PT α → Nat → α → PT α
  | 0, t, _, _ => t
  | f + 1, .lf, i, x => match i with
    | 0 => .nd (some x) .lf .lf
    | i + 1 => bif Nat.beq (i % 2) 0 then .nd none (PT.setA f .lf (i / 2) x) .lf else .nd none .lf (PT.setA f .lf (i / 2) x)
  | f + 1, .nd v l r, i, x => match i with
    | 0 => .nd (some x) l r
    | i + 1 => bif Nat.beq (i % 2) 0 then .nd v (PT.setA f l (i / 2) x) r else .nd v l (PT.setA f r (i / 2) x)

def PT.set {α : Type} (t : PT α) (i : Nat) (x : α) : PT α := PT.setA (i + 1) t i x

/-- Abstract values. -/
inductive AV where
  | bool (b : Bool)
  | int (k : IntKind) (n : Int)
  | str (s : List UInt8)
  | nilptr
  | ptr (b o : Nat)
  | nilslice
  | slice (b o len cap : Nat)
  | nilmap
  | map (r : Nat)
  | nilfunc
  | func (f : Nat) (first caps : List AV)
  | yield (l : Nat)
  | niliface
  | iface (t : Nat) (v : AV)
  | agg (cs : List AV)
  | tup (vs : List AV)
  deriving Inhabited

def AV.cells : AV → List AV
  | .agg cs => cs
  | v => [v]

/-- A row of cells. 'opn': the real row may go on behind what is known ('es' cells an element); 'wr': it may be written; 'strish': it may bear the mark of a string's bytes. -/
structure Row where
  cells : List AV
  n : Nat
  elem : Nat
  opn : Bool
  es : Nat
  wr : Bool
  strish : Bool

inductive AO where
  | row (r : Row)
  | dead
  | opaq
  | map (es : List (AV × AV)) (ver : Nat)
  | siter (s : List UInt8) (pos : Nat)
  | miter (m : Option Nat) (ver : Nat) (left : List (AV × AV)) (cur : Option (AV × AV))
  | loop (st : LoopState) (pend : Option Code) (fn : Nat) (nt : Nat) (tmps : PT AV) (params : List Nat) (assign body : Code)

structure H where
  sz : Nat
  blk : PT AO

def H.get (h : H) (b : Nat) : Option AO := h.blk.get b
def H.put (h : H) (b : Nat) (o : AO) : H := { h with blk := h.blk.set b o }
def H.new (h : H) (o : AO) : H := { sz := h.sz + 1, blk := h.blk.set h.sz o }

inductive ADef where
  | mark
  | call (f : Nat) (args : List AV)

structure Fr where
  tmps : PT AV
  defs : List ADef
  pan : Option AV
  rcd : Bool

/-- What is known of a type. -/
inductive TK where
  | bool | int (k : IntKind) | str | uptr | ptr (e : Nat) | slice (e : Nat) | array (n e : Nat)
  | struct (fs : List (Nat × Nat × Bool))       -- where it begins, its type, is it '_'
  | map (k e : Nat) | func | iface (empty : Bool) | other

structure TI where
  kind : TK
  size : Nat
  bytes : Nat
  zero : Option (List AV)
  agg : Bool
  eqOk : Bool            -- '==' of two values of it meets neither of the model's bars (structs)
  comparable : Bool
  ms : List String       -- the methods' names (of a concrete type) and those wanted (of an interface)

inductive Ext where
  | mapsClone | indexByte | countByte | cmpstring | noEscape
  deriving DecidableEq

inductive FE where
  | body (fn : Func)
  | ext (e : Ext)

inductive T (α : Type) where
  | ret (a : α)
  | pick (n : Nat) (k : Nat → T α)
  | bad

def T.bind {α β : Type} : T α → (α → T β) → T β
  | .ret a, f => f a
  | .pick n k, f => .pick n fun i => (k i).bind f
  | .bad, _ => .bad

inductive Out where
  | nrm (fr : Fr) (h : H)
  | ext (id : Nat) (fr : Fr) (h : H)
  | ret (fr : Fr) (h : H)
  | pan (v : AV) (fr : Fr) (h : H)

inductive CR where
  | ok (v : AV) (h : H) (rcd : Bool)
  | pan (v : AV) (h : H)

/-- A drawn region: the order in which it is read, its effects, its readers (past how many effects behind them they may float), the effects that may panic. -/
structure RI where
  ord : List Nat
  eff : List Nat
  fl : List (Nat × Nat)
  pk : List Nat

structure Env where
  tt : PT TI
  ft : PT FE
  ri : PT (PT RI)
  sums : Nat → Option (List AV → H → Option (AV × H))

def Env.ti (e : Env) (t : Nat) : Option TI := e.tt.get t

/- lists -/
def lget {α : Type} : List α → Nat → Option α
  | [], _ => none
  | a :: _, 0 => some a
  | _ :: l, n + 1 => lget l n
def lset {α : Type} : List α → Nat → α → List α
  | [], _, _ => []
  | _ :: l, 0, v => v :: l
  | a :: l, n + 1, v => a :: lset l n v
def ldrop {α : Type} : Nat → List α → List α
  | 0, l => l
  | _, [] => []
  | n + 1, _ :: l => ldrop n l
def ltake {α : Type} : Nat → List α → List α
  | 0, _ => []
  | _, [] => []
  | n + 1, a :: l => a :: ltake n l
/-- n cells from o on: as many as that, or none. -/
def lpart {α : Type} : Nat → Nat → List α → Option (List α)
  | 0, 0, _ => some []
  | 0, n + 1, a :: l => (lpart 0 n l).map (a :: ·)
  | 0, _ + 1, [] => none
  | o + 1, n, _ :: l => lpart o n l
  | _ + 1, _, [] => none
/-- Lay cells over a list, from o on. -/
def lput {α : Type} : Nat → List α → List α → List α
  | _, l, [] => l
  | _, [], _ :: _ => []
  | 0, _ :: l, v :: vs => v :: lput 0 l vs
  | n + 1, a :: l, v :: vs => a :: lput n l (v :: vs)
def lrep {α : Type} : Nat → List α → List α
  | 0, _ => []
  | n + 1, z => z ++ lrep n z

def AV.beq : AV → AV → Bool
  | .bool a, .bool b => a == b
  | .int j a, .int k b => j == k && a == b
  | .str a, .str b => a == b
  | .nilptr, .nilptr => true
  | .ptr a o, .ptr b p => Nat.beq a b && Nat.beq o p
  | .nilslice, .nilslice => true
  | .slice a o l c, .slice b p m d => Nat.beq a b && Nat.beq o p && Nat.beq l m && Nat.beq c d
  | .nilmap, .nilmap => true
  | .map a, .map b => Nat.beq a b
  | .nilfunc, .nilfunc => true
  | .func f x y, .func g u v => Nat.beq f g && beqs x u && beqs y v
  | .yield a, .yield b => Nat.beq a b
  | .niliface, .niliface => true
  | .iface t x, .iface u y => Nat.beq t u && AV.beq x y
  | .agg x, .agg y => beqs x y
  | .tup x, .tup y => beqs x y
  | _, _ => false
where
  beqs : List AV → List AV → Bool
    | [], [] => true
    | x :: l, y :: m => AV.beq x y && beqs l m
    | _, _ => false

/- constants -/
def ofScalar : Value → Option AV
  | .bool b => some (.bool b)
  | .int k n => some (.int k n)
  | .string s => some (.str s.data.toList)
  | .pointer none => some .nilptr
  | .slice none 0 0 => some .nilslice
  | .map none => some .nilmap
  | .nilFunc => some .nilfunc
  | .nilIface => some .niliface
  | .func (.func f) ⟨[]⟩ ⟨[]⟩ => some (.func f [] [])
  | _ => none
def ofScalars : List Value → Option (List AV)
  | [] => some []
  | v :: l => match ofScalar v, ofScalars l with
    | some a, some r => some (a :: r)
    | _, _ => none
def ofConst : Value → Option AV
  | .agg cs => (ofScalars cs.toList).map .agg
  | .iface t (.agg cs) => (ofScalars cs.toList).map fun l => .iface t (.agg l)
  | .iface t v => (ofScalar v).map (.iface t)
  | .tuple ⟨[]⟩ => some (.tup [])
  | v => ofScalar v

def Fr.eval (fr : Fr) : Operand → Option AV
  | .tmp t => fr.tmps.get t
  | .const v => ofConst v
  | .global g => some (.ptr g 0)
  | .func f => some (.func f [] [])
def Fr.evals (fr : Fr) : List Operand → Option (List AV)
  | [] => some []
  | x :: l => match fr.eval x with
    | none => none
    | some v => match fr.evals l with
      | none => none
      | some r => some (v :: r)

/-- What an operation comes to. -/
inductive OR where
  | val (v : AV) (h : H)
  | pan (v : AV) (h : H)
  | call (f : Nat) (args : List AV)
  | yld (l : Nat) (args : List AV)
  | dfr (d : ADef)
  | rcv
  | pick (n : Nat) (k : Nat → Option (AV × H))
  | bad

def OR.of (h : H) : Option AV → OR
  | some v => .val v h
  | none => .bad
def OR.of2 : Option (AV × H) → OR
  | some (v, h) => .val v h
  | none => .bad

/- integers -/
def intBin (op : BinOp) (k : IntKind) (x y : Int) : Option AV :=
  match op with
  | .add => some (.int k (k.wrap (x + y)))
  | .sub => some (.int k (k.wrap (x - y)))
  | .mul => some (.int k (k.wrap (x * y)))
  | .quo => if y = 0 then none else some (.int k (k.wrap (x.tdiv y)))
  | .rem => if y = 0 then none else some (.int k (x.tmod y))
  | .and => some (.int k (k.wrap (BitVec.ofInt k.bits x &&& BitVec.ofInt k.bits y).toNat))
  | .or => some (.int k (k.wrap (BitVec.ofInt k.bits x ||| BitVec.ofInt k.bits y).toNat))
  | .xor => some (.int k (k.wrap (BitVec.ofInt k.bits x ^^^ BitVec.ofInt k.bits y).toNat))
  | .andNot => some (.int k (k.wrap (BitVec.ofInt k.bits x &&& ~~~BitVec.ofInt k.bits y).toNat))
  | .eql => some (.bool (x == y))
  | .neq => some (.bool (x != y))
  | .lss => some (.bool (decide (x < y)))
  | .leq => some (.bool (decide (x ≤ y)))
  | .gtr => some (.bool (decide (x > y)))
  | .geq => some (.bool (decide (x ≥ y)))
  | _ => none

def intShift (op : BinOp) (k : IntKind) (x y : Int) : Option AV :=
  if y < 0 then none else
  let n := min y.toNat k.bits
  match op with
  | .shl => some (.int k (k.wrap (x * 2 ^ n)))
  | .shr => some (.int k (x.fdiv (2 ^ n)))
  | _ => none

def strBin (op : BinOp) (x y : List UInt8) : Option AV :=
  match op with
  | .add => if x.length + y.length < 9223372036854775808 then some (.str (x ++ y)) else none
  | .eql => some (.bool (x == y))
  | .neq => some (.bool !(x == y))
  | .lss => some (.bool (Op.bytesLess x y))
  | .leq => some (.bool (Op.bytesLess x y || x == y))
  | .gtr => some (.bool !(Op.bytesLess x y || x == y))
  | .geq => some (.bool !(Op.bytesLess x y))
  | _ => none

/-- May the place be held against another one? -/
def H.plainAt (h : H) (b : Nat) : Bool :=
  match h.get b with
  | some (.row r) => r.wr && !r.strish
  | _ => false

/-- '==' of structs, by what gives '==' of their fields. -/
def eqFieldsA (e : Env) (eq : Nat → AV → AV → Option Bool) (xs ys : List AV) : List (Nat × Nat × Bool) → Option Bool
  | [] => some true
  | (off, t, blank) :: fs =>
    if blank then none else
    match e.ti t with
    | none => none
    | some ti =>
      if ti.agg then none else
      match lget xs off, lget ys off with
      | some x, some y =>
        match eq t x y with
        | some true => eqFieldsA e eq xs ys fs
        | r => r
      | _, _ => none

/-- '=='. -/
def equalA (e : Env) (h : H) : Nat → Nat → AV → AV → Option Bool
  | 0, _, _, _ => none
  | d + 1, t, x, y =>
    match e.ti t with
    | none => none
    | some ti =>
      match ti.kind, x, y with
      | .bool, .bool a, .bool b => some (a == b)
      | .int _, .int k a, .int k' b => if k = k' then some (a == b) else none
      | .str, .str a, .str b => some (a == b)
      | .ptr _, .nilptr, .nilptr => some true
      | .ptr _, .nilptr, .ptr _ _ => some false
      | .ptr _, .ptr _ _, .nilptr => some false
      | .ptr el, .ptr a o, .ptr b p =>
        match e.ti el with
        | some ei => if ei.size = 0 then none else
          if h.plainAt a && h.plainAt b then some (Nat.beq a b && Nat.beq o p) else none
        | none => none
      | .iface _, .niliface, .niliface => some true
      | .iface _, .niliface, .iface _ _ => some false
      | .iface _, .iface _ _, .niliface => some false
      | .iface _, .iface tx vx, .iface ty vy =>
        if Nat.beq tx ty then
          match e.ti tx with
          | some xi => if xi.comparable then equalA e h d tx vx vy else none
          | none => none
        else some false
      | .struct fs, .agg xs, .agg ys => if ti.eqOk then eqFieldsA e (equalA e h d) xs ys fs else none
      | .slice _, .nilslice, .nilslice => some true
      | .slice _, .nilslice, .slice _ _ _ _ => some false
      | .slice _, .slice _ _ _ _, .nilslice => some false
      | .map _ _, .nilmap, .nilmap => some true
      | .map _ _, .nilmap, .map _ => some false
      | .map _ _, .map _, .nilmap => some false
      | .func, .nilfunc, .nilfunc => some true
      | .func, .nilfunc, .func _ _ _ => some false
      | .func, .func _ _ _, .nilfunc => some false
      | _, _, _ => none

def isConstO : Operand → Bool
  | .const _ => true
  | _ => false

def binA (e : Env) (h : H) (op : BinOp) (t : Nat) (xo yo : Operand) (x y : AV) : Option AV :=
  match op, x, y with
  | .shl, .int k a, .int _ b => intShift .shl k a b
  | .shr, .int k a, .int _ b => intShift .shr k a b
  | _, .int k a, .int k' b => if k = k' then intBin op k a b else none
  | _, .str a, .str b => strBin op a b
  | .eql, .niliface, .niliface => if isConstO xo || isConstO yo then (equalA e h 100 t x y).map .bool else none
  | .neq, .niliface, .niliface => if isConstO xo || isConstO yo then (equalA e h 100 t x y).map (.bool !·) else none
  | .eql, x, y => (equalA e h 100 t x y).map .bool
  | .neq, x, y => (equalA e h 100 t x y).map (.bool !·)
  | _, _, _ => none

def unA (op : UnOp) (x : AV) : Option AV :=
  match op, x with
  | .neg, .int k n => intBin .sub k 0 n
  | .xor, .int k n => intBin .xor k (if k.signed then -1 else k.max) n
  | .not, .bool b => some (.bool !b)
  | _, _ => none

/- memory -/
def H.row? (h : H) (b : Nat) : Option Row :=
  match h.get b with
  | some (.row r) => some r
  | _ => none

def H.loadN (h : H) (b o n : Nat) : Option (List AV) :=
  match h.row? b with
  | some r => lpart o n r.cells
  | none => none
def H.load1 (h : H) (b o : Nat) : Option AV :=
  match h.row? b with
  | some r => lget r.cells o
  | none => none
def oneCell : AV → Bool
  | .agg _ => false
  | .tup _ => false
  | _ => true
def H.storeN (h : H) (b o : Nat) (vs : List AV) : Option H :=
  match h.row? b with
  | some r => if r.wr && Nat.ble (o + vs.length) r.n && vs.all oneCell then some (h.put b (.row { r with cells := lput o r.cells vs })) else none
  | none => none

def newRow (h : H) (elem : Nat) (cells : List AV) (opn : Bool) (es : Nat) (strish : Bool) : H :=
  h.new (.row { cells := cells, n := cells.length, elem := elem, opn := opn, es := es, wr := true, strish := strish })

/-- Does this slice reach the known end of a row that may go on? -/
def tailOpen (r : Row) (o cap : Nat) : Bool := r.opn && Nat.beq (o + cap * r.es) r.n

def loadT (ti : TI) (h : H) (b o : Nat) : Option AV :=
  if ti.agg then (h.loadN b o ti.size).map .agg else h.load1 b o

def zeroOf (ti : TI) : Option AV :=
  match ti.zero with
  | some z => if ti.agg then some (.agg z) else match z with | [v] => some v | _ => none
  | none => none

def fillA (place : Nat → Option (Nat × Nat)) (cells : List AV) : List (Nat × AV) → Option (List AV)
  | [] => some cells
  | (i, v) :: rest =>
    match place i with
    | none => none
    | some (off, size) =>
      let vs := v.cells
      if Nat.beq vs.length size && Nat.ble (off + size) cells.length then fillA place (lput off cells vs) rest else none

/-- Where the fields of a struct lie, and how many cells they have. -/
def placeOf (e : Env) (fs : List (Nat × Nat × Bool)) (i : Nat) : Option (Nat × Nat) :=
  match lget fs i with
  | some (off, ft, _) => (match e.tt.get ft with | some fi => some (off, fi.size) | none => none)
  | none => none

def partA (ti : TI) (cs : List AV) (off : Nat) : Option AV :=
  if ti.agg then (lpart off ti.size cs).map .agg else lget cs off

/- maps -/
def sized (e : Env) (t : Nat) : Bool := match e.tt.get t with | some i => !(Nat.beq i.size 0) | none => false
def keyKind (e : Env) : TK → AV → Bool
  | .int _, .int _ _ | .str, .str _ | .bool, .bool _ => true
  | .ptr t, .nilptr | .ptr t, .ptr _ _ => sized e t
  | _, _ => false
/-- Are two keys the same? None: they can't be held against each other. -/
def keyEq (h : H) : AV → AV → Option Bool
  | .int j a, .int k b => if j = k then some (a == b) else none
  | .str a, .str b => some (a == b)
  | .bool a, .bool b => some (a == b)
  | .nilptr, .nilptr => some true
  | .nilptr, .ptr _ _ => some false
  | .ptr _ _, .nilptr => some false
  | .ptr a o, .ptr b p => if h.plainAt a && h.plainAt b then some (Nat.beq a b && Nat.beq o p) else none
  | _, _ => none
def keysOk (h : H) (k : AV) : List (AV × AV) → Bool
  | [] => true
  | (k', _) :: es => (match keyEq h k k' with | none => false | some _ => true) && keysOk h k es
def isKey (h : H) (k : AV) (p : AV × AV) : Bool :=
  match keyEq h k p.1 with
  | some b => b
  | none => false
def findIn (h : H) (k : AV) : List (AV × AV) → Option AV
  | [] => none
  | p :: es => bif isKey h k p then some p.2 else findIn h k es
def updIn (h : H) (k v : AV) : List (AV × AV) → List (AV × AV)
  | [] => [(k, v)]
  | p :: es => bif isKey h k p then (k, v) :: es else p :: updIn h k v es
def delIn (h : H) (k : AV) : List (AV × AV) → List (AV × AV)
  | [] => []
  | p :: es => bif isKey h k p then es else p :: delIn h k es
def findA (h : H) (k : AV) (es : List (AV × AV)) : Option (Option AV) := if keysOk h k es then some (findIn h k es) else none
def updA (h : H) (k v : AV) (es : List (AV × AV)) : Option (List (AV × AV)) := if keysOk h k es then some (updIn h k v es) else none
def delA (h : H) (k : AV) (es : List (AV × AV)) : Option (List (AV × AV)) := if keysOk h k es then some (delIn h k es) else none

def leraseIdx {α : Type} : List α → Nat → List α
  | [], _ => []
  | _ :: l, 0 => l
  | a :: l, n + 1 => a :: leraseIdx l n

def ofU8 (b : UInt8) : AV := .int .u8 b.toNat
def toU8 : AV → Option UInt8
  | .int .u8 n => some (UInt8.ofNat n.toNat)
  | _ => none
def toU8s : List AV → Option (List UInt8)
  | [] => some []
  | v :: l => match toU8 v, toU8s l with
    | some b, some r => some (b :: r)
    | _, _ => none

/-- The first n elements of what is appended or copied. -/
def firstA (h : H) (es n : Nat) : AV → Option (List AV)
  | .slice b o _ _ => h.loadN b o (n * es)
  | .nilslice => some []
  | .str s => if Nat.beq es 1 then some ((ltake n s).map ofU8) else none
  | _ => none
def lenA : AV → Option Nat
  | .slice _ _ n _ => some n
  | .nilslice => some 0
  | .str s => some s.length
  | _ => none

def twoTo48 : Nat := 281474976710656

/-- append: 'ei' the element's type; 'x' what is appended, or (zeros) how many zero values. -/
def appendA (h : H) (elem : Nat) (ei : TI) (s : AV) (n : Nat) (new : List AV) : Option (AV × H) :=
  match s with
  | .nilslice =>
    if Nat.beq n 0 then some (.nilslice, h)
    else if Nat.ble (2 * n * ei.bytes) twoTo48 && Nat.ble n 9223372036854775807 then
      some (.slice h.sz 0 n n, newRow h elem new true ei.size false)
    else none
  | .slice b o len cap =>
    let need := len + n
    if Nat.ble need cap then
      match n with
      | 0 => some (.slice b o need cap, h)
      | _ + 1 => (h.storeN b (o + len * ei.size) new).map fun h => (.slice b o need cap, h)
    else if Nat.ble (2 * need * ei.bytes) twoTo48 && Nat.ble need 9223372036854775807 then
      match h.row? b with
      | none => none
      | some r =>
        match lpart o (len * ei.size) r.cells with
        | none => none
        | some old =>
          if tailOpen r o cap then
            if r.wr && Nat.beq r.es ei.size && Nat.beq r.elem elem && new.all oneCell then
              some (.slice h.sz 0 need need, (newRow h elem (old ++ new) true ei.size r.strish).put b .dead)
            else none
          else some (.slice h.sz 0 need need, newRow h elem (old ++ new) true ei.size false)
    else none
  | _ => none

def asNat : AV → Option Nat
  | .int _ (.ofNat n) => some n
  | _ => none

def bndA (d : Nat) : Option AV → Option Nat
  | none => some d
  | some v => asNat v
def noGap : Option AV → Option AV → Bool
  | none, some _ => false
  | _, _ => true
/-- The bounds of x[lo:hi:mx]. -/
def bndsA (len cap : Nat) (lo hi mx : Option AV) : Option (Nat × Nat × Nat) :=
  match bndA 0 lo, bndA len hi, bndA cap mx with
  | some l, some hh, some m => if noGap hi mx && Nat.ble m cap && Nat.ble hh m && Nat.ble l hh then some (l, hh, m) else none
  | _, _, _ => none

/-- x[lo:hi:mx] of a slice. -/
def sliceA (e : Env) (h : H) (t : Nat) (x : AV) (lo hi mx : Option AV) : Option AV :=
  match e.ti t with
  | none => none
  | some ti =>
    match ti.kind, x with
    | .str, .str s =>
      match bndsA s.length s.length lo hi mx with
      | some (l, hh, _) => (match mx with | none => some (.str (ltake (hh - l) (ldrop l s))) | some _ => none)
      | none => none
    | .slice el, .nilslice =>
      match e.ti el, bndsA 0 0 lo hi mx with
      | some _, some _ => some .nilslice
      | _, _ => none
    | .slice el, .slice b o len cap =>
      match e.ti el, h.row? b, bndsA len cap lo hi mx with
      | some ei, some r, some (l, hh, m) =>
        if tailOpen r o cap && Nat.beq m cap then (if Nat.beq r.es ei.size then some (.slice b (o + l * ei.size) (hh - l) (m - l)) else none)
        else some (.slice b (if Nat.beq m l then o else o + l * ei.size) (hh - l) (m - l))
      | _, _, _ => none
    | .array n el, .ptr b o =>
      match e.ti el, h.row? b, bndsA n n lo hi mx with
      | some ei, some r, some (l, hh, m) => if r.opn then none else some (.slice b (if Nat.beq m l then o else o + l * ei.size) (hh - l) (m - l))
      | _, _, _ => none
    | _, _ => none

def optEval (fr : Fr) : Option Operand → Option (Option AV)
  | none => some none
  | some x => (fr.eval x).map some

def convA (e : Env) (h : H) (src dst : Nat) (x : AV) : Option (AV × H) :=
  match e.ti src, e.ti dst with
  | some si, some di =>
    match si.kind, di.kind, x with
    | .int _, .int k, .int _ n => some (.int k (k.wrap n), h)
    | .str, .str, .str s => some (.str s, h)
    | .str, .slice el, .str s =>
      match e.ti el with
      | some ei => match ei.kind with
        | .int .u8 => some (.slice h.sz 0 s.length s.length, newRow h el (s.map ofU8) true 1 true)
        | _ => none
      | none => none
    | .slice el, .str, x =>
      match e.ti el with
      | some ei => match ei.kind, x with
        | .int .u8, .nilslice => some (.str [], h)
        | .int .u8, .slice b o len _ => match h.loadN b o len with
          | some cs => (toU8s cs).map fun s => (.str s, h)
          | none => none
        | _, _ => none
      | none => none
    | .slice _, .slice el, .slice b o len cap =>
      match e.ti el with
      | some ei => match ei.kind with
        | .int .u8 => if Nat.beq src dst then match h.row? b with
            | some r => if r.wr then some (.slice b o len cap, h.put b (.row { r with strish := true })) else none
            | none => none
          else none
        | _ => none
      | none => none
    | .ptr t, .uptr, .ptr b o =>
      match h.row? b, e.ti t with
      | some r, some ti => if Nat.beq ti.size 0 || Nat.ble r.n o then none else some (.ptr b o, h)
      | _, _ => none
    | .uptr, .ptr u, .ptr b o =>
      match h.row? b, e.ti u with
      | some r, some ui => if Nat.beq r.elem u && Nat.beq o 0 && Nat.beq r.n ui.size && !(Nat.beq ui.size 0) && !r.opn then some (.ptr b o, h) else none
      | _, _ => none
    | _, _, _ => none
  | _, _ => none

def maxA : AV → List AV → Option AV
  | x, [] => some x
  | .int k x, .int _ y :: l => maxA (.int k (if y > x then y else x)) l
  | _, _ => none
def minA : AV → List AV → Option AV
  | x, [] => some x
  | .int k x, .int _ y :: l => minA (.int k (if y < x then y else x)) l
  | _, _ => none

def tiOf (e : Env) (argTypes : Array TypeId) (i : Nat) : Option TI :=
  match argTypes[i]? with
  | some t => e.ti t
  | none => none

def builtinA (e : Env) (h : H) (b : Builtin) (argTypes : Array TypeId) (args : List AV) : OR :=
  match b, args with
  | .len, [x] =>
    match tiOf e argTypes 0 with
    | some ti => match ti.kind, x with
      | .str, .str s => .val (.int .i64 s.length) h
      | .slice _, .nilslice => .val (.int .i64 0) h
      | .slice _, .slice _ _ n _ => .val (.int .i64 n) h
      | .array n _, _ => .val (.int .i64 n) h
      | .map _ _, .nilmap => .val (.int .i64 0) h
      | .map _ _, .map r => match h.get r with
        | some (.map es _) => .val (.int .i64 es.length) h
        | _ => .bad
      | _, _ => .bad
    | none => .bad
  | .cap, [x] =>
    match tiOf e argTypes 0 with
    | some ti => match ti.kind, x with
      | .slice _, .nilslice => .val (.int .i64 0) h
      | .slice _, .slice b o _ c => match h.row? b with
        | some r => if tailOpen r o c then .bad else .val (.int .i64 c) h
        | none => .bad
      | _, _ => .bad
    | none => .bad
  | .append, [s, x] =>
    match tiOf e argTypes 0 with
    | some ti => match ti.kind with
      | .slice el =>
        match e.ti el with
        | some ei =>
          if Nat.beq ei.size 0 then .bad else
          match tiOf e argTypes 1 with
          | none => .bad
          | some xi =>
          match ei.zero with
          | none => .bad
          | some z =>
          match xi.kind with
          | .int _ =>
            match x with
            | .int .i64 (.ofNat n) => if Nat.ble (n * ei.bytes) twoTo48 && Nat.ble n 9223372036854775807 then OR.of2 (appendA h el ei s n (lrep n z)) else .bad
            | _ => .bad
          | _ =>
            match lenA x with
            | some n => match firstA h ei.size n x with
              | some new => OR.of2 (appendA h el ei s n new)
              | none => .bad
            | none => .bad
        | none => .bad
      | _ => .bad
    | none => .bad
  | .copy, [d, x] =>
    match tiOf e argTypes 0 with
    | some ti => match ti.kind with
      | .slice el =>
        match e.ti el, lenA x, lenA d with
        | some ei, some n, some m =>
          if Nat.beq ei.size 0 then .bad else
          let k := Nat.min n m
          match firstA h ei.size k x with
          | some cs =>
            match d, k with
            | .nilslice, _ => .val (.int .i64 k) h
            | .slice _ _ _ _, 0 => .val (.int .i64 k) h
            | .slice b o _ _, _ + 1 => match h.storeN b o cs with
              | some h => .val (.int .i64 k) h
              | none => .bad
            | _, _ => .bad
          | none => .bad
        | _, _, _ => .bad
      | _ => .bad
    | none => .bad
  | .delete, [m, k] =>
    match tiOf e argTypes 0 with
    | some ti => match ti.kind with
      | .map kt _ =>
        match e.ti kt with
        | some ki => if keyKind e ki.kind k then match m with
          | .nilmap => .val (.tup []) h
          | .map r => match h.get r with
            | some (.map es ver) => match delA h k es with
              | some es => .val (.tup []) (h.put r (.map es (ver + 1)))
              | none => .bad
            | _ => .bad
          | _ => .bad else .bad
        | none => .bad
      | _ => .bad
    | none => .bad
  | .max, x :: l => OR.of h (maxA x l)
  | .min, x :: l => OR.of h (minA x l)
  | .recover, [] => .rcv
  | .panic, [.iface t v] => .pan (.iface t v) h
  | .unsafeSliceData, [.nilslice] => .val .nilptr h
  | .unsafeSliceData, [.slice b o _ c] => if Nat.beq c 0 then .bad else .val (.ptr b o) h
  | .unsafeString, [.nilptr, .int _ n] => if n = 0 then .val (.str []) h else .bad
  | .unsafeString, [.ptr b o, .int _ (.ofNat n)] =>
    if Nat.beq n 0 then .val (.str []) h else
    match tiOf e argTypes 0 with
    | some pi => match pi.kind with
      | .ptr el => match e.ti el with
        | some ei => match ei.kind, h.row? b with
          | .int .u8, some r =>
            if Nat.beq r.elem el && Nat.beq ei.size 1 && r.wr && Nat.ble n 9223372036854775807 then
              match lpart o n r.cells with
              | some cs => match toU8s cs with
                | some s => .val (.str s) (h.put b (.row { r with wr := false }))
                | none => .bad
              | none => .bad
            else .bad
          | _, _ => .bad
        | none => .bad
      | _ => .bad
    | none => .bad
  | _, _ => .bad

def extA (h : H) (x : Ext) (args : List AV) : Option (AV × H) :=
  match x, args with
  | .mapsClone, [.iface t (.map r)] => match h.get r with
    | some (.map es _) => some (.iface t (.map h.sz), h.new (.map es 0))
    | _ => none
  | .indexByte, [.str s, .int .u8 c] => some (.int .i64 (idxF s c.toNat.toUInt8 0), h)
  | .indexByte, [.nilslice, .int .u8 _] => some (.int .i64 (-1), h)
  | .indexByte, [.slice b o n _, .int .u8 c] => match h.loadN b o n with
    | some cs => (toU8s cs).map fun s => (.int .i64 (idxF s c.toNat.toUInt8 0), h)
    | none => none
  | .countByte, [.str s, .int .u8 c] => some (.int .i64 (cntF s c.toNat.toUInt8 0 : Nat), h)
  | .cmpstring, [.str a, .str b] => some (.int .i64 (Lib.compareBytes a b), h)
  | .noEscape, [x] => some (x, h)
  | _, _ => none
where
  idxF : List UInt8 → UInt8 → Nat → Int
    | [], _, _ => -1
    | b :: l, c, i => bif b == c then (i : Int) else idxF l c (i + 1)
  cntF : List UInt8 → UInt8 → Nat → Nat
    | [], _, n => n
    | b :: l, c, n => bif b == c then cntF l c (n + 1) else cntF l c n

/-- A call of a function's value or of a function. -/
def callA (e : Env) (h : H) (f : Nat) (args : List AV) : OR :=
  match e.sums f with
  | some g => OR.of2 (g args h)
  | none =>
    match e.ft.get f with
    | some (.body _) => .call f args
    | some (.ext x) => OR.of2 (extA h x args)
    | none => .bad

def setParams (nt : Nat) : List Nat → List AV → PT AV → Option (PT AV)
  | [], [], t => some t
  | p :: ps, v :: vs, t => bif Nat.blt p nt then setParams nt ps vs (t.set p v) else none
  | _, _, _ => none

def argOk : Builtin → Array TypeId → Bool
  | .unsafeString, a => Nat.blt 0 a.size
  | _, _ => true

/-- A type assertion that fails: of the two values alone. -/
def failsA (ai : TI) (ok : Bool) (h : H) : OR :=
  if ok then match zeroOf ai with
    | some z => .val (.tup [z, .bool false]) h
    | none => .bad
  else .bad

/-- An operation, its operands looked up in the frame. -/
def opA (e : Env) (fr : Fr) (h : H) (nt : Nat) (o : Oper) : OR :=
  match o.op with
  | .move x => OR.of h (fr.eval x)
  | .assign x => OR.of h (fr.eval x)
  | .pick c a b =>
    match fr.eval c, fr.eval a, fr.eval b with
    | some (.bool true), some v, _ => .val v h
    | some (.bool false), _, some v => .val v h
    | _, _, _ => .bad
  | .alloc t =>
    match e.ti t with
    | some ti => match ti.zero with
      | some z => .val (.ptr h.sz 0) (newRow h t z false ti.size false)
      | none => .bad
    | none => .bad
  | .box t x =>
    match e.ti t, fr.eval x with
    | some ti, some v => if Nat.beq v.cells.length ti.size && v.cells.all oneCell then .val (.ptr h.sz 0) (newRow h t v.cells false ti.size false) else .bad
    | _, _ => .bad
  | .build t ps =>
    match e.ti t, fr.evals (ps.toList.map (·.2)) with
    | some ti, some vs =>
      match ti.zero, ti.kind with
      | some z, .struct fs => OR.of h ((fillA (placeOf e fs) z (ps.toList.map (·.1) |>.zip vs)).map .agg)
      | some z, .array _ el => match e.ti el with
        | some ei => OR.of h ((fillA (fun i => some (i * ei.size, ei.size)) z (ps.toList.map (·.1) |>.zip vs)).map .agg)
        | none => .bad
      | _, _ => .bad
    | _, _ => .bad
  | .buildSlice t n ps =>
    match e.ti t, fr.evals (ps.toList.map (·.2)) with
    | some ti, some vs =>
      match ti.kind with
      | .slice el => match e.ti el with
        | some ei => match ei.zero with
          | some z =>
            if Nat.beq ei.size 0 || !(Nat.ble (n * ei.size) 16777216) then .bad else
            match fillA (fun i => some (i * ei.size, ei.size)) (lrep n z) (ps.toList.map (·.1) |>.zip vs) with
            | some cs => if cs.all oneCell then .val (.slice h.sz 0 n n) (newRow h el cs false ei.size false) else .bad
            | none => .bad
          | none => .bad
        | none => .bad
      | _ => .bad
    | _, _ => .bad
  | .load t a =>
    match e.ti t, fr.eval a with
    | some ti, some (.ptr b o) => OR.of h (loadT ti h b o)
    | _, _ => .bad
  | .store t a x =>
    match e.ti t, fr.eval a, fr.eval x with
    | some ti, some (.ptr b o), some v =>
      if Nat.beq v.cells.length ti.size then match h.storeN b o v.cells with
        | some h => .val (.tup []) h
        | none => .bad
      else .bad
    | _, _, _ => .bad
  | .nilCheck x =>
    match fr.eval x with
    | some (.ptr b o) => .val (.ptr b o) h
    | some (.func f a c) => .val (.func f a c) h
    | some (.yield l) => .val (.yield l) h
    | some (.iface t v) => .val (.iface t v) h
    | _ => .bad
  | .binOp op t x y _ =>
    match fr.eval x, fr.eval y with
    | some a, some b => OR.of h (binA e h op t x y a b)
    | _, _ => .bad
  | .unOp op _ x =>
    match fr.eval x with
    | some a => OR.of h (unA op a)
    | none => .bad
  | .convert s d x =>
    match fr.eval x with
    | some a => OR.of2 (convA e h s d a)
    | none => .bad
  | .makeInterface t x =>
    match e.ti t, fr.eval x with
    | some ti, some v => match ti.kind with
      | .iface _ => .bad
      | _ => .val (.iface t v) h
    | _, _ => .bad
  | .makeFunc (.func f) first caps =>
    match fr.evals first.toList, fr.evals caps.toList with
    | some a, some c => .val (.func f a c) h
    | _, _ => .bad
  | .makeMap _ r =>
    match r with
    | none => .val (.map h.sz) (h.new (.map [] 0))
    | some _ => .bad
  | .makeSlice t l c =>
    match e.ti t, fr.eval l, fr.eval c with
    | some ti, some (.int .i64 (.ofNat n)), some (.int .i64 (.ofNat m)) =>
      match ti.kind with
      | .slice el => match e.ti el with
        | some ei => match ei.zero with
          | some z =>
            if Nat.beq ei.size 0 || !(Nat.ble n m && Nat.ble (m * ei.bytes) twoTo48 && Nat.ble m 9223372036854775807) then .bad
            else .val (.slice h.sz 0 n m) (newRow h el (lrep m z) false ei.size false)
          | none => .bad
        | none => .bad
      | _ => .bad
    | _, _, _ => .bad
  | .slice t x lo hi mx =>
    match fr.eval x, optEval fr lo, optEval fr hi, optEval fr mx with
    | some v, some l, some hh, some m => OR.of h (sliceA e h t v l hh m)
    | _, _, _, _ => .bad
  | .fieldAddr t x f =>
    match e.ti t, fr.eval x with
    | some ti, some (.ptr b o) =>
      match ti.kind with
      | .struct fs => match lget fs f with
        | some (off, ft, _) => match e.ti ft with
          | some fi => if Nat.beq fi.size 0 then .bad else .val (.ptr b (o + off)) h
          | none => .bad
        | none => .bad
      | _ => .bad
    | _, _ => .bad
  | .field t x f =>
    match e.ti t, fr.eval x with
    | some ti, some (.agg cs) =>
      match ti.kind with
      | .struct fs => match lget fs f with
        | some (off, ft, _) => match e.ti ft with
          | some fi => OR.of h (partA fi cs off)
          | none => .bad
        | none => .bad
      | _ => .bad
    | _, _ => .bad
  | .indexAddr t x i =>
    match e.ti t, fr.eval x, fr.eval i with
    | some ti, some v, some (.int _ (.ofNat n)) =>
      match ti.kind, v with
      | .slice el, .slice b o len _ => match e.ti el with
        | some ei => if Nat.blt n len then .val (.ptr b (o + n * ei.size)) h else .bad
        | none => .bad
      | .array m el, .ptr b o => match e.ti el with
        | some ei => if Nat.blt n m then .val (.ptr b (o + n * ei.size)) h else .bad
        | none => .bad
      | _, _ => .bad
    | _, _, _ => .bad
  | .index t x i =>
    match e.ti t, fr.eval x, fr.eval i with
    | some ti, some v, some (.int _ (.ofNat n)) =>
      match ti.kind, v with
      | .array m el, .agg cs => match e.ti el with
        | some ei => if Nat.blt n m then OR.of h (partA ei cs (n * ei.size)) else .bad
        | none => .bad
      | .str, .str s => match lget s n with
        | some b => .val (ofU8 b) h
        | none => .bad
      | _, _ => .bad
    | _, _, _ => .bad
  | .lookup t x i ok =>
    match e.ti t, fr.eval x, fr.eval i with
    | some ti, some m, some k =>
      match ti.kind with
      | .map kt et => match e.ti kt, e.ti et with
        | some ki, some ei =>
          if keyKind e ki.kind k then
            match (match m with
              | .nilmap => some []
              | .map r => (match h.get r with | some (.map es _) => some es | _ => none)
              | _ => none) with
            | none => .bad
            | some es => match findA h k es with
              | none => .bad
              | some (some v) => .val (if ok then .tup [v, .bool true] else v) h
              | some none => match zeroOf ei with
                | some z => .val (if ok then .tup [z, .bool false] else z) h
                | none => .bad
          else .bad
        | _, _ => .bad
      | _ => .bad
    | _, _, _ => .bad
  | .mapUpdate t x i v | .insert t x i v =>
    match e.ti t, fr.eval x, fr.eval i, fr.eval v with
    | some ti, some (.map r), some k, some v =>
      match ti.kind with
      | .map kt _ => match e.ti kt with
        | some ki => if keyKind e ki.kind k then match h.get r with
          | some (.map es ver) => match updA h k v es with
            | some es => .val (.tup []) (h.put r (.map es (ver + 1)))
            | none => .bad
          | _ => .bad else .bad
        | none => .bad
      | _ => .bad
    | _, _, _, _ => .bad
  | .range t x =>
    match e.ti t, fr.eval x with
    | some ti, some v =>
      match ti.kind, v with
      | .str, .str s => .val (.ptr h.sz 0) (h.new (.siter s 0))
      | .map _ _, .nilmap => .val (.ptr h.sz 0) (h.new (.miter none 0 [] none))
      | .map _ _, .map r => match h.get r with
        | some (.map es ver) => .val (.ptr h.sz 0) (h.new (.miter (some r) ver es none))
        | _ => .bad
      | _, _ => .bad
    | _, _ => .bad
  | .next it isStr =>
    match fr.eval it with
    | some (.ptr r 0) =>
      match h.get r, isStr with
      | some (.siter s pos), true =>
        if Nat.blt pos s.length then
          let (c, width) := Utf8.decode ⟨⟨s⟩⟩ pos
          .val (.tup [.bool true, .int .i64 pos, .int .i32 c]) (h.put r (.siter s (pos + width)))
        else .val (.tup [.bool false]) h
      | some (.miter none _ _ _), false => .val (.tup [.bool false]) h
      | some (.miter (some m) ver left _), false =>
        match h.get m with
        | some (.map _ ver') =>
          if Nat.beq ver ver' then
            match left with
            | [] => .val (.tup [.bool false]) h
            | [(k, v)] => .val (.tup [.bool true, k, v]) (h.put r (.miter (some m) ver [] (some (k, v))))
            | _ => .pick left.length fun i => match lget left i with
              | some (k, v) => some (.tup [.bool true, k, v], h.put r (.miter (some m) ver (leraseIdx left i) (some (k, v))))
              | none => none
          else .bad
        | _ => .bad
      | _, _ => .bad
    | _ => .bad
  | .entry it =>
    match fr.eval it with
    | some (.ptr r 0) => match h.get r with
      | some (.miter (some m) ver _ (some (k, v))) => match h.get m with
        | some (.map _ ver') => if Nat.beq ver ver' then .val (.tup [k, v]) h else .bad
        | _ => .bad
      | _ => .bad
    | _ => .bad
  | .typeAssert x _ asserted ok =>
    match fr.eval x, e.ti asserted with
    | some v, some ai =>
      match ai.kind, v with
      | .iface _, .niliface => failsA ai ok h
      | .iface _, .iface t _ => match e.ti t with
        | some ti => (match ti.kind with | .iface _ => .bad | _ => if ai.ms.all (ti.ms.contains ·) then .bad else failsA ai ok h)
        | none => .bad
      | _, .niliface => failsA ai ok h
      | _, .iface t w => if Nat.beq t asserted then .val (if ok then .tup [w, .bool true] else w) h else failsA ai ok h
      | _, _ => .bad
    | _, _ => .bad
  | .extract t i =>
    match fr.eval t with
    | some (.tup vs) => OR.of h (lget vs i)
    | _ => .bad
  | .call c =>
    match fr.evals c.args.toList with
    | none => .bad
    | some args =>
      match c.callee with
      | .builtin b => bif argOk b c.argTypes then builtinA e h b c.argTypes args else .bad
      | .value f => match fr.eval f with
        | some (.func f first caps) => callA e h f (first ++ args ++ caps)
        | some (.yield l) => .yld l args
        | _ => .bad
      | .invoke _ _ => .bad
  | .defer c =>
    match fr.evals c.args.toList, c.callee with
    | some args, .value f => match fr.eval f with
      | some (.func f first caps) => match e.sums f, e.ft.get f with
        | none, some (.body _) => .dfr (.call f (first ++ args ++ caps))
        | _, _ => .bad
      | _ => .bad
    | _, _ => .bad
  | .panic x =>
    match fr.eval x with
    | some (.iface t v) => .pan (.iface t v) h
    | _ => .bad
  | _ => .bad

/-- The world of a piece of code: its function, how many slots, whether it is a round of a range over a function. -/
structure Cx where
  f : Nat
  nt : Nat
  round : Bool

structure Rec where
  code : Cx → Code → Fr → H → T Out
  call : Nat → List AV → H → Option AV → T CR

def Fr.put (fr : Fr) (nt : Nat) (dst : Option Tmp) (v : AV) : Option Fr :=
  match dst with
  | none => some fr
  | some d => if Nat.blt d nt then some { fr with tmps := fr.tmps.set d v } else none

/-- Is an operation wanted? -/
def wantedA (ops : List Oper) (fr : Fr) (o : Oper) : Option Bool :=
  match o.guard with
  | none => some true
  | some (j, want) =>
    match lget ops j with
    | some oj => match oj.dst with
      | some d => match fr.tmps.get d with
        | some (.bool b) => some (b == want)
        | some _ => some false
        | none => none
      | none => none
    | none => none

/-- A round of a range over a function. -/
def roundA (r : Rec) (l : Nat) (args : List AV) (h : H) : T CR :=
  match h.get l with
  | some (.loop _ _ fn nt tmps params assign body) =>
    match setParams nt params args tmps with
    | none => .bad
    | some t =>
      let cx : Cx := ⟨fn, nt, true⟩
      (r.code cx assign ⟨t, [], none, false⟩ h).bind fun
        | .nrm fr h =>
          match h.get l with
          | some (.loop .ready pend fn nt tmps params assign body') =>
            let h := h.put l (.loop .busy pend fn nt tmps params assign body')
            (r.code cx body fr h).bind fun
              | .nrm fr h => fin fr h none
              | .ext id fr h => fin fr h (some (.exit id))
              | .ret fr h => fin fr h (some .ret)
              | .pan v _ h => .ret (.pan v h)
          | _ => .bad
        | _ => .bad
  | _ => .bad
where
  fin (fr : Fr) (h : H) (jump : Option Code) : T CR :=
    match fr.defs, h.get l with
    | [], some (.loop _ _ fn nt tmps params assign body) =>
      .ret (.ok (.bool jump.isNone) (h.put l (.loop (match jump with | none => .ready | some _ => .done) jump fn nt tmps params assign body)) false)
    | _, _ => .bad

/-- What an operation comes to, its calls carried out. -/
inductive ORes where
  | val (v : AV) (h : H)
  | pan (v : AV) (h : H)
  | dfr (d : ADef)
  | rcv

def CR.res : CR → T ORes
  | .ok v h _ => .ret (.val v h)
  | .pan v h => .ret (.pan v h)

def runOp (e : Env) (r : Rec) (nt : Nat) (ops : List Oper) (o : Oper) (fr : Fr) (h : H) : T ORes :=
  match wantedA ops fr o with
  | none => .bad
  | some false => .ret (.val (.tup []) h)
  | some true =>
    match opA e fr h nt o with
    | .val v h => .ret (.val v h)
    | .pan v h => .ret (.pan v h)
    | .call f args => (r.call f args h none).bind CR.res
    | .yld l args => (roundA r l args h).bind CR.res
    | .dfr d => .ret (.dfr d)
    | .rcv => .ret .rcv
    | .pick n kk => .pick n fun i => match kk i with
      | some (v, h) => .ret (.val v h)
      | none => .bad
    | .bad => .bad

/-- It is laid into its slot. -/
def putOp (cx : Cx) (pk : Bool) (dst : Option Tmp) (fr : Fr) (h : H) (k : Fr → H → T Out) : ORes → T Out
  | .val v h => match fr.put cx.nt dst v with
    | some fr => k fr h
    | none => .bad
  | .pan v h => bif pk then .ret (.pan v fr h) else .bad
  | .dfr d => if cx.round then .bad else match ({ fr with defs := d :: fr.defs } : Fr).put cx.nt dst (.tup []) with
    | some fr => k fr h
    | none => .bad
  | .rcv => if cx.round then .bad else
    match fr.pan, fr.rcd with
    | some v, false => match ({ fr with rcd := true } : Fr).put cx.nt dst v with
      | some fr => k fr h
      | none => .bad
    | _, _ => match fr.put cx.nt dst .niliface with
      | some fr => k fr h
      | none => .bad

/-- One operation, and on. -/
def oneOp (e : Env) (r : Rec) (cx : Cx) (pk : Bool) (ops : List Oper) (o : Oper) (fr : Fr) (h : H) (k : Fr → H → T Out) : T Out :=
  (runOp e r cx.nt ops o fr h).bind (putOp cx pk o.dst fr h k)

/-- The operations of a region in the order of the text. -/
def opsA (e : Env) (r : Rec) (cx : Cx) (ops : List Oper) : List Oper → Fr → H → T Out
  | [], fr, h => .ret (.nrm fr h)
  | o :: l, fr, h => oneOp e r cx true ops o fr h (opsA e r cx ops l)

def floats (i : Nat) : List (Nat × Nat) → Option Nat
  | [] => none
  | (j, x) :: l => bif Nat.beq i j then some x else floats i l

def lmem (i : Nat) : List Nat → Bool
  | [] => false
  | j :: l => Nat.beq i j || lmem i l

/-- An operation of a drawn region that turns its own slot alone, and lays at most a new block. -/
def pureA (e : Env) (nt : Nat) (ops : List Oper) (o : Oper) (fr : Fr) (h : H) : Option (AV × H) :=
  match wantedA ops fr o with
  | none => none
  | some false => some (.tup [], h)
  | some true => match opA e fr h nt o with
    | .val v h => some (v, h)
    | _ => none

/-- A reader that may be carried out later: where it stood, what it read, past how many effects more it may float. -/
structure Fl where
  fr : Fr
  v : AV
  o : Oper
  n : Nat

def stillA (e : Env) (nt : Nat) (ops : List Oper) (h : H) (x : Fl) : Bool :=
  match pureA e nt ops x.o x.fr h with
  | some (u, _) => AV.beq u x.v
  | none => false

def tick : List Fl → List Fl
  | [] => []
  | x :: l => match x.n with
    | 0 => tick l
    | n + 1 => { x with n := n } :: tick l

/-- A drawn region: as early as may be what is no effect, the effects in their row. -/
def drawA (e : Env) (r : Rec) (cx : Cx) (ops : List Oper) (ri : RI) : List Nat → List Fl → Fr → H → T Out
  | [], m, fr, h => bif m.all (stillA e cx.nt ops h) then .ret (.nrm fr h) else .bad
  | i :: l, m, fr, h =>
    match lget ops i with
    | none => .bad
    | some o =>
      bif lmem i ri.eff then
        bif m.all (stillA e cx.nt ops h) then oneOp e r cx (lmem i ri.pk) ops o fr h (fun fr' h' => drawA e r cx ops ri l (tick m) fr' h')
        else .bad
      else match pureA e cx.nt ops o fr h with
        | none => .bad
        | some (v, h') => match fr.put cx.nt o.dst v with
          | none => .bad
          | some fr' => drawA e r cx ops ri l (match floats i ri.fl with | some n => ⟨fr, v, o, n⟩ :: m | none => m) fr' h'

/-- Code. Calls and further rounds of a loop go through 'r'. -/
def codeA (e : Env) (r : Rec) (cx : Cx) : Code → Fr → H → T Out
  | .skip, fr, h => .ret (.nrm fr h)
  | .region id ops draw, fr, h =>
    bif draw then
      match e.ri.get cx.f with
      | some t => match t.get id with
        | some ri => drawA e r cx ops.toList ri ri.ord [] fr h
        | none => .bad
      | none => .bad
    else opsA e r cx ops.toList ops.toList fr h
  | .seq a b, fr, h => (codeA e r cx a fr h).bind fun
    | .nrm fr h => codeA e r cx b fr h
    | x => .ret x
  | .cond c a b, fr, h =>
    match fr.eval c with
    | some (.bool true) => codeA e r cx a fr h
    | some (.bool false) => codeA e r cx b fr h
    | _ => .bad
  | .block id c, fr, h => (codeA e r cx c fr h).bind fun
    | .ext id' fr h => bif Nat.beq id' id then .ret (.nrm fr h) else .ret (.ext id' fr h)
    | x => .ret x
  | .loop c, fr, h => (codeA e r cx c fr h).bind fun
    | .nrm fr h => r.code cx (.loop c) fr h
    | x => .ret x
  | .rangeFunc f params assign body, fr, h =>
    bif cx.round then .bad else
    match fr.eval f with
    | some fv =>
      let l := h.sz
      let h := h.new (.loop .ready none cx.f cx.nt fr.tmps params.toList assign body)
      let fr : Fr := { fr with defs := .mark :: fr.defs }
      let next : CR → T Out := fun
        | .ok _ h _ =>
          match h.get l with
          | some (.loop st pend fn nt tmps ps as' bd) =>
            match st with
            | .busy => .bad
            | _ =>
              let h := h.put l (.loop .exhausted pend fn nt tmps ps as' bd)
              match pend with
              | none => .ret (.nrm fr h)
              | some (.exit id) => .ret (.ext id fr h)
              | some .ret => .ret (.ret fr h)
              | some _ => .bad
          | _ => .bad
        | .pan v h => .ret (.pan v fr h)
      match fv with
      | .func f first caps => match callA e h f (first ++ [.yield l] ++ caps) with
        | .call f args => (r.call f args h none).bind next
        | _ => .bad
      | _ => .bad
    | none => .bad
  | .exit id, fr, h => .ret (.ext id fr h)
  | .ret, fr, h => .ret (.ret fr h)
  | _, _, _ => .bad

def initTmps : Nat → List AV → PT AV → PT AV
  | _, [], t => t
  | i, v :: l, t => initTmps (i + 1) l (t.set i v)

def resultA (e : Env) (fr : Fr) (h : H) : List ResultVar → Option (List AV)
  | [] => some []
  | .tmp t :: l => match fr.tmps.get t, resultA e fr h l with
    | some v, some r => some (v :: r)
    | _, _ => none
  | .cell a t :: l => match fr.tmps.get a, e.ti t with
    | some (.ptr b o), some ti => match loadT ti h b o, resultA e fr h l with
      | some v, some r => some (v :: r)
      | _, _ => none
    | _, _ => none

def resultsA (e : Env) (fn : Func) (fr : Fr) (h : H) : Option AV :=
  match resultA e fr h fn.results.toList with
  | some [v] => some v
  | some vs => some (.tup vs)
  | none => none

/-- The deferred calls, then the return or the panic. -/
def leaveA (e : Env) (r : Rec) (fn : Func) (fr : Fr) : List ADef → Option AV → H → T CR
  | [], none, h => match resultsA e fn fr h with
    | some v => .ret (.ok v h fr.rcd)
    | none => .bad
  | [], some v, h => if fr.rcd then .bad else .ret (.pan v h)
  | .mark :: ds, p, h => leaveA e r fn fr ds p h
  | .call f args :: ds, p, h => (r.call f args h p).bind fun
    | .ok _ h rcd => leaveA e r fn fr ds (if rcd then none else p) h
    | .pan _ _ => .bad

/-- A function's call: 'p': the panic on which a deferred call is made. -/
def enterA (e : Env) (r : Rec) (f : Nat) (args : List AV) (h : H) (p : Option AV) : T CR :=
  match e.ft.get f with
  | some (.body fn) =>
    match fn.body with
    | none => .bad
    | some c =>
      if Nat.ble args.length fn.ntmps then
        let fr : Fr := ⟨initTmps 0 args .lf, [], p, false⟩
        (codeA e r ⟨f, fn.ntmps, false⟩ c fr h).bind fun
          | .nrm fr h => leaveA e r fn fr fr.defs none h
          | .ret fr h => leaveA e r fn fr fr.defs none h
          | .ext _ _ _ => .bad
          | .pan v fr h => leaveA e r fn fr fr.defs (some v) h
      else .bad
  | _ => .bad

def recN (e : Env) : Nat → Rec
  | 0 => ⟨fun _ _ _ _ => .bad, fun _ _ _ _ => .bad⟩
  | n + 1 => ⟨codeA e (recN e n), enterA e (recN e n)⟩

end Go.Ab
namespace Go.Ab

def mkKind (P : Program) (t : Nat) : TK :=
  match P.underlying t with
  | some .bool => .bool
  | some (.int k) => .int k
  | some .string => .str
  | some .unsafePointer => .uptr
  | some (.pointer e) => .ptr e
  | some (.slice e) => .slice e
  | some (.array n e) => .array n e
  | some (.struct fs) => .struct (fs.toList.map fun f => (f.offset, f.type, f.name == "_"))
  | some (.map k e) => .map k e
  | some (.func ..) => .func
  | some (.interface ms) => .iface ms.isEmpty
  | _ => .other
def mkTI (P : Program) (t : Nat) : Option TI :=
  match P.info? t, P.underlying t with
  | some i, some u =>
    some { kind := mkKind P t, size := i.size, bytes := i.bytes,
           zero := match i.zero with
             | some z => (match ofScalars z.cells.toList with | some l => (if l.length = i.size ∧ (match u with | .struct _ | .array _ _ => true | _ => false) = (match z with | .agg _ => true | _ => false) then some l else none) | none => none)
             | none => none,
           agg := match u with | .struct _ | .array _ _ => true | _ => false,
           eqOk := match u with | .struct _ => !P.stoodInHeld t && !(P.eqGuardType P.depth t) | _ => false,
           comparable := i.comparable,
           ms := match u with | .interface ms => ms.toList.map (·.1) | _ => i.methods.toList.map (·.name) }
  | _, _ => none

def mkExt (name : String) : Option Ext :=
  if name == "maps.clone" then some .mapsClone
  else if name == "internal/bytealg.IndexByteString" || name == "internal/bytealg.IndexByte" then some .indexByte
  else if name == "internal/bytealg.CountString" || name == "internal/bytealg.Count" then some .countByte
  else if name == "internal/bytealg.abigen_runtime_cmpstring" || name == "internal/bytealg.Compare" then some .cmpstring
  else if name == "internal/abi.NoEscape" then some .noEscape
  else none

/-- Effects, in the abstract machine's sense. -/
def isEff (e : PT TI) (o : Oper) : Bool :=
  let kind (t : Nat) : TK := match e.get t with | some i => i.kind | none => .other
  match o.op with
  | .move _ | .assign _ | .pick .. | .alloc _ | .box .. | .build .. | .buildSlice .. | .load .. | .nilCheck _ | .binOp .. | .unOp ..
  | .makeInterface .. | .makeFunc .. | .makeMap .. | .makeSlice .. | .slice .. | .fieldAddr .. | .field .. | .indexAddr .. | .index .. | .lookup .. | .typeAssert .. | .extract .. => false
  | .convert s d _ => (match kind s, kind d with | .slice _, .slice _ => true | .str, .slice _ => true | _, _ => false)
  | .call { callee := .builtin .len, .. } | .call { callee := .builtin .cap, .. } | .call { callee := .builtin .min, .. } | .call { callee := .builtin .max, .. } => false
  | _ => true
/-- Does it look at the heap? -/
def isRead (e : PT TI) (o : Oper) : Bool :=
  let kind (t : Nat) : TK := match e.get t with | some i => i.kind | none => .other
  match o.op with
  | .load .. | .binOp .eql .. | .binOp .neq .. | .slice .. | .lookup .. => true
  | .convert s d _ => (match kind s, kind d with | .int _, .int _ => false | .str, .str => false | .str, .slice _ => false | _, _ => true)
  | .call { callee := .builtin .cap, .. } => true
  | .call { callee := .builtin .len, argTypes, .. } => (match argTypes[0]? with | some t => (match kind t with | .map _ _ => true | _ => false) | none => true)
  | _ => false

def maskOf (acc : List Nat) : List Edge → Nat → Nat
  | [], s => s
  | x :: l, s => maskOf acc l (bif Region.binds .any x then s ||| 2 ^ x.on ||| (match lget acc x.on with | some m => m | none => 0) else s)
/-- Of each operation the set of those that stand before it in every order. -/
def masks : List Oper → List Nat → List Nat
  | [], acc => acc
  | o :: l, acc => masks l (acc ++ [maskOf acc o.after.toList 0])

def bef (ms : List Nat) (i j : Nat) : Bool := match lget ms j with | some m => m.testBit i | none => false

def mkRI (e : PT TI) (opsA : Array Oper) : RI :=
  let ops := opsA.toList.zipIdx
  let ms := masks opsA.toList []
  let eff := (ops.filter fun (o, _) => isEff e o).map (·.2)
  let stage (i : Nat) : Nat := (eff.filter fun x => bef ms x i).length
  let pure := (ops.filter fun (o, _) => !isEff e o).map (·.2)
  let ord := ((eff.zipIdx.flatMap fun (x, k) => (pure.filter fun i => stage i == k) ++ [x])) ++ pure.filter fun i => stage i == eff.length
  let pos (i : Nat) : Nat := ord.idxOf i
  { ord := ord,
    eff := eff,
    fl := ops.filterMap fun (o, i) =>
      if isRead e o && !isEff e o then some (i, (eff.filter fun x => Nat.blt (pos i) (pos x) && !bef ms i x).length) else none,
    pk := eff.filter fun x => (List.range opsA.size).all fun j => j == x || (if Nat.blt (pos j) (pos x) then bef ms j x else bef ms x j) }

def regions : Code → List (Nat × Array Oper × Bool)
  | .region id ops d => [(id, ops, d)]
  | .seq a b | .cond _ a b | .rangeFunc _ _ a b => regions a ++ regions b
  | .block _ c | .loop c | .scope c => regions c
  | _ => []

def mkPT {α : Type} (l : List (Nat × α)) : PT α := l.foldl (fun t (i, x) => t.set i x) .lf

/- THE STATIC LOOK AT CODE -/
def opdOk (G : Nat) : Operand → Bool
  | .global g => Nat.blt g G
  | _ => true
/-- The slots that an operation looks at. -/
def looks (ops : List Oper) (o : Oper) : List Nat :=
  (o.op.operands.toList.filterMap fun | .tmp t => some t | _ => none) ++
  (match o.guard with
   | some (j, _) => (match lget ops j with | some oj => oj.dst.toList | none => [])
   | none => [])

/-- Do two operations meet in a slot? -/
def meets (ops : List Oper) (o o' : Oper) : Bool :=
  (match o.dst with | some d => lmem d (looks ops o') || (match o'.dst with | some d' => Nat.beq d d' | none => false) | none => false) ||
  (match o'.dst with | some d => lmem d (looks ops o) | none => false)

/-- Two operations of a drawn region, the one ahead of the other in the order of reading. -/
def pairOk (ops : List Oper) (ms : List Nat) (ri : RI) (i j : Nat) : Bool :=
  match lget ops i, lget ops j with
  | some oi, some oj => bef ms i j || !(lmem i ri.eff || lmem j ri.pk || meets ops oi oj)
  | _, _ => false

/-- A reader and the effects behind it: from the n-th on they wait for it. -/
def floatOk (ms : List Nat) (ri : RI) (i : Nat) : Nat → List Nat → Bool
  | _, [] => true
  | n, x :: l => bif lmem x ri.eff then (match n with | 0 => bef ms i x && floatOk ms ri i 0 l | n + 1 => floatOk ms ri i n l) else floatOk ms ri i n l

def ordOk (tt : PT TI) (ops : List Oper) (ms : List Nat) (ri : RI) : List Nat → Bool
  | [] => true
  | i :: l =>
    (match lget ops i with
     | some o => (lmem i ri.eff == isEff tt o) && (bif isRead tt o && !isEff tt o then (match floats i ri.fl with | some n => floatOk ms ri i n l | none => false) else true)
     | none => false) &&
    !lmem i l && l.all (pairOk ops ms ri i) && ordOk tt ops ms ri l

/-- Edges lead backwards. -/
def edgesOk : Nat → List Oper → Bool
  | _, [] => true
  | i, o :: l => (o.after.toList.all fun x => !Region.binds .any x || Nat.blt x.on i) && edgesOk (i + 1) l

def allIn (ord : List Nat) : Nat → Bool
  | 0 => true
  | n + 1 => lmem n ord && allIn ord n

/-- May a drawn region's operations be carried out in any order that its edges allow? -/
def drawOk (tt : PT TI) (opsA : Array Oper) (ri : RI) : Bool :=
  let ops := opsA.toList
  edgesOk 0 ops && allIn ri.ord ops.length && ordOk tt ops (masks ops []) ri ri.ord

def codeOk (tt : PT TI) (ri : PT (PT RI)) (G f : Nat) : Code → Bool
  | .region id ops draw =>
    (ops.toList.all fun o => o.op.operands.toList.all (opdOk G)) &&
    (bif draw then (match ri.get f with
      | some t => (match t.get id with
        | some r => drawOk tt ops r
        | none => false)
      | none => false) else true)
  | .seq a b => codeOk tt ri G f a && codeOk tt ri G f b
  | .cond c a b => opdOk G c && codeOk tt ri G f a && codeOk tt ri G f b
  | .block _ c => codeOk tt ri G f c
  | .loop c => codeOk tt ri G f c
  | .rangeFunc x _ a b => opdOk G x && codeOk tt ri G f a && codeOk tt ri G f b
  | .skip | .exit _ | .ret | .refuse _ => true
  | _ => false

end Go.Ab
namespace Go.Ab

/- maps from numbers -/
theorem beq0_t {n : Nat} (h : n = 0) : Nat.beq n 0 = true := by subst h; rfl
theorem beq0_f {n : Nat} (h : ¬ n = 0) : Nat.beq n 0 = false := by
  cases n with
  | zero => exact absurd rfl h
  | succ n => rfl
theorem beq_eq {a b : Nat} : Nat.beq a b = true ↔ a = b := by simp
theorem PT.setA_get {α : Type} (x : α) : ∀ (f : Nat) (t : PT α) (i j : Nat), i < f → (PT.setA f t i x).get j = if j = i then some x else t.get j := by
  intro f
  induction f with
  | zero => intro t i j h; omega
  | succ f ih =>
    intro t i j h
    have half : ∀ i : Nat, i + 1 < f + 1 → i / 2 < f := fun i h => by omega
    have par : ∀ a b : Nat, a % 2 = b % 2 → (a / 2 = b / 2 ↔ a = b) := fun a b h => by omega
    have lf0 : ∀ j, (PT.lf : PT α).get j = none := fun j => rfl
    cases t with
    | lf =>
      cases i with
      | zero => cases j <;> simp [PT.setA, PT.get]
      | succ i =>
        have h' := half i h
        by_cases hi : i % 2 = 0
        · have hi' := beq0_t hi
          cases j with
          | zero => simp [PT.setA, hi', PT.get]
          | succ j =>
            by_cases hj : j % 2 = 0
            · simp [PT.setA, hi', PT.get, beq0_t hj, ih _ _ _ h', par j i (by omega)]
            · simp [PT.setA, hi', PT.get, beq0_f hj, show ¬ j = i by intro e; subst e; omega]
        · have hi' := beq0_f hi
          cases j with
          | zero => simp [PT.setA, hi', PT.get]
          | succ j =>
            by_cases hj : j % 2 = 0
            · simp [PT.setA, hi', PT.get, beq0_t hj, show ¬ j = i by intro e; subst e; omega]
            · simp [PT.setA, hi', PT.get, beq0_f hj, ih _ _ _ h', par j i (by omega)]
    | nd v l r =>
      cases i with
      | zero => cases j <;> simp [PT.setA, PT.get]
      | succ i =>
        have h' := half i h
        by_cases hi : i % 2 = 0
        · have hi' := beq0_t hi
          cases j with
          | zero => simp [PT.setA, hi', PT.get]
          | succ j =>
            by_cases hj : j % 2 = 0
            · simp [PT.setA, hi', PT.get, beq0_t hj, ih _ _ _ h', par j i (by omega)]
            · simp [PT.setA, hi', PT.get, beq0_f hj, show ¬ j = i by intro e; subst e; omega]
        · have hi' := beq0_f hi
          cases j with
          | zero => simp [PT.setA, hi', PT.get]
          | succ j =>
            by_cases hj : j % 2 = 0
            · simp [PT.setA, hi', PT.get, beq0_t hj, show ¬ j = i by intro e; subst e; omega]
            · simp [PT.setA, hi', PT.get, beq0_f hj, ih _ _ _ h', par j i (by omega)]

theorem PT.get_set {α : Type} (t : PT α) (i j : Nat) (x : α) : (t.set i x).get j = if j = i then some x else t.get j :=
  PT.setA_get x _ t i j (by omega)

theorem H.get_put (h : H) (b j : Nat) (o : AO) : (h.put b o).get j = if j = b then some o else h.get j := PT.get_set _ _ _ _
theorem H.get_new (h : H) (j : Nat) (o : AO) : (h.new o).get j = if j = h.sz then some o else h.get j := PT.get_set _ _ _ _
@[simp] theorem H.sz_put (h : H) (b : Nat) (o : AO) : (h.put b o).sz = h.sz := rfl
@[simp] theorem H.sz_new (h : H) (o : AO) : (h.new o).sz = h.sz + 1 := rfl

/-- Where an abstract block lies: the real block, from which cell on, how many cells that has; of a row that may go on: (the known cells, the cells an element). -/
structure BI where
  r : Nat
  s : Nat
  rsz : Nat
  opn : Option (Nat × Nat)

abbrev Emb := Nat → Option BI

mutual
inductive VRel (m : Emb) : AV → Value → Prop
  | bool (b : Bool) : VRel m (.bool b) (.bool b)
  | int (k : IntKind) (n : Int) : VRel m (.int k n) (.int k n)
  | str (s : List UInt8) (b : ByteArray) (h : b.data.toList = s) : VRel m (.str s) (.string b)
  | nilptr : VRel m .nilptr (.pointer none)
  | ptr (b o : Nat) (i : BI) (h : m b = some i) : VRel m (.ptr b o) (.pointer (some ⟨i.r, i.s + o, none⟩))
  | nilslice : VRel m .nilslice (.slice none 0 0)
  | slice (b o l c c' : Nat) (i : BI) (h : m b = some i) (hc : c' = c ∨ ∃ K es, i.opn = some (K, es) ∧ o + c * es = K ∧ c ≤ c' ∧ i.s + o + c' * es ≤ i.rsz) :
      VRel m (.slice b o l c) (.slice (some ⟨i.r, i.s + o, none⟩) l c')
  | slice0 (b o es : Nat) (i : BI) (a : Addr) (h : m b = some i) (hc : i.opn = some (o, es)) (ha : a.block = i.r) : VRel m (.slice b o 0 0) (.slice (some a) 0 0)
  | nilmap : VRel m .nilmap (.map none)
  | map (b : Nat) (i : BI) (h : m b = some i) : VRel m (.map b) (.map (some i.r))
  | nilfunc : VRel m .nilfunc .nilFunc
  | func (f : Nat) (x y : List AV) (x' y' : Array Value) (hx : VRels m x x'.toList) (hy : VRels m y y'.toList) : VRel m (.func f x y) (.func (.func f) x' y')
  | yield (l : Nat) (i : BI) (h : m l = some i) : VRel m (.yield l) (.func (.yield i.r) #[] #[])
  | niliface : VRel m .niliface .nilIface
  | iface (t : Nat) (v : AV) (x : Value) (h : VRel m v x) : VRel m (.iface t v) (.iface t x)
  | agg (x : List AV) (x' : Array Value) (hx : VRels m x x'.toList) : VRel m (.agg x) (.agg x')
  | tup (x : List AV) (x' : Array Value) (hx : VRels m x x'.toList) : VRel m (.tup x) (.tuple x')
inductive VRels (m : Emb) : List AV → List Value → Prop
  | nil : VRels m [] []
  | cons (v : AV) (x : Value) (l : List AV) (l' : List Value) (h : VRel m v x) (hl : VRels m l l') : VRels m (v :: l) (x :: l')
end

def Emb.le (m m' : Emb) : Prop := ∀ b i, m b = some i → m' b = some i
theorem Emb.le.refl (m : Emb) : m.le m := fun _ _ h => h
theorem Emb.le.trans {a b c : Emb} (h : Emb.le a b) (k : Emb.le b c) : Emb.le a c := fun x i e => k x i (h x i e)

mutual
theorem VRel.mono {m m' : Emb} (hm : m.le m') : ∀ {v : AV} {x : Value}, VRel m v x → VRel m' v x
  | _, _, .bool b => .bool b
  | _, _, .int k n => .int k n
  | _, _, .str s b h => .str s b h
  | _, _, .nilptr => .nilptr
  | _, _, .ptr b o i h => .ptr b o i (hm _ _ h)
  | _, _, .nilslice => .nilslice
  | _, _, .slice b o l c c' i h hc => .slice b o l c c' i (hm _ _ h) hc
  | _, _, .slice0 b o es i a h hc ha => .slice0 b o es i a (hm _ _ h) hc ha
  | _, _, .nilmap => .nilmap
  | _, _, .map b i h => .map b i (hm _ _ h)
  | _, _, .nilfunc => .nilfunc
  | _, _, .func f x y x' y' hx hy => .func f x y x' y' (VRels.mono hm hx) (VRels.mono hm hy)
  | _, _, .yield l i h => .yield l i (hm _ _ h)
  | _, _, .niliface => .niliface
  | _, _, .iface t v x h => .iface t v x (VRel.mono hm h)
  | _, _, .agg x x' hx => .agg x x' (VRels.mono hm hx)
  | _, _, .tup x x' hx => .tup x x' (VRels.mono hm hx)
theorem VRels.mono {m m' : Emb} (hm : m.le m') : ∀ {l : List AV} {l' : List Value}, VRels m l l' → VRels m' l l'
  | _, _, .nil => .nil
  | _, _, .cons v x l l' h hl => .cons v x l l' (VRel.mono hm h) (VRels.mono hm hl)
end

theorem VRels.length {m : Emb} : ∀ {l : List AV} {l' : List Value}, VRels m l l' → l.length = l'.length
  | _, _, .nil => rfl
  | _, _, .cons _ _ _ _ _ hl => by simp [VRels.length hl]
theorem VRels.get {m : Emb} : ∀ {l : List AV} {l' : List Value}, VRels m l l' → ∀ (n : Nat) (v : AV), lget l n = some v → ∃ x, l'[n]? = some x ∧ VRel m v x
  | _, _, .nil, n, v, h => by simp [lget] at h
  | _, _, .cons a x l l' h hl, 0, v, e => ⟨x, rfl, by simp [lget] at e; exact e ▸ h⟩
  | _, _, .cons a x l l' h hl, n + 1, v, e => by simpa using VRels.get hl n v (by simpa [lget] using e)
theorem VRels.append {m : Emb} : ∀ {l k : List AV} {l' k' : List Value}, VRels m l l' → VRels m k k' → VRels m (l ++ k) (l' ++ k')
  | _, _, _, _, .nil, hk => hk
  | _, _, _, _, .cons a x l l' h hl, hk => .cons a x _ _ h (VRels.append hl hk)
theorem VRels.part {m : Emb} : ∀ {l : List AV} {l' : List Value}, VRels m l l' → ∀ (o n : Nat) (vs : List AV), lpart o n l = some vs → VRels m vs ((l'.drop o).take n) ∧ o + n ≤ l'.length
  | _, _, .nil, 0, 0, vs, h => by simp [lpart] at h; subst h; exact ⟨.nil, by simp⟩
  | _, _, .nil, 0, n + 1, vs, h => by simp [lpart] at h
  | _, _, .nil, o + 1, n, vs, h => by simp [lpart] at h
  | _, _, .cons a x l l' h hl, 0, 0, vs, e => by simp [lpart] at e; subst e; exact ⟨.nil, by simp⟩
  | _, _, .cons a x l l' h hl, 0, n + 1, vs, e => by
    simp [lpart] at e
    obtain ⟨r, hr, rfl⟩ := e
    obtain ⟨h1, h2⟩ := VRels.part hl 0 n r hr
    exact ⟨.cons a x _ _ h (by simpa using h1), by simpa using h2⟩
  | _, _, .cons a x l l' h hl, o + 1, n, vs, e => by
    have e' : lpart o n l = some vs := by cases n <;> simpa [lpart] using e
    obtain ⟨h1, h2⟩ := VRels.part hl o n vs e'
    exact ⟨by simpa using h1, by simp; omega⟩

theorem lpart_length {α : Type} : ∀ (o n : Nat) (l vs : List α), lpart o n l = some vs → vs.length = n ∧ o + n ≤ l.length
  | 0, 0, l, vs, h => by simp [lpart] at h; subst h; simp
  | 0, n + 1, [], vs, h => by simp [lpart] at h
  | 0, n + 1, a :: l, vs, h => by
    simp [lpart] at h
    obtain ⟨r, hr, rfl⟩ := h
    have := lpart_length 0 n l r hr
    simp; omega
  | o + 1, n, [], vs, h => by simp [lpart] at h
  | o + 1, n, a :: l, vs, h => by
    have e' : lpart o n l = some vs := by cases n <;> simpa [lpart] using h
    have := lpart_length o n l vs e'
    simp; omega

/-- The cells of a list laid over an array. -/
def aput (c : Array Value) : Nat → List Value → Array Value
  | _, [] => c
  | s, v :: vs => aput (c.setIfInBounds s v) (s + 1) vs
theorem aput_size : ∀ (vs : List Value) (c : Array Value) (s : Nat), (aput c s vs).size = c.size
  | [], _, _ => rfl
  | v :: vs, c, s => by rw [aput, aput_size vs]; simp
theorem aput_get : ∀ (vs : List Value) (c : Array Value) (s j : Nat), s + vs.length ≤ c.size → (aput c s vs)[j]? = if s ≤ j ∧ j < s + vs.length then vs[j - s]? else c[j]?
  | [], c, s, j, h => by rw [aput, if_neg (by simp only [List.length_nil]; omega)]
  | v :: vs, c, s, j, h => by
    simp at h
    rw [aput, aput_get vs _ _ _ (by simp; omega)]
    by_cases h1 : s + 1 ≤ j ∧ j < s + 1 + vs.length
    · rw [if_pos h1, if_pos (by simp; omega)]
      have : j - s = (j - (s + 1)) + 1 := by omega
      rw [this]; simp
    · rw [if_neg h1]
      by_cases h2 : j = s
      · subst h2
        rw [if_pos ⟨Nat.le_refl _, by simp⟩, Array.getElem?_setIfInBounds_self_of_lt (by omega)]; simp
      · rw [if_neg (by simp only [List.length_cons]; omega)]
        exact Array.getElem?_setIfInBounds_ne (fun e => h2 e.symm)

theorem lput_length {α : Type} : ∀ (o : Nat) (l vs : List α), (lput o l vs).length = l.length
  | 0, [], [] => rfl
  | 0, a :: l, [] => rfl
  | n + 1, [], [] => rfl
  | n + 1, a :: l, [] => rfl
  | 0, [], v :: vs => rfl
  | n + 1, [], v :: vs => rfl
  | 0, a :: l, v :: vs => by simp [lput, lput_length 0 l vs]
  | n + 1, a :: l, v :: vs => by simp [lput, lput_length n l (v :: vs)]
theorem lget_lput {α : Type} : ∀ (o : Nat) (l vs : List α) (j : Nat), o + vs.length ≤ l.length → lget (lput o l vs) j = if o ≤ j ∧ j < o + vs.length then lget vs (j - o) else lget l j
  | o, l, [], j, h => by
    have : lput o l ([] : List α) = l := by cases o <;> cases l <;> rfl
    rw [this, if_neg (by simp only [List.length_nil]; omega)]
  | o, [], v :: vs, j, h => by simp at h
  | 0, a :: l, v :: vs, 0, h => by simp [lput, lget]
  | 0, a :: l, v :: vs, j + 1, h => by
    simp at h
    simp only [lput, lget]
    rw [lget_lput 0 l vs j (by omega)]
    by_cases c : j < vs.length
    · rw [if_pos (by omega), if_pos (by simp; omega)]; rfl
    · rw [if_neg (by omega), if_neg (by simp; omega)]
  | n + 1, a :: l, v :: vs, 0, h => by simp [lput, lget]
  | n + 1, a :: l, v :: vs, j + 1, h => by
    simp at h
    simp only [lput, lget]
    rw [lget_lput n l (v :: vs) j (by simp; omega)]
    by_cases c : n ≤ j ∧ j < n + (v :: vs).length
    · rw [if_pos c, if_pos (by simp at c ⊢; omega), show j + 1 - (n + 1) = j - n by omega]
    · rw [if_neg c, if_neg (by simp at c ⊢; omega)]

theorem lget_eq {α : Type} : ∀ (l : List α) (n : Nat), lget l n = l[n]?
  | [], n => by simp [lget]
  | a :: l, 0 => rfl
  | a :: l, n + 1 => by simp [lget, lget_eq l n]

/-- May it not be written? -/
def AO.ro : AO → Prop
  | .row r => r.wr = false ∧ r.opn = false
  | .opaq => True
  | _ => False
/-- Does it hold a real block of its own? -/
def AO.live : AO → Bool
  | .dead => false
  | .opaq => false
  | _ => true

def TRel (m : Emb) (t : PT AV) (x : Array Value) : Prop := ∀ i v, t.get i = some v → ∃ y, x[i]? = some y ∧ VRel m v y

def ERel (m : Emb) (p : AV × AV) (q : MapEntry) : Prop := VRel m p.1 q.key ∧ VRel m p.2 q.val

inductive All2 {α β : Type} (R : α → β → Prop) : List α → List β → Prop
  | nil : All2 R [] []
  | cons (a : α) (b : β) (l : List α) (k : List β) (h : R a b) (hl : All2 R l k) : All2 R (a :: l) (b :: k)

theorem All2.imp {α β : Type} {R S : α → β → Prop} (h : ∀ a b, R a b → S a b) {l : List α} {k : List β} (x : All2 R l k) : All2 S l k := by
  induction x with
  | nil => exact .nil
  | cons a b l k hr _ ih => exact .cons a b l k (h _ _ hr) ih
theorem All2.length {α β : Type} {R : α → β → Prop} {l : List α} {k : List β} (x : All2 R l k) : l.length = k.length := by
  induction x with
  | nil => rfl
  | cons a b l k hr _ ih => simp [ih]

/-- The static look at code (laid later): a parameter here. -/
abbrev CodeP := Nat → Code → Prop

def ORel (m : Emb) (C : CodeP) (i : BI) : AO → Option Obj → Prop
  | .row r, o => ∃ c fz, o = some (.cells c r.elem fz) ∧ c.size = i.rsz ∧ i.s + r.n ≤ i.rsz ∧ r.n = r.cells.length ∧ i.opn = (if r.opn then some (r.n, r.es) else none) ∧ (r.opn = false → i.s = 0 ∧ i.rsz = r.n) ∧
      (∀ j v, lget r.cells j = some v → ∃ x, c[i.s + j]? = some x ∧ VRel m v x ∧ oneCell v = true) ∧
      (r.wr = true → fz.1 = fz.2 ∨ (r.strish = true ∧ c.size ≤ fz.1))
  | .dead, _ => True
  | .opaq, _ => True
  | .map es _, o => ∃ es' clock l', i.s = 0 ∧ o = some (.map es' clock) ∧ l'.Perm es'.toList ∧ All2 (ERel m) es l' ∧ (es'.toList.map (·.born)).Nodup ∧ (∀ e ∈ es'.toList, e.born < clock) ∧ (es.map (·.1)).Nodup
  | .siter s pos, o => ∃ b, i.s = 0 ∧ o = some (.stringIter b pos) ∧ b.data.toList = s
  | .miter none _ _ _, o => i.s = 0 ∧ ∃ since seen last, o = some (.mapIter none since seen last)
  | .miter (some mb) _ _ _, o => i.s = 0 ∧ ∃ im since seen last, m mb = some im ∧ o = some (.mapIter (some im.r) since seen last)
  | .loop st pend fn nt tmps params assign body, o => ∃ L : Loop, i.s = 0 ∧ o = some (.loop L) ∧ L.state = st ∧ L.pending = pend ∧ L.fn = fn ∧ L.tmps.size = nt ∧ TRel m tmps L.tmps ∧ L.params.toList = params ∧ L.assign = assign ∧ L.body = body ∧
      C fn assign ∧ C fn body

/-- What an iteration over a map says beyond its own object. -/
def IRel (m : Emb) (h : H) (hp : Array Obj) (i : BI) (mb ver : Nat) (left : List (AV × AV)) (cur : Option (AV × AV)) : Prop :=
  ∃ es v, h.get mb = some (.map es v) ∧ ver ≤ v ∧ (ver = v → ∃ im seen last es' l', m mb = some im ∧ hp[im.r]? = some (.map es' last) ∧
    hp[i.r]? = some (.mapIter (some im.r) last seen last) ∧ l'.Perm (es'.toList.filter fun e => !seen.contains e.born) ∧ All2 (ERel m) left l' ∧
    (∀ k x, cur = some (k, x) → ∃ e ∈ es'.toList, seen.back? = some e.born ∧ VRel m k e.key ∧ VRel m x e.val))

structure RelX (G B : Nat) (C : CodeP) (m : Emb) (h : H) (hp : Array Obj) : Prop where
  dom : ∀ b i, m b = some i → i.r < hp.size
  obj : ∀ b i, m b = some i → ∃ o, h.get b = some o ∧ ORel m C i o hp[i.r]?
  iter : ∀ b i mb ver left cur, m b = some i → h.get b = some (.miter (some mb) ver left cur) → IRel m h hp i mb ver left cur
  inj : ∀ b b' i i' o o', m b = some i → m b' = some i' → h.get b = some o → h.get b' = some o' → o.live = true → o'.live = true → b ≠ b' → i.r ≠ i'.r
  glob : ∀ g, g < G → ∃ i, m g = some i ∧ i.r = g ∧ i.s = 0
  low : ∀ b i, m b = some i → i.r < B → ∃ o, h.get b = some o ∧ o.ro
  bsz : B ≤ hp.size

/-- The same, and every block that is known stands below the counter. -/
structure Rel (G B : Nat) (C : CodeP) (m : Emb) (h : H) (hp : Array Obj) : Prop extends RelX G B C m h hp where
  bound : ∀ b i, m b = some i → b < h.sz

/-- How the world may turn: 'B': below it nothing turns. -/
structure Turn (B : Nat) (m : Emb) (h : H) (w : World) (m' : Emb) (h' : H) (w' : World) : Prop where
  mono : m.le m'
  new : ∀ b i, m' b = some i → m b = none → h.sz ≤ b ∧ (w.heap.size ≤ i.r ∨ ∃ b₀ i₀, m b₀ = some i₀ ∧ i₀.r = i.r)
  hsz : h.sz ≤ h'.sz
  wsz : w.heap.size ≤ w'.heap.size
  frame : ∀ r, r < w.heap.size → (∀ b i, m b = some i → i.r ≠ r) → w'.heap[r]? = w.heap[r]?
  old : ∀ b, b < h.sz → m b = none → h'.get b = h.get b
  low : ∀ r, r < B → w'.heap[r]? = w.heap[r]?
  os : w'.os = w.os
  output : w'.output = w.output
  tape : w'.tape = w.tape

theorem Turn.refl (B : Nat) (m : Emb) (h : H) (w : World) : Turn B m h w m h w :=
  ⟨Emb.le.refl m, fun b i e n => (by rw [n] at e; cases e), Nat.le_refl _, Nat.le_refl _, fun _ _ _ => rfl, fun _ _ _ => rfl, fun _ _ => rfl, rfl, rfl, rfl⟩

theorem Turn.trans {B : Nat} {m₁ m₂ m₃ : Emb} {h₁ h₂ h₃ : H} {w₁ w₂ w₃ : World} (a : Turn B m₁ h₁ w₁ m₂ h₂ w₂) (b : Turn B m₂ h₂ w₂ m₃ h₃ w₃) : Turn B m₁ h₁ w₁ m₃ h₃ w₃ where
  mono := a.mono.trans b.mono
  new := fun x i e n => by
    cases h2 : m₂ x with
    | none =>
      obtain ⟨h1, hr⟩ := b.new x i e h2
      refine ⟨Nat.le_trans a.hsz h1, ?_⟩
      rcases hr with hr | ⟨b₀, i₀, e0, er⟩
      · exact .inl (Nat.le_trans a.wsz hr)
      · cases h0 : m₁ b₀ with
        | none =>
          rcases (a.new b₀ i₀ e0 h0).2 with hr | ⟨c₀, j₀, f0, fr⟩
          · exact .inl (er ▸ hr)
          · exact .inr ⟨c₀, j₀, f0, fr.trans er⟩
        | some j =>
          have := a.mono _ _ h0
          rw [e0] at this
          cases this
          exact .inr ⟨b₀, i₀, h0, er⟩
    | some j =>
      have := b.mono _ _ h2
      rw [e] at this
      cases this
      exact a.new x i h2 n
  hsz := Nat.le_trans a.hsz b.hsz
  wsz := Nat.le_trans a.wsz b.wsz
  frame := fun r hr hn => by
    rw [b.frame r (Nat.lt_of_lt_of_le hr a.wsz) ?_, a.frame r hr hn]
    intro x i e
    cases h1 : m₁ x with
    | none =>
      rcases (a.new x i e h1).2 with h | ⟨c, j, f, fr⟩
      · omega
      · exact fr ▸ hn c j f
    | some j =>
      have := a.mono _ _ h1
      rw [e] at this
      cases this
      exact hn x i h1
  old := fun x hx hn => by
    have h2 : m₂ x = none := by
      cases e : m₂ x with
      | none => rfl
      | some i => exact absurd (a.new x i e hn).1 (by omega)
    rw [b.old x (Nat.lt_of_lt_of_le hx a.hsz) h2, a.old x hx hn]
  low := fun r hr => (b.low r hr).trans (a.low r hr)
  os := b.os.trans a.os
  output := b.output.trans a.output
  tape := b.tape.trans a.tape

theorem Turn.of_world {B : Nat} {m : Emb} {h : H} {w w' : World} (hh : w'.heap = w.heap) (ho : w'.os = w.os) (hu : w'.output = w.output) (ht : w'.tape = w.tape) : Turn B m h w m h w' :=
  ⟨Emb.le.refl m, fun b i e n => (by rw [n] at e; cases e), Nat.le_refl _, by rw [hh]; exact Nat.le_refl _, fun _ _ _ => by rw [hh], fun _ _ _ => rfl, fun _ _ => by rw [hh], ho, hu, ht⟩

theorem ORel.mono {m m' : Emb} (hm : m.le m') {C : CodeP} {i : BI} {o : AO} {x : Option Obj} (h : ORel m C i o x) : ORel m' C i o x := by
  cases o with
  | row r =>
    obtain ⟨c, fz, h1, h2, h3, h4, h5, h5', h6, h7⟩ := h
    exact ⟨c, fz, h1, h2, h3, h4, h5, h5', fun j v e => let ⟨x, a, b, d⟩ := h6 j v e; ⟨x, a, b.mono hm, d⟩, h7⟩
  | dead => trivial
  | opaq => trivial
  | map es v =>
    obtain ⟨es', clock, l', h0, h1, h2, h3, h4⟩ := h
    exact ⟨es', clock, l', h0, h1, h2, h3.imp fun a b r => ⟨r.1.mono hm, r.2.mono hm⟩, h4⟩
  | siter s pos => exact h
  | miter mb ver left cur =>
    cases mb with
    | none => exact h
    | some mb =>
      obtain ⟨h0, im, a, b, c, h1, h2⟩ := h
      exact ⟨h0, im, a, b, c, hm _ _ h1, h2⟩
  | loop st pend fn nt tmps params assign body =>
    obtain ⟨L, h0, h1, h2, h3, h4, h5, h6, h7⟩ := h
    exact ⟨L, h0, h1, h2, h3, h4, h5, fun i v e => let ⟨y, a, b⟩ := h6 i v e; ⟨y, a, b.mono hm⟩, h7⟩

theorem IRel.mono {m m' : Emb} (hm : m.le m') {h : H} {hp : Array Obj} {i : BI} {mb ver : Nat} {left : List (AV × AV)} {cur : Option (AV × AV)} (x : IRel m h hp i mb ver left cur) : IRel m' h hp i mb ver left cur := by
  obtain ⟨es, v, h1, h2, h3⟩ := x
  refine ⟨es, v, h1, h2, fun e => ?_⟩
  obtain ⟨im, seen, last, es', l', a1, a2, a3, a4, a5, a6⟩ := h3 e
  exact ⟨im, seen, last, es', l', hm _ _ a1, a2, a3, a4, a5.imp fun a b r => ⟨r.1.mono hm, r.2.mono hm⟩, fun k x hk => let ⟨e, b1, b2, b3, b4⟩ := a6 k x hk; ⟨e, b1, b2, b3.mono hm, b4.mono hm⟩⟩

section
variable {G B : Nat} {C : CodeP}

/-- Of rows, cells can be read. -/
theorem RelX.load1 {m : Emb} {h : H} {w : World} (R : RelX G B C m h w.heap) {b o : Nat} {i : BI} {v : AV} (hb : m b = some i) (hv : h.load1 b o = some v) :
    ∃ x, w.cell? ⟨i.r, i.s + o, none⟩ = some x ∧ VRel m v x ∧ oneCell v = true := by
  unfold H.load1 H.row? at hv
  obtain ⟨ob, h1, h2⟩ := R.obj b i hb
  rw [h1] at hv
  cases ob with
  | row r =>
    simp only at hv
    obtain ⟨c, fz, e1, e2, e3, e4, e5, e5', e6, e7⟩ := h2
    obtain ⟨x, hx, hr, ho⟩ := e6 o v hv
    exact ⟨x, by simp [World.cell?, e1, hx], hr, ho⟩
  | _ => simp at hv

theorem RelX.loadN {m : Emb} {h : H} {w : World} (R : RelX G B C m h w.heap) {b o n : Nat} {i : BI} {vs : List AV} (hb : m b = some i) (hv : h.loadN b o n = some vs) :
    ∃ xs : List Value, VRels m vs xs ∧ xs.length = n ∧ vs.length = n ∧ (∀ v ∈ vs, oneCell v = true) ∧ (∀ j x, xs[j]? = some x → w.cell? ⟨i.r, i.s + o + j, none⟩ = some x) := by
  unfold H.loadN H.row? at hv
  obtain ⟨ob, h1, h2⟩ := R.obj b i hb
  rw [h1] at hv
  cases ob with
  | row r =>
    simp only at hv
    obtain ⟨c, fz, e1, e2, e3, e4, e5, e5', e6, e7⟩ := h2
    have hl := lpart_length o n r.cells vs hv
    have key : ∀ (n o : Nat) (l vs : List AV) (s : Nat), lpart o n l = some vs → (∀ j v, lget l j = some v → ∃ x, c[s + j]? = some x ∧ VRel m v x ∧ oneCell v = true) →
        ∃ xs : List Value, VRels m vs xs ∧ xs.length = n ∧ (∀ v ∈ vs, oneCell v = true) ∧ (∀ j x, xs[j]? = some x → c[s + o + j]? = some x) := by
      intro n
      induction n with
      | zero =>
        intro o
        induction o with
        | zero => intro l vs s hp _; simp [lpart] at hp; subst hp; exact ⟨[], .nil, rfl, by simp, by simp⟩
        | succ o ih =>
          intro l vs s hp hl
          cases l with
          | nil => simp [lpart] at hp
          | cons a l =>
            have hp' : lpart o 0 l = some vs := by simpa [lpart] using hp
            obtain ⟨xs, a1, a2, a3, a4⟩ := ih l vs (s + 1) hp' (fun j v e => by have := hl (j + 1) v (by simpa [lget] using e); simpa [Nat.add_assoc, Nat.add_comm 1 j] using this)
            exact ⟨xs, a1, a2, a3, fun j x e => by have := a4 j x e; rw [show s + (o + 1) + j = s + 1 + o + j by omega]; exact this⟩
      | succ n ihn =>
        intro o
        induction o with
        | zero =>
          intro l vs s hp hl
          cases l with
          | nil => simp [lpart] at hp
          | cons a l =>
            simp [lpart] at hp
            obtain ⟨r', hr', rfl⟩ := hp
            obtain ⟨x, x1, x2, x3⟩ := hl 0 a rfl
            obtain ⟨xs, a1, a2, a3, a4⟩ := ihn 0 l r' (s + 1) hr' (fun j v e => by have := hl (j + 1) v (by simpa [lget] using e); simpa [Nat.add_assoc, Nat.add_comm 1 j] using this)
            refine ⟨x :: xs, .cons a x _ _ x2 a1, by simp [a2], ?_, ?_⟩
            · intro v hv
              rcases List.mem_cons.1 hv with rfl | hv
              · exact x3
              · exact a3 v hv
            · intro j y e
              cases j with
              | zero => simp at e; subst e; simpa using x1
              | succ j => have := a4 j y (by simpa using e); rw [show s + 0 + (j + 1) = s + 1 + 0 + j by omega]; exact this
        | succ o ih =>
          intro l vs s hp hl
          cases l with
          | nil => simp [lpart] at hp
          | cons a l =>
            have hp' : lpart o (n + 1) l = some vs := by simpa [lpart] using hp
            obtain ⟨xs, a1, a2, a3, a4⟩ := ih l vs (s + 1) hp' (fun j v e => by have := hl (j + 1) v (by simpa [lget] using e); simpa [Nat.add_assoc, Nat.add_comm 1 j] using this)
            exact ⟨xs, a1, a2, a3, fun j x e => by have := a4 j x e; rw [show s + (o + 1) + j = s + 1 + o + j by omega]; exact this⟩
    obtain ⟨xs, a1, a2, a3, a4⟩ := key n o r.cells vs i.s hv e6
    exact ⟨xs, a1, a2, hl.1, a3, fun j x e => by simp [World.cell?, e1, a4 j x e]⟩
  | _ => simp at hv

/-- One real object turned, in step with its abstract block. -/
theorem RelX.put {m : Emb} {h : H} {hp hp' : Array Obj} (R : RelX G B C m h hp) {b : Nat} {i : BI} {o o' : AO} (hb : m b = some i) (ho : h.get b = some o) (hl : o.live = true)
    (hB : B ≤ i.r) (hs : hp'.size = hp.size) (hne : ∀ k, k ≠ i.r → hp'[k]? = hp[k]?) (hO : ORel m C i o' hp'[i.r]?)
    (hI : ∀ mb ver left cur, o' = .miter (some mb) ver left cur → IRel m (h.put b o') hp' i mb ver left cur)
    (hM : ∀ es v, o = .map es v → ∃ es' v', o' = .map es' v' ∧ v < v') : RelX G B C m (h.put b o') hp' where
  dom := fun x j e => by rw [hs]; exact R.dom x j e
  obj := fun x j e => by
    rw [H.get_put]
    by_cases hx : x = b
    · subst hx
      rw [hb] at e; cases e
      exact ⟨o', by simp, hO⟩
    · rw [if_neg hx]
      obtain ⟨ox, h1, h2⟩ := R.obj x j e
      refine ⟨ox, h1, ?_⟩
      cases hlx : ox.live with
      | true => rw [hne _ (R.inj x b j i ox o e hb h1 ho hlx hl hx)]; exact h2
      | false => cases ox <;> simp_all [AO.live] <;> trivial
  iter := fun x j mb ver left cur e hx => by
    rw [H.get_put] at hx
    by_cases hxb : x = b
    · subst hxb
      rw [hb] at e; cases e
      simp at hx
      exact hI mb ver left cur hx
    · rw [if_neg hxb] at hx
      obtain ⟨es, v, h1, h2, h3⟩ := R.iter x j mb ver left cur e hx
      have hxr : j.r ≠ i.r := R.inj x b j i _ o e hb hx ho rfl hl hxb
      by_cases hmb : mb = b
      · subst hmb
        rw [ho] at h1; cases h1
        obtain ⟨es', v', rfl, hv⟩ := hM es v rfl
        exact ⟨es', v', by rw [H.get_put]; simp, by omega, fun e' => by omega⟩
      · refine ⟨es, v, by rw [H.get_put, if_neg hmb]; exact h1, h2, fun e' => ?_⟩
        obtain ⟨im, seen, last, es', l', a1, a2, a3, a4⟩ := h3 e'
        exact ⟨im, seen, last, es', l', a1, by rw [hne _ (R.inj mb b im i _ o a1 hb h1 ho rfl hl hmb)]; exact a2, by rw [hne _ hxr]; exact a3, a4⟩
  inj := fun x y j k ox oy ex ey hx hy lx ly hxy => by
    rw [H.get_put] at hx hy
    by_cases h1 : x = b
    · subst h1
      rw [if_neg (Ne.symm hxy)] at hy
      exact R.inj x y j k o oy ex ey ho hy hl ly hxy
    · rw [if_neg h1] at hx
      by_cases h2 : y = b
      · subst h2
        exact R.inj x y j k ox o ex ey hx ho lx hl hxy
      · rw [if_neg h2] at hy
        exact R.inj x y j k ox oy ex ey hx hy lx ly hxy
  glob := R.glob
  low := fun x j e hj => by
    rw [H.get_put]
    by_cases h1 : x = b
    · subst h1
      rw [hb] at e; cases e; omega
    · rw [if_neg h1]; exact R.low x j e hj
  bsz := by rw [hs]; exact R.bsz

theorem Rel.put {m : Emb} {h : H} {hp hp' : Array Obj} (R : Rel G B C m h hp) {b : Nat} {i : BI} {o o' : AO} (hb : m b = some i) (ho : h.get b = some o) (hl : o.live = true)
    (hB : B ≤ i.r) (hs : hp'.size = hp.size) (hne : ∀ k, k ≠ i.r → hp'[k]? = hp[k]?) (hO : ORel m C i o' hp'[i.r]?)
    (hI : ∀ mb ver left cur, o' = .miter (some mb) ver left cur → IRel m (h.put b o') hp' i mb ver left cur)
    (hM : ∀ es v, o = .map es v → ∃ es' v', o' = .map es' v' ∧ v < v') : Rel G B C m (h.put b o') hp' :=
  ⟨R.toRelX.put hb ho hl hB hs hne hO hI hM, R.bound⟩

def upd (m : Emb) (b : Nat) (i : BI) : Emb := fun x => if x = b then some i else m x
theorem upd_self (m : Emb) (b : Nat) (i : BI) : upd m b i b = some i := by simp [upd]
theorem upd_ne (m : Emb) (b : Nat) (i : BI) {x : Nat} (h : x ≠ b) : upd m b i x = m x := by simp [upd, h]
theorem Rel.upd_le {m : Emb} {h : H} {hp : Array Obj} (R : Rel G B C m h hp) (i : BI) : m.le (upd m h.sz i) := fun b j e => by
  rw [upd_ne _ _ _ (Nat.ne_of_lt (R.bound b j e))]; exact e
theorem upd_le {m : Emb} {n : Nat} (hn : m n = none) (i : BI) : m.le (upd m n i) := fun b j e => by
  rw [upd_ne _ _ _ (fun h => by rw [h, hn] at e; cases e)]; exact e
theorem Rel.none_sz {m : Emb} {h : H} {hp : Array Obj} (R : Rel G B C m h hp) : m h.sz = none := by
  cases e : m h.sz with
  | none => rfl
  | some i => exact absurd (R.bound _ _ e) (Nat.lt_irrefl _)

/-- A new block on both sides. -/
theorem RelX.new {m : Emb} {h : H} {hp : Array Obj} (R : RelX G B C m h hp) (hn : m h.sz = none) {i : BI} {o : AO} {ob : Obj} (hi : i.r = hp.size) (hO : ORel (upd m h.sz i) C i o (some ob))
    (hI : ∀ mb ver left cur, o = .miter (some mb) ver left cur → IRel (upd m h.sz i) (h.new o) (hp.push ob) i mb ver left cur) : RelX G B C (upd m h.sz i) (h.new o) (hp.push ob) where
  dom := fun x j e => by
    by_cases h1 : x = h.sz
    · subst h1
      rw [upd_self] at e; cases e
      simp [hi]
    · rw [upd_ne _ _ _ h1] at e
      have := R.dom x j e
      simp; omega
  obj := fun x j e => by
    by_cases h1 : x = h.sz
    · subst h1
      rw [upd_self] at e; cases e
      exact ⟨o, by rw [H.get_new]; simp, by rw [hi]; simpa using hO⟩
    · rw [upd_ne _ _ _ h1] at e
      obtain ⟨ox, a1, a2⟩ := R.obj x j e
      have := R.dom x j e
      exact ⟨ox, by rw [H.get_new, if_neg h1]; exact a1, by rw [Array.getElem?_push, if_neg (by omega)]; exact a2.mono (upd_le hn i)⟩
  iter := fun x j mb ver left cur e hx => by
    by_cases h1 : x = h.sz
    · subst h1
      rw [upd_self] at e; cases e
      rw [H.get_new] at hx
      simp at hx
      exact hI mb ver left cur hx
    · rw [upd_ne _ _ _ h1] at e
      rw [H.get_new, if_neg h1] at hx
      obtain ⟨es, v, a1, a2, a3⟩ := (R.iter x j mb ver left cur e hx).mono (upd_le hn i)
      have hjr := R.dom x j e
      refine ⟨es, v, ?_, a2, fun e' => ?_⟩
      · rw [H.get_new]
        by_cases h2 : mb = h.sz
        · exfalso
          obtain ⟨ox, b1, b2⟩ := R.obj x j e
          rw [hx] at b1; cases b1
          obtain ⟨_, im, _, _, _, b3, _⟩ := b2
          rw [h2, hn] at b3
          cases b3
        · rw [if_neg h2]; exact a1
      · obtain ⟨im, seen, last, es', l', c1, c2, c3, c4⟩ := a3 e'
        have hlt : im.r < hp.size := by
          rcases Nat.lt_or_ge im.r hp.size with hh | hh
          · exact hh
          · rw [Array.getElem?_eq_none hh] at c2; cases c2
        exact ⟨im, seen, last, es', l', c1, by rw [Array.getElem?_push, if_neg (by omega)]; exact c2, by rw [Array.getElem?_push, if_neg (by omega)]; exact c3, c4⟩
  inj := fun x y j k ox oy ex ey hx hy lx ly hxy => by
    rw [H.get_new] at hx hy
    by_cases h1 : x = h.sz
    · subst h1
      rw [upd_self] at ex; cases ex
      rw [upd_ne _ _ _ (Ne.symm hxy)] at ey
      have := R.dom y k ey
      omega
    · rw [upd_ne _ _ _ h1] at ex
      rw [if_neg h1] at hx
      by_cases h2 : y = h.sz
      · subst h2
        rw [upd_self] at ey; cases ey
        have := R.dom x j ex
        omega
      · rw [upd_ne _ _ _ h2] at ey
        rw [if_neg h2] at hy
        exact R.inj x y j k ox oy ex ey hx hy lx ly hxy
  glob := fun g hg => let ⟨j, a, b⟩ := R.glob g hg; ⟨j, upd_le hn i _ _ a, b⟩
  low := fun x j e hj => by
    have := R.bsz
    by_cases h1 : x = h.sz
    · subst h1
      rw [upd_self] at e; cases e
      omega
    · rw [upd_ne _ _ _ h1] at e
      rw [H.get_new, if_neg h1]
      exact R.low x j e hj
  bsz := by have := R.bsz; simp; omega

theorem Rel.new {m : Emb} {h : H} {hp : Array Obj} (R : Rel G B C m h hp) {i : BI} {o : AO} {ob : Obj} (hi : i.r = hp.size) (hO : ORel (upd m h.sz i) C i o (some ob))
    (hI : ∀ mb ver left cur, o = .miter (some mb) ver left cur → IRel (upd m h.sz i) (h.new o) (hp.push ob) i mb ver left cur) : Rel G B C (upd m h.sz i) (h.new o) (hp.push ob) :=
  ⟨R.toRelX.new R.none_sz hi hO hI, fun x j e => by
    by_cases h1 : x = h.sz
    · subst h1; simp
    · rw [upd_ne _ _ _ h1] at e
      have := R.bound x j e
      simp; omega⟩

/-- New real blocks alone. -/
theorem RelX.grow {m : Emb} {h : H} {hp hp' : Array Obj} (R : RelX G B C m h hp) (hs : hp.size ≤ hp'.size) (hne : ∀ k, k < hp.size → hp'[k]? = hp[k]?) : RelX G B C m h hp' where
  dom := fun x j e => Nat.lt_of_lt_of_le (R.dom x j e) hs
  obj := fun x j e => let ⟨o, a, b⟩ := R.obj x j e; ⟨o, a, by rw [hne _ (R.dom x j e)]; exact b⟩
  iter := fun x j mb ver left cur e hx => by
    obtain ⟨es, v, a1, a2, a3⟩ := R.iter x j mb ver left cur e hx
    refine ⟨es, v, a1, a2, fun e' => ?_⟩
    obtain ⟨im, seen, last, es', l', c1, c2, c3, c4⟩ := a3 e'
    exact ⟨im, seen, last, es', l', c1, by rw [hne _ (R.dom mb im c1)]; exact c2, by rw [hne _ (R.dom x j e)]; exact c3, c4⟩
  inj := R.inj
  glob := R.glob
  low := R.low
  bsz := Nat.le_trans R.bsz hs

theorem Rel.grow {m : Emb} {h : H} {hp hp' : Array Obj} (R : Rel G B C m h hp) (hs : hp.size ≤ hp'.size) (hne : ∀ k, k < hp.size → hp'[k]? = hp[k]?) : Rel G B C m h hp' :=
  ⟨R.toRelX.grow hs hne, R.bound⟩

/-- A slice that grew where it lay: the new abstract block takes the old one's real block. -/
theorem Rel.take {m : Emb} {h : H} {hp hp' : Array Obj} (R : Rel G B C m h hp) {b : Nat} {i i' : BI} {o o' : AO} (hb : m b = some i) (ho : h.get b = some o) (hl : o.live = true) (hmap : ∀ es v, o ≠ .map es v)
    (hB : B ≤ i.r) (hir : i'.r = i.r) (hs : hp'.size = hp.size) (hne : ∀ k, k ≠ i.r → hp'[k]? = hp[k]?) (hO : ORel (upd m h.sz i') C i' o' hp'[i.r]?)
    (hI : ∀ mb ver left cur, o' ≠ .miter (some mb) ver left cur) : Rel G B C (upd m h.sz i') ((h.new o').put b .dead) hp' := by
  have hbs : b ≠ h.sz := Nat.ne_of_lt (R.bound b i hb)
  have get : ∀ x, ((h.new o').put b .dead).get x = if x = b then some .dead else if x = h.sz then some o' else h.get x := fun x => by rw [H.get_put, H.get_new]
  exact {
    dom := fun x j e => by
      by_cases h1 : x = h.sz
      · subst h1
        rw [upd_self] at e; cases e
        have := R.dom b i hb
        omega
      · rw [upd_ne _ _ _ h1] at e
        have := R.dom x j e
        omega
    bound := fun x j e => by
      by_cases h1 : x = h.sz
      · subst h1; simp
      · rw [upd_ne _ _ _ h1] at e
        have := R.bound x j e
        simp; omega
    obj := fun x j e => by
      rw [get]
      by_cases h1 : x = b
      · exact ⟨.dead, by rw [if_pos h1], trivial⟩
      · rw [if_neg h1]
        by_cases h2 : x = h.sz
        · subst h2
          rw [upd_self] at e; cases e
          exact ⟨o', by rw [if_pos rfl], by rw [hir]; exact hO⟩
        · rw [if_neg h2]
          rw [upd_ne _ _ _ h2] at e
          obtain ⟨ox, a1, a2⟩ := R.obj x j e
          refine ⟨ox, a1, ?_⟩
          cases hlx : ox.live with
          | true => rw [hne _ (R.inj x b j i ox o e hb a1 ho hlx hl h1)]; exact a2.mono (R.upd_le i')
          | false => cases ox <;> simp_all [AO.live] <;> trivial
    iter := fun x j mb ver left cur e hx => by
      rw [get] at hx
      by_cases h1 : x = b
      · rw [if_pos h1] at hx; cases hx
      · rw [if_neg h1] at hx
        by_cases h2 : x = h.sz
        · rw [if_pos h2] at hx
          cases hx
          exact absurd rfl (hI mb ver left cur)
        · rw [if_neg h2] at hx
          rw [upd_ne _ _ _ h2] at e
          have hit := R.iter x j mb ver left cur e hx
          obtain ⟨es, v, a1, a2, a3⟩ := hit
          have hmb : mb ≠ b := fun e' => by subst e'; rw [ho] at a1; cases a1; exact hmap _ _ rfl
          have hms : mb ≠ h.sz := by
            obtain ⟨ox, b1, b2⟩ := R.obj x j e
            rw [hx] at b1; cases b1
            obtain ⟨_, im, _, _, _, b3, _⟩ := b2
            exact Nat.ne_of_lt (R.bound mb im b3)
          have hxr : j.r ≠ i.r := R.inj x b j i _ o e hb hx ho rfl hl h1
          refine ⟨es, v, by rw [get, if_neg hmb, if_neg hms]; exact a1, a2, fun e' => ?_⟩
          obtain ⟨im, seen, last, es', l', c1, c2, c3, c4, c5, c6⟩ := a3 e'
          exact ⟨im, seen, last, es', l', R.upd_le i' _ _ c1, by rw [hne _ (R.inj mb b im i _ o c1 hb a1 ho rfl hl hmb)]; exact c2, by rw [hne _ hxr]; exact c3, c4,
            c5.imp fun a b r => ⟨r.1.mono (R.upd_le i'), r.2.mono (R.upd_le i')⟩, fun k x hk => let ⟨e, d1, d2, d3, d4⟩ := c6 k x hk; ⟨e, d1, d2, d3.mono (R.upd_le i'), d4.mono (R.upd_le i')⟩⟩
    inj := fun x y j k ox oy ex ey hx hy lx ly hxy => by
      rw [get] at hx hy
      by_cases h1 : x = b
      · rw [if_pos h1] at hx; cases hx; cases lx
      · rw [if_neg h1] at hx
        by_cases k1 : y = b
        · rw [if_pos k1] at hy; cases hy; cases ly
        · rw [if_neg k1] at hy
          by_cases h2 : x = h.sz
          · subst h2
            rw [upd_self] at ex; cases ex
            rw [upd_ne _ _ _ (Ne.symm hxy)] at ey
            rw [if_neg (Ne.symm hxy)] at hy
            rw [hir]
            exact fun e' => R.inj y b k i oy o ey hb hy ho ly hl k1 e'.symm
          · rw [if_neg h2] at hx
            rw [upd_ne _ _ _ h2] at ex
            by_cases k2 : y = h.sz
            · subst k2
              rw [upd_self] at ey; cases ey
              rw [hir]
              exact R.inj x b j i ox o ex hb hx ho lx hl h1
            · rw [if_neg k2] at hy
              rw [upd_ne _ _ _ k2] at ey
              exact R.inj x y j k ox oy ex ey hx hy lx ly hxy
    glob := fun g hg => let ⟨j, a, b⟩ := R.glob g hg; ⟨j, R.upd_le i' _ _ a, b⟩
    low := fun x j e hj => by
      by_cases h1 : x = h.sz
      · subst h1
        rw [upd_self] at e; cases e
        omega
      · rw [upd_ne _ _ _ h1] at e
        rw [get]
        by_cases h2 : x = b
        · subst h2
          rw [hb] at e; cases e
          omega
        · rw [if_neg h2, if_neg h1]
          exact R.low x j e hj
    bsz := by rw [hs]; exact R.bsz }

theorem Turn.put {m : Emb} {h : H} {w w' : World} {b : Nat} {i : BI} {o' : AO} (hb : m b = some i) (hB : B ≤ i.r) (hs : w'.heap.size = w.heap.size) (hne : ∀ k, k ≠ i.r → w'.heap[k]? = w.heap[k]?)
    (ho : w'.os = w.os) (hu : w'.output = w.output) (ht : w'.tape = w.tape) : Turn B m h w m (h.put b o') w' :=
  ⟨Emb.le.refl m, fun b i e n => (by rw [n] at e; cases e), Nat.le_refl _, Nat.le_of_eq hs.symm, fun r _ hr => hne r fun e => hr b i hb e.symm, fun x hx hn => by rw [H.get_put, if_neg (fun e => by rw [e, hb] at hn; cases hn)], fun r hr => hne r (by omega), ho, hu, ht⟩

theorem Turn.alloc {C : CodeP} {m : Emb} {h : H} {w w' : World} (R : Rel G B C m h w.heap) {i : BI} {o : AO} {ob : Obj} (hi : i.r = w.heap.size) (hw : w'.heap = w.heap.push ob)
    (ho : w'.os = w.os) (hu : w'.output = w.output) (ht : w'.tape = w.tape) : Turn B m h w (upd m h.sz i) (h.new o) w' :=
  ⟨R.upd_le i, (fun b j e n => by
      by_cases h1 : b = h.sz
      · subst h1
        rw [upd_self] at e; cases e
        exact ⟨Nat.le_refl _, .inl (by omega)⟩
      · rw [upd_ne _ _ _ h1, n] at e; cases e),
    by simp, by rw [hw]; simp, fun r hr _ => by rw [hw, Array.getElem?_push, if_neg (by omega)], fun x hx _ => by rw [H.get_new, if_neg (by omega)], fun r hr => by have := R.bsz; rw [hw, Array.getElem?_push, if_neg (by omega)], ho, hu, ht⟩

theorem Turn.take {C : CodeP} {m : Emb} {h : H} {w w' : World} (R : Rel G B C m h w.heap) {b : Nat} {i i' : BI} {o' : AO} (hb : m b = some i) (hB : B ≤ i.r) (hir : i'.r = i.r) (hs : w'.heap.size = w.heap.size)
    (hne : ∀ k, k ≠ i.r → w'.heap[k]? = w.heap[k]?) (ho : w'.os = w.os) (hu : w'.output = w.output) (ht : w'.tape = w.tape) : Turn B m h w (upd m h.sz i') ((h.new o').put b .dead) w' :=
  ⟨R.upd_le i', (fun x j e n => by
      by_cases h1 : x = h.sz
      · subst h1
        rw [upd_self] at e; cases e
        exact ⟨Nat.le_refl _, .inr ⟨b, i, hb, hir.symm⟩⟩
      · rw [upd_ne _ _ _ h1, n] at e; cases e),
    by simp, Nat.le_of_eq hs.symm, fun r _ hr => hne r fun e => hr b i hb e.symm, fun x hx hn => by rw [H.get_put, if_neg (fun e => by rw [e, hb] at hn; cases hn), H.get_new, if_neg (by omega)], fun r hr => hne r (by omega), ho, hu, ht⟩

theorem Turn.grow {m : Emb} {h : H} {w w' : World} (hB : B ≤ w.heap.size) (hs : w.heap.size ≤ w'.heap.size) (hne : ∀ k, k < w.heap.size → w'.heap[k]? = w.heap[k]?)
    (ho : w'.os = w.os) (hu : w'.output = w.output) (ht : w'.tape = w.tape) : Turn B m h w m h w' :=
  ⟨Emb.le.refl m, fun b i e n => (by rw [n] at e; cases e), Nat.le_refl _, hs, fun r hr _ => hne r hr, fun _ _ _ => rfl, fun r hr => hne r (by omega), ho, hu, ht⟩
end
end Go.Ab
namespace Go.Ab

section kinds
variable {P : Program} {t : Nat} {ti : TI}
theorem mkTI_info (h : mkTI P t = some ti) : ∃ i u, P.info? t = some i ∧ P.underlying t = some u ∧ i.size = ti.size ∧ i.bytes = ti.bytes ∧ i.comparable = ti.comparable ∧ mkKind P t = ti.kind ∧
    (∀ z, ti.zero = some z → ∃ zv, i.zero = some zv ∧ ofScalars zv.cells.toList = some z ∧ z.length = ti.size ∧ ti.agg = (match zv with | .agg _ => true | _ => false)) ∧
    ti.agg = (match u with | .struct _ | .array _ _ => true | _ => false) ∧ ti.eqOk = (match u with | .struct _ => !P.stoodInHeld t && !(P.eqGuardType P.depth t) | _ => false) ∧
    ti.ms = (match u with | .interface ms => ms.toList.map (·.1) | _ => i.methods.toList.map (·.name)) := by
  unfold mkTI at h
  cases hi : P.info? t with
  | none => simp [hi] at h
  | some i =>
    cases hu : P.underlying t with
    | none => simp [hi, hu] at h
    | some u =>
      simp only [hi, hu, Option.some.injEq] at h
      subst h
      refine ⟨i, u, rfl, rfl, rfl, rfl, rfl, rfl, ?_, rfl, rfl, rfl⟩
      intro z hz
      dsimp only at hz
      cases hzv : i.zero with
      | none => rw [hzv] at hz; cases hz
      | some zv =>
        rw [hzv] at hz
        dsimp only at hz
        cases hsc : ofScalars zv.cells.toList with
        | none => rw [hsc] at hz; cases hz
        | some l =>
          rw [hsc] at hz
          dsimp only at hz
          rw [Option.ite_none_right_eq_some] at hz
          obtain ⟨⟨g1, g2⟩, hz⟩ := hz
          injection hz with hz
          subst hz
          exact ⟨zv, rfl, hsc, g1, g2⟩

theorem und_of (h : mkTI P t = some ti) : ∃ u, P.underlying t = some u := let ⟨_, u, _, hu, _⟩ := mkTI_info h; ⟨u, hu⟩
theorem kind_of (h : mkTI P t = some ti) : mkKind P t = ti.kind := let ⟨_, _, _, _, _, _, _, hk, _⟩ := mkTI_info h; hk
theorem mkKind_slice {e : Nat} (h : mkKind P t = .slice e) : P.underlying t = some (.slice e) := by
  unfold mkKind at h; split at h <;> simp_all
theorem mkKind_array {n e : Nat} (h : mkKind P t = .array n e) : P.underlying t = some (.array n e) := by
  unfold mkKind at h; split at h <;> simp_all
theorem mkKind_ptr {e : Nat} (h : mkKind P t = .ptr e) : P.underlying t = some (.pointer e) := by
  unfold mkKind at h; split at h <;> simp_all
theorem mkKind_map {k e : Nat} (h : mkKind P t = .map k e) : P.underlying t = some (.map k e) := by
  unfold mkKind at h; split at h <;> simp_all
theorem mkKind_int {k : IntKind} (h : mkKind P t = .int k) : P.underlying t = some (.int k) := by
  unfold mkKind at h; split at h <;> simp_all
theorem mkKind_str (h : mkKind P t = .str) : P.underlying t = some .string := by
  unfold mkKind at h; split at h <;> simp_all
theorem mkKind_bool (h : mkKind P t = .bool) : P.underlying t = some .bool := by
  unfold mkKind at h; split at h <;> simp_all
theorem mkKind_uptr (h : mkKind P t = .uptr) : P.underlying t = some .unsafePointer := by
  unfold mkKind at h; split at h <;> simp_all
theorem mkKind_func (h : mkKind P t = .func) : ∃ a b c, P.underlying t = some (.func a b c) := by
  unfold mkKind at h; split at h <;> simp_all
theorem mkKind_iface {b : Bool} (h : mkKind P t = .iface b) : ∃ ms, P.underlying t = some (.interface ms) ∧ ms.isEmpty = b := by
  unfold mkKind at h; split at h <;> simp_all
theorem mkKind_struct {fs : List (Nat × Nat × Bool)} (h : mkKind P t = .struct fs) : ∃ fa, P.underlying t = some (.struct fa) ∧ fs = fa.toList.map fun f => (f.offset, f.type, f.name == "_") := by
  unfold mkKind at h; split at h <;> simp_all
end kinds

section runs
variable {P : Program}
theorem run_underlying' {t : TypeId} {d : TypeDesc} (h : P.underlying t = some d) (w : World) : (underlying t).run P w = .ok d w := by simp [underlying, h]
theorem run_typeInfo' {t : TypeId} {i : TypeInfo} (h : P.info? t = some i) (w : World) : (typeInfo t).run P w = .ok i w := by simp [typeInfo, h]
theorem run_sizeOf' {t : TypeId} {ti : TI} (h : mkTI P t = some ti) (w : World) : (sizeOf t).run P w = .ok ti.size w := by
  obtain ⟨i, u, hi, hu, hs, _⟩ := mkTI_info h
  simp [sizeOf, run_typeInfo' hi, hs]
theorem run_isAgg' {t : TypeId} {ti : TI} (h : mkTI P t = some ti) (w : World) : (isAgg t).run P w = .ok ti.agg w := by
  obtain ⟨i, u, hi, hu, _, _, _, _, _, ha, _⟩ := mkTI_info h
  rw [ha]
  simp only [isAgg, Sem.run_bind, run_underlying' hu, Result.andThen_ok]
  cases u <;> rfl
theorem run_zeroValue' {t : TypeId} {i : TypeInfo} {z : Value} (h : P.info? t = some i) (hz : i.zero = some z) (w : World) : (zeroValue t).run P w = .ok z w := by
  simp [zeroValue, run_typeInfo' h, hz]
theorem run_load' {w : World} {a : Addr} {x : Value} (h : w.cell? a = some x) : (load a).run P w = .ok x w := by simp [h]
end runs

/- constants -/
theorem ofScalar_rel (m : Emb) {v : Value} {a : AV} (h : ofScalar v = some a) : VRel m a v ∧ oneCell a = true := by
  unfold ofScalar at h
  split at h <;> first | (cases h; done) | skip
  all_goals
    injection h with h
    subst h
  · exact ⟨.bool _, rfl⟩
  · exact ⟨.int _ _, rfl⟩
  · exact ⟨.str _ _ rfl, rfl⟩
  · exact ⟨.nilptr, rfl⟩
  · exact ⟨.nilslice, rfl⟩
  · exact ⟨.nilmap, rfl⟩
  · exact ⟨.nilfunc, rfl⟩
  · exact ⟨.niliface, rfl⟩
  · exact ⟨.func _ _ _ _ _ .nil .nil, rfl⟩
theorem ofScalars_rel (m : Emb) : ∀ {l : List Value} {r : List AV}, ofScalars l = some r → VRels m r l ∧ ∀ v ∈ r, oneCell v = true
  | [], r, h => by simp [ofScalars] at h; subst h; exact ⟨.nil, by simp⟩
  | v :: l, r, h => by
    unfold ofScalars at h
    split at h
    · rename_i a r' ha hr
      injection h with h
      subst h
      obtain ⟨h1, h2⟩ := ofScalar_rel m ha
      obtain ⟨h3, h4⟩ := ofScalars_rel m hr
      refine ⟨.cons _ _ _ _ h1 h3, fun x hx => ?_⟩
      rcases List.mem_cons.1 hx with rfl | hx
      · exact h2
      · exact h4 x hx
    · cases h
theorem ofConst_rel (m : Emb) {v : Value} {a : AV} (h : ofConst v = some a) : VRel m a v := by
  unfold ofConst at h
  split at h
  · cases h1 : ofScalars _ with
    | none => rw [h1] at h; cases h
    | some l => rw [h1] at h; injection h with h; subst h; exact .agg _ _ (ofScalars_rel m h1).1
  · cases h1 : ofScalars _ with
    | none => rw [h1] at h; cases h
    | some l => rw [h1] at h; injection h with h; subst h; exact .iface _ _ _ (.agg _ _ (ofScalars_rel m h1).1)
  · cases h1 : ofScalar _ with
    | none => rw [h1] at h; cases h
    | some l => rw [h1] at h; injection h with h; subst h; exact .iface _ _ _ (ofScalar_rel m h1).1
  · injection h with h; subst h; exact .tup _ _ .nil
  · exact (ofScalar_rel m h).1

/-- A frame's operands, by its slots. -/
def ev (t : Array Value) : Operand → Value
  | .tmp i => t.getD i undef
  | .const v => v
  | .global g => .pointer (some ⟨g, 0, none⟩)
  | .func f => .func (.func f) #[] #[]
theorem eval_ev (fr : Frame) : fr.eval = ev fr.tmps := by funext x; cases x <;> rfl

section
variable {G B : Nat} {C : CodeP} {P : Program} {m : Emb} {h : H} {w : World} {fr : Fr} {t : Array Value}

theorem eval_relX {hp : Array Obj} (R : RelX G B C m h hp) (F : TRel m fr.tmps t) {x : Operand} (hx : opdOk G x = true) {v : AV} (hv : fr.eval x = some v) : VRel m v (ev t x) := by
  cases x with
  | tmp i =>
    obtain ⟨y, hy, hr⟩ := F i v hv
    have : t.getD i undef = y := by simp [Array.getD_eq_getD_getElem?, hy]
    simpa [ev, this] using hr
  | const c => exact ofConst_rel m hv
  | global g =>
    simp [Fr.eval] at hv
    subst hv
    obtain ⟨i, hi, h1, h2⟩ := R.glob g (by simpa [opdOk] using hx)
    have := VRel.ptr (m := m) g 0 i hi
    rw [h1, h2] at this
    exact this
  | func f =>
    simp [Fr.eval] at hv
    subst hv
    exact .func f [] [] #[] #[] .nil .nil
theorem eval_rel {hp : Array Obj} (R : Rel G B C m h hp) (F : TRel m fr.tmps t) {x : Operand} (hx : opdOk G x = true) {v : AV} (hv : fr.eval x = some v) : VRel m v (ev t x) := eval_relX R.toRelX F hx hv
theorem evals_relX {hp : Array Obj} (R : RelX G B C m h hp) (F : TRel m fr.tmps t) : ∀ {l : List Operand}, l.all (opdOk G) = true → ∀ {vs : List AV}, fr.evals l = some vs → VRels m vs (l.map (ev t))
  | [], _, vs, hv => by simp [Fr.evals] at hv; subst hv; exact .nil
  | x :: l, hx, vs, hv => by
    simp at hx
    unfold Fr.evals at hv
    cases h1 : fr.eval x with
    | none => rw [h1] at hv; cases hv
    | some a =>
      cases h2 : fr.evals l with
      | none => rw [h1, h2] at hv; cases hv
      | some r =>
        rw [h1, h2] at hv
        injection hv with hv
        subst hv
        exact .cons _ _ _ _ (eval_relX R F hx.1 h1) (evals_relX R F (by simpa using hx.2) h2)

theorem evals_rel {hp : Array Obj} (R : Rel G B C m h hp) (F : TRel m fr.tmps t) {l : List Operand} (hx : l.all (opdOk G) = true) {vs : List AV} (hv : fr.evals l = some vs) : VRels m vs (l.map (ev t)) := evals_relX R.toRelX F hx hv

/-- What is to be shown of an operation that goes on with a value. -/
def OpTo (P : Program) (t : Array Value) (o : Oper) (w : World) (v : Value) (w' : World) : Prop :=
  (execOp (ev t) o).run P w = .ok (.value v) w' ∨ ((execOp (ev t) o).run P w = .ok .skip w' ∧ v = undef)

def Sim1 (P : Program) (G B : Nat) (C : CodeP) (m : Emb) (h : H) (w : World) (t : Array Value) (o : Oper) (v : AV) (h' : H) : Prop :=
  ∃ v' w' m', OpTo P t o w v' w' ∧ VRel m' v v' ∧ Rel G B C m' h' w'.heap ∧ Turn B m h w m' h' w'

/-- An operation that only computes. -/
theorem Sim1.pure (R : Rel G B C m h w.heap) {o : Oper} {v : AV} {x : Value} (hr : (execOp (ev t) o).run P w = .ok (.value x) w) (hv : VRel m v x) : Sim1 P G B C m h w t o v h :=
  ⟨x, w, m, .inl hr, hv, R, Turn.refl _ _ _ _⟩

theorem VRel.cells {v : AV} {x : Value} (hv : VRel m v x) : VRels m v.cells x.cells.toList := by
  cases hv with
  | agg x x' hx => exact hx
  | _ => exact .cons _ _ _ _ (by constructor <;> assumption) .nil

theorem VRel.oneCell' {v : AV} {x : Value} (hv : VRel m v x) (h1 : oneCell v = true) : x.oneCell' = true := by
  cases hv <;> first | rfl | (simp [oneCell] at h1)

theorem VRels.of_get : ∀ {l : List AV} {l' : List Value}, l.length = l'.length → (∀ n v, lget l n = some v → ∃ x, l'[n]? = some x ∧ VRel m v x) → VRels m l l'
  | [], [], _, _ => .nil
  | [], _ :: _, hl, _ => by simp at hl
  | _ :: _, [], hl, _ => by simp at hl
  | a :: l, x :: l', hl, hg => by
    obtain ⟨y, hy, hr⟩ := hg 0 a rfl
    simp at hy
    subst hy
    exact .cons _ _ _ _ hr (VRels.of_get (by simpa using hl) fun n v hn => by have := hg (n + 1) v (by simpa [lget] using hn); simpa using this)

/-- A new row. -/
theorem row_newX (R : RelX G B C m h w.heap) (hn : m h.sz = none) {elem : Nat} {cells : List AV} {cs : Array Value} (hc : VRels m cells cs.toList) (h1 : ∀ v ∈ cells, oneCell v = true) {opn : Bool} {es : Nat} {strish : Bool} {rest : Array Value} {fz : Nat × Nat}
    (hrest : opn = false → rest = #[]) (hfz : fz.1 = fz.2 ∨ (strish = true ∧ (cs ++ rest).size ≤ fz.1)) :
    RelX G B C (upd m h.sz ⟨w.heap.size, 0, (cs ++ rest).size, if opn then some (cells.length, es) else none⟩) (newRow h elem cells opn es strish) (w.heap.push (.cells (cs ++ rest) elem fz)) := by
  refine R.new hn rfl ?_ (fun _ _ _ _ e => by cases e)
  have hl := hc.length
  refine ⟨cs ++ rest, fz, rfl, rfl, ?_, rfl, rfl, ?_, ?_, fun _ => hfz⟩
  · simp at hl ⊢; omega
  · intro hop; rw [hrest hop]; simp at hl ⊢; omega
  · intro j v hj
    obtain ⟨x, hx, hr⟩ := hc.get j v hj
    refine ⟨x, ?_, hr.mono (upd_le hn _), h1 v (by rw [lget_eq] at hj; exact List.mem_of_getElem? hj)⟩
    have : j < cs.size := by
      rcases Nat.lt_or_ge j cs.size with g | g
      · exact g
      · rw [List.getElem?_eq_none (by simpa using g)] at hx; cases hx
    rw [Nat.zero_add, Array.getElem?_append_left this]
    simpa using hx

theorem row_new (R : Rel G B C m h w.heap) {elem : Nat} {cells : List AV} {cs : Array Value} (hc : VRels m cells cs.toList) (h1 : ∀ v ∈ cells, oneCell v = true) {opn : Bool} {es : Nat} {strish : Bool} {rest : Array Value} {fz : Nat × Nat}
    (hrest : opn = false → rest = #[]) (hfz : fz.1 = fz.2 ∨ (strish = true ∧ (cs ++ rest).size ≤ fz.1)) :
    Rel G B C (upd m h.sz ⟨w.heap.size, 0, (cs ++ rest).size, if opn then some (cells.length, es) else none⟩) (newRow h elem cells opn es strish) (w.heap.push (.cells (cs ++ rest) elem fz)) :=
  ⟨row_newX R.toRelX R.none_sz hc h1 hrest hfz, fun x j e => by
    by_cases hx : x = h.sz
    · subst hx; simp [newRow]
    · rw [upd_ne _ _ _ hx] at e
      have := R.bound x j e
      simp [newRow]; omega⟩

/-- What is to be shown of an operation that lays one new object and looks at nothing of the heap. -/
def SimA (P : Program) (G B : Nat) (C : CodeP) (m : Emb) (h : H) (w : World) (t : Array Value) (o : Oper) (v : AV) (h' : H) : Prop :=
  ∃ v' w' ab ob i, (execOp (ev t) o).run P w = .ok (.value v') w' ∧ i.r = w.heap.size ∧ w'.heap = w.heap.push ob ∧ w'.os = w.os ∧ w'.output = w.output ∧ w'.tape = w.tape ∧ h' = h.new ab ∧
    VRel (upd m h.sz i) v v' ∧ RelX G B C (upd m h.sz i) h' w'.heap

theorem SimA.sim1 (R : Rel G B C m h w.heap) {o : Oper} {v : AV} {h' : H} (s : SimA P G B C m h w t o v h') : Sim1 P G B C m h w t o v h' := by
  obtain ⟨v', w', ab, ob, i, h1, h2, h3, h4, h5, h6, rfl, h8, h9⟩ := s
  refine ⟨v', w', _, .inl h1, h8, ⟨h9, fun x j e => ?_⟩, Turn.alloc R h2 h3 h4 h5 h6⟩
  by_cases hx : x = h.sz
  · subst hx; simp
  · rw [upd_ne _ _ _ hx] at e
    have := R.bound x j e
    simp; omega

theorem row_new_turn (R : Rel G B C m h w.heap) {elem : Nat} {cells : List AV} {opn : Bool} {es : Nat} {strish : Bool} {ob : Obj} {w' : World} {i : BI} (hi : i.r = w.heap.size) (hw : w'.heap = w.heap.push ob)
    (ho : w'.os = w.os) (hu : w'.output = w.output) (ht : w'.tape = w.tape) : Turn B m h w (upd m h.sz i) (newRow h elem cells opn es strish) w' :=
  Turn.alloc R hi hw ho hu ht

end
end Go.Ab
namespace Go.Ab

/-- The tables say what the program says. -/
structure TabOK (P : Program) (e : Env) : Prop where
  tt : ∀ t ti, e.tt.get t = some ti → mkTI P t = some ti

section
variable {G B : Nat} {C : CodeP} {P : Program} {e : Env} {m : Emb} {h h' : H} {w : World} {fr : Fr} {t : Array Value} {nt : Nat} {o : Oper} {v : AV}

theorem OR.of_val {h h' : H} {x : Option AV} {v : AV} (hv : OR.of h x = .val v h') : x = some v ∧ h' = h := by
  cases x with
  | none => cases hv
  | some y => injection hv with a b; exact ⟨by rw [a], b.symm⟩
theorem OR.of2_val {h' : H} {x : Option (AV × H)} {v : AV} (hv : OR.of2 x = .val v h') : x = some (v, h') := by
  cases x with
  | none => cases hv
  | some y => obtain ⟨a, b⟩ := y; injection hv with a b; rw [a, b]

theorem sim_move {x : Operand} (ho : o.op = .move x ∨ o.op = .assign x) (R : Rel G B C m h w.heap) (F : TRel m fr.tmps t) (hx : opdOk G x = true) (hv : opA e fr h nt o = .val v h') : Sim1 P G B C m h w t o v h' := by
  rcases ho with ho | ho <;>
  · simp only [opA, ho] at hv
    obtain ⟨h1, rfl⟩ := OR.of_val hv
    exact Sim1.pure R (x := ev t x) (by simp [execOp, ho]) (eval_rel R F hx h1)

theorem sim_pick {a b c : Operand} (ho : o.op = .pick c a b) (R : Rel G B C m h w.heap) (F : TRel m fr.tmps t) (hc : opdOk G c = true) (ha : opdOk G a = true) (hb : opdOk G b = true) (hv : opA e fr h nt o = .val v h') : Sim1 P G B C m h w t o v h' := by
  simp only [opA, ho] at hv
  split at hv
  · rename_i h1 h2
    injection hv with e1 e2; subst e1; subst e2
    have r := eval_rel R F hc h1
    have r2 := eval_rel R F ha h2
    generalize hcv : ev t c = cv at r
    cases r
    exact Sim1.pure R (x := ev t a) (by simp [execOp, ho, hcv, asBool]) r2
  · rename_i h1 h2
    injection hv with e1 e2; subst e1; subst e2
    have r := eval_rel R F hc h1
    have r2 := eval_rel R F hb h2
    generalize hcv : ev t c = cv at r
    cases r
    exact Sim1.pure R (x := ev t b) (by simp [execOp, ho, hcv, asBool]) r2
  · cases hv

theorem simA_alloc (EO : TabOK P e) {ty : TypeId} (ho : o.op = .alloc ty) (R : RelX G B C m h w.heap) (hn : m h.sz = none) (hv : opA e fr h nt o = .val v h') : SimA P G B C m h w t o v h' := by
  simp only [opA, ho, Env.ti] at hv
  split at hv
  · rename_i ti hti
    split at hv
    · rename_i z hz
      injection hv with e1 e2; subst e1; subst e2
      obtain ⟨i, u, hi, hu, hs, _, _, _, hzero, _⟩ := mkTI_info (EO.tt _ _ hti)
      obtain ⟨zv, hzv, hzs, _, _⟩ := hzero z hz
      obtain ⟨r1, r2⟩ := ofScalars_rel m hzs
      have R' := row_newX R hn (elem := ty) (rest := #[]) (opn := false) (es := ti.size) (strish := false) (fz := (0, 0)) r1 r2 (fun _ => rfl) (.inl rfl)
      simp only [Array.append_empty] at R'
      refine ⟨.pointer (some ⟨w.heap.size, 0, none⟩), { w with heap := w.heap.push (.cells zv.cells ty) }, _, (.cells zv.cells ty), _, ?_, rfl, rfl, rfl, rfl, rfl, rfl, ?_, R'⟩
      · simp [execOp, ho, Instr.alloc, run_zeroValue' hi hzv, newVar, Go.newRow]
      · have := VRel.ptr (m := upd m h.sz ⟨w.heap.size, 0, zv.cells.size, none⟩) h.sz 0 _ (upd_self _ _ _)
        exact this
    · cases hv
  · cases hv
theorem sim_alloc (EO : TabOK P e) {ty : TypeId} (ho : o.op = .alloc ty) (R : Rel G B C m h w.heap) (hv : opA e fr h nt o = .val v h') : Sim1 P G B C m h w t o v h' := (simA_alloc EO ho R.toRelX R.none_sz hv).sim1 R

theorem simA_box (EO : TabOK P e) {ty : TypeId} {x : Operand} (ho : o.op = .box ty x) (R : RelX G B C m h w.heap) (hn : m h.sz = none) (F : TRel m fr.tmps t) (hx : opdOk G x = true) (hv : opA e fr h nt o = .val v h') : SimA P G B C m h w t o v h' := by
  simp only [opA, ho, Env.ti] at hv
  split at hv
  · rename_i ti a hti ha
    split at hv
    · rename_i hc
      injection hv with e1 e2; subst e1; subst e2
      simp only [Bool.and_eq_true, List.all_eq_true] at hc
      have r := eval_relX R F hx ha
      have R' := row_newX R hn (elem := ty) (rest := #[]) (opn := false) (es := ti.size) (strish := false) (fz := (0, 0)) r.cells hc.2 (fun _ => rfl) (.inl rfl)
      simp only [Array.append_empty] at R'
      refine ⟨.pointer (some ⟨w.heap.size, 0, none⟩), { w with heap := w.heap.push (.cells (ev t x).cells ty) }, _, (.cells (ev t x).cells ty), _, ?_, rfl, rfl, rfl, rfl, rfl, rfl, VRel.ptr (m := upd m h.sz ⟨w.heap.size, 0, (ev t x).cells.size, none⟩) h.sz 0 _ (upd_self _ _ _), R'⟩
      simp [execOp, ho, Instr.box, newVar, Go.newRow]
    · cases hv
  · cases hv
theorem sim_box (EO : TabOK P e) {ty : TypeId} {x : Operand} (ho : o.op = .box ty x) (R : Rel G B C m h w.heap) (F : TRel m fr.tmps t) (hx : opdOk G x = true) (hv : opA e fr h nt o = .val v h') : Sim1 P G B C m h w t o v h' := (simA_box EO ho R.toRelX R.none_sz F hx hv).sim1 R

theorem loadT_run (EO : TabOK P e) {ty : TypeId} {ti : TI} (hti : e.tt.get ty = some ti) (R : Rel G B C m h w.heap) {b off : Nat} {i : BI} (hb : m b = some i) (hv : loadT ti h b off = some v) :
    ∃ x, (loadVar ty ⟨i.r, i.s + off, none⟩).run P w = .ok x w ∧ VRel m v x := by
  have hm := EO.tt _ _ hti
  unfold loadT at hv
  unfold loadVar
  simp only [Sem.run_bind, run_isAgg' hm, Result.andThen_ok]
  cases ha : ti.agg with
  | true =>
    simp only [ha, if_true] at hv ⊢
    cases hl : h.loadN b off ti.size with
    | none => rw [hl] at hv; cases hv
    | some vs =>
      rw [hl] at hv
      injection hv with hv
      subst hv
      obtain ⟨xs, r1, r2, _, _, r3⟩ := R.loadN hb hl
      refine ⟨.agg xs.toArray, ?_, .agg _ _ (by simpa using r1)⟩
      simp only [Sem.run_bind, run_sizeOf' hm, Result.andThen_ok]
      have := run_loadCells_list (P := P) w ⟨i.r, i.s + off, none⟩ xs (fun j x hx => by
        have := r3 j x hx
        unfold Addr.add
        split
        · rename_i hj; subst hj; exact this
        · exact this)
      rw [← r2, this]
      rfl
  | false =>
    simp only [ha] at hv ⊢
    obtain ⟨x, hx, hr, _⟩ := R.load1 hb (by simpa using hv)
    exact ⟨x, run_load' hx, hr⟩

theorem VRel.ptr_inv {b off : Nat} {x : Value} (r : VRel m (.ptr b off) x) : ∃ i, m b = some i ∧ x = .pointer (some ⟨i.r, i.s + off, none⟩) := by
  cases r with
  | ptr _ _ i hi => exact ⟨i, hi, rfl⟩

theorem sim_load (EO : TabOK P e) {ty : TypeId} {x : Operand} (ho : o.op = .load ty x) (R : Rel G B C m h w.heap) (F : TRel m fr.tmps t) (hx : opdOk G x = true) (hv : opA e fr h nt o = .val v h') : Sim1 P G B C m h w t o v h' := by
  simp only [opA, ho, Env.ti] at hv
  split at hv
  · rename_i ti b off hti ha
    obtain ⟨h1, rfl⟩ := OR.of_val hv
    obtain ⟨i, hi, hxv⟩ := (eval_rel R F hx ha).ptr_inv
    obtain ⟨y, hy, hr⟩ := loadT_run EO hti R hi h1
    exact Sim1.pure R (x := y) (by simp [execOp, ho, hxv, Instr.loadAt, Instr.sureAddr, hy]) hr
  · cases hv

/-- Stores into a row. -/
theorem run_storeCells_row (r : Nat) (elem : TypeId) (fz : Nat × Nat) : ∀ (vs : List Value) (s k : Nat) (c : Array Value) (w : World), w.heap[r]? = some (.cells c elem fz) → s + k + vs.length ≤ c.size → (∀ v ∈ vs, v.oneCell' = true) →
    (∀ x, s ≤ x → x < c.size → ¬ (fz.1 ≤ x ∧ x < fz.2)) →
    ∃ w', (storeCells ⟨r, s, none⟩ vs k).run P w = .ok () w' ∧ w'.heap[r]? = some (.cells (aput c (s + k) vs) elem fz) ∧ (∀ j, j ≠ r → w'.heap[j]? = w.heap[j]?) ∧ w'.heap.size = w.heap.size ∧ w'.os = w.os ∧ w'.output = w.output ∧ w'.tape = w.tape
  | [], s, k, c, w, hw, _, _, _ => ⟨w, by simp [storeCells], by simpa [aput] using hw, fun _ _ => rfl, rfl, rfl, rfl, rfl⟩
  | v :: vs, s, k, c, w, hw, hl, h1, hf => by
    simp at hl
    have hadd : (⟨r, s, none⟩ : Addr).add k = ⟨r, s + k, none⟩ := by unfold Addr.add; split <;> simp_all
    have hcell : w.cell? ⟨r, s + k, none⟩ = some c[s + k] := by simp [World.cell?, hw]
    have hfr : w.frozen? ⟨r, s + k, none⟩ = false := by
      have := hf (s + k) (by omega) (by omega)
      simp [World.frozen?, hw]
      omega
    have hlt : r < w.heap.size := by
      rcases Nat.lt_or_ge r w.heap.size with g | g
      · exact g
      · rw [Array.getElem?_eq_none g] at hw; cases hw
    have hset : (w.setCell ⟨r, s + k, none⟩ v).heap[r]? = some (.cells (c.setIfInBounds (s + k) v) elem fz) := by
      simp [World.setCell, Array.getElem?_modify, hw]
    have hoth : ∀ j, j ≠ r → (w.setCell ⟨r, s + k, none⟩ v).heap[j]? = w.heap[j]? := fun j hj => by
      simp [World.setCell, Array.getElem?_modify, Ne.symm hj]
    obtain ⟨w', a1, a2, a3, a4, a5, a6, a7⟩ := run_storeCells_row r elem fz vs s (k + 1) (c.setIfInBounds (s + k) v) (w.setCell ⟨r, s + k, none⟩ v) hset (by simp; omega) (fun x hx => h1 x (List.mem_cons_of_mem _ hx)) (by simpa using hf)
    refine ⟨w', ?_, by rw [a2]; rfl, fun j hj => (a3 j hj).trans (hoth j hj), by rw [a4]; simp [World.setCell], a5, a6, a7⟩
    unfold storeCells
    rw [hadd]
    simp only [Sem.run_bind, run_store P w _ v .plain (h1 v (by simp)), hcell, hfr, Bool.false_eq_true, if_false, Result.andThen_ok]
    exact a1

theorem storeN_run (R : Rel G B C m h w.heap) {b off : Nat} {i : BI} {vs : List AV} {xs : List Value} (hb : m b = some i) (hr : VRels m vs xs) (hv : h.storeN b off vs = some h') :
    ∃ w', (storeCells ⟨i.r, i.s + off, none⟩ xs).run P w = .ok () w' ∧ Rel G B C m h' w'.heap ∧ Turn B m h w m h' w' := by
  unfold H.storeN H.row? at hv
  obtain ⟨ob, g1, g2⟩ := R.obj b i hb
  rw [g1] at hv
  cases ob with
  | row r =>
    simp only at hv
    split at hv
    · rename_i hc
      injection hv with hv
      subst hv
      simp only [Bool.and_eq_true, List.all_eq_true, Nat.ble_eq] at hc
      obtain ⟨c, fz, e1, e2, e3, e4, e5, e5', e6, e7⟩ := g2
      have hlen := hr.length
      have hone : ∀ x ∈ xs, x.oneCell' = true := by
        intro x hx
        obtain ⟨n, hn⟩ := List.getElem?_of_mem hx
        have : n < vs.length := by rw [hlen]; exact (List.getElem?_eq_some_iff.1 hn).1
        obtain ⟨y, hy, hyr⟩ := hr.get n vs[n] (by rw [lget_eq]; simp [this])
        rw [hn] at hy; cases hy
        exact hyr.oneCell' (hc.2 _ (List.getElem_mem this))
      have hB : B ≤ i.r := by
        rcases Nat.lt_or_ge i.r B with g | g
        · obtain ⟨o', k1, k2⟩ := R.low b i hb g
          rw [g1] at k1; cases k1
          exact absurd k2.1 (by rw [hc.1.1]; simp)
        · exact g
      obtain ⟨w', a1, a2, a3, a4, a5, a6, a7⟩ := run_storeCells_row (P := P) i.r r.elem fz xs (i.s + off) 0 c w e1 (by omega) hone (by
        intro x hx1 hx2 hx3
        rcases e7 hc.1.1 with q | ⟨_, q⟩ <;> omega)
      refine ⟨w', a1, ?_, Turn.put hb hB a4 a3 a5 a6 a7⟩
      refine R.put hb g1 rfl hB a4 a3 ?_ (fun _ _ _ _ x => by cases x) (fun _ _ x => by cases x)
      rw [a2]
      refine ⟨_, fz, rfl, by rw [aput_size]; exact e2, e3, by rw [lput_length]; exact e4, e5, e5', ?_, by rw [aput_size]; exact e7⟩
      intro j v hj
      rw [lget_lput _ _ _ _ (by omega)] at hj
      have hget : (aput c (i.s + off + 0) xs)[i.s + j]? = if i.s + off + 0 ≤ i.s + j ∧ i.s + j < i.s + off + 0 + xs.length then xs[i.s + j - (i.s + off + 0)]? else c[i.s + j]? := aput_get _ _ _ _ (by omega)
      rw [hget]
      by_cases hin : off ≤ j ∧ j < off + vs.length
      · rw [if_pos hin] at hj
        rw [if_pos (by omega), show i.s + j - (i.s + off + 0) = j - off by omega]
        obtain ⟨x, hx, hxr⟩ := hr.get _ _ hj
        exact ⟨x, hx, hxr, hc.2 _ (by rw [lget_eq] at hj; exact List.mem_of_getElem? hj)⟩
      · rw [if_neg hin] at hj
        rw [if_neg (by omega)]
        exact e6 j v hj
    · cases hv
  | _ => simp at hv

theorem sim_store (EO : TabOK P e) {ty : TypeId} {a x : Operand} (ho : o.op = .store ty a x) (R : Rel G B C m h w.heap) (F : TRel m fr.tmps t) (ha : opdOk G a = true) (hx : opdOk G x = true) (hv : opA e fr h nt o = .val v h') : Sim1 P G B C m h w t o v h' := by
  simp only [opA, ho, Env.ti] at hv
  split at hv
  · rename_i ti b off y hti hb hy
    split at hv
    · rename_i hc
      split at hv
      · rename_i h2 hst
        injection hv with e1 e2; subst e1; subst e2
        obtain ⟨i, hi, hxv⟩ := (eval_rel R F ha hb).ptr_inv
        have r := eval_rel R F hx hy
        obtain ⟨w', a1, a2, a3⟩ := storeN_run (P := P) R hi r.cells hst
        refine ⟨undef, w', m, .inr ⟨?_, rfl⟩, .tup _ _ .nil, a2, a3⟩
        have hsz : (ev t x).cells.size = ti.size := by
          have := r.cells.length
          rw [← Array.length_toList, ← this]
          exact Nat.eq_of_beq_eq_true hc
        simp [execOp, ho, hxv, Instr.storeAt, Instr.sureAddr, storeVar, run_sizeOf' (EO.tt _ _ hti), hsz, a1]
      · cases hv
    · cases hv
  · cases hv

theorem sim_nilCheck {x : Operand} (ho : o.op = .nilCheck x) (R : Rel G B C m h w.heap) (F : TRel m fr.tmps t) (hx : opdOk G x = true) (hv : opA e fr h nt o = .val v h') : Sim1 P G B C m h w t o v h' := by
  simp only [opA, ho] at hv
  split at hv
  all_goals first
    | (cases hv; done)
    | skip
  all_goals
    rename_i hxv
    injection hv with e1 e2; subst e1; subst e2
    have r := eval_rel R F hx hxv
    have r' := r
    generalize hcv : ev t x = cv at r
    cases r
    exact Sim1.pure R (x := ev t x) (by simp [execOp, ho, hcv]) r'

theorem sim_makeInterface (EO : TabOK P e) {ty : TypeId} {x : Operand} (ho : o.op = .makeInterface ty x) (R : Rel G B C m h w.heap) (F : TRel m fr.tmps t) (hx : opdOk G x = true) (hv : opA e fr h nt o = .val v h') : Sim1 P G B C m h w t o v h' := by
  simp only [opA, ho, Env.ti] at hv
  split at hv
  · rename_i ti a hti ha
    have r := eval_rel R F hx ha
    obtain ⟨u, hu⟩ := und_of (EO.tt _ _ hti)
    have hk := kind_of (EO.tt _ _ hti)
    split at hv
    · cases hv
    · rename_i hnot
      injection hv with e1 e2; subst e1; subst e2
      refine Sim1.pure R (x := .iface ty (ev t x)) ?_ (.iface _ _ _ r)
      simp only [execOp, ho, Instr.makeInterface, Sem.run_bind, run_underlying' hu, Result.andThen_ok]
      cases u <;> first | rfl | skip
      rename_i ms
      exfalso
      refine hnot ms.isEmpty ?_
      rw [← hk]
      simp [mkKind, hu]
  · cases hv

theorem sim_makeFunc {f : Nat} {a c : Array Operand} (ho : o.op = .makeFunc (.func f) a c) (R : Rel G B C m h w.heap) (F : TRel m fr.tmps t) (ha : a.toList.all (opdOk G) = true) (hc : c.toList.all (opdOk G) = true) (hv : opA e fr h nt o = .val v h') : Sim1 P G B C m h w t o v h' := by
  simp only [opA, ho] at hv
  split at hv
  · rename_i x y hx hy
    injection hv with e1 e2; subst e1; subst e2
    refine Sim1.pure R (x := .func (.func f) (a.map (ev t)) (c.map (ev t))) (by simp [execOp, ho, Instr.makeFunc]) (.func _ _ _ _ _ ?_ ?_)
    · simpa using evals_rel R F ha hx
    · simpa using evals_rel R F hc hy
  · cases hv

theorem simA_makeMap {ty : TypeId} {r : Option Operand} (ho : o.op = .makeMap ty r) (R : RelX G B C m h w.heap) (hn : m h.sz = none) (hv : opA e fr h nt o = .val v h') : SimA P G B C m h w t o v h' := by
  simp only [opA, ho] at hv
  split at hv
  · injection hv with e1 e2; subst e1; subst e2
    have R' := R.new hn (i := ⟨w.heap.size, 0, 0, none⟩) (o := .map [] 0) (ob := .map #[] 0) rfl ⟨#[], 0, [], rfl, rfl, by simp, .nil, by simp, by simp, by simp⟩ (fun _ _ _ _ x => by cases x)
    refine ⟨.map (some w.heap.size), { w with heap := w.heap.push (.map #[] 0) }, _, (.map #[] 0), _, ?_, rfl, rfl, rfl, rfl, rfl, rfl, .map (m := upd m h.sz ⟨w.heap.size, 0, 0, none⟩) _ _ (upd_self _ _ _), R'⟩
    simp [execOp, ho, Instr.makeMap]
  · cases hv
theorem sim_makeMap {ty : TypeId} {r : Option Operand} (ho : o.op = .makeMap ty r) (R : Rel G B C m h w.heap) (hv : opA e fr h nt o = .val v h') : Sim1 P G B C m h w t o v h' := (simA_makeMap ho R.toRelX R.none_sz hv).sim1 R

theorem sim_un {op : UnOp} {ty : TypeId} {x : Operand} (ho : o.op = .unOp op ty x) (R : Rel G B C m h w.heap) (F : TRel m fr.tmps t) (hx : opdOk G x = true) (hv : opA e fr h nt o = .val v h') : Sim1 P G B C m h w t o v h' := by
  simp only [opA, ho] at hv
  split at hv
  · rename_i a ha
    obtain ⟨h1, rfl⟩ := OR.of_val hv
    have r := eval_rel R F hx ha
    generalize hcv : ev t x = cv at r
    unfold unA at h1
    split at h1
    · cases r
      simp [intBin] at h1; subst h1
      exact Sim1.pure R (by simp [execOp, ho, hcv, Op.unary, Op.intArith]) (.int _ _)
    · cases r
      simp [intBin] at h1; subst h1
      exact Sim1.pure R (by simp [execOp, ho, hcv, Op.unary, Op.intBits]) (.int _ _)
    · cases r
      simp at h1; subst h1
      exact Sim1.pure R (by simp [execOp, ho, hcv, Op.unary]) (.bool _)
    · cases h1
  · cases hv

theorem sim_extract {i : Nat} {x : Operand} (ho : o.op = .extract x i) (R : Rel G B C m h w.heap) (F : TRel m fr.tmps t) (hx : opdOk G x = true) (hv : opA e fr h nt o = .val v h') : Sim1 P G B C m h w t o v h' := by
  simp only [opA, ho] at hv
  split at hv
  · rename_i vs hvs
    obtain ⟨h1, rfl⟩ := OR.of_val hv
    have r := eval_rel R F hx hvs
    generalize hcv : ev t x = cv at r
    cases r with
    | tup _ x' hx' =>
      obtain ⟨y, hy, hr⟩ := hx'.get _ _ h1
      refine Sim1.pure R (x := y) ?_ hr
      have : x'[i]? = some y := by simpa using hy
      simp [execOp, ho, hcv, Instr.extract, this]
  · cases hv
end
end Go.Ab
namespace Go.Ab
section
variable {G B : Nat} {C : CodeP} {P : Program} {e : Env} {m : Emb} {h h' : H} {w : World} {fr : Fr} {t : Array Value} {nt : Nat} {o : Oper} {v : AV}

theorem add_plain (r s n : Nat) : (⟨r, s, none⟩ : Addr).add n = ⟨r, s + n, none⟩ := by unfold Addr.add; split <;> simp_all

theorem part_run {ty : TypeId} {ti : TI} (hm : mkTI P ty = some ti) {cs : List AV} {c : Array Value} (hc : VRels m cs c.toList) {off : Nat} (hv : partA ti cs off = some v) :
    ∃ x, (part ty c off).run P w = .ok x w ∧ VRel m v x := by
  unfold partA at hv
  unfold part
  simp only [Sem.run_bind, run_isAgg' hm, Result.andThen_ok]
  cases ha : ti.agg with
  | true =>
    simp only [ha, if_true] at hv ⊢
    cases hl : lpart off ti.size cs with
    | none => rw [hl] at hv; cases hv
    | some vs =>
      rw [hl] at hv
      injection hv with hv
      subst hv
      obtain ⟨r1, r2⟩ := hc.part _ _ _ hl
      refine ⟨.agg (c.extract off (off + ti.size)), by simp [run_sizeOf' hm], .agg _ _ ?_⟩
      rw [Array.toList_extract, List.extract_eq_take_drop]
      rw [show off + ti.size - off = ti.size by omega]
      exact r1
  | false =>
    simp only [ha] at hv ⊢
    obtain ⟨x, hx, hr⟩ := hc.get _ _ (by simpa using hv)
    have hx' : c[off]? = some x := by simpa using hx
    exact ⟨x, by simp [hx'], hr⟩

theorem struct_field {fa : Array Field} {fs : List (Nat × Nat × Bool)} (hfs : fs = fa.toList.map fun f => (f.offset, f.type, f.name == "_")) {n off ft : Nat} {bl : Bool} (hg : lget fs n = some (off, ft, bl)) :
    ∃ f, fa[n]? = some f ∧ f.offset = off ∧ f.type = ft ∧ (f.name == "_") = bl := by
  rw [lget_eq, hfs, List.getElem?_map] at hg
  cases hf : fa.toList[n]? with
  | none => rw [hf] at hg; cases hg
  | some f =>
    rw [hf] at hg
    simp at hg
    exact ⟨f, by simpa using hf, hg.1, hg.2.1, by simpa using hg.2.2⟩

theorem sim_fieldAddr (EO : TabOK P e) {ty : TypeId} {n : Nat} {x : Operand} (ho : o.op = .fieldAddr ty x n) (R : Rel G B C m h w.heap) (F : TRel m fr.tmps t) (hx : opdOk G x = true) (hv : opA e fr h nt o = .val v h') : Sim1 P G B C m h w t o v h' := by
  simp only [opA, ho, Env.ti] at hv
  split at hv
  · rename_i ti b off hti hb
    split at hv
    · rename_i fs hk
      split at hv
      · rename_i fo ft bl hg
        split at hv
        · rename_i fi hfi
          split at hv
          · cases hv
          · rename_i hz
            injection hv with e1 e2; subst e1; subst e2
            obtain ⟨i, hi, hxv⟩ := (eval_rel R F hx hb).ptr_inv
            obtain ⟨fa, hu, hfs⟩ := mkKind_struct ((kind_of (EO.tt _ _ hti)).trans hk)
            obtain ⟨f, hf, f1, f2, _⟩ := struct_field hfs hg
            refine Sim1.pure R (x := .pointer (some ⟨i.r, i.s + (off + fo), none⟩)) ?_ (.ptr _ _ i hi)
            have hsz : ¬ fi.size = 0 := fun q => hz (by rw [q]; rfl)
            subst f2
            simp [execOp, ho, hxv, Instr.fieldAt, run_underlying' hu, hf, Instr.sureAddr, fieldPlace, run_sizeOf' (EO.tt _ _ hfi), hsz, add_plain, f1, Nat.add_assoc]
        · cases hv
      · cases hv
    · cases hv
  · cases hv

theorem VRel.agg_inv {cs : List AV} {x : Value} (r : VRel m (.agg cs) x) : ∃ c : Array Value, x = .agg c ∧ VRels m cs c.toList := by
  cases r with
  | agg _ c hc => exact ⟨c, rfl, hc⟩

theorem sim_field (EO : TabOK P e) {ty : TypeId} {n : Nat} {x : Operand} (ho : o.op = .field ty x n) (R : Rel G B C m h w.heap) (F : TRel m fr.tmps t) (hx : opdOk G x = true) (hv : opA e fr h nt o = .val v h') : Sim1 P G B C m h w t o v h' := by
  simp only [opA, ho, Env.ti] at hv
  split at hv
  · rename_i ti cs hti hb
    split at hv
    · rename_i fs hk
      split at hv
      · rename_i fo ft bl hg
        split at hv
        · rename_i fi hfi
          obtain ⟨h1, rfl⟩ := OR.of_val hv
          obtain ⟨c, hxv, hc⟩ := (eval_rel R F hx hb).agg_inv
          obtain ⟨fa, hu, hfs⟩ := mkKind_struct ((kind_of (EO.tt _ _ hti)).trans hk)
          obtain ⟨f, hf, f1, f2, _⟩ := struct_field hfs hg
          obtain ⟨y, hy, hr⟩ := part_run (w := w) (EO.tt _ _ hfi) hc h1
          refine Sim1.pure R (x := y) ?_ hr
          subst f2; subst f1
          simp [execOp, ho, hxv, Instr.field, run_underlying' hu, hf, asAgg, hy]
        · cases hv
      · cases hv
    · cases hv
  · cases hv

theorem VRel.int_inv {k : IntKind} {n : Int} {x : Value} (r : VRel m (.int k n) x) : x = .int k n := by cases r; rfl
theorem VRel.str_inv {s : List UInt8} {x : Value} (r : VRel m (.str s) x) : ∃ b : ByteArray, x = .string b ∧ b.data.toList = s := by
  cases r with
  | str _ b hb => exact ⟨b, rfl, hb⟩
theorem VRel.slice_inv {b off l c : Nat} {x : Value} (r : VRel m (.slice b off l c) x) : ∃ i, m b = some i ∧
    ((∃ c', x = .slice (some ⟨i.r, i.s + off, none⟩) l c' ∧ (c' = c ∨ ∃ K es, i.opn = some (K, es) ∧ off + c * es = K ∧ c ≤ c' ∧ i.s + off + c' * es ≤ i.rsz)) ∨
     (∃ a es, l = 0 ∧ c = 0 ∧ x = .slice (some a) 0 0 ∧ i.opn = some (off, es) ∧ a.block = i.r)) := by
  cases r with
  | slice _ _ _ _ c' i hi hc => exact ⟨i, hi, .inl ⟨c', rfl, hc⟩⟩
  | slice0 _ _ es i a hi hc ha => exact ⟨i, hi, .inr ⟨a, es, rfl, rfl, rfl, hc, ha⟩⟩

theorem sim_indexAddr (EO : TabOK P e) {ty : TypeId} {x ix : Operand} (ho : o.op = .indexAddr ty x ix) (R : Rel G B C m h w.heap) (F : TRel m fr.tmps t) (hx : opdOk G x = true) (hix : opdOk G ix = true) (hv : opA e fr h nt o = .val v h') : Sim1 P G B C m h w t o v h' := by
  simp only [opA, ho, Env.ti] at hv
  split at hv
  · rename_i ti xv k n hti hxa hna
    have rn := (eval_rel R F hix hna).int_inv
    have rx := eval_rel R F hx hxa
    split at hv
    · rename_i el b off len cap hk
      split at hv
      · rename_i ei hei
        split at hv
        · rename_i hlt
          injection hv with e1 e2; subst e1; subst e2
          have hlt' : n < len := by simpa using hlt
          obtain ⟨i, hi, hcase⟩ := rx.slice_inv
          have hu := mkKind_slice ((kind_of (EO.tt _ _ hti)).trans hk)
          rcases hcase with ⟨c', hxv, _⟩ | ⟨_, _, h0, _⟩
          · refine Sim1.pure R (x := .pointer (some ⟨i.r, i.s + (off + n * ei.size), none⟩)) ?_ (.ptr _ _ i hi)
            simp [execOp, ho, hxv, rn, Instr.indexAt, asIntOf, run_underlying' hu, hlt', run_sizeOf' (EO.tt _ _ hei), add_plain, Nat.add_assoc]
          · omega
        · cases hv
      · cases hv
    · rename_i len el b off hk
      split at hv
      · rename_i ei hei
        split at hv
        · rename_i hlt
          injection hv with e1 e2; subst e1; subst e2
          have hlt' : n < len := by simpa using hlt
          obtain ⟨i, hi, hxv⟩ := rx.ptr_inv
          have hu := mkKind_array ((kind_of (EO.tt _ _ hti)).trans hk)
          refine Sim1.pure R (x := .pointer (some ⟨i.r, i.s + (off + n * ei.size), none⟩)) ?_ (.ptr _ _ i hi)
          simp [execOp, ho, hxv, rn, Instr.indexAt, asIntOf, run_underlying' hu, Instr.sureAddr, hlt', run_sizeOf' (EO.tt _ _ hei), add_plain, Nat.add_assoc]
        · cases hv
      · cases hv
    · cases hv
  · cases hv

theorem sim_index (EO : TabOK P e) {ty : TypeId} {x ix : Operand} (ho : o.op = .index ty x ix) (R : Rel G B C m h w.heap) (F : TRel m fr.tmps t) (hx : opdOk G x = true) (hix : opdOk G ix = true) (hv : opA e fr h nt o = .val v h') : Sim1 P G B C m h w t o v h' := by
  simp only [opA, ho, Env.ti] at hv
  split at hv
  · rename_i ti xv k n hti hxa hna
    have rn := (eval_rel R F hix hna).int_inv
    have rx := eval_rel R F hx hxa
    split at hv
    · rename_i len el cs hk
      split at hv
      · rename_i ei hei
        split at hv
        · rename_i hlt
          obtain ⟨h1, rfl⟩ := OR.of_val hv
          have hlt' : n < len := by simpa using hlt
          obtain ⟨c, hxv, hc⟩ := rx.agg_inv
          have hu := mkKind_array ((kind_of (EO.tt _ _ hti)).trans hk)
          obtain ⟨y, hy, hr⟩ := part_run (w := w) (EO.tt _ _ hei) hc h1
          refine Sim1.pure R (x := y) ?_ hr
          simp [execOp, ho, hxv, rn, Instr.index, asIntOf, run_underlying' hu, hlt', run_sizeOf' (EO.tt _ _ hei), hy]
        · cases hv
      · cases hv
    · rename_i s hk
      split at hv
      · rename_i u8 hu8
        injection hv with e1 e2; subst e1; subst e2
        obtain ⟨b, hxv, hb⟩ := rx.str_inv
        have hu := mkKind_str ((kind_of (EO.tt _ _ hti)).trans hk)
        refine Sim1.pure R (x := .int .u8 u8.toNat) ?_ (.int _ _)
        have hlen : n < b.size := by
          rw [lget_eq] at hu8
          have := (List.getElem?_eq_some_iff.1 hu8).1
          rw [← hb] at this
          simpa using this
        have : b[n]? = some u8 := by
          rw [lget_eq, ← hb] at hu8
          rw [getElem?_pos b n hlen]
          have h2 : b.data[n]? = some u8 := by simpa using hu8
          have h3 : n < b.data.size := hlen
          rw [Array.getElem?_eq_getElem h3] at h2
          exact h2
        simp [execOp, ho, hxv, rn, Instr.index, asIntOf, run_underlying' hu, this]
      · cases hv
    · cases hv
  · cases hv

/- zero values, many times -/
theorem lrep_length {α : Type} (n : Nat) (z : List α) : (lrep n z).length = n * z.length := by
  induction n with
  | zero => simp [lrep]
  | succ n ih => simp [lrep, ih, Nat.succ_mul, Nat.add_comm]
theorem lrep_get {α : Type} (z : List α) : ∀ (n j : Nat), j < n * z.length → (lrep n z)[j]? = z[j % z.length]?
  | 0, j, h => by simp at h
  | n + 1, j, h => by
    unfold lrep
    by_cases hj : j < z.length
    · rw [List.getElem?_append_left hj, Nat.mod_eq_of_lt hj]
    · rw [List.getElem?_append_right (by omega), lrep_get z n (j - z.length) (by rw [Nat.succ_mul] at h; omega)]
      have : j % z.length = (j - z.length) % z.length := by
        rw [Nat.mod_eq_sub_mod (by omega)]
      rw [this]
theorem lrep_rel {z : List AV} {zc : Array Value} (hz : VRels m z zc.toList) (n k : Nat) (hk : k = n * zc.size) : VRels m (lrep n z) ((Array.range k).map (zc[· % zc.size]!)).toList := by
  have hl := hz.length
  subst hk
  refine VRels.of_get (by rw [lrep_length, hl]; simp) fun j v hj => ?_
  have hj' : j < n * z.length := by
    rw [lget_eq] at hj
    have := (List.getElem?_eq_some_iff.1 hj).1
    rwa [lrep_length] at this
  rw [lget_eq, lrep_get z n j hj', ← lget_eq] at hj
  obtain ⟨x, hx, hr⟩ := hz.get _ _ hj
  refine ⟨x, ?_, hr⟩
  have hjz : j < n * zc.size := by rw [← Array.length_toList, ← hl]; exact hj'
  have hx' : zc[j % zc.size]? = some x := by
    rw [← Array.length_toList, ← hl]; simpa using hx
  have hx2 : zc[j % zc.size]! = x := by
    rw [getElem!_def, hx']
  simp only [Array.toList_map, Array.toList_range, List.getElem?_map, List.getElem?_range hjz, Option.map_some]
  rw [hx2]
theorem lrep_one {z : List AV} (h1 : ∀ v ∈ z, oneCell v = true) : ∀ (n : Nat), ∀ v ∈ lrep n z, oneCell v = true
  | 0, v, hv => by simp [lrep] at hv
  | n + 1, v, hv => by
    unfold lrep at hv
    rcases List.mem_append.1 hv with hv | hv
    · exact h1 v hv
    · exact lrep_one h1 n v hv

theorem mkTI_zero {ty : TypeId} {ti : TI} (hm : mkTI P ty = some ti) {z : List AV} (hz : ti.zero = some z) : ∃ i zv, P.info? ty = some i ∧ i.zero = some zv ∧ i.size = ti.size ∧ i.bytes = ti.bytes ∧ VRels m z zv.cells.toList ∧ (∀ v ∈ z, oneCell v = true) ∧ z.length = ti.size ∧ ti.agg = (match zv with | .agg _ => true | _ => false) := by
  obtain ⟨i, u, hi, hu, hs, hb, _, _, hzero, _⟩ := mkTI_info hm
  obtain ⟨zv, hzv, hzs, hzl⟩ := hzero z hz
  obtain ⟨r1, r2⟩ := ofScalars_rel m hzs
  exact ⟨i, zv, hi, hzv, hs, hb, r1, r2, hzl⟩

theorem wrap64_id {n : Int} (h0 : 0 ≤ n) (h1 : n < 9223372036854775808) : IntKind.i64.wrap n = n := by
  simp [IntKind.wrap, IntKind.bits, IntKind.signed]; omega

theorem simA_makeSlice (EO : TabOK P e) {ty : TypeId} {l c : Operand} (ho : o.op = .makeSlice ty l c) (R : RelX G B C m h w.heap) (hn : m h.sz = none) (F : TRel m fr.tmps t) (hl : opdOk G l = true) (hc : opdOk G c = true) (hv : opA e fr h nt o = .val v h') : SimA P G B C m h w t o v h' := by
  simp only [opA, ho, Env.ti] at hv
  split at hv
  · rename_i ti n k hti hla hca
    have rl : ev t l = .int .i64 (n : Int) := (eval_relX R F hl hla).int_inv
    have rc : ev t c = .int .i64 (k : Int) := (eval_relX R F hc hca).int_inv
    split at hv
    · rename_i el hk
      split at hv
      · rename_i ei hei
        split at hv
        · rename_i z hz
          split at hv
          · cases hv
          · rename_i hcond
            injection hv with e1 e2; subst e1; subst e2
            simp only [Bool.or_eq_true, Bool.not_eq_true', Bool.and_eq_false_iff, not_or, Bool.not_eq_false, Nat.ble_eq, Nat.beq_eq_true_eq, not_and, ← Bool.not_eq_true] at hcond
            obtain ⟨hz0, hnk, hby, h63⟩ : ¬ ei.size = 0 ∧ n ≤ k ∧ k * ei.bytes ≤ twoTo48 ∧ k ≤ 9223372036854775807 := by
              simp at hcond; omega
            have hu := mkKind_slice ((kind_of (EO.tt _ _ hti)).trans hk)
            obtain ⟨i, zv, hi, hzv, hs, hb, r1, r2, hzl, _⟩ := mkTI_zero (m := m) (EO.tt _ _ hei) hz
            have hzs : zv.cells.size = ei.size := by rw [← hzl, r1.length]; simp
            have hrel := lrep_rel r1 k (k * ei.size) (by rw [hzs])
            have R' := row_newX R hn (elem := el) (rest := #[]) (opn := false) (es := ei.size) (strish := false) (fz := (0, 0)) hrel (lrep_one r2 k) (fun _ => rfl) (.inl rfl)
            simp only [Array.append_empty] at R'
            refine ⟨.slice (some ⟨w.heap.size, 0, none⟩) n k, { w with heap := w.heap.push (.cells ((Array.range (k * ei.size)).map (zv.cells[· % zv.cells.size]!)) el) }, _, (.cells ((Array.range (k * ei.size)).map (zv.cells[· % zv.cells.size]!)) el), _, ?_, rfl, rfl, rfl, rfl, rfl, rfl, ?_, R'⟩
            · have hbk : (ei.bytes : Int) * (k : Int) ≤ 281474976710656 := by
                unfold twoTo48 at hby
                have h2 : ((k * ei.bytes : Nat) : Int) ≤ 281474976710656 := by omega
                rw [Int.natCast_mul] at h2
                rw [Int.mul_comm]; exact h2
              have hwn : IntKind.i64.wrap (n : Int) = n := wrap64_id (by omega) (by omega)
              have hwk : IntKind.i64.wrap (k : Int) = k := wrap64_id (by omega) (by omega)
              have c1 : ¬ ((k : Int) < 0 ∨ 281474976710656 < (i.bytes : Int) * (k : Int)) := by rw [hb]; omega
              have c2 : ¬ ((k : Int) < (n : Int)) := by omega
              have c3 : ¬ ((n : Int) < 0) := by omega
              have hk0 : (if k * ei.size = 0 then (Pure.pure #[] : Sem (Array Value)) else do pure (← zeroValue el).cells).run P w = .ok (if k * ei.size = 0 then #[] else zv.cells) w := by
                split
                · rfl
                · simp [run_zeroValue' hi hzv]
              simp only [execOp, ho, rl, rc, Instr.makeSlice, Sem.run_bind, run_underlying' hu, Result.andThen_ok, asInt, asIntOf, Sem.run_pure, run_typeInfo' hi, hwn, hwk, Int.toNat_natCast, run_sizeOf' (EO.tt _ _ hei), run_askRoom, hk0]
              have hif : (decide ((k : Int) < 0) || decide ((i.bytes : Int) * (k : Int) > 2 ^ 48) || decide ((n : Int) < 0) || decide ((n : Int) > (k : Int))) = false := by
                simp; omega
              simp only [hif, Bool.false_eq_true, if_false, Sem.run_bind, Sem.run_pure, Result.andThen_ok, run_askRoom, run_sizeOf' (EO.tt _ _ hei), hk0]
              by_cases hk0 : k * ei.size = 0
              · have h00 : Array.range 0 = #[] := Array.eq_empty_of_size_eq_zero (by simp)
                simp [hk0, Go.newRow, h00]
              · simp [hk0, Go.newRow, run_zeroValue' hi hzv]
            · exact .slice (m := upd m h.sz ⟨w.heap.size, 0, _, none⟩) h.sz 0 n k k _ (upd_self _ _ _) (.inl rfl)
        · cases hv
      · cases hv
    · cases hv
  · cases hv
theorem sim_makeSlice (EO : TabOK P e) {ty : TypeId} {l c : Operand} (ho : o.op = .makeSlice ty l c) (R : Rel G B C m h w.heap) (F : TRel m fr.tmps t) (hl : opdOk G l = true) (hc : opdOk G c = true) (hv : opA e fr h nt o = .val v h') : Sim1 P G B C m h w t o v h' := (simA_makeSlice EO ho R.toRelX R.none_sz F hl hc hv).sim1 R
end
end Go.Ab
namespace Go.Ab
section
variable {G B : Nat} {C : CodeP} {P : Program} {e : Env} {m : Emb} {h h' : H} {w : World} {fr : Fr} {t : Array Value} {nt : Nat} {o : Oper} {v : AV}

/- literals -/
theorem foldl_aput (off : Nat) : ∀ (l : List Value) (k : Nat) (c : Array Value), (l.zipIdx k).foldl (fun cs (p : Value × Nat) => cs.setIfInBounds (off + p.2) p.1) c = aput c (off + k) l
  | [], k, c => rfl
  | v :: l, k, c => by
    simp only [List.zipIdx_cons, List.foldl_cons, aput]
    rw [foldl_aput off l (k + 1)]
    rfl

theorem lput_rel {cs : List AV} {c : Array Value} (hc : VRels m cs c.toList) {vs : List AV} {xs : List Value} (hv : VRels m vs xs) {off : Nat} (hl : off + vs.length ≤ cs.length) : VRels m (lput off cs vs) (aput c off xs).toList := by
  have l1 := hc.length
  have l2 := hv.length
  have l1' : cs.length = c.size := by rw [l1]; simp
  refine VRels.of_get (by rw [lput_length]; simp [aput_size]; exact l1') fun n v hn => ?_
  rw [lget_lput _ _ _ _ hl] at hn
  have hg := aput_get xs c off n (by omega)
  rw [Array.getElem?_toList, hg]
  by_cases hin : off ≤ n ∧ n < off + vs.length
  · rw [if_pos hin] at hn
    rw [if_pos (by omega)]
    exact hv.get _ _ hn
  · rw [if_neg hin] at hn
    rw [if_neg (by omega)]
    obtain ⟨x, hx, hr⟩ := hc.get _ _ hn
    exact ⟨x, by simpa using hx, hr⟩

inductive PRels (m : Emb) : List (Nat × AV) → List (Nat × Value) → Prop
  | nil : PRels m [] []
  | cons (i : Nat) (v : AV) (x : Value) (l : List (Nat × AV)) (l' : List (Nat × Value)) (h : VRel m v x) (hl : PRels m l l') : PRels m ((i, v) :: l) ((i, x) :: l')

theorem PRels.of_zip : ∀ {ks : List Nat} {vs : List AV} {xs : List Value}, VRels m vs xs → PRels m (ks.zip vs) (ks.zip xs)
  | [], _, _, _ => .nil
  | _ :: _, _, _, .nil => .nil
  | k :: ks, _, _, .cons v x l l' h hl => .cons _ _ _ _ _ h (PRels.of_zip hl)

theorem fill_run {place place' : Nat → Option (Nat × Nat)} (hp : ∀ i x, place i = some x → place' i = some x) : ∀ {l : List (Nat × AV)} {l' : List (Nat × Value)}, PRels m l l' →
    ∀ {cs : List AV} {c : Array Value}, VRels m cs c.toList → ∀ {r : List AV}, fillA place cs l = some r → ∃ c', Instr.fill place' c l' = some c' ∧ VRels m r c'.toList
  | _, _, .nil, cs, c, hc, r, hf => by simp [fillA] at hf; subst hf; exact ⟨c, by simp [Instr.fill], hc⟩
  | _, _, .cons i v x l l' h hl, cs, c, hc, r, hf => by
    unfold fillA at hf
    split at hf
    · cases hf
    · rename_i off size hpl
      dsimp only at hf
      split at hf
      · rename_i hcond
        simp only [Bool.and_eq_true, Nat.ble_eq] at hcond
        have hsz : v.cells.length = size := Nat.eq_of_beq_eq_true hcond.1
        have hvc := h.cells
        have l1 : cs.length = c.size := by rw [hc.length]; simp
        have l2 : x.cells.size = size := by rw [← hsz, hvc.length]; simp
        obtain ⟨c', h1, h2⟩ := fill_run hp hl (lput_rel hc hvc (by omega)) hf
        refine ⟨c', ?_, h2⟩
        unfold Instr.fill
        rw [hp _ _ hpl]
        dsimp only
        have hfalse : (x.cells.size != size || decide (off + x.cells.size > c.size)) = false := by
          simp [l2]; omega
        rw [if_neg (by simpa using hfalse)]
        have := foldl_aput off x.cells.toList 0 c
        rw [← Array.foldl_toList, Array.toList_zipIdx]
        rw [Nat.add_zero] at this
        rw [this]
        exact h1
      · cases hf

theorem mapM_places {fa : Array Field} {g : Field → Nat × Nat} (hg : ∀ f ∈ fa.toList, (sizeOf f.type).run P w = .ok (g f).2 w ∧ (g f).1 = f.offset) :
    (fa.mapM fun f => do pure (f.offset, ← sizeOf f.type) : Sem (Array (Nat × Nat))).run P w = .ok (fa.map g) w := by
  rw [Array.mapM_eq_mapM_toList]
  have key : ∀ l : List Field, (∀ f ∈ l, (sizeOf f.type).run P w = .ok (g f).2 w ∧ (g f).1 = f.offset) →
      (l.mapM (fun f => do pure (f.offset, ← sizeOf f.type)) : Sem (List (Nat × Nat))).run P w = .ok (l.map g) w := by
    intro l
    induction l with
    | nil => intro _; simp
    | cons f l ih =>
      intro hl
      obtain ⟨h1, h2⟩ := hl f (by simp)
      have hfg : (f.offset, (g f).2) = g f := by rw [← h2]
      simp only [List.mapM_cons, Sem.run_bind, Sem.run_pure, h1, ih fun x hx => hl x (List.mem_cons_of_mem _ hx), Result.andThen_ok, hfg, List.map_cons]
  simp only [Sem.run_map, key fa.toList hg, Result.andThen_ok]
  congr 1
  apply Array.ext'
  simp

theorem zip_map_pairs (ps : Array (Nat × Operand)) (f : Operand → Value) : (ps.map fun (i, x) => (i, f x)).toList = (ps.toList.map (·.1)).zip ((ps.toList.map (·.2)).map f) := by
  rw [Array.toList_map]
  induction ps.toList with
  | nil => rfl
  | cons p l ih => obtain ⟨a, b⟩ := p; simp [ih]

/-- All fields' types are known. -/
def fieldsKnown (e : Env) (fs : List (Nat × Nat × Bool)) : Bool := fs.all fun f => (e.tt.get f.2.1).isSome

theorem sim_build (EO : TabOK P e) (hk : ∀ t ti fs, e.tt.get t = some ti → ti.kind = .struct fs → fieldsKnown e fs = true) {ty : TypeId} {ps : Array (Nat × Operand)} (ho : o.op = .build ty ps) (R : Rel G B C m h w.heap) (F : TRel m fr.tmps t) (hx : (ps.toList.map (·.2)).all (opdOk G) = true) (hv : opA e fr h nt o = .val v h') : Sim1 P G B C m h w t o v h' := by
  simp only [opA, ho, Env.ti] at hv
  split at hv
  · rename_i ti vs hti hvs
    have rv := evals_rel R F hx hvs
    have hm := EO.tt _ _ hti
    split at hv
    · rename_i z fs hz hkd
      obtain ⟨h1, rfl⟩ := OR.of_val hv
      cases hfill : fillA (placeOf e fs) z ((ps.toList.map (·.1)).zip vs) with
      | none => rw [hfill] at h1; cases h1
      | some r =>
        rw [hfill] at h1
        injection h1 with h1
        subst h1
        obtain ⟨fa, hu, hfs⟩ := mkKind_struct ((kind_of hm).trans hkd)
        obtain ⟨i, zv, hi, hzv, hs, hb, r1, r2, hzl, _⟩ := mkTI_zero (m := m) hm hz
        have hkn := hk _ _ _ hti hkd
        let g : Field → Nat × Nat := fun f => (f.offset, ((e.tt.get f.type).map (·.size)).getD 0)
        have hg : ∀ f ∈ fa.toList, (sizeOf f.type).run P w = .ok (g f).2 w ∧ (g f).1 = f.offset := by
          intro f hf
          have hmem : (f.offset, f.type, f.name == "_") ∈ fs := by rw [hfs]; exact List.mem_map.2 ⟨f, hf, rfl⟩
          have := List.all_eq_true.1 hkn _ hmem
          obtain ⟨fi, hfi⟩ := Option.isSome_iff_exists.1 this
          refine ⟨?_, rfl⟩
          dsimp only at hfi
          simp [g, hfi, run_sizeOf' (EO.tt _ _ hfi)]
        obtain ⟨c', h2, h3⟩ := fill_run (place' := fun i => (fa.map g)[i]?) (fun n x hx => by
          unfold placeOf at hx
          split at hx
          · rename_i off ft bl hgt
            obtain ⟨f, f0, f1, f2, _⟩ := struct_field hfs hgt
            split at hx
            · rename_i fi hfi
              injection hx with hx
              subst hx
              simp [f0, g, f2, hfi, f1]
            · cases hx
          · cases hx) (PRels.of_zip rv) r1 hfill
        refine Sim1.pure R (x := .agg c') ?_ (.agg _ _ h3)
        have hpl := mapM_places (P := P) (w := w) hg
        simp only [execOp, ho, Instr.build, Sem.run_bind, run_zeroValue' hi hzv, Result.andThen_ok, run_underlying' hu, hpl, zip_map_pairs, h2]
        rfl
    · rename_i z n el hz hkd
      split at hv
      · rename_i ei hei
        obtain ⟨h1, rfl⟩ := OR.of_val hv
        cases hfill : fillA (fun i => some (i * ei.size, ei.size)) z ((ps.toList.map (·.1)).zip vs) with
        | none => rw [hfill] at h1; cases h1
        | some r =>
          rw [hfill] at h1
          injection h1 with h1
          subst h1
          have hu := mkKind_array ((kind_of hm).trans hkd)
          obtain ⟨i, zv, hi, hzv, hs, hb, r1, r2, hzl, _⟩ := mkTI_zero (m := m) hm hz
          obtain ⟨c', h2, h3⟩ := fill_run (place' := fun i => some (i * ei.size, ei.size)) (fun n x hx => hx) (PRels.of_zip rv) r1 hfill
          refine Sim1.pure R (x := .agg c') ?_ (.agg _ _ h3)
          simp only [execOp, ho, Instr.build, Sem.run_bind, run_zeroValue' hi hzv, Result.andThen_ok, run_underlying' hu, run_sizeOf' (EO.tt _ _ hei), zip_map_pairs, h2]
          rfl
      · cases hv
    · cases hv
  · cases hv

theorem simA_buildSlice (EO : TabOK P e) {ty : TypeId} {n : Nat} {ps : Array (Nat × Operand)} (ho : o.op = .buildSlice ty n ps) (R : RelX G B C m h w.heap) (hn : m h.sz = none) (F : TRel m fr.tmps t) (hx : (ps.toList.map (·.2)).all (opdOk G) = true) (hv : opA e fr h nt o = .val v h') : SimA P G B C m h w t o v h' := by
  simp only [opA, ho, Env.ti] at hv
  split at hv
  · rename_i ti vs hti hvs
    have rv := evals_relX R F hx hvs
    split at hv
    · rename_i el hkd
      split at hv
      · rename_i ei hei
        split at hv
        · rename_i z hz
          split at hv
          · cases hv
          · rename_i hcond
            split at hv
            · rename_i cs hfill
              split at hv
              · rename_i hone
                injection hv with e1 e2; subst e1; subst e2
                have hm := EO.tt _ _ hei
                have hu := mkKind_slice ((kind_of (EO.tt _ _ hti)).trans hkd)
                obtain ⟨i, zv, hi, hzv, hs, hb, r1, r2, hzl, _⟩ := mkTI_zero (m := m) hm hz
                have hzs : zv.cells.size = ei.size := by rw [← hzl, r1.length]; simp
                obtain ⟨hz0, hle⟩ : ¬ ei.size = 0 ∧ n * ei.size ≤ 16777216 := by
                  simp at hcond; omega
                have hrep := lrep_rel r1 n (n * ei.size) (by rw [hzs])
                obtain ⟨c', h2, h3⟩ := fill_run (place' := fun i => some (i * ei.size, ei.size)) (fun n x hx => hx) (PRels.of_zip rv) hrep hfill
                have R' := row_newX R hn (elem := el) (rest := #[]) (opn := false) (es := ei.size) (strish := false) (fz := (0, 0)) h3 (List.all_eq_true.1 hone) (fun _ => rfl) (.inl rfl)
                simp only [Array.append_empty] at R'
                refine ⟨.slice (some ⟨w.heap.size, 0, none⟩) n n, { w with heap := w.heap.push (.cells c' el) }, _, (.cells c' el), _, ?_, rfl, rfl, rfl, rfl, rfl, rfl, ?_, R'⟩
                · have hzp : List.map (fun x => (x.fst, ev t x.snd)) ps.toList = (ps.toList.map (·.1)).zip ((ps.toList.map (·.2)).map (ev t)) := by rw [← zip_map_pairs]; simp
                  rw [List.map_map] at h2
                  have hk0 : (if n * ei.size = 0 then (Pure.pure #[] : Sem (Array Value)) else do pure (← zeroValue el).cells).run P w = .ok (if n * ei.size = 0 then #[] else zv.cells) w := by
                    split
                    · rfl
                    · simp [run_zeroValue' hi hzv]
                  by_cases hn : n * ei.size = 0
                  · have hnn : n = 0 := by
                      rcases Nat.mul_eq_zero.1 hn with q | q
                      · exact q
                      · exact absurd q hz0
                    subst hnn
                    have h00 : Array.range 0 = #[] := Array.eq_empty_of_size_eq_zero (by simp)
                    simp only [Nat.zero_mul, h00, Array.map_empty] at h2
                    simp [execOp, ho, Instr.buildSlice, run_underlying' hu, run_sizeOf' hm, h00, hzp, h2, Go.newRow]
                  · simp [execOp, ho, Instr.buildSlice, run_underlying' hu, run_sizeOf' hm, run_zeroValue' hi hzv, hzp, h2, Go.newRow, hn, show ¬ 16777216 < n * ei.size by omega]
                · exact .slice (m := upd m h.sz ⟨w.heap.size, 0, _, none⟩) h.sz 0 n n n _ (upd_self _ _ _) (.inl rfl)
              · cases hv
            · cases hv
        · cases hv
      · cases hv
    · cases hv
  · cases hv
theorem sim_buildSlice (EO : TabOK P e) {ty : TypeId} {n : Nat} {ps : Array (Nat × Operand)} (ho : o.op = .buildSlice ty n ps) (R : Rel G B C m h w.heap) (F : TRel m fr.tmps t) (hx : (ps.toList.map (·.2)).all (opdOk G) = true) (hv : opA e fr h nt o = .val v h') : Sim1 P G B C m h w t o v h' := (simA_buildSlice EO ho R.toRelX R.none_sz F hx hv).sim1 R
end
end Go.Ab
namespace Go.Ab
section
variable {G B : Nat} {C : CodeP} {P : Program} {e : Env} {m : Emb} {h h' : H} {w : World} {fr : Fr} {t : Array Value} {nt : Nat} {o : Oper} {v : AV}

theorem ltake_eq {α : Type} : ∀ (n : Nat) (l : List α), ltake n l = l.take n
  | 0, l => by cases l <;> rfl
  | n + 1, [] => rfl
  | n + 1, a :: l => by simp [ltake, ltake_eq n l]
theorem ldrop_eq {α : Type} : ∀ (n : Nat) (l : List α), ldrop n l = l.drop n
  | 0, l => by cases l <;> rfl
  | n + 1, [] => rfl
  | n + 1, a :: l => by simp [ldrop, ldrop_eq n l]

/-- A bound on both sides. -/
def OptRel (m : Emb) : Option AV → Option Value → Prop
  | none, none => True
  | some v, some x => VRel m v x
  | _, _ => False

def optOk (G : Nat) : Option Operand → Bool
  | none => true
  | some x => opdOk G x

theorem optEval_rel {hp : Array Obj} (R : Rel G B C m h hp) (F : TRel m fr.tmps t) {x : Option Operand} (hx : optOk G x = true) {v : Option AV} (hv : optEval fr x = some v) : OptRel m v (x.map (ev t)) := by
  cases x with
  | none => simp [optEval] at hv; subst hv; trivial
  | some x =>
    simp only [optEval] at hv
    cases hy : fr.eval x with
    | none => rw [hy] at hv; cases hv
    | some y =>
      rw [hy] at hv
      injection hv with hv
      subst hv
      exact eval_rel R F hx hy

theorem asNat_inv {v : AV} {n : Nat} {x : Value} (hv : asNat v = some n) (r : VRel m v x) : ∃ k, x = .int k (n : Int) := by
  unfold asNat at hv
  split at hv
  · injection hv with hv
    subst hv
    exact ⟨_, r.int_inv⟩
  · cases hv

theorem run_bound {x : Value} {k : IntKind} {n y : Nat} {code : BoundsCode} (hx : x = .int k (n : Int)) (hn : n ≤ y) : (Instr.sliceBound x y code).run P w = .ok n w := by
  subst hx
  simp [Instr.sliceBound, asIntOf, hn]

theorem bnds_run {isSlice : Bool} {len cap : Nat} {lo hi mx : Option AV} {lo' hi' mx' : Option Value} {l hh k : Nat} (hb : bndsA len cap lo hi mx = some (l, hh, k)) (rl : OptRel m lo lo') (rh : OptRel m hi hi') (rm : OptRel m mx mx') {cap' : Nat} (hc : cap ≤ cap') :
    ∃ k', (Instr.sliceBounds isSlice len cap' lo' hi' mx').run P w = .ok (l, hh, k') w ∧ l ≤ hh ∧ hh ≤ k ∧ k ≤ cap ∧ ((mx = none ∧ k = cap ∧ k' = cap') ∨ (mx ≠ none ∧ k' = k)) := by
  unfold bndsA at hb
  split at hb
  · rename_i l₀ hh₀ k₀ e1 e2 e3
    split at hb
    · rename_i hcond
      injection hb with hb
      injection hb with h1 hb
      injection hb with h2 h3
      subst h1; subst h2; subst h3
      simp only [Bool.and_eq_true, Nat.ble_eq] at hcond
      obtain ⟨⟨⟨g1, g2⟩, g3⟩, g4⟩ := hcond
      have lobound : ∀ code : BoundsCode, (match lo' with | some v => Instr.sliceBound v hh₀ code | none => pure 0 : Sem Nat).run P w = .ok l₀ w := by
        intro code
        cases lo with
        | none =>
          cases lo' with
          | none => simp [bndA] at e1; subst e1; rfl
          | some x => exact rl.elim
        | some v =>
          cases lo' with
          | none => exact rl.elim
          | some x =>
            obtain ⟨kk, hx⟩ := asNat_inv e1 rl
            exact run_bound hx g4
      cases mx with
      | none =>
        cases mx' with
        | some x => exact rm.elim
        | none =>
          simp [bndA] at e3
          subst e3
          refine ⟨cap', ?_, g4, g3, g2, .inl ⟨rfl, rfl, rfl⟩⟩
          cases hi with
          | none =>
            cases hi' with
            | some x => exact rh.elim
            | none =>
              simp [bndA] at e2
              subst e2
              cases lo with
              | none =>
                cases lo' with
                | none => simp [bndA] at e1; subst e1; simp [Instr.sliceBounds]
                | some x => exact rl.elim
              | some v =>
                cases lo' with
                | none => exact rl.elim
                | some x =>
                  obtain ⟨kk, hx⟩ := asNat_inv e1 rl
                  simp [Instr.sliceBounds, run_bound hx g4]
          | some v =>
            cases hi' with
            | none => exact rh.elim
            | some x =>
              obtain ⟨kk, hx⟩ := asNat_inv e2 rh
              have hb2 : ∀ code, (Instr.sliceBound x cap' code).run P w = .ok hh₀ w := fun code => run_bound hx (by omega)
              cases lo with
              | none =>
                cases lo' with
                | none => simp [bndA] at e1; subst e1; simp [Instr.sliceBounds, hb2]
                | some x => exact rl.elim
              | some v =>
                cases lo' with
                | none => exact rl.elim
                | some y =>
                  obtain ⟨kk, hy⟩ := asNat_inv e1 rl
                  simp [Instr.sliceBounds, hb2, run_bound hy g4]
      | some mv =>
        cases mx' with
        | none => exact rm.elim
        | some mx' =>
          obtain ⟨km, hm⟩ := asNat_inv e3 rm
          refine ⟨k₀, ?_, g4, g3, g2, .inr ⟨by simp, rfl⟩⟩
          have hb3 : ∀ code, (Instr.sliceBound mx' cap' code).run P w = .ok k₀ w := fun code => run_bound hm (by omega)
          cases hi with
          | none => simp [noGap] at g1
          | some v =>
            cases hi' with
            | none => exact rh.elim
            | some x =>
              obtain ⟨kk, hx⟩ := asNat_inv e2 rh
              have hb2 : ∀ code, (Instr.sliceBound x k₀ code).run P w = .ok hh₀ w := fun code => run_bound hx (by omega)
              cases lo with
              | none =>
                cases lo' with
                | none => simp [bndA] at e1; subst e1; simp [Instr.sliceBounds, hb2, hb3]
                | some x => exact rl.elim
              | some v =>
                cases lo' with
                | none => exact rl.elim
                | some y =>
                  obtain ⟨kk, hy⟩ := asNat_inv e1 rl
                  simp [Instr.sliceBounds, hb2, hb3, run_bound hy g4]
    · cases hb
  · cases hb

theorem sim_slice (EO : TabOK P e) {ty : TypeId} {x : Operand} {lo hi mx : Option Operand} (ho : o.op = .slice ty x lo hi mx) (R : Rel G B C m h w.heap) (F : TRel m fr.tmps t) (hx : opdOk G x = true)
    (hlo : optOk G lo = true) (hhi : optOk G hi = true) (hmx : optOk G mx = true)
    (hv : opA e fr h nt o = .val v h') : Sim1 P G B C m h w t o v h' := by
  simp only [opA, ho] at hv
  split at hv
  · rename_i xv l₀ h₀ m₀ hxv hl hh hm
    obtain ⟨h1, rfl⟩ := OR.of_val hv
    have rx := eval_rel R F hx hxv
    have rl := optEval_rel R F hlo hl
    have rh := optEval_rel R F hhi hh
    have rm := optEval_rel R F hmx hm
    simp only [sliceA, Env.ti] at h1
    split at h1
    · cases h1
    · rename_i ti hti
      have hkd := kind_of (EO.tt _ _ hti)
      split at h1
      · rename_i s hk
        split at h1
        · rename_i l hh k hb
          split at h1
          · injection h1 with h1; subst h1
            obtain ⟨b, hxs, hbs⟩ := rx.str_inv
            have hsz : b.size = s.length := by rw [← hbs]; simp
            obtain ⟨k', hr, g1, g2, g3, _⟩ := bnds_run (P := P) (w := w) (isSlice := false) hb rl rh rm (Nat.le_refl _)
            have hu := mkKind_str (hkd.trans hk)
            have hmx0 : mx.map (ev t) = none := by cases hq : mx.map (ev t) with | none => rfl | some y => rw [hq] at rm; exact rm.elim
            refine Sim1.pure R (x := .string (b.extract l hh)) ?_ (.str _ _ ?_)
            · rw [hmx0, ← hsz] at hr
              simp [execOp, ho, hxs, Instr.sliceAt, Instr.slice, run_underlying' hu, hmx0, hr]
            · rw [ByteArray.data_extract, Array.toList_extract, List.extract_eq_take_drop, ltake_eq, ldrop_eq, hbs]
          · cases h1
        · cases h1
      · rename_i el hk
        split at h1
        · rename_i ei q hei hb
          obtain ⟨l, hh, k⟩ := q
          injection h1 with h1; subst h1
          obtain ⟨k', hr, g1, g2, g3, g4⟩ := bnds_run (P := P) (w := w) (isSlice := true) hb rl rh rm (Nat.le_refl _)
          have hu := mkKind_slice (hkd.trans hk)
          have hk' : k' = 0 := by omega
          have hl' : l = 0 := by omega
          have hh' : hh = 0 := by omega
          subst k'; subst l; subst hh
          have hxs : ev t x = .slice none 0 0 := by
            generalize ev t x = y at rx
            cases rx
            rfl
          exact Sim1.pure R (x := .slice none 0 0) (by simp [execOp, ho, hxs, Instr.sliceAt, Instr.slice, run_underlying' hu, hr, run_sizeOf' (EO.tt _ _ hei)]) .nilslice
        · cases h1
      · rename_i el b off len cap hk
        split at h1
        · rename_i ei r l hh k hei hrow hb
          have hu := mkKind_slice (hkd.trans hk)
          obtain ⟨i, hi, hcase⟩ := rx.slice_inv
          obtain ⟨ob, k1, k2⟩ := R.obj b i hi
          have hrow' : h'.get b = some (.row r) := by
            unfold H.row? at hrow
            rw [k1] at hrow
            split at hrow
            · rename_i r' hr'
              injection hr' with hr'
              injection hrow with hrow
              rw [k1, hr', hrow]
            · cases hrow
          rw [k1] at hrow'
          injection hrow' with hrow'
          subst hrow'
          obtain ⟨c, fz, e1, e2, e3, e4, e5, e5', e6, e7⟩ := k2
          have hsize := run_sizeOf' (w := w) (EO.tt _ _ hei)
          by_cases htail : tailOpen r off cap = true
          · have htail' := htail
            simp only [tailOpen, Bool.and_eq_true] at htail'
            have hopn : i.opn = some (r.n, r.es) := by rw [e5, if_pos htail'.1]
            have hK : off + cap * r.es = r.n := Nat.eq_of_beq_eq_true htail'.2
            by_cases hmc : k = cap
            · subst hmc
              rw [if_pos (by simp [htail])] at h1
              split at h1
              · rename_i hes
                have hes' : r.es = ei.size := Nat.eq_of_beq_eq_true hes
                injection h1 with h1; subst h1
                rcases hcase with ⟨c', hxs, hc⟩ | ⟨a, es, hl0, hc0, hxs, hop, hab⟩
                · have hcc : k ≤ c' := by rcases hc with rfl | ⟨_, _, _, _, q, _⟩ <;> omega
                  have hcb : i.s + off + c' * r.es ≤ i.rsz := by
                    rcases hc with rfl | ⟨K, es, q1, q2, q3, q4⟩
                    · omega
                    · rw [hopn] at q1; cases q1; exact q4
                  obtain ⟨k', hr, g1, g2, g3, g4⟩ := bnds_run (P := P) (w := w) (isSlice := true) hb rl rh rm hcc
                  have hkk : k ≤ k' := by rcases g4 with ⟨_, _, q⟩ | ⟨_, q⟩ <;> omega
                  have hkc : k' ≤ c' := by rcases g4 with ⟨_, _, q⟩ | ⟨_, q⟩ <;> omega
                  by_cases hkl : k' = l
                  · have : hh = l := by omega
                    have : k = l := by omega
                    subst hkl
                    refine Sim1.pure R (x := .slice (some ⟨i.r, i.s + off, none⟩) (hh - k') (k' - k')) ?_ ?_
                    · simp [execOp, ho, hxs, Instr.sliceAt, Instr.slice, run_underlying' hu, hr, hsize]
                    · rw [show hh - k' = 0 by omega, show k - k' = 0 by omega, Nat.sub_self]
                      refine .slice0 _ _ r.es i _ hi ?_ rfl
                      rw [hopn, ← hK, ← hes']
                      have : k = k' := by omega
                      rw [this]
                  · refine Sim1.pure R (x := .slice (some ⟨i.r, i.s + (off + l * ei.size), none⟩) (hh - l) (k' - l)) ?_ ?_
                    · simp [execOp, ho, hxs, Instr.sliceAt, Instr.slice, run_underlying' hu, hr, hsize, hkl, add_plain, Nat.add_assoc]
                    · refine .slice _ _ _ _ _ i hi (.inr ⟨r.n, r.es, hopn, ?_, by omega, ?_⟩)
                      · rw [← hK, ← hes', Nat.add_assoc, ← Nat.add_mul]; congr 2; omega
                      · have : l * ei.size + (k' - l) * r.es = k' * r.es := by rw [← hes', ← Nat.add_mul]; congr 1; omega
                        have h2 : k' * r.es ≤ c' * r.es := Nat.mul_le_mul_right _ hkc
                        omega
                · subst hl0; subst hc0
                  obtain ⟨k', hr, g1, g2, g3, g4⟩ := bnds_run (P := P) (w := w) (isSlice := true) hb rl rh rm (Nat.le_refl _)
                  have : l = 0 := by omega
                  have : hh = 0 := by omega
                  have : k' = 0 := by rcases g4 with ⟨_, _, q⟩ | ⟨_, q⟩ <;> omega
                  subst l; subst hh; subst k'
                  refine Sim1.pure R (x := .slice (some a) 0 0) ?_ ?_
                  · simp [execOp, ho, hxs, Instr.sliceAt, Instr.slice, run_underlying' hu, hr, hsize]
                  · simp only [Nat.zero_mul, Nat.add_zero, Nat.sub_self]
                    exact .slice0 _ _ es i _ hi hop hab
              · cases h1
            · rw [if_neg (by simp [hmc])] at h1
              injection h1 with h1; subst h1
              rcases hcase with ⟨c', hxs, hc⟩ | ⟨a, es, hl0, hc0, hxs, hop, hab⟩
              · have hcc : cap ≤ c' := by rcases hc with rfl | ⟨_, _, _, _, q, _⟩ <;> omega
                obtain ⟨k', hr, g1, g2, g3, g4⟩ := bnds_run (P := P) (w := w) (isSlice := true) hb rl rh rm hcc
                have hkk : k' = k := by rcases g4 with ⟨_, q, _⟩ | ⟨_, q⟩ <;> omega
                subst hkk
                refine Sim1.pure R (x := .slice (some ⟨i.r, i.s + (if Nat.beq k' l then off else off + l * ei.size), none⟩) (hh - l) (k' - l)) ?_ (.slice _ _ _ _ _ i hi (.inl rfl))
                by_cases hkl : k' = l
                · subst hkl
                  simp [execOp, ho, hxs, Instr.sliceAt, Instr.slice, run_underlying' hu, hr, hsize]
                · simp [execOp, ho, hxs, Instr.sliceAt, Instr.slice, run_underlying' hu, hr, hsize, hkl, add_plain, Nat.add_assoc]
              · subst hc0
                obtain ⟨k', hr, g1, g2, g3, g4⟩ := bnds_run (P := P) (w := w) (isSlice := true) hb rl rh rm (Nat.le_refl _)
                omega
          · rw [if_neg (by simp [htail])] at h1
            injection h1 with h1; subst h1
            rcases hcase with ⟨c', hxs, hc⟩ | ⟨a, es, hl0, hc0, hxs, hop, hab⟩
            · have hcc : c' = cap := by
                rcases hc with q | ⟨K, es, q1, q2, q3, q4⟩
                · exact q
                · exfalso
                  apply htail
                  rw [e5] at q1
                  split at q1
                  · rename_i hro
                    injection q1 with q1
                    injection q1 with q5 q6
                    simp [tailOpen, hro, q6, q2, q5]
                  · cases q1
              subst hcc
              obtain ⟨k', hr, g1, g2, g3, g4⟩ := bnds_run (P := P) (w := w) (isSlice := true) hb rl rh rm (Nat.le_refl _)
              have hkk : k' = k := by rcases g4 with ⟨_, q, _⟩ | ⟨_, q⟩ <;> omega
              subst hkk
              refine Sim1.pure R (x := .slice (some ⟨i.r, i.s + (if Nat.beq k' l then off else off + l * ei.size), none⟩) (hh - l) (k' - l)) ?_ (.slice _ _ _ _ _ i hi (.inl rfl))
              by_cases hkl : k' = l
              · subst hkl
                simp [execOp, ho, hxs, Instr.sliceAt, Instr.slice, run_underlying' hu, hr, hsize]
              · simp [execOp, ho, hxs, Instr.sliceAt, Instr.slice, run_underlying' hu, hr, hsize, hkl, add_plain, Nat.add_assoc]
            · exfalso
              apply htail
              subst hc0
              rw [e5] at hop
              split at hop
              · rename_i hro
                injection hop with hop
                injection hop with q5 q6
                simp [tailOpen, hro, q5]
              · cases hop
        · cases h1
      · rename_i n el b off hk
        split at h1
        · rename_i ei r l hh k hei hrow hb
          split at h1
          · cases h1
          · rename_i hno
            injection h1 with h1; subst h1
            have hu := mkKind_array (hkd.trans hk)
            obtain ⟨i, hi, hxs⟩ := rx.ptr_inv
            obtain ⟨k', hr, g1, g2, g3, g4⟩ := bnds_run (P := P) (w := w) (isSlice := false) hb rl rh rm (Nat.le_refl _)
            have hkk : k' = k := by rcases g4 with ⟨_, q, _⟩ | ⟨_, q⟩ <;> omega
            subst hkk
            have hsize := run_sizeOf' (w := w) (EO.tt _ _ hei)
            refine Sim1.pure R (x := .slice (some ⟨i.r, i.s + (if Nat.beq k' l then off else off + l * ei.size), none⟩) (hh - l) (k' - l)) ?_ (.slice _ _ _ _ _ i hi (.inl rfl))
            by_cases hkl : k' = l
            · subst hkl
              simp [execOp, ho, hxs, Instr.sliceAt, run_underlying' hu, hr, hsize, Instr.sureAddr]
            · simp [execOp, ho, hxs, Instr.sliceAt, run_underlying' hu, hr, hsize, hkl, add_plain, Nat.add_assoc, Instr.sureAddr]
        · cases h1
      · cases h1
  · cases hv
end
end Go.Ab
namespace Go.Ab
section
variable {G B : Nat} {C : CodeP} {P : Program} {e : Env} {m : Emb} {h h' : H} {w : World} {fr : Fr} {t : Array Value} {nt : Nat} {o : Oper} {v : AV}

theorem plainAt_inv (R : Rel G B C m h w.heap) {b : Nat} {i : BI} (hb : m b = some i) (hp : h.plainAt b = true) :
    ∃ ob, h.get b = some ob ∧ ob.live = true ∧ ∃ c el fz, w.heap[i.r]? = some (.cells c el fz) ∧ fz.1 = fz.2 := by
  obtain ⟨ob, k1, k2⟩ := R.obj b i hb
  unfold H.plainAt at hp
  rw [k1] at hp
  cases ob with
  | row r =>
    simp only [Bool.and_eq_true, Bool.not_eq_true'] at hp
    obtain ⟨c, fz, e1, e2, e3, e4, e5, e5', e6, e7⟩ := k2
    refine ⟨_, k1, rfl, c, _, fz, e1, ?_⟩
    rcases e7 hp.1 with q | ⟨q, _⟩
    · exact q
    · rw [hp.2] at q; cases q
  | _ => simp at hp

theorem frozen_no {c : Array Value} {el : TypeId} {fz : Nat × Nat} {r off : Nat} (h1 : w.heap[r]? = some (.cells c el fz)) (h2 : fz.1 = fz.2) : w.frozen? ⟨r, off, none⟩ = false := by
  unfold World.frozen?
  dsimp only
  rw [h1]
  simp; omega

theorem sameAddr_run (R : Rel G B C m h w.heap) {b b' off off' : Nat} {i i' : BI} (hb : m b = some i) (hb' : m b' = some i') (hp : h.plainAt b = true) (hp' : h.plainAt b' = true) :
    (sameAddr ⟨i.r, i.s + off, none⟩ ⟨i'.r, i'.s + off', none⟩).run P w = .ok (Nat.beq b b' && Nat.beq off off') w := by
  obtain ⟨ob, k1, k2, c, el, fz, k3, k4⟩ := plainAt_inv R hb hp
  obtain ⟨ob', l1, l2, c', el', fz', l3, l4⟩ := plainAt_inv R hb' hp'
  by_cases hbb : b = b'
  · subst hbb
    rw [hb] at hb'; cases hb'
    by_cases hoo : off = off'
    · subst hoo; simp [sameAddr]
    · have h1 : ((⟨i.r, i.s + off, none⟩ : Addr) == ⟨i.r, i.s + off', none⟩) = false := by simp; omega
      have h2 : Nat.beq off off' = false := by rw [Bool.eq_false_iff]; intro q; exact hoo (Nat.eq_of_beq_eq_true q)
      simp [sameAddr, h1, h2]
  · have hr : i.r ≠ i'.r := R.inj b b' i i' ob ob' hb hb' k1 l1 k2 l2 hbb
    have f1 : ∀ x, w.frozen? ⟨i.r, x, none⟩ = false := fun x => frozen_no k3 k4
    have f2 : ∀ x, w.frozen? ⟨i'.r, x, none⟩ = false := fun x => frozen_no l3 l4
    simp [sameAddr, hr, f1, f2, noView, viewAt, World.shape?, k3, l3, mayBeOne, stringish, hbb]

set_option maxHeartbeats 4000000 in
theorem equalA_run (EO : TabOK P e) (R : Rel G B C m h w.heap) : ∀ (d D : Nat), d ≤ D → ∀ (ty : TypeId) (x y : AV) (x' y' : Value) (r : Bool), equalA e h d ty x y = some r → VRel m x x' → VRel m y y' → (Op.equalIn D ty x' y').run P w = .ok r w := by
  intro d
  induction d with
  | zero => intro D _ ty x y x' y' r he; simp [equalA] at he
  | succ d ih =>
    intro D hD ty x y x' y' r he rx ry
    obtain ⟨D, rfl⟩ : ∃ n, D = n + 1 := ⟨D - 1, by omega⟩
    unfold equalA at he
    split at he
    · cases he
    · rename_i ti hti
      have hm := EO.tt _ _ hti
      have hkd := kind_of hm
      split at he
      · rename_i a b hk
        cases rx; cases ry
        injection he with he; subst he
        simp [Op.equalIn, run_underlying' (mkKind_bool (hkd.trans hk))]
      · rename_i k a k' b hk
        split at he
        · rename_i hkk
          subst hkk
          cases rx; cases ry
          injection he with he; subst he
          simp [Op.equalIn, run_underlying' (mkKind_int (hkd.trans hk))]
        · cases he
      · rename_i a b hk
        obtain ⟨u, rfl, hu⟩ := rx.str_inv
        obtain ⟨u', rfl, hu'⟩ := ry.str_inv
        injection he with he; subst he
        rw [run_equalIn_string w D ty u u' (mkKind_str (hkd.trans hk))]
        rw [ByteArray.toList_eq, ByteArray.toList_eq, hu, hu']
      · rename_i hk
        cases rx; cases ry
        injection he with he; subst he
        simp [Op.equalIn, run_underlying' (mkKind_ptr (hkd.trans hk))]
      · rename_i hk
        cases rx; cases ry
        injection he with he; subst he
        simp [Op.equalIn, run_underlying' (mkKind_ptr (hkd.trans hk))]
      · rename_i hk
        cases rx; cases ry
        injection he with he; subst he
        simp [Op.equalIn, run_underlying' (mkKind_ptr (hkd.trans hk))]
      · rename_i el a oa b ob hk
        split at he
        · rename_i ei hei
          split at he
          · cases he
          · rename_i hsz
            split at he
            · rename_i hp
              simp only [Bool.and_eq_true] at hp
              injection he with he; subst he
              obtain ⟨i, hi, rfl⟩ := rx.ptr_inv
              obtain ⟨i', hi', rfl⟩ := ry.ptr_inv
              simp [Op.equalIn, run_underlying' (mkKind_ptr (hkd.trans hk)), run_sizeOf' (EO.tt _ _ hei), hsz, sameAddr_run (P := P) R hi hi' hp.1 hp.2]
            · cases he
        · cases he
      · rename_i em hk
        cases rx; cases ry
        injection he with he; subst he
        obtain ⟨ms, hu, _⟩ := mkKind_iface (hkd.trans hk)
        simp [Op.equalIn, run_underlying' hu]
      · rename_i em ty' v' hk
        cases rx; cases ry
        injection he with he; subst he
        obtain ⟨ms, hu, _⟩ := mkKind_iface (hkd.trans hk)
        simp [Op.equalIn, run_underlying' hu]
      · rename_i em ty' v' hk
        cases rx; cases ry
        injection he with he; subst he
        obtain ⟨ms, hu, _⟩ := mkKind_iface (hkd.trans hk)
        simp [Op.equalIn, run_underlying' hu]
      · rename_i em tx vx ty' vy hk
        obtain ⟨ms, hu, _⟩ := mkKind_iface (hkd.trans hk)
        cases rx with
        | iface _ _ x₁ rx =>
          cases ry with
          | iface _ _ y₁ ry =>
            split at he
            · rename_i htt
              have htt' : tx = ty' := Nat.eq_of_beq_eq_true htt
              subst htt'
              split at he
              · rename_i xi hxi
                split at he
                · rename_i hcmp
                  obtain ⟨inf, u, hinf, _, _, _, hc, _⟩ := mkTI_info (EO.tt _ _ hxi)
                  have := ih D (by omega) tx vx vy x₁ y₁ r he rx ry
                  simp [Op.equalIn, run_underlying' hu, run_typeInfo' hinf, hc, hcmp, this]
                · cases he
              · cases he
            · rename_i htt
              injection he with he; subst he
              have htt' : tx ≠ ty' := fun q => htt (by rw [q]; simp)
              simp [Op.equalIn, run_underlying' hu, htt']
      · rename_i fs xs ys hk
        split at he
        · rename_i heq
          obtain ⟨xa, rfl, hxa⟩ := rx.agg_inv
          obtain ⟨ya, rfl, hya⟩ := ry.agg_inv
          obtain ⟨fa, hu, hfs⟩ := mkKind_struct (hkd.trans hk)
          have hfo : P.fieldsOf ty = fa := by simp [Program.fieldsOf, hu]
          obtain ⟨inf, u, hinf, hu2, _, _, _, _, _, _, hEq, _⟩ := mkTI_info hm
          rw [hu] at hu2
          injection hu2 with hu2
          subst hu2
          rw [heq] at hEq
          simp only [Bool.true_eq, Bool.and_eq_true, Bool.not_eq_true'] at hEq
          rw [run_equalIn_struct w D ty xa ya (by rw [hfo]; exact hu) hEq.1, hfo]
          clear hfo hu hinf
          have key : ∀ (l : List Field) (q : List (Nat × Nat × Bool)), q = l.map (fun f => (f.offset, f.type, f.name == "_")) → ∀ r, eqFieldsA e (equalA e h d) xs ys q = some r → (Op.eqFields D xa ya l).run P w = .ok r w := by
            intro l
            induction l with
            | nil => intro q hq r hr; subst hq; simp [eqFieldsA] at hr; subst hr; simp [Op.eqFields]
            | cons f l ihl =>
              intro q hq r hr
              subst hq
              simp only [List.map_cons, eqFieldsA] at hr
              split at hr
              · cases hr
              · rename_i hbl
                split at hr
                · cases hr
                · rename_i fi hfi
                  split at hr
                  · cases hr
                  · rename_i hagg
                    split at hr
                    · rename_i x1 y1 hx1 hy1
                      obtain ⟨x2, hx2, rx2⟩ := hxa.get _ _ hx1
                      obtain ⟨y2, hy2, ry2⟩ := hya.get _ _ hy1
                      have hx2' : xa[f.offset]? = some x2 := by simpa using hx2
                      have hy2' : ya[f.offset]? = some y2 := by simpa using hy2
                      have hname : f.name ≠ "_" := by simpa using hbl
                      have ha := run_isAgg' (w := w) (EO.tt _ _ hfi)
                      have ha' : fi.agg = false := by simpa using hagg
                      have p1 : (part f.type xa f.offset).run P w = .ok x2 w := by simp [part, ha, ha', hx2']
                      have p2 : (part f.type ya f.offset).run P w = .ok y2 w := by simp [part, ha, ha', hy2']
                      cases hq : equalA e h d f.type x1 y1 with
                      | none => rw [hq] at hr; cases hr
                      | some bb =>
                        rw [hq] at hr
                        have h3 := ih D (by omega) f.type x1 y1 x2 y2 bb hq rx2 ry2
                        cases bb with
                        | true => simp [Op.eqFields, hname, p1, p2, h3, ihl _ rfl r hr]
                        | false =>
                          injection hr with hr
                          subst hr
                          simp [Op.eqFields, hname, p1, p2, h3]
                    · cases hr
          exact key fa.toList fs hfs r he
        · cases he
      all_goals first
        | (cases he; done)
        | skip
      · rename_i el hk
        cases rx; cases ry
        injection he with he; subst he
        simp [Op.equalIn, run_underlying' (mkKind_slice (hkd.trans hk))]
      · rename_i el b1 o1 l1 c1 hk
        injection he with he; subst he
        cases rx
        obtain ⟨i, hi, ⟨c', rfl, _⟩ | ⟨a, es, _, _, rfl, _, _⟩⟩ := ry.slice_inv <;> simp [Op.equalIn, run_underlying' (mkKind_slice (hkd.trans hk))]
      · rename_i el b1 o1 l1 c1 hk
        injection he with he; subst he
        cases ry
        obtain ⟨i, hi, ⟨c', rfl, _⟩ | ⟨a, es, _, _, rfl, _, _⟩⟩ := rx.slice_inv <;> simp [Op.equalIn, run_underlying' (mkKind_slice (hkd.trans hk))]
      · rename_i a b hk
        cases rx; cases ry
        injection he with he; subst he
        simp [Op.equalIn, run_underlying' (mkKind_map (hkd.trans hk))]
      · rename_i a b r1 hk
        cases rx; cases ry
        injection he with he; subst he
        simp [Op.equalIn, run_underlying' (mkKind_map (hkd.trans hk))]
      · rename_i a b r1 hk
        cases rx; cases ry
        injection he with he; subst he
        simp [Op.equalIn, run_underlying' (mkKind_map (hkd.trans hk))]
      · rename_i hk
        obtain ⟨a, b, c, hu⟩ := mkKind_func (hkd.trans hk)
        cases rx; cases ry
        injection he with he; subst he
        simp [Op.equalIn, run_underlying' hu]
      · rename_i f1 x1 y1 hk
        obtain ⟨a, b, c, hu⟩ := mkKind_func (hkd.trans hk)
        cases rx; cases ry
        injection he with he; subst he
        simp [Op.equalIn, run_underlying' hu]
      · rename_i f1 x1 y1 hk
        obtain ⟨a, b, c, hu⟩ := mkKind_func (hkd.trans hk)
        cases rx; cases ry
        injection he with he; subst he
        simp [Op.equalIn, run_underlying' hu]
end
end Go.Ab
namespace Go.Ab
section
variable {G B : Nat} {C : CodeP} {P : Program} {e : Env} {m : Emb} {h h' : H} {w : World} {fr : Fr} {t : Array Value} {nt : Nat} {o : Oper} {v : AV}

theorem intBin_run {op : BinOp} {k : IntKind} {a b : Int} {ty : TypeId} (hop : op ≠ .shl ∧ op ≠ .shr) (hv : intBin op k a b = some v) : ∃ x, (binOp op ty (.int k a) (.int k b)).run P w = .ok x w ∧ VRel m v x := by
  cases op <;> simp only [intBin] at hv <;> first
    | (cases hv; done)
    | (split at hv
       · cases hv
       · rename_i hb
         injection hv with hv; subst hv
         exact ⟨_, by simp [binOp, Op.intDiv, hb] <;> rfl, .int _ _⟩)
    | (injection hv with hv; subst hv
       first
         | exact ⟨_, by simp only [binOp, ne_eq, not_true_eq_false, if_false] <;> rfl, .int _ _⟩
         | exact ⟨_, by simp only [binOp, ne_eq, not_true_eq_false, if_false] <;> rfl, .int _ _⟩
         | exact ⟨_, by simp only [binOp, ne_eq, not_true_eq_false, if_false] <;> rfl, .bool _⟩)
    | exact absurd rfl hop.1
    | exact absurd rfl hop.2
    | skip

theorem shift_run {op : BinOp} {k k' : IntKind} {a b : Int} {ty : TypeId} (hop : op = .shl ∨ op = .shr) (hv : intShift op k a b = some v) : ∃ x, (binOp op ty (.int k a) (.int k' b)).run P w = .ok x w ∧ VRel m v x := by
  unfold intShift at hv
  split at hv
  · cases hv
  · rename_i hb
    rcases hop with rfl | rfl
    · injection hv with hv; subst hv
      exact ⟨_, by simp [binOp, Op.shift, hb] <;> rfl, .int _ _⟩
    · injection hv with hv; subst hv
      exact ⟨_, by simp [binOp, Op.shift, hb] <;> rfl, .int _ _⟩

theorem strBin_run {op : BinOp} {a b : List UInt8} {x y : ByteArray} {ty : TypeId} (hx : x.data.toList = a) (hy : y.data.toList = b) (hv : strBin op a b = some v) : ∃ z, (binOp op ty (.string x) (.string y)).run P w = .ok z w ∧ VRel m v z := by
  have ex : x.toList = a := by rw [ByteArray.toList_eq, hx]
  have ey : y.toList = b := by rw [ByteArray.toList_eq, hy]
  cases op <;> simp only [strBin] at hv <;> first
    | (cases hv; done)
    | (split at hv
       · rename_i hl
         injection hv with hv; subst hv
         have hs : x.size + y.size < 9223372036854775808 := by rw [← hx, ← hy] at hl; simpa using hl
         refine ⟨.string (x ++ y), ?_, .str _ _ (by rw [ByteArray.toList_data_append, hx, hy])⟩
         have : ¬ (((x.size + y.size : Nat) : Int) > IntKind.i64.max) := by simp [IntKind.max, IntKind.signed, IntKind.bits]; omega
         simp only [binOp, Op.stringOp, if_neg this, Sem.run_pure]
       · cases hv)
    | (injection hv with hv; subst hv
       exact ⟨_, by simp [binOp, Op.stringOp, ex, ey] <;> rfl, .bool _⟩)

/-- '==' and '!=' of what is neither two numbers nor two strings. -/
theorem eq_run (EO : TabOK P e) (R : Rel G B C m h w.heap) {ty : TypeId} {x y : Operand} {a b : AV} {x' y' : Value} (rx : VRel m a x') (ry : VRel m b y') {r : Bool} (hq : equalA e h 100 ty a b = some r)
    (n1 : ∀ k i k' j, a = .int k i → b = .int k' j → False) (n2 : ∀ s s', a = .str s → b = .str s' → False) (n3 : a = .niliface → b = .niliface → False) (op : BinOp) (hop : op = .eql ∨ op = .neq) :
    ((do eqGuard op ty x y x' y'; binOp op ty x' y') : Sem Value).run P w = .ok (.bool (match op with | .eql => r | _ => !r)) w := by
  have he := equalA_run EO R 100 10000 (by omega) ty a b x' y' r hq rx ry
  have hg : (eqGuard op ty x y x' y').run P w = .ok () w := by
    cases rx with
    | agg xs xa hxa =>
      cases ry with
      | agg ys ya hya =>
        unfold equalA at hq
        split at hq
        · cases hq
        · rename_i ti hti
          split at hq <;> first | (cases hq; done) | skip
          all_goals first | (rename_i h1 h2; cases h1; done) | skip
          rename_i fs xs' ys' hk _ _
          split at hq
          · rename_i heq
            obtain ⟨fa, hu, hfs⟩ := mkKind_struct ((kind_of (EO.tt _ _ hti)).trans hk)
            obtain ⟨inf, u, hinf, hu2, _, _, _, _, _, _, hEq, _⟩ := mkTI_info (EO.tt _ _ hti)
            rw [hu] at hu2
            injection hu2 with hu2
            subst hu2
            rw [heq] at hEq
            simp only [Bool.true_eq, Bool.and_eq_true, Bool.not_eq_true'] at hEq
            exact run_eqGuard_agg w op ty x y xa ya hEq.2
          · cases hq
      | _ => rcases hop with rfl | rfl <;> simp [eqGuard]
    | niliface =>
      cases ry with
      | niliface => exact absurd rfl (fun q => n3 q rfl)
      | _ => rcases hop with rfl | rfl <;> simp [eqGuard]
    | _ => rcases hop with rfl | rfl <;> simp [eqGuard]
  have hb : binOp op ty x' y' = (match op with | .eql => do pure (.bool (← Op.equal ty x' y')) | _ => do pure (.bool (!(← Op.equal ty x' y')))) := by
    cases rx with
    | int k i =>
      cases ry with
      | int k' j => exact (n1 _ _ _ _ rfl rfl).elim
      | _ => rcases hop with rfl | rfl <;> rfl
    | str s _ _ =>
      cases ry with
      | str s' _ _ => exact (n2 _ _ rfl rfl).elim
      | _ => rcases hop with rfl | rfl <;> rfl
    | _ => rcases hop with rfl | rfl <;> rfl
  rw [hb]
  rcases hop with rfl | rfl <;> simp [hg, Op.equal, Op.maxDepth, he]

theorem sim_bin (EO : TabOK P e) {op : BinOp} {ty yt : TypeId} {x y : Operand} (ho : o.op = .binOp op ty x y yt) (R : Rel G B C m h w.heap) (F : TRel m fr.tmps t) (hx : opdOk G x = true) (hy : opdOk G y = true) (hv : opA e fr h nt o = .val v h') : Sim1 P G B C m h w t o v h' := by
  simp only [opA, ho] at hv
  split at hv
  · rename_i a b hxa hyb
    obtain ⟨h1, rfl⟩ := OR.of_val hv
    have rx := eval_rel R F hx hxa
    have ry := eval_rel R F hy hyb
    suffices hs : ∃ z, ((do eqGuard op ty x y (ev t x) (ev t y); binOp op ty (ev t x) (ev t y)) : Sem Value).run P w = .ok z w ∧ VRel m v z by
      obtain ⟨z, hz, hr⟩ := hs
      exact Sim1.pure R (x := z) (by simp only [execOp, ho, Sem.run_bind] at hz ⊢; rw [hz]; rfl) hr
    generalize ev t x = x' at rx
    generalize ev t y = y' at ry
    have eqcase : ∀ (neg : Bool) (r : Bool), equalA e h' 100 ty a b = some r → (Op.equalIn 10000 ty x' y').run P w = .ok r w := fun _ r hr => equalA_run EO R 100 10000 (by omega) ty a b x' y' r hr rx ry
    simp only [binA] at h1
    split at h1
    · cases rx; cases ry
      obtain ⟨z, hz, hr⟩ := shift_run (m := m) (P := P) (w := w) (ty := ty) (k' := ‹_›) (.inl rfl) h1
      exact ⟨z, by simp [eqGuard, hz], hr⟩
    · cases rx; cases ry
      obtain ⟨z, hz, hr⟩ := shift_run (m := m) (P := P) (w := w) (ty := ty) (k' := ‹_›) (.inr rfl) h1
      exact ⟨z, by simp [eqGuard, hz], hr⟩
    · rename_i k a k' b n1 n2
      cases rx; cases ry
      split at h1
      · rename_i hkk
        subst hkk
        obtain ⟨z, hz, hr⟩ := intBin_run (m := m) (P := P) (w := w) (ty := ty) (op := op) ⟨fun q => n1 q, fun q => n2 q⟩ h1
        exact ⟨z, by cases op <;> simp [eqGuard, hz], hr⟩
      · cases h1
    · rename_i a b
      obtain ⟨u, rfl, hu⟩ := rx.str_inv
      obtain ⟨u', rfl, hu'⟩ := ry.str_inv
      obtain ⟨z, hz, hr⟩ := strBin_run (m := m) (P := P) (w := w) (ty := ty) hu hu' h1
      exact ⟨z, by cases op <;> simp [eqGuard, hz], hr⟩
    · split at h1
      · rename_i hconst
        cases hq : equalA e h' 100 ty .niliface .niliface with
        | none => rw [hq] at h1; cases h1
        | some r =>
          rw [hq] at h1
          injection h1 with h1; subst h1
          have he := eqcase true r hq
          cases rx; cases ry
          refine ⟨.bool r, ?_, .bool _⟩
          have hg : (eqGuard .eql ty x y .nilIface .nilIface).run P w = .ok () w := by
            simp only [eqGuard]
            cases x <;> cases y <;> simp [isConstO] at hconst <;> simp
          simp [hg, binOp, Op.equal, Op.maxDepth, he]
      · cases h1
    · split at h1
      · rename_i hconst
        cases hq : equalA e h' 100 ty .niliface .niliface with
        | none => rw [hq] at h1; cases h1
        | some r =>
          rw [hq] at h1
          injection h1 with h1; subst h1
          have he := eqcase true r hq
          cases rx; cases ry
          refine ⟨.bool (!r), ?_, .bool _⟩
          have hg : (eqGuard .neq ty x y .nilIface .nilIface).run P w = .ok () w := by
            simp only [eqGuard]
            cases x <;> cases y <;> simp [isConstO] at hconst <;> simp
          simp [hg, binOp, Op.equal, Op.maxDepth, he]
      · cases h1
    · rename_i n1 n2 n3
      cases hq : equalA e h' 100 ty a b with
      | none => rw [hq] at h1; cases h1
      | some r =>
        rw [hq] at h1
        injection h1 with h1; subst h1
        exact ⟨_, eq_run EO R rx ry hq (fun k i k' j p q => n1 k i k' j p q) (fun s s' p q => n2 s s' p q) (fun p q => n3 p q) .eql (.inl rfl), .bool _⟩
    · rename_i n1 n2 n3
      cases hq : equalA e h' 100 ty a b with
      | none => rw [hq] at h1; cases h1
      | some r =>
        rw [hq] at h1
        injection h1 with h1; subst h1
        exact ⟨_, eq_run EO R rx ry hq (fun k i k' j p q => n1 k i k' j p q) (fun s s' p q => n2 s s' p q) (fun p q => n3 p q) .neq (.inr rfl), .bool _⟩
    · cases h1
  · cases hv
end
end Go.Ab
