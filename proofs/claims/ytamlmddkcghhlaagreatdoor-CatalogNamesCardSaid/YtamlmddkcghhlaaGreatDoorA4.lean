/-
  THE FAST MACHINE: regions, code, calls: what it runs to, A runs to.
-/
import Derived.Test.YtamlmddkcghhlaaGreatDoorA1
import Derived.Test.YtamlmddkcghhlaaGreatDoorA3
set_option linter.unusedSimpArgs false
set_option linter.unusedVariables false
namespace Go.Ab

/-- A way to a slot. -/
inductive KP where
  | h
  | l (p : KP)
  | r (p : KP)
def KP.of : Nat → Nat → KP
  | 0, _ => .h
  | f + 1, i => match i with
    | 0 => .h
    | i + 1 => bif Nat.beq (i % 2) 0 then .l (KP.of f (i / 2)) else .r (KP.of f (i / 2))
def KP.mk (i : Nat) : KP := KP.of (i + 1) i

abbrev TO := T Out
abbrev KK := AV → H → TO

noncomputable section

def ptV (t : PT AV) : Option AV := PT.rec (motive := fun _ => Option AV) none (fun v _ _ _ _ => v) t
def ptL (t : PT AV) : PT AV := PT.rec (motive := fun _ => PT AV) .lf (fun _ l _ _ _ => l) t
def ptR (t : PT AV) : PT AV := PT.rec (motive := fun _ => PT AV) .lf (fun _ _ r _ _ => r) t
def KP.get (p : KP) : PT AV → Option AV :=
  KP.rec (motive := fun _ => PT AV → Option AV) ptV (fun _ ih t => ih (ptL t)) (fun _ ih t => ih (ptR t)) p
def psH (x : AV) (t : PT AV) : PT AV := PT.rec (motive := fun _ => PT AV) (.nd (some x) .lf .lf) (fun _ l r _ _ => .nd (some x) l r) t
def psL (ih : AV → PT AV → PT AV) (x : AV) (t : PT AV) : PT AV := PT.rec (motive := fun _ => PT AV) (.nd none (ih x .lf) .lf) (fun v l r _ _ => .nd v (ih x l) r) t
def psR (ih : AV → PT AV → PT AV) (x : AV) (t : PT AV) : PT AV := PT.rec (motive := fun _ => PT AV) (.nd none .lf (ih x .lf)) (fun v l r _ _ => .nd v l (ih x r)) t
def KP.set (p : KP) : AV → PT AV → PT AV :=
  KP.rec (motive := fun _ => AV → PT AV → PT AV) psH (fun _ ih => psL ih) (fun _ ih => psR ih) p

def gnS {α : Type} (gl gr : Nat → Option α) (j : Nat) : Option α := Bool.rec (motive := fun _ => Option α) (gr (Nat.div j 2)) (gl (Nat.div j 2)) (Nat.beq (Nat.mod j 2) 0)
def getN {α : Type} (t : PT α) : Nat → Option α :=
  PT.rec (motive := fun _ => Nat → Option α) (fun _ => none) (fun v _ _ gl gr i => Nat.rec (motive := fun _ => Option α) v (fun j _ => gnS gl gr j) i) t
def snS {α : Type} (v : Option α) (l r : PT α) (sl sr : Nat → PT α) (j : Nat) : PT α := Bool.rec (motive := fun _ => PT α) (.nd v l (sr (Nat.div j 2))) (.nd v (sl (Nat.div j 2)) r) (Nat.beq (Nat.mod j 2) 0)
def setN {α : Type} (x : α) (t : PT α) : Nat → PT α :=
  PT.rec (motive := fun _ => Nat → PT α) (fun i => PT.setA (Nat.succ i) .lf i x)
    (fun v l r sl sr i => Nat.rec (motive := fun _ => PT α) (.nd (some x) l r) (fun j _ => snS v l r sl sr j) i) t

def T.bindK {α β : Type} (x : T α) (f : α → T β) : T β :=
  T.rec (motive := fun _ => T β) f (fun n _ ih => .pick n ih) .bad x

def tailK {α : Type} (l : List α) : List α := List.rec (motive := fun _ => List α) [] (fun _ l _ => l) l
def headK {α : Type} (l : List α) : Option α := List.rec (motive := fun _ => Option α) none (fun a _ _ => some a) l
/-- (One step at a time from the front: what was gone through for i is there for i + 1.) -/
def dropM {α : Type} (l : List α) (i : Nat) : List α := Nat.rec (motive := fun _ => List α) l (fun _ ih => tailK ih) i
def lgetK {α : Type} (l : List α) (i : Nat) : Option α := headK (dropM l i)
def lset1 {α : Type} (v : α) (l : List α) : Nat → List α :=
  List.rec (motive := fun _ => Nat → List α) (fun _ => []) (fun a l ih i => Nat.rec (motive := fun _ => List α) (v :: l) (fun j _ => a :: ih j) i) l

def geLen {α : Type} (l : List α) : Nat → Bool :=
  List.rec (motive := fun _ => Nat → Bool) (fun n => Nat.rec (motive := fun _ => Bool) true (fun _ _ => false) n) (fun _ _ ih n => Nat.rec (motive := fun _ => Bool) true (fun m _ => ih m) n) l
def eqLen {α : Type} (l : List α) : Nat → Bool :=
  List.rec (motive := fun _ => Nat → Bool) (fun n => Nat.rec (motive := fun _ => Bool) true (fun _ _ => false) n) (fun _ _ ih n => Nat.rec (motive := fun _ => Bool) false (fun m _ => ih m) n) l
def lenLe {α : Type} (l : List α) : Nat → Bool :=
  List.rec (motive := fun _ => Nat → Bool) (fun _ => true) (fun _ _ ih n => Nat.rec (motive := fun _ => Bool) false (fun m _ => ih m) n) l
def takeK {α : Type} (l : List α) : Nat → List α :=
  List.rec (motive := fun _ => Nat → List α) (fun _ => []) (fun a _ ih n => Nat.rec (motive := fun _ => List α) [] (fun m _ => a :: ih m) n) l
def dropK {α : Type} (l : List α) : Nat → List α :=
  List.rec (motive := fun _ => Nat → List α) (fun _ => []) (fun a l ih n => Nat.rec (motive := fun _ => List α) (a :: l) (fun m _ => ih m) n) l
def partK {α : Type} (o n : Nat) (l : List α) : Option (List α) := Bool.rec (motive := fun _ => Option (List α)) none (some (takeK (dropK l o) n)) (geLen l (Nat.add o n))
def lputK {α : Type} (l : List α) : Nat → List α → List α :=
  List.rec (motive := fun _ => Nat → List α → List α) (fun _ _ => [])
    (fun a l ih o vs => List.rec (motive := fun _ => List α) (a :: l) (fun v vs' _ => Nat.rec (motive := fun _ => List α) (v :: ih 0 vs') (fun m _ => a :: ih m vs) o) vs) l
def appK {α : Type} (l k : List α) : List α := List.rec (motive := fun _ => List α) k (fun a _ ih => a :: ih) l
def repK {α : Type} (z : List α) (n : Nat) : List α := Nat.rec (motive := fun _ => List α) [] (fun _ ih => appK z ih) n
def mapK {α β : Type} (f : α → β) (l : List α) : List β := List.rec (motive := fun _ => List β) [] (fun a _ ih => f a :: ih) l
def one1 (v : AV) : Bool :=
  AV.rec (motive_1 := fun _ => Bool) (motive_2 := fun _ => Unit) (fun _ => true) (fun _ _ => true) (fun _ => true) true (fun _ _ => true) true (fun _ _ _ _ => true) true (fun _ => true) true (fun _ _ _ _ _ => true) (fun _ => true) true (fun _ _ _ => true) (fun _ _ => false) (fun _ _ => false) () (fun _ _ _ _ => ()) v
def allOne (l : List AV) : Bool := List.rec (motive := fun _ => Bool) true (fun a _ ih => Bool.rec (motive := fun _ => Bool) false ih (one1 a)) l

/- cases -/
def optK {α : Type} (x : Option α) (k : α → TO) : TO := Option.rec (motive := fun _ => TO) .bad k x
def asInt (v : AV) (k : IntKind → Int → TO) : TO :=
  AV.rec (motive_1 := fun _ => TO) (motive_2 := fun _ => Unit) (fun _ => .bad) k (fun _ => .bad) .bad (fun _ _ => .bad) .bad (fun _ _ _ _ => .bad) .bad (fun _ => .bad) .bad (fun _ _ _ _ _ => .bad) (fun _ => .bad) .bad (fun _ _ _ => .bad) (fun _ _ => .bad) (fun _ _ => .bad) () (fun _ _ _ _ => ()) v
def asBool (v : AV) (k : Bool → TO) : TO :=
  AV.rec (motive_1 := fun _ => TO) (motive_2 := fun _ => Unit) k (fun _ _ => .bad) (fun _ => .bad) .bad (fun _ _ => .bad) .bad (fun _ _ _ _ => .bad) .bad (fun _ => .bad) .bad (fun _ _ _ _ _ => .bad) (fun _ => .bad) .bad (fun _ _ _ => .bad) (fun _ _ => .bad) (fun _ _ => .bad) () (fun _ _ _ _ => ()) v
def asPtr (v : AV) (k : Nat → Nat → TO) : TO :=
  AV.rec (motive_1 := fun _ => TO) (motive_2 := fun _ => Unit) (fun _ => .bad) (fun _ _ => .bad) (fun _ => .bad) .bad k .bad (fun _ _ _ _ => .bad) .bad (fun _ => .bad) .bad (fun _ _ _ _ _ => .bad) (fun _ => .bad) .bad (fun _ _ _ => .bad) (fun _ _ => .bad) (fun _ _ => .bad) () (fun _ _ _ _ => ()) v
def asSlice (v : AV) (k : Nat → Nat → Nat → Nat → TO) : TO :=
  AV.rec (motive_1 := fun _ => TO) (motive_2 := fun _ => Unit) (fun _ => .bad) (fun _ _ => .bad) (fun _ => .bad) .bad (fun _ _ => .bad) .bad k .bad (fun _ => .bad) .bad (fun _ _ _ _ _ => .bad) (fun _ => .bad) .bad (fun _ _ _ => .bad) (fun _ _ => .bad) (fun _ _ => .bad) () (fun _ _ _ _ => ()) v
def asStr (v : AV) (k : List UInt8 → TO) : TO :=
  AV.rec (motive_1 := fun _ => TO) (motive_2 := fun _ => Unit) (fun _ => .bad) (fun _ _ => .bad) k .bad (fun _ _ => .bad) .bad (fun _ _ _ _ => .bad) .bad (fun _ => .bad) .bad (fun _ _ _ _ _ => .bad) (fun _ => .bad) .bad (fun _ _ _ => .bad) (fun _ _ => .bad) (fun _ _ => .bad) () (fun _ _ _ _ => ()) v
def asAgg (v : AV) (k : List AV → TO) : TO :=
  AV.rec (motive_1 := fun _ => TO) (motive_2 := fun _ => Unit) (fun _ => .bad) (fun _ _ => .bad) (fun _ => .bad) .bad (fun _ _ => .bad) .bad (fun _ _ _ _ => .bad) .bad (fun _ => .bad) .bad (fun _ _ _ _ _ => .bad) (fun _ => .bad) .bad (fun _ _ _ => .bad) (fun cs _ => k cs) (fun _ _ => .bad) () (fun _ _ _ _ => ()) v
def asTup (v : AV) (k : List AV → TO) : TO :=
  AV.rec (motive_1 := fun _ => TO) (motive_2 := fun _ => Unit) (fun _ => .bad) (fun _ _ => .bad) (fun _ => .bad) .bad (fun _ _ => .bad) .bad (fun _ _ _ _ => .bad) .bad (fun _ => .bad) .bad (fun _ _ _ _ _ => .bad) (fun _ => .bad) .bad (fun _ _ _ => .bad) (fun _ _ => .bad) (fun vs _ => k vs) () (fun _ _ _ _ => ()) v
def asFunc (v : AV) (k : Nat → List AV → List AV → TO) : TO :=
  AV.rec (motive_1 := fun _ => TO) (motive_2 := fun _ => Unit) (fun _ => .bad) (fun _ _ => .bad) (fun _ => .bad) .bad (fun _ _ => .bad) .bad (fun _ _ _ _ => .bad) .bad (fun _ => .bad) .bad (fun f a c _ _ => k f a c) (fun _ => .bad) .bad (fun _ _ _ => .bad) (fun _ _ => .bad) (fun _ _ => .bad) () (fun _ _ _ _ => ()) v
/-- The length of a slice. -/
def asLen (v : AV) (k : Nat → TO) : TO :=
  AV.rec (motive_1 := fun _ => TO) (motive_2 := fun _ => Unit) (fun _ => .bad) (fun _ _ => .bad) (fun _ => .bad) .bad (fun _ _ => .bad) (k 0) (fun _ _ n _ => k n) .bad (fun _ => .bad) .bad (fun _ _ _ _ _ => .bad) (fun _ => .bad) .bad (fun _ _ _ => .bad) (fun _ _ => .bad) (fun _ _ => .bad) () (fun _ _ _ _ => ()) v
/-- A value that is no nil. -/
def asSome (v : AV) (k : AV → TO) : TO :=
  AV.rec (motive_1 := fun _ => TO) (motive_2 := fun _ => Unit) (fun _ => .bad) (fun _ _ => .bad) (fun _ => .bad) .bad (fun b o => k (.ptr b o)) .bad (fun _ _ _ _ => .bad) .bad (fun _ => .bad) .bad (fun f a c _ _ => k (.func f a c)) (fun l => k (.yield l)) .bad (fun t v _ => k (.iface t v)) (fun _ _ => .bad) (fun _ _ => .bad) () (fun _ _ _ _ => ()) v
def asNatK (n : Int) (k : Nat → TO) : TO := Int.rec (motive := fun _ => TO) k (fun _ => .bad) n
def guardT (b : Bool) (k : TO) : TO := Bool.rec (motive := fun _ => TO) .bad k b

/- integers -/
def khi (k : IntKind) : Nat :=
  IntKind.rec (motive := fun _ => Nat) 127 32767 2147483647 9223372036854775807 255 65535 4294967295 18446744073709551615 k
/-- Both at least 0: the one; else the other. -/
def both {β : Type} (x y : Int) (f : Nat → Nat → β) (d : β) : β :=
  Int.rec (motive := fun _ => β) (fun a => Int.rec (motive := fun _ => β) (fun b => f a b) (fun _ => d) y) (fun _ => d) x
def fits (k : IntKind) (d : Int) (n : Nat) : Int := Bool.rec (motive := fun _ => Int) d (.ofNat n) (Nat.ble n (khi k))
/-- n as a number of the kind k, if it fits; else s. -/
def fitO (k : IntKind) (s : Option AV) (n : Nat) : Option AV := Bool.rec (motive := fun _ => Option AV) s (some (.int k (.ofNat n))) (Nat.ble n (khi k))
def condO (b : Bool) (x s : Option AV) : Option AV := Bool.rec (motive := fun _ => Option AV) s x b
def boolO (b : Bool) : Option AV := some (.bool b)
def notK (b : Bool) : Bool := Bool.rec (motive := fun _ => Bool) true false b
def ltN (a b : Nat) : Bool := Nat.ble (Nat.succ a) b
abbrev KBF := IntKind → Option AV → Nat → Nat → Option AV
def nbAdd : KBF := fun k s a b => fitO k s (Nat.add a b)
def nbSub : KBF := fun k s a b => condO (Nat.ble b a) (fitO k s (Nat.sub a b)) s
def nbMul : KBF := fun k s a b => fitO k s (Nat.mul a b)
def nbEql : KBF := fun _ _ a b => boolO (Nat.beq a b)
def nbNeq : KBF := fun _ _ a b => boolO (notK (Nat.beq a b))
def nbLss : KBF := fun _ _ a b => boolO (ltN a b)
def nbLeq : KBF := fun _ _ a b => boolO (Nat.ble a b)
def nbGtr : KBF := fun _ _ a b => boolO (ltN b a)
def nbGeq : KBF := fun _ _ a b => boolO (Nat.ble b a)
def nbIn (f : Nat → Nat → Nat) : KBF := fun k s a b => condO (Nat.ble a (khi k)) (condO (Nat.ble b (khi k)) (fitO k s (f a b)) s) s
def nbAnd : KBF := nbIn Nat.land
def nbOr : KBF := nbIn Nat.lor
def nbXor : KBF := nbIn Nat.xor
def nbQuo : KBF := fun k s a b => condO (Nat.beq b 0) s (fitO k s (Nat.div a b))
def nbRem : KBF := fun k s a b => condO (Nat.beq b 0) s (some (.int k (.ofNat (Nat.mod a b))))
def nbShl : KBF := fun k s a b => condO (Nat.ble b 64) (fitO k s (Nat.shiftLeft a b)) s
def nbShr : KBF := fun k s a b => condO (Nat.ble b 64) (condO (Nat.ble a (khi k)) (some (.int k (.ofNat (Nat.shiftRight a b)))) s) s

/-- What is fast of an operation with two operands. -/
inductive KB where
  | add | sub | mul | eql | neq | lss | leq | gtr | geq | and | or | xor | quo | rem | shl | shr
def KB.fn (op : KB) : KBF :=
  KB.rec (motive := fun _ => KBF) nbAdd nbSub nbMul nbEql nbNeq nbLss nbLeq nbGtr nbGeq nbAnd nbOr nbXor nbQuo nbRem nbShl nbShr op
def intBinK (op : KB) (k : IntKind) (s : Option AV) (x y : Int) : Option AV := both x y (op.fn k s) s
def KB.of : BinOp → Option KB
  | .add => some .add | .sub => some .sub | .mul => some .mul | .eql => some .eql | .neq => some .neq | .lss => some .lss | .leq => some .leq | .gtr => some .gtr | .geq => some .geq
  | .and => some .and | .or => some .or | .xor => some .xor | .quo => some .quo | .rem => some .rem
  | _ => none

def kindEq (a b : IntKind) : Bool :=
  IntKind.rec (motive := fun _ => Bool)
    (IntKind.rec (motive := fun _ => Bool) true false false false false false false false b) (IntKind.rec (motive := fun _ => Bool) false true false false false false false false b)
    (IntKind.rec (motive := fun _ => Bool) false false true false false false false false b) (IntKind.rec (motive := fun _ => Bool) false false false true false false false false b)
    (IntKind.rec (motive := fun _ => Bool) false false false false true false false false b) (IntKind.rec (motive := fun _ => Bool) false false false false false true false false b)
    (IntKind.rec (motive := fun _ => Bool) false false false false false false true false b) (IntKind.rec (motive := fun _ => Bool) false false false false false false false true b) a
end

/-- Operands. -/
inductive KX where
  | slot (p : KP)
  | con (v : AV)
  | no

def KX.of : Operand → KX
  | .tmp i => .slot (KP.mk i)
  | .const v => match ofConst v with
    | some a => .con a
    | none => .no
  | .global g => .con (.ptr g 0)
  | .func f => .con (.func f [] [])

/-- Operations. -/
inductive KOp where
  | mv (x : KX)
  | pick (c a b : KX)
  | load1 (x : KX)
  | loadN (n : Nat) (x : KX)
  | store1 (x v : KX)
  | storeN (n : Nat) (x v : KX)
  | nilc (x : KX)
  | bin (op : KB) (slow : BinOp) (t : Nat) (xo yo : Operand) (x y : KX)
  | shf (op : KB) (slow : BinOp) (t : Nat) (xo yo : Operand) (x y : KX)
  | not (x : KX)
  | un (op : UnOp) (x : KX)
  | conv (k : IntKind) (x : KX)
  | fldA (off : Nat) (x : KX)
  | fld1 (off : Nat) (x : KX)
  | fldN (off n : Nat) (x : KX)
  | idxA (es : Nat) (x i : KX)
  | idxP (es n : Nat) (x i : KX)
  | idxS (x i : KX)
  | lenS (x : KX)
  | len (x : KX)
  | ext (i : Nat) (x : KX)
  | mkI (t : Nat) (x : KX)
  | mkF (f : Nat) (first caps : List KX)
  | alloc (t n : Nat) (z : List AV)
  | box1 (t : Nat) (x : KX)
  | boxN (t n : Nat) (x : KX)
  | call (f : Nat) (args : List KX)
  | callV (f : KX) (args : List KX)
  | append (el size bytes : Nat) (s x : KX)
  | copy (es : Nat) (d x : KX)
  | mkSlice (el size bytes : Nat) (z : List AV) (l c : KX)
  | slc (es : Nat) (x : KX) (lo hi : Option KX)
  | build (z : List AV) (ps : List (Nat × Nat)) (xs : List KX)
  | buildS (el size n : Nat) (z : List AV) (ps : List (Nat × Nat)) (xs : List KX)
  | slowP (o : Oper)

inductive KG where
  | no
  | g (p : KP) (b : Bool)

inductive KD where
  | no
  | at (p : KP)

inductive KI where
  | mk (g : KG) (d : KD) (op : KOp)
  | slow (o : Oper)

inductive KDI where
  | pure (fl : Option Nat) (g : KG) (d : KD) (op : KOp) (o : Oper)
  | eff (pk : Bool) (g : KG) (d : KD) (op : KOp)
  | effS (pk : Bool) (o : Oper)
  | bad

inductive KCode where
  | skip
  | region (ops : List Oper) (l : List KI)
  | draw (ops : List Oper) (l : List KDI)
  | seq (a b : KCode)
  | cond (x : KX) (a b : KCode)
  | block (id : Nat) (c : KCode)
  | loop (o : Code) (c : KCode)
  | exit (id : Nat)
  | ret
  | slow (o : Code)

def kapp (e : Env) (el : Nat) (x y : Operand) : Option KOp :=
  match e.ti el with
  | some ei => match ei.zero with
    | some _ => bif Nat.beq ei.size 0 then none else some (.append el ei.size ei.bytes (.of x) (.of y))
    | none => none
  | none => none

/-- The places of a struct's parts, if they lie within n cells. -/
def kplaces (e : Env) (fs : List (Nat × Nat × Bool)) (n : Nat) : List Nat → Option (List (Nat × Nat))
  | [] => some []
  | i :: l => match placeOf e fs i, kplaces e fs n l with
    | some (off, size), some r => bif Nat.ble (off + size) n then some ((off, size) :: r) else none
    | _, _ => none
def kplacesS (size n : Nat) : List Nat → Option (List (Nat × Nat))
  | [] => some []
  | i :: l => match kplacesS size n l with
    | some r => bif Nat.ble (i * size + size) n then some ((i * size, size) :: r) else none
    | none => none

def kop (e : Env) (o : Oper) : Option KOp :=
  match o.op with
  | .move x => some (.mv (.of x))
  | .assign x => some (.mv (.of x))
  | .pick c a b => some (.pick (.of c) (.of a) (.of b))
  | .alloc t => match e.ti t with
    | some ti => match ti.zero with
      | some z => some (.alloc t ti.size z)
      | none => none
    | none => none
  | .box t x => match e.ti t with
    | some ti => bif Nat.beq ti.size 1 && !ti.agg then some (.box1 t (.of x)) else some (.boxN t ti.size (.of x))
    | none => none
  | .build t ps => match e.ti t with
    | some ti => match ti.zero, ti.kind with
      | some z, .struct fs => match kplaces e fs z.length (ps.toList.map (·.1)) with
        | some pl => some (.build z pl (ps.toList.map fun p => .of p.2))
        | none => none
      | _, _ => none
    | none => none
  | .buildSlice t n ps => match e.ti t with
    | some ti => match ti.kind with
      | .slice el => match e.ti el with
        | some ei => match ei.zero with
          | some z => bif Nat.beq z.length ei.size && !(Nat.beq ei.size 0) && Nat.ble (n * ei.size) 16777216 then
              match kplacesS ei.size (n * ei.size) (ps.toList.map (·.1)) with
              | some pl => some (.buildS el ei.size n z pl (ps.toList.map fun p => .of p.2))
              | none => none
            else none
          | none => none
        | none => none
      | _ => none
    | none => none
  | .load t a => match e.ti t with
    | some ti => bif ti.agg then some (.loadN ti.size (.of a)) else some (.load1 (.of a))
    | none => none
  | .store t a x => match e.ti t with
    | some ti => bif Nat.beq ti.size 1 && !ti.agg then some (.store1 (.of a) (.of x)) else some (.storeN ti.size (.of a) (.of x))
    | none => none
  | .nilCheck x => some (.nilc (.of x))
  | .binOp .shl t x y _ => some (.shf .shl .shl t x y (.of x) (.of y))
  | .binOp .shr t x y _ => some (.shf .shr .shr t x y (.of x) (.of y))
  | .binOp op t x y _ => match KB.of op with
    | some b => some (.bin b op t x y (.of x) (.of y))
    | none => none
  | .unOp .not _ x => some (.not (.of x))
  | .unOp op _ x => some (.un op (.of x))
  | .convert s d x => match e.ti s, e.ti d with
    | some si, some di => match si.kind, di.kind with
      | .int _, .int k => some (.conv k (.of x))
      | _, _ => none
    | _, _ => none
  | .makeInterface t x => match e.ti t with
    | some ti => match ti.kind with
      | .iface _ => none
      | _ => some (.mkI t (.of x))
    | none => none
  | .makeFunc (.func f) a c => some (.mkF f (a.toList.map .of) (c.toList.map .of))
  | .fieldAddr t x f => match e.ti t with
    | some ti => match ti.kind with
      | .struct fs => match lget fs f with
        | some (off, ft, _) => match e.ti ft with
          | some fi => if Nat.beq fi.size 0 then none else some (.fldA off (.of x))
          | none => none
        | none => none
      | _ => none
    | none => none
  | .field t x f => match e.ti t with
    | some ti => match ti.kind with
      | .struct fs => match lget fs f with
        | some (off, ft, _) => match e.ti ft with
          | some fi => bif fi.agg then some (.fldN off fi.size (.of x)) else some (.fld1 off (.of x))
          | none => none
        | none => none
      | _ => none
    | none => none
  | .indexAddr t x i => match e.ti t with
    | some ti => match ti.kind with
      | .slice el => match e.ti el with
        | some ei => some (.idxA ei.size (.of x) (.of i))
        | none => none
      | .array n el => match e.ti el with
        | some ei => some (.idxP ei.size n (.of x) (.of i))
        | none => none
      | _ => none
    | none => none
  | .index t x i => match e.ti t with
    | some ti => match ti.kind with
      | .str => some (.idxS (.of x) (.of i))
      | _ => none
    | none => none
  | .makeSlice t l c => match e.ti t with
    | some ti => match ti.kind with
      | .slice el => match e.ti el with
        | some ei => match ei.zero with
          | some z => bif Nat.beq ei.size 0 then none else some (.mkSlice el ei.size ei.bytes z (.of l) (.of c))
          | none => none
        | none => none
      | _ => none
    | none => none
  | .slice t x lo hi none => match e.ti t with
    | some ti => match ti.kind with
      | .slice el => match e.ti el with
        | some ei => some (.slc ei.size (.of x) (lo.map .of) (hi.map .of))
        | none => none
      | _ => none
    | none => none
  | .extract t i => some (.ext i (.of t))
  | .call c => match c.callee with
    | .builtin .len => match c.args.toList, tiOf e c.argTypes 0 with
      | [x], some ti => match ti.kind with
        | .str => some (.lenS (.of x))
        | .slice _ => some (.len (.of x))
        | _ => none
      | _, _ => none
    | .builtin .append => match c.args.toList, tiOf e c.argTypes 0, tiOf e c.argTypes 1 with
      | [x, y], some ti, some yi => match ti.kind, yi.kind with
        | .slice el, .slice _ => kapp e el x y
        | .slice el, .str => kapp e el x y
        | _, _ => none
      | _, _, _ => none
    | .builtin .copy => match c.args.toList, tiOf e c.argTypes 0 with
      | [x, y], some ti => match ti.kind with
        | .slice el => match e.ti el with
          | some ei => bif Nat.beq ei.size 0 then none else some (.copy ei.size (.of x) (.of y))
          | none => none
        | _ => none
      | _, _ => none
    | .value (.func f) => match e.sums f, e.ft.get f with
      | none, some (.body _) => some (.call f (c.args.toList.map .of))
      | _, _ => none
    | .value f => some (.callV (.of f) (c.args.toList.map .of))
    | _ => none
  | _ => none

/-- No effect, and no call. -/
def KOp.quiet : KOp → Bool
  | .store1 .. | .storeN .. | .call .. | .callV .. | .append .. | .copy .. => false
  | _ => true

def kdst (nt : Nat) : Option Tmp → Option KD
  | none => some .no
  | some d => bif Nat.blt d nt then some (.at (KP.mk d)) else none
def kgrd (ops : List Oper) : Option (Nat × Bool) → Option KG
  | none => some .no
  | some (j, w) => match lget ops j with
    | some oj => match oj.dst with
      | some d => some (.g (KP.mk d) w)
      | none => none
    | none => none

def kinst (e : Env) (nt : Nat) (ops : List Oper) (o : Oper) : KI :=
  match kop e o, kdst nt o.dst, kgrd ops o.guard with
  | some op, some d, some g => .mk g d op
  | _, _, _ => .slow o

def kdi (e : Env) (nt : Nat) (ops : List Oper) (ri : RI) (i : Nat) : KDI :=
  match lget ops i with
  | none => .bad
  | some o =>
    bif lmem i ri.eff then
      match kop e o, kdst nt o.dst, kgrd ops o.guard with
      | some op, some d, some g => .eff (lmem i ri.pk) g d op
      | _, _, _ => .effS (lmem i ri.pk) o
    else match kdst nt o.dst with
      | none => .bad
      | some d => match kop e o, kgrd ops o.guard with
        | some op, some g => bif op.quiet then .pure (floats i ri.fl) g d op o else .bad
        | _, _ => .pure (floats i ri.fl) .no d (.slowP o) o

def kcode (e : Env) (cx : Cx) : Code → KCode
  | .skip => .skip
  | .region id ops draw =>
    bif draw then
      match e.ri.get cx.f with
      | some t => match t.get id with
        | some ri => .draw ops.toList (ri.ord.map (kdi e cx.nt ops.toList ri))
        | none => .slow (.region id ops draw)
      | none => .slow (.region id ops draw)
    else .region ops.toList (ops.toList.map (kinst e cx.nt ops.toList))
  | .seq a b => .seq (kcode e cx a) (kcode e cx b)
  | .cond c a b => .cond (.of c) (kcode e cx a) (kcode e cx b)
  | .block id c => .block id (kcode e cx c)
  | .loop c => .loop c (kcode e cx c)
  | .exit id => .exit id
  | .ret => .ret
  | c => .slow c

/-- The world of a region. -/
structure KS where
  e : Env
  r : Rec
  cx : Cx
  ops : List Oper
  pk : Bool

/-- The rest of a frame. -/
structure KR where
  defs : List ADef
  pan : Option AV
  rcd : Bool

noncomputable section

def KR.fr (d : KR) (t : PT AV) : Fr := KR.rec (motive := fun _ => Fr) (fun a b c => ⟨t, a, b, c⟩) d
def ofFr (k : PT AV → KR → TO) (f : Fr) : TO := Fr.rec (motive := fun _ => TO) (fun t a b c => k t ⟨a, b, c⟩) f

def evSlot (p : KP) (t : PT AV) (k : AV → TO) : TO := optK (p.get t) k
def evCon (v : AV) (_ : PT AV) (k : AV → TO) : TO := k v
def evNo (_ : PT AV) (_ : AV → TO) : TO := .bad
def evK (x : KX) : PT AV → (AV → TO) → TO := KX.rec (motive := fun _ => PT AV → (AV → TO) → TO) evSlot evCon evNo x
def evsNil (_ : PT AV) (k : List AV → TO) : TO := k []
def evsTl (k : List AV → TO) (v : AV) (vs : List AV) : TO := k (v :: vs)
def evsHd (ih : PT AV → (List AV → TO) → TO) (t : PT AV) (k : List AV → TO) (v : AV) : TO := ih t (evsTl k v)
def evsCons (x : KX) (_ : List KX) (ih : PT AV → (List AV → TO) → TO) (t : PT AV) (k : List AV → TO) : TO := evK x t (evsHd ih t k)
def evsK (l : List KX) : PT AV → (List AV → TO) → TO := List.rec (motive := fun _ => PT AV → (List AV → TO) → TO) evsNil evsCons l

def aoRow (k : Row → TO) (o : AO) : TO :=
  AO.rec (motive := fun _ => TO) k .bad .bad (fun _ _ => .bad) (fun _ _ => .bad) (fun _ _ _ _ => .bad) (fun _ _ _ _ _ _ _ _ => .bad) o
def rowK (h : H) (b : Nat) (k : Row → TO) : TO := optK (getN h.blk b) (aoRow k)
def putK (h : H) (b : Nat) (o : AO) : H := H.rec (motive := fun _ => H) (fun sz blk => ⟨sz, setN o blk b⟩) h
def newK (h : H) (o : AO) : H := H.rec (motive := fun _ => H) (fun sz blk => ⟨Nat.succ sz, setN o blk sz⟩) h

def kVal (h : H) (k : KK) (v : AV) : TO := k v h
def kMv (x : KX) (_ : KS) (t : PT AV) (_ : KR) (h : H) (k : KK) : TO := evK x t (kVal h k)
def kPick2 (a b : KX) (t : PT AV) (h : H) (k : KK) (q : Bool) : TO := Bool.rec (motive := fun _ => TO) (evK b t (kVal h k)) (evK a t (kVal h k)) q
def kPick1 (a b : KX) (t : PT AV) (h : H) (k : KK) (v : AV) : TO := asBool v (kPick2 a b t h k)
def kPick (c a b : KX) (_ : KS) (t : PT AV) (_ : KR) (h : H) (k : KK) : TO := evK c t (kPick1 a b t h k)
def kLoad1c (o : Nat) (h : H) (k : KK) (r : Row) : TO := optK (lgetK r.cells o) (kVal h k)
def kLoad1b (h : H) (k : KK) (b o : Nat) : TO := rowK h b (kLoad1c o h k)
def kLoad1a (h : H) (k : KK) (v : AV) : TO := asPtr v (kLoad1b h k)
def kLoad1 (x : KX) (_ : KS) (t : PT AV) (_ : KR) (h : H) (k : KK) : TO := evK x t (kLoad1a h k)
def kAgg (h : H) (k : KK) (cs : List AV) : TO := k (.agg cs) h
def kLoadNc (n o : Nat) (h : H) (k : KK) (r : Row) : TO := optK (partK o n r.cells) (kAgg h k)
def kLoadNb (n : Nat) (h : H) (k : KK) (b o : Nat) : TO := rowK h b (kLoadNc n o h k)
def kLoadNa (n : Nat) (h : H) (k : KK) (v : AV) : TO := asPtr v (kLoadNb n h k)
def kLoadN (n : Nat) (x : KX) (_ : KS) (t : PT AV) (_ : KR) (h : H) (k : KK) : TO := evK x t (kLoadNa n h k)
def kStore1d (b o : Nat) (v : AV) (h : H) (k : KK) (cells : List AV) (n elem : Nat) (opn : Bool) (es : Nat) (wr strish : Bool) : TO :=
  guardT wr (guardT (Nat.ble (Nat.succ o) n) (k (.tup []) (putK h b (.row ⟨lset1 v cells o, n, elem, opn, es, wr, strish⟩))))
def kStore1c (b o : Nat) (v : AV) (h : H) (k : KK) (r : Row) : TO := Row.rec (motive := fun _ => TO) (kStore1d b o v h k) r
def kStore1b (b o : Nat) (h : H) (k : KK) (v : AV) : TO := guardT (one1 v) (rowK h b (kStore1c b o v h k))
def kStore1p (v : KX) (t : PT AV) (h : H) (k : KK) (b o : Nat) : TO := evK v t (kStore1b b o h k)
def kStore1a (v : KX) (t : PT AV) (h : H) (k : KK) (a : AV) : TO := asPtr a (kStore1p v t h k)
def kStore1 (x v : KX) (_ : KS) (t : PT AV) (_ : KR) (h : H) (k : KK) : TO := evK x t (kStore1a v t h k)
def cellsK (v : AV) : List AV :=
  AV.rec (motive_1 := fun _ => List AV) (motive_2 := fun _ => Unit) (fun _ => [v]) (fun _ _ => [v]) (fun _ => [v]) [v] (fun _ _ => [v]) [v] (fun _ _ _ _ => [v]) [v] (fun _ => [v]) [v] (fun _ _ _ _ _ => [v]) (fun _ => [v]) [v] (fun _ _ _ => [v]) (fun cs _ => cs) (fun _ _ => [v]) () (fun _ _ _ _ => ()) v
def kStoreNd (n b o : Nat) (new : List AV) (h : H) (k : KK) (cells : List AV) (rn elem : Nat) (opn : Bool) (es : Nat) (wr strish : Bool) : TO :=
  guardT wr (guardT (Nat.ble (Nat.add o n) rn) (k (.tup []) (putK h b (.row ⟨lputK cells o new, rn, elem, opn, es, wr, strish⟩))))
def kStoreNc (n b o : Nat) (h : H) (k : KK) (new : List AV) : TO := guardT (eqLen new n) (guardT (allOne new) (rowK h b (fun r => Row.rec (motive := fun _ => TO) (kStoreNd n b o new h k) r)))
def kStoreNb (n b o : Nat) (h : H) (k : KK) (v : AV) : TO := kStoreNc n b o h k (cellsK v)
def kStoreNp (n : Nat) (v : KX) (t : PT AV) (h : H) (k : KK) (b o : Nat) : TO := evK v t (kStoreNb n b o h k)
def kStoreNa (n : Nat) (v : KX) (t : PT AV) (h : H) (k : KK) (a : AV) : TO := asPtr a (kStoreNp n v t h k)
def kStoreN (n : Nat) (x v : KX) (_ : KS) (t : PT AV) (_ : KR) (h : H) (k : KK) : TO := evK x t (kStoreNa n v t h k)
def kNilca (h : H) (k : KK) (v : AV) : TO := asSome v (kVal h k)
def kNilc (x : KX) (_ : KS) (t : PT AV) (_ : KR) (h : H) (k : KK) : TO := evK x t (kNilca h k)
def kBin2 (op : KB) (h : H) (k : KK) (s : Option AV) (ka : IntKind) (a : Int) (kb : IntKind) (b : Int) : TO := optK (Bool.rec (motive := fun _ => Option AV) s (intBinK op ka s a b) (kindEq ka kb)) (kVal h k)
/-- By integers, or else. -/
def intOr (v : AV) (d : TO) (k : IntKind → Int → TO) : TO :=
  AV.rec (motive_1 := fun _ => TO) (motive_2 := fun _ => Unit) (fun _ => d) k (fun _ => d) d (fun _ _ => d) d (fun _ _ _ _ => d) d (fun _ => d) d (fun _ _ _ _ _ => d) (fun _ => d) d (fun _ _ _ => d) (fun _ _ => d) (fun _ _ => d) () (fun _ _ _ _ => ()) v
def kBin1 (op : KB) (h : H) (k : KK) (s : Option AV) (b : AV) (ka : IntKind) (a : Int) : TO := intOr b (optK s (kVal h k)) (kBin2 op h k s ka a)
def kBinb (op : KB) (slow : BinOp) (ty : Nat) (xo yo : Operand) (S : KS) (h : H) (k : KK) (a b : AV) : TO := intOr a (optK (binA S.e h slow ty xo yo a b) (kVal h k)) (kBin1 op h k (binA S.e h slow ty xo yo a b) b)
def kBina (op : KB) (slow : BinOp) (ty : Nat) (xo yo : Operand) (y : KX) (S : KS) (t : PT AV) (h : H) (k : KK) (a : AV) : TO := evK y t (kBinb op slow ty xo yo S h k a)
def kBin (op : KB) (slow : BinOp) (ty : Nat) (xo yo : Operand) (x y : KX) (S : KS) (t : PT AV) (_ : KR) (h : H) (k : KK) : TO := evK x t (kBina op slow ty xo yo y S t h k)
def kShf2 (op : KB) (h : H) (k : KK) (s : Option AV) (ka : IntKind) (a : Int) (_ : IntKind) (b : Int) : TO := optK (intBinK op ka s a b) (kVal h k)
def kShf1 (op : KB) (h : H) (k : KK) (s : Option AV) (b : AV) (ka : IntKind) (a : Int) : TO := intOr b (optK s (kVal h k)) (kShf2 op h k s ka a)
def kShfb (op : KB) (slow : BinOp) (ty : Nat) (xo yo : Operand) (S : KS) (h : H) (k : KK) (a b : AV) : TO := intOr a (optK (binA S.e h slow ty xo yo a b) (kVal h k)) (kShf1 op h k (binA S.e h slow ty xo yo a b) b)
def kShfa (op : KB) (slow : BinOp) (ty : Nat) (xo yo : Operand) (y : KX) (S : KS) (t : PT AV) (h : H) (k : KK) (a : AV) : TO := evK y t (kShfb op slow ty xo yo S h k a)
def kShf (op : KB) (slow : BinOp) (ty : Nat) (xo yo : Operand) (x y : KX) (S : KS) (t : PT AV) (_ : KR) (h : H) (k : KK) : TO := evK x t (kShfa op slow ty xo yo y S t h k)
def kNotb (h : H) (k : KK) (q : Bool) : TO := k (.bool (notK q)) h
def kNota (h : H) (k : KK) (v : AV) : TO := asBool v (kNotb h k)
def kNot (x : KX) (_ : KS) (t : PT AV) (_ : KR) (h : H) (k : KK) : TO := evK x t (kNota h k)
def kUna (op : UnOp) (h : H) (k : KK) (v : AV) : TO := optK (unA op v) (kVal h k)
def kUn (op : UnOp) (x : KX) (_ : KS) (t : PT AV) (_ : KR) (h : H) (k : KK) : TO := evK x t (kUna op h k)
def wrapK (ik : IntKind) (n : Int) : Int := Int.rec (motive := fun _ => Int) (fun a => fits ik (ik.wrap n) a) (fun _ => ik.wrap n) n
def kConvb (ik : IntKind) (h : H) (k : KK) (_ : IntKind) (n : Int) : TO := k (.int ik (wrapK ik n)) h
def kConva (ik : IntKind) (h : H) (k : KK) (v : AV) : TO := asInt v (kConvb ik h k)
def kConv (ik : IntKind) (x : KX) (_ : KS) (t : PT AV) (_ : KR) (h : H) (k : KK) : TO := evK x t (kConva ik h k)
def kFldAb (off : Nat) (h : H) (k : KK) (b o : Nat) : TO := k (.ptr b (Nat.add o off)) h
def kFldAa (off : Nat) (h : H) (k : KK) (v : AV) : TO := asPtr v (kFldAb off h k)
def kFldA (off : Nat) (x : KX) (_ : KS) (t : PT AV) (_ : KR) (h : H) (k : KK) : TO := evK x t (kFldAa off h k)
def kFld1b (off : Nat) (h : H) (k : KK) (cs : List AV) : TO := optK (lgetK cs off) (kVal h k)
def kFld1a (off : Nat) (h : H) (k : KK) (v : AV) : TO := asAgg v (kFld1b off h k)
def kFld1 (off : Nat) (x : KX) (_ : KS) (t : PT AV) (_ : KR) (h : H) (k : KK) : TO := evK x t (kFld1a off h k)
def kFldNb (off n : Nat) (h : H) (k : KK) (cs : List AV) : TO := optK (partK off n cs) (kAgg h k)
def kFldNa (off n : Nat) (h : H) (k : KK) (v : AV) : TO := asAgg v (kFldNb off n h k)
def kFldN (off n : Nat) (x : KX) (_ : KS) (t : PT AV) (_ : KR) (h : H) (k : KK) : TO := evK x t (kFldNa off n h k)
def kIdxAd (es b o len : Nat) (h : H) (k : KK) (n : Nat) : TO := guardT (ltN n len) (k (.ptr b (Nat.add o (Nat.mul n es))) h)
def kIdxAc (es b o len : Nat) (h : H) (k : KK) (_ : IntKind) (n : Int) : TO := asNatK n (kIdxAd es b o len h k)
def kIdxAi (es b o len : Nat) (h : H) (k : KK) (v : AV) : TO := asInt v (kIdxAc es b o len h k)
def kIdxAb (es : Nat) (i : KX) (t : PT AV) (h : H) (k : KK) (b o len _ : Nat) : TO := evK i t (kIdxAi es b o len h k)
def kIdxAa (es : Nat) (i : KX) (t : PT AV) (h : H) (k : KK) (v : AV) : TO := asSlice v (kIdxAb es i t h k)
def kIdxA (es : Nat) (x i : KX) (_ : KS) (t : PT AV) (_ : KR) (h : H) (k : KK) : TO := evK x t (kIdxAa es i t h k)
def kIdxPd (es b o len : Nat) (h : H) (k : KK) (n : Nat) : TO := guardT (ltN n len) (k (.ptr b (Nat.add o (Nat.mul n es))) h)
def kIdxPc (es b o len : Nat) (h : H) (k : KK) (_ : IntKind) (n : Int) : TO := asNatK n (kIdxPd es b o len h k)
def kIdxPi (es b o len : Nat) (h : H) (k : KK) (v : AV) : TO := asInt v (kIdxPc es b o len h k)
def kIdxPb (es n : Nat) (i : KX) (t : PT AV) (h : H) (k : KK) (b o : Nat) : TO := evK i t (kIdxPi es b o n h k)
def kIdxPa (es n : Nat) (i : KX) (t : PT AV) (h : H) (k : KK) (v : AV) : TO := asPtr v (kIdxPb es n i t h k)
def kIdxP (es n : Nat) (x i : KX) (_ : KS) (t : PT AV) (_ : KR) (h : H) (k : KK) : TO := evK x t (kIdxPa es n i t h k)
def kU8 (h : H) (k : KK) (u : UInt8) : TO := k (ofU8 u) h
def kIdxSd (s : List UInt8) (h : H) (k : KK) (n : Nat) : TO := optK (lgetK s n) (kU8 h k)
def kIdxSc (s : List UInt8) (h : H) (k : KK) (_ : IntKind) (n : Int) : TO := asNatK n (kIdxSd s h k)
def kIdxSi (s : List UInt8) (h : H) (k : KK) (v : AV) : TO := asInt v (kIdxSc s h k)
def kIdxSb (i : KX) (t : PT AV) (h : H) (k : KK) (s : List UInt8) : TO := evK i t (kIdxSi s h k)
def kIdxSa (i : KX) (t : PT AV) (h : H) (k : KK) (v : AV) : TO := asStr v (kIdxSb i t h k)
def kIdxS (x i : KX) (_ : KS) (t : PT AV) (_ : KR) (h : H) (k : KK) : TO := evK x t (kIdxSa i t h k)
def kLenSb (h : H) (k : KK) (s : List UInt8) : TO := k (.int .i64 (.ofNat s.length)) h
def kLenSa (h : H) (k : KK) (v : AV) : TO := asStr v (kLenSb h k)
def kLenS (x : KX) (_ : KS) (t : PT AV) (_ : KR) (h : H) (k : KK) : TO := evK x t (kLenSa h k)
def kLenb (h : H) (k : KK) (n : Nat) : TO := k (.int .i64 (.ofNat n)) h
def kLena (h : H) (k : KK) (v : AV) : TO := asLen v (kLenb h k)
def kLen (x : KX) (_ : KS) (t : PT AV) (_ : KR) (h : H) (k : KK) : TO := evK x t (kLena h k)
def kExtb (i : Nat) (h : H) (k : KK) (vs : List AV) : TO := optK (lgetK vs i) (kVal h k)
def kExta (i : Nat) (h : H) (k : KK) (v : AV) : TO := asTup v (kExtb i h k)
def kExt (i : Nat) (x : KX) (_ : KS) (t : PT AV) (_ : KR) (h : H) (k : KK) : TO := evK x t (kExta i h k)
def kMkIa (ty : Nat) (h : H) (k : KK) (v : AV) : TO := k (.iface ty v) h
def kMkI (ty : Nat) (x : KX) (_ : KS) (t : PT AV) (_ : KR) (h : H) (k : KK) : TO := evK x t (kMkIa ty h k)
def kMkFb (f : Nat) (h : H) (k : KK) (a c : List AV) : TO := k (.func f a c) h
def kMkFa (f : Nat) (caps : List KX) (t : PT AV) (h : H) (k : KK) (a : List AV) : TO := evsK caps t (kMkFb f h k a)
def kMkF (f : Nat) (first caps : List KX) (_ : KS) (t : PT AV) (_ : KR) (h : H) (k : KK) : TO := evsK first t (kMkFa f caps t h k)
def kAlloc (ty n : Nat) (z : List AV) (_ : KS) (_ : PT AV) (_ : KR) (h : H) (k : KK) : TO := k (.ptr h.sz 0) (newK h (.row ⟨z, z.length, ty, false, n, true, false⟩))
def kBox1a (ty : Nat) (h : H) (k : KK) (v : AV) : TO := guardT (one1 v) (k (.ptr h.sz 0) (newK h (.row ⟨[v], 1, ty, false, 1, true, false⟩)))
def kBox1 (ty : Nat) (x : KX) (_ : KS) (t : PT AV) (_ : KR) (h : H) (k : KK) : TO := evK x t (kBox1a ty h k)
def kBoxNa (ty n : Nat) (h : H) (k : KK) (v : AV) : TO := guardT (eqLen (cellsK v) n) (guardT (allOne (cellsK v)) (k (.ptr h.sz 0) (newK h (.row ⟨cellsK v, n, ty, false, n, true, false⟩))))
def kBoxN (ty n : Nat) (x : KX) (_ : KS) (t : PT AV) (_ : KR) (h : H) (k : KK) : TO := evK x t (kBoxNa ty n h k)
def kRet (S : KS) (t : PT AV) (d : KR) (k : KK) (cr : CR) : TO := CR.rec (motive := fun _ => TO) (fun v h _ => k v h) (fun v h => guardT S.pk (.ret (.pan v (d.fr t) h))) cr
def kCallb (f : Nat) (S : KS) (t : PT AV) (d : KR) (h : H) (k : KK) (vs : List AV) : TO := T.bindK (S.r.call f vs h none) (kRet S t d k)
def kCall (f : Nat) (args : List KX) (S : KS) (t : PT AV) (d : KR) (h : H) (k : KK) : TO := evsK args t (kCallb f S t d h k)
def kCallOr (S : KS) (t : PT AV) (d : KR) (h : H) (k : KK) : OR → TO
  | .val v h' => k v h'
  | .call f args => T.bindK (S.r.call f args h none) (kRet S t d k)
  | _ => .bad
def kYld (l : Nat) (S : KS) (t : PT AV) (d : KR) (h : H) (k : KK) (vs : List AV) : TO := T.bindK (roundA S.r l vs h) (kRet S t d k)
def kCallVc (f : Nat) (first caps : List AV) (S : KS) (t : PT AV) (d : KR) (h : H) (k : KK) (vs : List AV) : TO := kCallOr S t d h k (callA S.e h f (first ++ vs ++ caps))
def kCallVb (args : List KX) (S : KS) (t : PT AV) (d : KR) (h : H) (k : KK) (f : Nat) (first caps : List AV) : TO := evsK args t (kCallVc f first caps S t d h k)
def kCallVy (args : List KX) (S : KS) (t : PT AV) (d : KR) (h : H) (k : KK) (l : Nat) : TO := evsK args t (kYld l S t d h k)
def kCallVa (args : List KX) (S : KS) (t : PT AV) (d : KR) (h : H) (k : KK) (v : AV) : TO :=
  AV.rec (motive_1 := fun _ => TO) (motive_2 := fun _ => Unit) (fun _ => .bad) (fun _ _ => .bad) (fun _ => .bad) .bad (fun _ _ => .bad) .bad (fun _ _ _ _ => .bad) .bad (fun _ => .bad) .bad (fun f a c _ _ => kCallVb args S t d h k f a c) (kCallVy args S t d h k) .bad (fun _ _ _ => .bad) (fun _ _ => .bad) (fun _ _ => .bad) () (fun _ _ _ _ => ()) v
def kCallV (f : KX) (args : List KX) (S : KS) (t : PT AV) (d : KR) (h : H) (k : KK) : TO := evK f t (kCallVa args S t d h k)
/-- The elements that are appended or copied: how many, and they. -/
def kSrc (es : Nat) (h : H) (v : AV) (k : Nat → List AV → TO) : TO :=
  AV.rec (motive_1 := fun _ => TO) (motive_2 := fun _ => Unit) (fun _ => .bad) (fun _ _ => .bad) (fun s => guardT (Nat.beq es 1) (k s.length (mapK ofU8 s))) .bad (fun _ _ => .bad) (k 0 [])
    (fun b o n _ => rowK h b (fun r => optK (partK o (Nat.mul n es) r.cells) (k n))) .bad (fun _ => .bad) .bad (fun _ _ _ _ _ => .bad) (fun _ => .bad) .bad (fun _ _ _ => .bad) (fun _ _ => .bad) (fun _ _ => .bad) () (fun _ _ _ _ => ()) v
def twoTo48K : Nat := 281474976710656
def roomy (n bytes : Nat) (k : TO) : TO := guardT (Nat.ble (Nat.mul (Nat.mul 2 n) bytes) 281474976710656) (guardT (Nat.ble n 9223372036854775807) k)
def growK (el size n : Nat) (cells : List AV) (strish : Bool) (h : H) : H := newK h (.row ⟨cells, Nat.mul n size, el, true, size, true, strish⟩)
def kAppNil (el size bytes : Nat) (h : H) (k : KK) (n : Nat) (new : List AV) : TO :=
  Nat.rec (motive := fun _ => TO) (k .nilslice h) (fun _ _ => roomy n bytes (k (.slice h.sz 0 n n) (growK el size n new false h))) n
def kAppOld2 (el size b o need cap : Nat) (new old : List AV) (h : H) (k : KK) (cells : List AV) (rn elem : Nat) (opn : Bool) (es : Nat) (wr strish : Bool) : TO :=
  Bool.rec (motive := fun _ => TO) (k (.slice h.sz 0 need need) (growK el size need (appK old new) false h))
    (guardT wr (guardT (Nat.beq es size) (guardT (Nat.beq elem el) (guardT (allOne new) (k (.slice h.sz 0 need need) (putK (growK el size need (appK old new) strish h) b .dead)))))) (tailOpen ⟨cells, rn, elem, opn, es, wr, strish⟩ o cap)
def kAppIn (b o cap size len n need : Nat) (new : List AV) (h : H) (k : KK) (cells : List AV) (rn elem : Nat) (opn : Bool) (es : Nat) (wr strish : Bool) : TO :=
  guardT wr (guardT (Nat.ble (Nat.add (Nat.add o (Nat.mul len size)) (Nat.mul n size)) rn) (guardT (allOne new) (k (.slice b o need cap) (putK h b (.row ⟨lputK cells (Nat.add o (Nat.mul len size)) new, rn, elem, opn, es, wr, strish⟩)))))
def kAppSlice (el size bytes : Nat) (h : H) (k : KK) (n : Nat) (new : List AV) (b o len cap : Nat) : TO :=
  Bool.rec (motive := fun _ => TO)
    (roomy (Nat.add len n) bytes (rowK h b (fun r => optK (partK o (Nat.mul len size) r.cells) (fun old => Row.rec (motive := fun _ => TO) (kAppOld2 el size b o (Nat.add len n) cap new old h k) r))))
    (Nat.rec (motive := fun _ => TO) (k (.slice b o (Nat.add len n) cap) h) (fun _ _ => rowK h b (fun r => Row.rec (motive := fun _ => TO) (kAppIn b o cap size len n (Nat.add len n) new h k) r)) n)
    (Nat.ble (Nat.add len n) cap)
def kAppc (el size bytes : Nat) (h : H) (k : KK) (s : AV) (n : Nat) (new : List AV) : TO :=
  AV.rec (motive_1 := fun _ => TO) (motive_2 := fun _ => Unit) (fun _ => .bad) (fun _ _ => .bad) (fun _ => .bad) .bad (fun _ _ => .bad) (kAppNil el size bytes h k n new) (kAppSlice el size bytes h k n new)
    .bad (fun _ => .bad) .bad (fun _ _ _ _ _ => .bad) (fun _ => .bad) .bad (fun _ _ _ => .bad) (fun _ _ => .bad) (fun _ _ => .bad) () (fun _ _ _ _ => ()) s
def kAppb (el size bytes : Nat) (h : H) (k : KK) (s x : AV) : TO := kSrc size h x (kAppc el size bytes h k s)
def kAppa (el size bytes : Nat) (x : KX) (t : PT AV) (h : H) (k : KK) (s : AV) : TO := evK x t (kAppb el size bytes h k s)
def kAppend (el size bytes : Nat) (s x : KX) (_ : KS) (t : PT AV) (_ : KR) (h : H) (k : KK) : TO := evK s t (kAppa el size bytes x t h k)
def kCopyIn (b o es n : Nat) (new : List AV) (h : H) (k : KK) (cells : List AV) (rn elem : Nat) (opn : Bool) (res : Nat) (wr strish : Bool) : TO :=
  guardT wr (guardT (Nat.ble (Nat.add o (Nat.mul n es)) rn) (guardT (allOne new) (k (.int .i64 (.ofNat n)) (putK h b (.row ⟨lputK cells o new, rn, elem, opn, res, wr, strish⟩)))))
def kCopyS (es : Nat) (h : H) (k : KK) (n : Nat) (new : List AV) (b o len _ : Nat) : TO :=
  Bool.rec (motive := fun _ => TO)
    (Nat.rec (motive := fun _ => TO) (k (.int .i64 0) h) (fun _ _ => rowK h b (fun r => Row.rec (motive := fun _ => TO) (kCopyIn b o es len (takeK new (Nat.mul len es)) h k) r)) len)
    (Nat.rec (motive := fun _ => TO) (k (.int .i64 0) h) (fun _ _ => rowK h b (fun r => Row.rec (motive := fun _ => TO) (kCopyIn b o es n new h k) r)) n)
    (Nat.ble n len)
def kCopyc (es : Nat) (h : H) (k : KK) (s : AV) (n : Nat) (new : List AV) : TO :=
  AV.rec (motive_1 := fun _ => TO) (motive_2 := fun _ => Unit) (fun _ => .bad) (fun _ _ => .bad) (fun _ => .bad) .bad (fun _ _ => .bad) (k (.int .i64 0) h) (kCopyS es h k n new)
    .bad (fun _ => .bad) .bad (fun _ _ _ _ _ => .bad) (fun _ => .bad) .bad (fun _ _ _ => .bad) (fun _ _ => .bad) (fun _ _ => .bad) () (fun _ _ _ _ => ()) s
def kCopyb (es : Nat) (h : H) (k : KK) (s x : AV) : TO := kSrc es h x (kCopyc es h k s)
def kCopya (es : Nat) (x : KX) (t : PT AV) (h : H) (k : KK) (s : AV) : TO := evK x t (kCopyb es h k s)
def kCopy (es : Nat) (d x : KX) (_ : KS) (t : PT AV) (_ : KR) (h : H) (k : KK) : TO := evK d t (kCopya es x t h k)
def kMkSd (el size bytes : Nat) (z : List AV) (h : H) (k : KK) (n m : Nat) : TO :=
  guardT (Nat.ble n m) (guardT (Nat.ble (Nat.mul m bytes) 281474976710656) (guardT (Nat.ble m 9223372036854775807) (guardT (eqLen z size)
    (k (.slice h.sz 0 n m) (newK h (.row ⟨repK z m, Nat.mul m size, el, false, size, true, false⟩))))))
def kI64 (v : AV) (k : Nat → TO) : TO := asInt v (fun ik n => guardT (kindEq ik .i64) (asNatK n k))
def kMkSc (el size bytes : Nat) (z : List AV) (h : H) (k : KK) (n : Nat) (v : AV) : TO := kI64 v (kMkSd el size bytes z h k n)
def kMkSb (el size bytes : Nat) (z : List AV) (c : KX) (t : PT AV) (h : H) (k : KK) (n : Nat) : TO := evK c t (kMkSc el size bytes z h k n)
def kMkSa (el size bytes : Nat) (z : List AV) (c : KX) (t : PT AV) (h : H) (k : KK) (v : AV) : TO := kI64 v (kMkSb el size bytes z c t h k)
def kMkSlice (el size bytes : Nat) (z : List AV) (l c : KX) (_ : KS) (t : PT AV) (_ : KR) (h : H) (k : KK) : TO := evK l t (kMkSa el size bytes z c t h k)
def kNatV (v : AV) (k : Nat → TO) : TO := asInt v (fun _ n => asNatK n k)
def kBndK (d : Nat) (x : Option KX) (t : PT AV) (k : Nat → TO) : TO := Option.rec (motive := fun _ => TO) (k d) (fun x => evK x t (fun v => kNatV v k)) x
def kSlcd (es : Nat) (h : H) (k : KK) (b o cap l hh : Nat) : TO :=
  guardT (Nat.ble hh cap) (guardT (Nat.ble l hh) (rowK h b (fun r => Bool.rec (motive := fun _ => TO)
    (k (.slice b (Bool.rec (motive := fun _ => Nat) (Nat.add o (Nat.mul l es)) o (Nat.beq cap l)) (Nat.sub hh l) (Nat.sub cap l)) h)
    (guardT (Nat.beq r.es es) (k (.slice b (Nat.add o (Nat.mul l es)) (Nat.sub hh l) (Nat.sub cap l)) h)) (tailOpen r o cap))))
def kSlcNil (h : H) (k : KK) (l hh : Nat) : TO := guardT (Nat.ble hh 0) (guardT (Nat.ble l hh) (k .nilslice h))
def kSlca (es : Nat) (lo hi : Option KX) (t : PT AV) (h : H) (k : KK) (v : AV) : TO :=
  AV.rec (motive_1 := fun _ => TO) (motive_2 := fun _ => Unit) (fun _ => .bad) (fun _ _ => .bad) (fun _ => .bad) .bad (fun _ _ => .bad)
    (kBndK 0 lo t (fun l => kBndK 0 hi t (kSlcNil h k l))) (fun b o len cap => kBndK 0 lo t (fun l => kBndK len hi t (kSlcd es h k b o cap l)))
    .bad (fun _ => .bad) .bad (fun _ _ _ _ _ => .bad) (fun _ => .bad) .bad (fun _ _ _ => .bad) (fun _ _ => .bad) (fun _ _ => .bad) () (fun _ _ _ _ => ()) v
def kSlc (es : Nat) (x : KX) (lo hi : Option KX) (_ : KS) (t : PT AV) (_ : KR) (h : H) (k : KK) : TO := evK x t (kSlca es lo hi t h k)
def fillNil (_ : List AV) (cells : List AV) (k : List AV → TO) : TO := k cells
def fillC2 (p : Nat × Nat) (ih : List AV → List AV → (List AV → TO) → TO) (cells : List AV) (k : List AV → TO) (v : AV) (vs : List AV) : TO :=
  guardT (eqLen (cellsK v) p.2) (ih vs (lputK cells p.1 (cellsK v)) k)
def fillCons (p : Nat × Nat) (_ : List (Nat × Nat)) (ih : List AV → List AV → (List AV → TO) → TO) (vs : List AV) (cells : List AV) (k : List AV → TO) : TO :=
  List.rec (motive := fun _ => TO) .bad (fun v vs _ => fillC2 p ih cells k v vs) vs
def fillK (ps : List (Nat × Nat)) : List AV → List AV → (List AV → TO) → TO := List.rec (motive := fun _ => List AV → List AV → (List AV → TO) → TO) fillNil fillCons ps
def kBuilda (z : List AV) (ps : List (Nat × Nat)) (h : H) (k : KK) (vs : List AV) : TO := fillK ps vs z (kAgg h k)
def kBuild (z : List AV) (ps : List (Nat × Nat)) (xs : List KX) (_ : KS) (t : PT AV) (_ : KR) (h : H) (k : KK) : TO := evsK xs t (kBuilda z ps h k)
def kBuildSb (el size n : Nat) (h : H) (k : KK) (cs : List AV) : TO := guardT (allOne cs) (k (.slice h.sz 0 n n) (newK h (.row ⟨cs, Nat.mul n size, el, false, size, true, false⟩)))
def kBuildSa (el size n : Nat) (z : List AV) (ps : List (Nat × Nat)) (h : H) (k : KK) (vs : List AV) : TO := fillK ps vs (repK z n) (kBuildSb el size n h k)
def kBuildS (el size n : Nat) (z : List AV) (ps : List (Nat × Nat)) (xs : List KX) (_ : KS) (t : PT AV) (_ : KR) (h : H) (k : KK) : TO := evsK xs t (kBuildSa el size n z ps h k)
def kPair (k : KK) (p : AV × H) : TO := k p.1 p.2
def kSlowP (o : Oper) (S : KS) (t : PT AV) (d : KR) (h : H) (k : KK) : TO := optK (pureA S.e S.cx.nt S.ops o (d.fr t) h) (kPair k)

def kstep (op : KOp) : KS → PT AV → KR → H → KK → TO :=
  KOp.rec (motive := fun _ => KS → PT AV → KR → H → KK → TO) kMv kPick kLoad1 kLoadN kStore1 kStoreN kNilc kBin kShf kNot kUn kConv kFldA kFld1 kFldN kIdxA kIdxP kIdxS kLenS kLen kExt kMkI kMkF kAlloc kBox1 kBoxN kCall kCallV kAppend kCopy kMkSlice kSlc kBuild kBuildS kSlowP op

def putD (d : KD) (t : PT AV) (v : AV) : PT AV := KD.rec (motive := fun _ => PT AV) t (fun p => p.set v t) d

/-- What comes behind an operation. -/
abbrev KF := KS → PT AV → KR → H → TO
/-- A guard: is it wanted, or passed by? -/
def grdB (w : Bool) (yes no : TO) (q : Bool) : TO := Bool.rec (motive := fun _ => TO) (Bool.rec (motive := fun _ => TO) yes no w) (Bool.rec (motive := fun _ => TO) no yes w) q
def grdV (w : Bool) (yes no : TO) (v : AV) : TO :=
  AV.rec (motive_1 := fun _ => TO) (motive_2 := fun _ => Unit) (grdB w yes no) (fun _ _ => no) (fun _ => no) no (fun _ _ => no) no (fun _ _ _ _ => no) no (fun _ => no) no (fun _ _ _ _ _ => no) (fun _ => no) no (fun _ _ _ => no) (fun _ _ => no) (fun _ _ => no) () (fun _ _ _ _ => ()) v
def grdG (p : KP) (w : Bool) (t : PT AV) (yes no : TO) : TO := optK (p.get t) (grdV w yes no)
def grdN (_ : PT AV) (yes _ : TO) : TO := yes
def grdK (g : KG) : PT AV → TO → TO → TO := KG.rec (motive := fun _ => PT AV → TO → TO → TO) grdN grdG g

def kCont (ih : KF) (dst : KD) (S : KS) (t : PT AV) (d : KR) (v : AV) (h : H) : TO := ih S (putD dst t v) d h
def kiMk (g : KG) (dst : KD) (op : KOp) (ih : KF) (S : KS) (t : PT AV) (d : KR) (h : H) : TO := grdK g t (kstep op S t d h (kCont ih dst S t d)) (kCont ih dst S t d (.tup []) h)
def kiOn (ih : KF) (S : KS) (h : H) (t : PT AV) (d : KR) : TO := ih S t d h
def kiFr (ih : KF) (S : KS) (fr : Fr) (h : H) : TO := ofFr (kiOn ih S h) fr
def kiSlow (o : Oper) (ih : KF) (S : KS) (t : PT AV) (d : KR) (h : H) : TO := oneOp S.e S.r S.cx true S.ops o (d.fr t) h (kiFr ih S)
def opsNil (_ : KS) (t : PT AV) (d : KR) (h : H) : TO := .ret (.nrm (d.fr t) h)
def opsCons (i : KI) (_ : List KI) (ih : KF) (S : KS) (t : PT AV) (d : KR) (h : H) : TO := KI.rec (motive := fun _ => KF → KS → PT AV → KR → H → TO) kiMk kiSlow i ih S t d h
def opsK (l : List KI) : KF := List.rec (motive := fun _ => KF) opsNil opsCons l

/-- A reader that may float. -/
structure KFl where
  t : PT AV
  d : KR
  v : AV
  o : Oper
  n : Nat
  op : KOp
def tickC (x : KFl) (_ : List KFl) (ih : List KFl) : List KFl := KFl.rec (motive := fun _ => List KFl) (fun t d v o n op => Nat.rec (motive := fun _ => List KFl) ih (fun m _ => ⟨t, d, v, o, m, op⟩ :: ih) n) x
def tickK (m : List KFl) : List KFl := List.rec (motive := fun _ => List KFl) [] tickC m
def stillC (v : AV) (k : TO) (u : AV) (_ : H) : TO := guardT (AV.beq u v) k
def stillCons (x : KFl) (_ : List KFl) (ih : KS → H → TO → TO) (S : KS) (h : H) (k : TO) : TO := kstep x.op S x.t x.d h (stillC x.v (ih S h k))
def stillNil (_ : KS) (_ : H) (k : TO) : TO := k
def stillK (m : List KFl) : KS → H → TO → TO := List.rec (motive := fun _ => KS → H → TO → TO) stillNil stillCons m

/-- What comes behind an operation of a drawn region. -/
abbrev KDF := KS → List KFl → PT AV → KR → H → TO
def pushK (fl : Option Nat) (t : PT AV) (d : KR) (v : AV) (o : Oper) (op : KOp) (m : List KFl) : List KFl := Option.rec (motive := fun _ => List KFl) m (fun n => ⟨t, d, v, o, n, op⟩ :: m) fl
def kdCont (fl : Option Nat) (dst : KD) (o : Oper) (op : KOp) (ih : KDF) (S : KS) (m : List KFl) (t : PT AV) (d : KR) (v : AV) (h : H) : TO := ih S (pushK fl t d v o op m) (putD dst t v) d h
def kdPure (fl : Option Nat) (g : KG) (dst : KD) (op : KOp) (o : Oper) (ih : KDF) (S : KS) (m : List KFl) (t : PT AV) (d : KR) (h : H) : TO :=
  grdK g t (kstep op S t d h (kdCont fl dst o op ih S m t d)) (kdCont fl dst o (.mv (.con (.tup []))) ih S m t d (.tup []) h)
def KS.withPk (S : KS) (pk : Bool) : KS := KS.rec (motive := fun _ => KS) (fun e r cx ops _ => ⟨e, r, cx, ops, pk⟩) S
def kdOn (ih : KDF) (dst : KD) (S : KS) (m : List KFl) (t : PT AV) (d : KR) (v : AV) (h : H) : TO := ih S (tickK m) (putD dst t v) d h
def kdEff (pk : Bool) (g : KG) (dst : KD) (op : KOp) (ih : KDF) (S : KS) (m : List KFl) (t : PT AV) (d : KR) (h : H) : TO :=
  stillK m S h (grdK g t (kstep op (S.withPk pk) t d h (kdOn ih dst S m t d)) (kdOn ih dst S m t d (.tup []) h))
def kdOnS (ih : KDF) (S : KS) (m : List KFl) (h : H) (t : PT AV) (d : KR) : TO := ih S (tickK m) t d h
def kdFr (ih : KDF) (S : KS) (m : List KFl) (fr : Fr) (h : H) : TO := ofFr (kdOnS ih S m h) fr
def kdEffS (pk : Bool) (o : Oper) (ih : KDF) (S : KS) (m : List KFl) (t : PT AV) (d : KR) (h : H) : TO := stillK m S h (oneOp S.e S.r S.cx pk S.ops o (d.fr t) h (kdFr ih S m))
def kdBad (_ : KDF) (_ : KS) (_ : List KFl) (_ : PT AV) (_ : KR) (_ : H) : TO := .bad
def drawNil (S : KS) (m : List KFl) (t : PT AV) (d : KR) (h : H) : TO := stillK m S h (.ret (.nrm (d.fr t) h))
def drawCons (i : KDI) (_ : List KDI) (ih : KDF) (S : KS) (m : List KFl) (t : PT AV) (d : KR) (h : H) : TO := KDI.rec (motive := fun _ => KDF → KS → List KFl → PT AV → KR → H → TO) kdPure kdEff kdEffS kdBad i ih S m t d h
def drawK (l : List KDI) : KDF := List.rec (motive := fun _ => KDF) drawNil drawCons l

/-- The world of code. -/
structure KW where
  e : Env
  r : Rec
  cx : Cx
abbrev KC := KW → Fr → H → TO
def outExt (id : Nat) (fr : Fr) (h : H) : TO := .ret (.ext id fr h)
def outRet (fr : Fr) (h : H) : TO := .ret (.ret fr h)
def outPan (v : AV) (fr : Fr) (h : H) : TO := .ret (.pan v fr h)
def outNrm (fr : Fr) (h : H) : TO := .ret (.nrm fr h)
def cSkip (_ : KW) (fr : Fr) (h : H) : TO := .ret (.nrm fr h)
def cReg1 (ops : List Oper) (l : List KI) (W : KW) (h : H) (t : PT AV) (d : KR) : TO := opsK l ⟨W.e, W.r, W.cx, ops, true⟩ t d h
def cRegion (ops : List Oper) (l : List KI) (W : KW) (fr : Fr) (h : H) : TO := ofFr (cReg1 ops l W h) fr
def cDraw1 (ops : List Oper) (l : List KDI) (W : KW) (h : H) (t : PT AV) (d : KR) : TO := drawK l ⟨W.e, W.r, W.cx, ops, true⟩ [] t d h
def cDraw (ops : List Oper) (l : List KDI) (W : KW) (fr : Fr) (h : H) : TO := ofFr (cDraw1 ops l W h) fr
def cSeq1 (ib : KC) (W : KW) (o : Out) : TO := Out.rec (motive := fun _ => TO) (ib W) outExt outRet outPan o
def cSeq (_ _ : KCode) (ia ib : KC) (W : KW) (fr : Fr) (h : H) : TO := T.bindK (ia W fr h) (cSeq1 ib W)
def cCond2 (ia ib : KC) (W : KW) (fr : Fr) (h : H) (q : Bool) : TO := Bool.rec (motive := fun _ => TO) (ib W fr h) (ia W fr h) q
def cCond1 (ia ib : KC) (W : KW) (fr : Fr) (h : H) (v : AV) : TO := asBool v (cCond2 ia ib W fr h)
def cCond (x : KX) (_ _ : KCode) (ia ib : KC) (W : KW) (fr : Fr) (h : H) : TO := evK x fr.tmps (cCond1 ia ib W fr h)
def cBlock2 (id id' : Nat) (fr : Fr) (h : H) : TO := Bool.rec (motive := fun _ => TO) (.ret (.ext id' fr h)) (.ret (.nrm fr h)) (Nat.beq id' id)
def cBlock1 (id : Nat) (o : Out) : TO := Out.rec (motive := fun _ => TO) outNrm (cBlock2 id) outRet outPan o
def cBlock (id : Nat) (_ : KCode) (ic : KC) (W : KW) (fr : Fr) (h : H) : TO := T.bindK (ic W fr h) (cBlock1 id)
def cLoop2 (o : Code) (W : KW) (fr : Fr) (h : H) : TO := W.r.code W.cx (.loop o) fr h
def cLoop1 (o : Code) (W : KW) (u : Out) : TO := Out.rec (motive := fun _ => TO) (cLoop2 o W) outExt outRet outPan u
def cLoop (o : Code) (_ : KCode) (ic : KC) (W : KW) (fr : Fr) (h : H) : TO := T.bindK (ic W fr h) (cLoop1 o W)
def cExit (id : Nat) (_ : KW) (fr : Fr) (h : H) : TO := .ret (.ext id fr h)
def cRet (_ : KW) (fr : Fr) (h : H) : TO := .ret (.ret fr h)
def cSlow (o : Code) (W : KW) (fr : Fr) (h : H) : TO := codeA W.e W.r W.cx o fr h
def codeK (c : KCode) : KC := KCode.rec (motive := fun _ => KC) cSkip cRegion cDraw cSeq cCond cBlock cLoop cExit cRet cSlow c

def gatherNil (_ : PT AV) (k : List AV → T CR) : T CR := k []
def gatherTl (k : List AV → T CR) (v : AV) (vs : List AV) : T CR := k (v :: vs)
def gatherCons (p : KP) (_ : List KP) (ih : PT AV → (List AV → T CR) → T CR) (t : PT AV) (k : List AV → T CR) : T CR :=
  Option.rec (motive := fun _ => T CR) .bad (fun v => ih t (gatherTl k v)) (p.get t)
def gatherK (ps : List KP) : PT AV → (List AV → T CR) → T CR := List.rec (motive := fun _ => PT AV → (List AV → T CR) → T CR) gatherNil gatherCons ps
def oneOrTup (vs : List AV) : AV := List.rec (motive := fun _ => AV) (.tup []) (fun v l _ => List.rec (motive := fun _ => AV) v (fun _ _ _ => .tup vs) l) vs
def leave1 (h : H) (rcd : Bool) (vs : List AV) : T CR := .ret (.ok (oneOrTup vs) h rcd)
def leaveF (e : Env) (r : Rec) (fn : Func) (ps : List KP) (h : H) (t : PT AV) (defs : List ADef) (pan : Option AV) (rcd : Bool) : T CR :=
  List.rec (motive := fun _ => T CR) (gatherK ps t (leave1 h rcd)) (fun _ _ _ => leaveA e r fn ⟨t, defs, pan, rcd⟩ defs none h) defs
def leaveS (e : Env) (r : Rec) (fn : Func) (fr : Fr) (h : H) : T CR := leaveA e r fn fr fr.defs none h
def leaveP (e : Env) (r : Rec) (fn : Func) (fr : Fr) (h : H) (ps : List KP) : T CR := Fr.rec (motive := fun _ => T CR) (leaveF e r fn ps h) fr
end
def kres : List ResultVar → Option (List KP)
  | [] => some []
  | .tmp t :: l => match kres l with
    | some r => some (KP.mk t :: r)
    | none => none
  | .cell _ _ :: _ => none
noncomputable section
def leaveK (e : Env) (r : Rec) (fn : Func) (fr : Fr) (h : H) : T CR :=
  Option.rec (motive := fun _ => T CR) (leaveS e r fn fr h) (leaveP e r fn fr h) (kres fn.results.toList)
def initCons (v : AV) (_ : List AV) (ih : Nat → PT AV → PT AV) (i : Nat) (t : PT AV) : PT AV := ih (Nat.succ i) ((KP.mk i).set v t)
def initK (args : List AV) : Nat → PT AV → PT AV := List.rec (motive := fun _ => Nat → PT AV → PT AV) (fun _ t => t) initCons args
/-- A function's call. -/
def enterN (_ : Nat) (_ : Fr) (_ : H) : T CR := .bad
def enterP (e : Env) (r : Rec) (fn : Func) (v : AV) (fr : Fr) (h : H) : T CR := leaveA e r fn fr fr.defs (some v) h
def enter2 (e : Env) (r : Rec) (fn : Func) (o : Out) : T CR :=
  Out.rec (motive := fun _ => T CR) (leaveK e r fn) enterN (leaveK e r fn) (enterP e r fn) o
def enter1 (e : Env) (r : Rec) (f : Nat) (args : List AV) (h : H) (p : Option AV) (fn : Func) (c : Code) : T CR :=
  Bool.rec (motive := fun _ => T CR) .bad
    (T.bindK (codeK (kcode e ⟨f, fn.ntmps, false⟩ c) ⟨e, r, ⟨f, fn.ntmps, false⟩⟩ ⟨initK args 0 .lf, [], p, false⟩ h) (enter2 e r fn)) (lenLe args fn.ntmps)
def enter0 (e : Env) (r : Rec) (f : Nat) (args : List AV) (h : H) (p : Option AV) (x : FE) : T CR :=
  FE.rec (motive := fun _ => T CR) (fun fn => Option.rec (motive := fun _ => T CR) .bad (enter1 e r f args h p fn) fn.body) (fun _ => .bad) x
def enterK (e : Env) (r : Rec) (f : Nat) (args : List AV) (h : H) (p : Option AV) : T CR := Option.rec (motive := fun _ => T CR) .bad (enter0 e r f args h p) (getN e.ft f)

def recStep (e : Env) (r : Rec) : Rec := ⟨fun cx c => codeK (kcode e cx c) ⟨e, r, cx⟩, enterK e r⟩
def rec0 : Rec := ⟨fun _ _ _ _ => .bad, fun _ _ _ _ => .bad⟩
def recK (e : Env) (n : Nat) : Rec := Nat.rec (motive := fun _ => Rec) rec0 (fun _ r => recStep e r) n
end
end Go.Ab
namespace Go.Ab

theorem PT.get_lf {α : Type} (i : Nat) : (PT.lf : PT α).get i = none := by simp [PT.get]
theorem PT.get_nd0 {α : Type} (v : Option α) (l r : PT α) : (PT.nd v l r).get 0 = v := by simp [PT.get]
theorem PT.get_nd1 {α : Type} (v : Option α) (l r : PT α) (i : Nat) : (PT.nd v l r).get (i + 1) = bif Nat.beq (i % 2) 0 then l.get (i / 2) else r.get (i / 2) := by simp [PT.get]

theorem KP.get_lf : ∀ p : KP, p.get .lf = none
  | .h => rfl
  | .l p => KP.get_lf p
  | .r p => KP.get_lf p
theorem KP.get_l (p : KP) (t : PT AV) : (KP.l p).get t = p.get (ptL t) := rfl
theorem KP.get_r (p : KP) (t : PT AV) : (KP.r p).get t = p.get (ptR t) := rfl

theorem KP.get_of : ∀ (f i : Nat) (t : PT AV), i < f → (KP.of f i).get t = t.get i
  | 0, _, _, hh => by omega
  | f + 1, 0, t, _ => by
    cases t with
    | lf => rfl
    | nd v l r => rw [PT.get_nd0]; rfl
  | f + 1, i + 1, t, hh => by
    have h2 : i / 2 < f := by omega
    simp only [KP.of]
    cases hb : Nat.beq (i % 2) 0 with
    | true =>
      simp only [cond_true, KP.get_l]
      rw [KP.get_of f _ _ h2]
      cases t with
      | lf => simp [ptL, PT.get]
      | nd v l r => rw [PT.get_nd1, hb]; rfl
    | false =>
      simp only [cond_false, KP.get_r]
      rw [KP.get_of f _ _ h2]
      cases t with
      | lf => simp [ptR, PT.get]
      | nd v l r => rw [PT.get_nd1, hb]; rfl
theorem KP.get_mk (i : Nat) (t : PT AV) : (KP.mk i).get t = t.get i := KP.get_of _ _ _ (Nat.lt_succ_self i)

theorem KP.set_l (p : KP) (x : AV) (t : PT AV) : (KP.l p).set x t = psL p.set x t := rfl
theorem KP.set_r (p : KP) (x : AV) (t : PT AV) : (KP.r p).set x t = psR p.set x t := rfl
theorem KP.set_of (x : AV) : ∀ (f i : Nat) (t : PT AV), i < f → (KP.of f i).set x t = PT.setA f t i x
  | 0, _, _, hh => by omega
  | f + 1, 0, t, _ => by cases t <;> rfl
  | f + 1, i + 1, t, hh => by
    have h2 : i / 2 < f := by omega
    simp only [KP.of]
    cases hb : Nat.beq (i % 2) 0 with
    | true =>
      simp only [cond_true, KP.set_l]
      cases t with
      | lf => simp only [PT.setA, hb, cond_true, psL]; rw [KP.set_of x f _ _ h2]
      | nd v l r => simp only [PT.setA, hb, cond_true, psL]; rw [KP.set_of x f _ _ h2]
    | false =>
      simp only [cond_false, KP.set_r]
      cases t with
      | lf => simp only [PT.setA, hb, cond_false, psR]; rw [KP.set_of x f _ _ h2]
      | nd v l r => simp only [PT.setA, hb, cond_false, psR]; rw [KP.set_of x f _ _ h2]
theorem KP.set_mk (i : Nat) (x : AV) (t : PT AV) : (KP.mk i).set x t = t.set i x := KP.set_of x _ _ _ (Nat.lt_succ_self i)

theorem getN_eq {α : Type} : ∀ (t : PT α) (i : Nat), getN t i = t.get i
  | .lf, i => by rw [PT.get_lf]; rfl
  | .nd v l r, 0 => by rw [PT.get_nd0]; rfl
  | .nd v l r, i + 1 => by
    rw [PT.get_nd1, ← getN_eq l, ← getN_eq r]
    show gnS (getN l) (getN r) i = _
    unfold gnS
    show Bool.rec (motive := fun _ => Option α) (getN r (i / 2)) (getN l (i / 2)) (Nat.beq (i % 2) 0) = _
    cases Nat.beq (i % 2) 0 <;> rfl

theorem setA_fuel {α : Type} (x : α) : ∀ (f g : Nat) (t : PT α) (i : Nat), i < f → i < g → PT.setA f t i x = PT.setA g t i x
  | 0, _, _, _, h, _ => by omega
  | _ + 1, 0, _, _, _, h => by omega
  | f + 1, g + 1, .lf, 0, _, _ => rfl
  | f + 1, g + 1, .nd v l r, 0, _, _ => rfl
  | f + 1, g + 1, .lf, i + 1, h, h' => by
    simp only [PT.setA]
    rw [setA_fuel x f g .lf (i / 2) (by omega) (by omega)]
  | f + 1, g + 1, .nd v l r, i + 1, h, h' => by
    simp only [PT.setA]
    rw [setA_fuel x f g l (i / 2) (by omega) (by omega), setA_fuel x f g r (i / 2) (by omega) (by omega)]

theorem setN_eq {α : Type} (x : α) : ∀ (t : PT α) (i : Nat), setN x t i = t.set i x
  | .lf, _ => rfl
  | .nd v l r, 0 => rfl
  | .nd v l r, i + 1 => by
    show snS v l r (setN x l) (setN x r) i = _
    unfold snS PT.set
    simp only [PT.setA]
    have hl : PT.setA (i + 1) l (i / 2) x = setN x l (i / 2) := by rw [setN_eq x l]; exact setA_fuel x _ _ _ _ (by omega) (by omega)
    have hr : PT.setA (i + 1) r (i / 2) x = setN x r (i / 2) := by rw [setN_eq x r]; exact setA_fuel x _ _ _ _ (by omega) (by omega)
    rw [hl, hr]
    show Bool.rec (motive := fun _ => PT α) (.nd v l (setN x r (i / 2))) (.nd v (setN x l (i / 2)) r) (Nat.beq (i % 2) 0) = _
    cases Nat.beq (i % 2) 0 <;> rfl

theorem T.bindK_eq {α β : Type} (f : α → T β) : ∀ x : T α, T.bindK x f = x.bind f
  | .ret _ => rfl
  | .pick n k => by
    show T.pick n (fun i => T.bindK (k i) f) = T.pick n (fun i => (k i).bind f)
    congr 1
    funext i
    exact T.bindK_eq f (k i)
  | .bad => rfl

theorem dropM_nil {α : Type} : ∀ i, dropM ([] : List α) i = []
  | 0 => rfl
  | i + 1 => by show tailK (dropM [] i) = _; rw [dropM_nil i]; rfl
theorem dropM_cons {α : Type} (a : α) (l : List α) : ∀ i, dropM (a :: l) (i + 1) = dropM l i
  | 0 => rfl
  | i + 1 => by show tailK (dropM (a :: l) (i + 1)) = tailK (dropM l i); rw [dropM_cons a l i]
theorem lgetK_eq {α : Type} : ∀ (l : List α) (i : Nat), lgetK l i = lget l i
  | [], i => by unfold lgetK; rw [dropM_nil]; cases i <;> rfl
  | a :: l, 0 => rfl
  | a :: l, i + 1 => by unfold lgetK; rw [dropM_cons]; exact lgetK_eq l i
theorem lset1_eq {α : Type} (v : α) : ∀ (l : List α) (i : Nat), lset1 v l i = lput i l [v]
  | [], i => by cases i <;> rfl
  | a :: l, 0 => by show v :: l = _; simp only [lput]
  | a :: l, i + 1 => by show a :: lset1 v l i = _; rw [lset1_eq v l i]; simp only [lput]
theorem geLen_eq {α : Type} : ∀ (l : List α) (n : Nat), geLen l n = decide (n ≤ l.length)
  | [], 0 => rfl
  | [], n + 1 => by show false = _; simp
  | a :: l, 0 => by show true = _; simp
  | a :: l, n + 1 => by show geLen l n = _; rw [geLen_eq l n]; simp
theorem eqLen_eq {α : Type} : ∀ (l : List α) (n : Nat), eqLen l n = Nat.beq l.length n
  | [], 0 => rfl
  | [], n + 1 => rfl
  | a :: l, 0 => rfl
  | a :: l, n + 1 => by show eqLen l n = _; rw [eqLen_eq l n]; rfl
theorem lenLe_eq {α : Type} : ∀ (l : List α) (n : Nat), lenLe l n = Nat.ble l.length n
  | [], 0 => rfl
  | [], n + 1 => rfl
  | a :: l, 0 => rfl
  | a :: l, n + 1 => by show lenLe l n = _; rw [lenLe_eq l n]; rfl
theorem takeK_eq {α : Type} : ∀ (l : List α) (n : Nat), takeK l n = l.take n
  | [], n => by simp; rfl
  | a :: l, 0 => rfl
  | a :: l, n + 1 => by show a :: takeK l n = _; rw [takeK_eq l n]; rfl
theorem dropK_eq {α : Type} : ∀ (l : List α) (n : Nat), dropK l n = l.drop n
  | [], n => by simp; rfl
  | a :: l, 0 => rfl
  | a :: l, n + 1 => by show dropK l n = _; rw [dropK_eq l n]; rfl
theorem lpart_eq {α : Type} : ∀ (o n : Nat) (l : List α), lpart o n l = if o + n ≤ l.length then some ((l.drop o).take n) else none
  | 0, 0, l => by cases l <;> simp [lpart]
  | 0, n + 1, [] => by simp [lpart]
  | 0, n + 1, a :: l => by
    have := lpart_eq 0 n l
    simp only [lpart, this]
    by_cases h : 0 + n ≤ l.length
    · rw [if_pos h, if_pos (by simp; omega)]; simp
    · rw [if_neg h, if_neg (by simp; omega)]; simp
  | o + 1, n, [] => by simp [lpart]
  | o + 1, n, a :: l => by
    simp only [lpart, lpart_eq o n l]
    by_cases h : o + n ≤ l.length
    · rw [if_pos h, if_pos (by simp; omega)]; simp
    · rw [if_neg h, if_neg (by simp; omega)]
theorem partK_eq {α : Type} (o n : Nat) (l : List α) : partK o n l = lpart o n l := by
  unfold partK
  rw [lpart_eq, geLen_eq, takeK_eq, dropK_eq]
  show Bool.rec (motive := fun _ => Option (List α)) none (some ((l.drop o).take n)) (decide (o + n ≤ l.length)) = _
  by_cases h : o + n ≤ l.length
  · rw [decide_eq_true h, if_pos h]
  · rw [decide_eq_false h, if_neg h]
theorem lputK_eq {α : Type} : ∀ (l : List α) (o : Nat) (vs : List α), lputK l o vs = lput o l vs
  | [], o, [] => by cases o <;> rfl
  | [], o, v :: vs => by cases o <;> rfl
  | a :: l, o, [] => by cases o <;> (simp only [lput]; rfl)
  | a :: l, 0, v :: vs => by show v :: lputK l 0 vs = _; rw [lputK_eq l 0 vs]; simp only [lput]
  | a :: l, o + 1, v :: vs => by show a :: lputK l o (v :: vs) = _; rw [lputK_eq l o (v :: vs)]; simp only [lput]
theorem appK_eq {α : Type} : ∀ (l k : List α), appK l k = l ++ k
  | [], k => rfl
  | a :: l, k => by show a :: appK l k = _; rw [appK_eq l k]; rfl
theorem repK_eq {α : Type} (z : List α) : ∀ n, repK z n = lrep n z
  | 0 => rfl
  | n + 1 => by show appK z (repK z n) = _; rw [appK_eq, repK_eq z n]; rfl
theorem mapK_eq {α β : Type} (f : α → β) : ∀ l, mapK f l = l.map f
  | [] => rfl
  | a :: l => by show f a :: mapK f l = _; rw [mapK_eq f l]; rfl
theorem one1_eq (v : AV) : one1 v = oneCell v := by cases v <;> rfl
theorem allOne_eq : ∀ l : List AV, allOne l = l.all oneCell
  | [] => rfl
  | a :: l => by
    show Bool.rec (motive := fun _ => Bool) false (allOne l) (one1 a) = _
    rw [one1_eq, allOne_eq l, List.all_cons]
    cases oneCell a <;> rfl
theorem cellsK_eq (v : AV) : cellsK v = v.cells := by cases v <;> rfl

section
variable {Q : Out → Prop}
theorem optK_all {α : Type} {x : Option α} {k : α → TO} (h : (optK x k).all Q) : ∃ a, x = some a ∧ (k a).all Q := by
  cases x with
  | none => exact h.elim
  | some a => exact ⟨a, rfl, h⟩
theorem asInt_all {v : AV} {k : IntKind → Int → TO} (h : (asInt v k).all Q) : ∃ a b, v = .int a b ∧ (k a b).all Q := by
  cases v <;> first | exact h.elim | exact ⟨_, _, rfl, h⟩
theorem asBool_all {v : AV} {k : Bool → TO} (h : (asBool v k).all Q) : ∃ a, v = .bool a ∧ (k a).all Q := by
  cases v <;> first | exact h.elim | exact ⟨_, rfl, h⟩
theorem asPtr_all {v : AV} {k : Nat → Nat → TO} (h : (asPtr v k).all Q) : ∃ a b, v = .ptr a b ∧ (k a b).all Q := by
  cases v <;> first | exact h.elim | exact ⟨_, _, rfl, h⟩
theorem asSlice_all {v : AV} {k : Nat → Nat → Nat → Nat → TO} (h : (asSlice v k).all Q) : ∃ a b c d, v = .slice a b c d ∧ (k a b c d).all Q := by
  cases v <;> first | exact h.elim | exact ⟨_, _, _, _, rfl, h⟩
theorem asStr_all {v : AV} {k : List UInt8 → TO} (h : (asStr v k).all Q) : ∃ a, v = .str a ∧ (k a).all Q := by
  cases v <;> first | exact h.elim | exact ⟨_, rfl, h⟩
theorem asAgg_all {v : AV} {k : List AV → TO} (h : (asAgg v k).all Q) : ∃ a, v = .agg a ∧ (k a).all Q := by
  cases v <;> first | exact h.elim | exact ⟨_, rfl, h⟩
theorem asTup_all {v : AV} {k : List AV → TO} (h : (asTup v k).all Q) : ∃ a, v = .tup a ∧ (k a).all Q := by
  cases v <;> first | exact h.elim | exact ⟨_, rfl, h⟩
theorem asLen_all {v : AV} {k : Nat → TO} (h : (asLen v k).all Q) : (v = .nilslice ∧ (k 0).all Q) ∨ ∃ b o n c, v = .slice b o n c ∧ (k n).all Q := by
  cases v <;> first | exact h.elim | exact .inl ⟨rfl, h⟩ | exact .inr ⟨_, _, _, _, rfl, h⟩
theorem asNatK_all {n : Int} {k : Nat → TO} (h : (asNatK n k).all Q) : ∃ m, n = .ofNat m ∧ (k m).all Q := by
  cases n with
  | ofNat m => exact ⟨m, rfl, h⟩
  | negSucc m => exact h.elim
theorem guardT_all {b : Bool} {k : TO} (h : (guardT b k).all Q) : b = true ∧ k.all Q := by
  cases b with
  | true => exact ⟨rfl, h⟩
  | false => exact h.elim
theorem intOr_all {v : AV} {d : TO} {k : IntKind → Int → TO} (h : (intOr v d k).all Q) : (∃ a b, v = .int a b ∧ (k a b).all Q) ∨ d.all Q := by
  cases v <;> first | exact .inl ⟨_, _, rfl, h⟩ | exact .inr h
theorem rowK_all {h : H} {b : Nat} {k : Row → TO} (hh : (rowK h b k).all Q) : ∃ r, h.get b = some (.row r) ∧ (k r).all Q := by
  obtain ⟨o, ho, h2⟩ := optK_all hh
  rw [getN_eq] at ho
  cases o with
  | row r => exact ⟨r, ho, h2⟩
  | _ => exact h2.elim
theorem evK_all {fr : Fr} {x : Operand} {k : AV → TO} (h : (evK (.of x) fr.tmps k).all Q) : ∃ v, fr.eval x = some v ∧ (k v).all Q := by
  cases x with
  | tmp i =>
    obtain ⟨v, hv, h2⟩ := optK_all (x := (KP.mk i).get fr.tmps) h
    rw [KP.get_mk] at hv
    exact ⟨v, hv, h2⟩
  | const c =>
    simp only [KX.of] at h
    cases hc : ofConst c with
    | none => rw [hc] at h; exact h.elim
    | some a => rw [hc] at h; exact ⟨a, hc, h⟩
  | global g => exact ⟨_, rfl, h⟩
  | func f => exact ⟨_, rfl, h⟩
theorem evsK_all {fr : Fr} : ∀ {l : List Operand} {k : List AV → TO}, (evsK (l.map .of) fr.tmps k).all Q → ∃ vs, fr.evals l = some vs ∧ (k vs).all Q
  | [], k, h => ⟨[], rfl, h⟩
  | x :: l, k, h => by
    obtain ⟨v, hv, h2⟩ := evK_all (k := evsHd (evsK (l.map .of)) fr.tmps k) h
    obtain ⟨vs, hvs, h3⟩ := evsK_all (l := l) (k := evsTl k v) h2
    exact ⟨v :: vs, by simp only [Fr.evals, hv, hvs], h3⟩
end
theorem putK_eq (h : H) (b : Nat) (o : AO) : putK h b o = h.put b o := by cases h; simp [putK, H.put, setN_eq]
theorem newK_eq (h : H) (o : AO) : newK h o = h.new o := by cases h; simp [newK, H.new, setN_eq]
theorem H.row_of {h : H} {b : Nat} {r : Row} (hr : h.get b = some (.row r)) : h.row? b = some r := by simp [H.row?, hr]
theorem KR.fr_tmps (d : KR) (t : PT AV) : (d.fr t).tmps = t := by cases d; rfl
end Go.Ab
namespace Go.Ab

theorem wrap_nat {k : IntKind} {n : Nat} (h : n ≤ khi k) : k.wrap (Int.ofNat n) = Int.ofNat n := by
  have key : ∀ (b : Nat) (s : Bool), (n : Int) < 2 ^ b → (s = true → (n : Int) < 2 ^ (b - 1)) →
      (let m := (n : Int) % (2 ^ b : Int); if s && m ≥ (2 ^ (b - 1) : Int) then m - (2 ^ b : Int) else m) = n := by
    intro b s h1 h2
    have hm : (n : Int) % (2 ^ b : Int) = n := Int.emod_eq_of_lt (by omega) h1
    dsimp only
    rw [hm]
    cases s with
    | false => simp
    | true => rw [if_neg]; have := h2 rfl; simp only [Bool.true_and, decide_eq_true_eq]; omega
  cases k
  · exact key 8 true (by simp only [khi] at h; omega) (fun _ => by simp only [khi] at h; omega)
  · exact key 16 true (by simp only [khi] at h; omega) (fun _ => by simp only [khi] at h; omega)
  · exact key 32 true (by simp only [khi] at h; omega) (fun _ => by simp only [khi] at h; omega)
  · exact key 64 true (by simp only [khi] at h; omega) (fun _ => by simp only [khi] at h; omega)
  · exact key 8 false (by simp only [khi] at h; omega) (fun q => by cases q)
  · exact key 16 false (by simp only [khi] at h; omega) (fun q => by cases q)
  · exact key 32 false (by simp only [khi] at h; omega) (fun q => by cases q)
  · exact key 64 false (by simp only [khi] at h; omega) (fun q => by cases q)
theorem wrap_natC {k : IntKind} {n : Nat} (h : n ≤ khi k) : k.wrap (n : Int) = (n : Int) := wrap_nat h
theorem khi_bits (k : IntKind) : khi k < 2 ^ k.bits := by cases k <;> decide
theorem khi_pow (k : IntKind) : ∃ m, khi k = 2 ^ m - 1 ∧ 0 < 2 ^ m := by
  cases k
  · exact ⟨7, rfl, by decide⟩
  · exact ⟨15, rfl, by decide⟩
  · exact ⟨31, rfl, by decide⟩
  · exact ⟨63, rfl, by decide⟩
  · exact ⟨8, rfl, by decide⟩
  · exact ⟨16, rfl, by decide⟩
  · exact ⟨32, rfl, by decide⟩
  · exact ⟨64, rfl, by decide⟩

theorem fitO_eq {k : IntKind} {s : Option AV} {n : Nat} (h : n ≤ khi k → s = some (.int k (Int.ofNat n))) : fitO k s n = s := by
  unfold fitO
  cases hb : Nat.ble n (khi k) with
  | false => rfl
  | true => exact (h (by simpa using hb)).symm
theorem condO_eq {b : Bool} {x s : Option AV} (h : b = true → x = s) : condO b x s = s := by
  cases b with
  | false => rfl
  | true => exact h rfl

theorem ofInt_nat {w n : Nat} (h : n < 2 ^ w) : (BitVec.ofInt w (Int.ofNat n)).toNat = n := by
  rw [show (Int.ofNat n) = (n : Int) from rfl, BitVec.ofInt_natCast, BitVec.toNat_ofNat, Nat.mod_eq_of_lt h]

theorem notK_eq (b : Bool) : notK b = !b := by cases b <;> rfl

theorem both_ble {a b : Nat} (h : Nat.ble a b = true) : a ≤ b := by simpa using h

theorem intBinK_eq {op : BinOp} {b : KB} (hb : KB.of op = some b) {k : IntKind} {x y : Int} {s : Option AV} (hs : s = intBin op k x y) : intBinK b k s x y = s := by
  unfold intBinK
  cases x with
  | negSucc x => rfl
  | ofNat x =>
  cases y with
  | negSucc y => rfl
  | ofNat y =>
  show b.fn k s x y = s
  have bits : ∀ {n}, Nat.ble n (khi k) = true → n < 2 ^ k.bits := fun h => Nat.lt_of_le_of_lt (both_ble h) (khi_bits k)
  cases op <;> simp only [KB.of, Option.some.injEq, reduceCtorEq] at hb <;> subst hb
  case add => exact fitO_eq fun h => by subst hs; exact congrArg (fun z => some (AV.int k z)) (wrap_nat (n := x + y) h)
  case sub =>
    refine condO_eq fun h => fitO_eq fun h2 => ?_
    subst hs
    have h : y ≤ x := both_ble h
    have : (Int.ofNat x - Int.ofNat y) = Int.ofNat (x - y) := by simp only [Int.ofNat_eq_natCast]; omega
    simp only [intBin, this]
    exact congrArg (fun z => some (AV.int k z)) (wrap_nat (n := x - y) h2)
  case mul => exact fitO_eq fun h => by subst hs; exact congrArg (fun z => some (AV.int k z)) (wrap_nat (n := x * y) h)
  case quo =>
    show condO (Nat.beq y 0) s (fitO k s (Nat.div x y)) = s
    cases hy : Nat.beq y 0 with
    | true => rfl
    | false =>
      have hy : y ≠ 0 := fun q => by subst q; cases hy
      refine fitO_eq fun h => ?_
      subst hs
      have : (Int.ofNat x).tdiv (Int.ofNat y) = Int.ofNat (x / y) := rfl
      simp only [intBin, this]
      rw [if_neg (by simp [hy])]
      exact congrArg (fun z => some (AV.int k z)) (wrap_nat (n := x / y) h)
  case rem =>
    show condO (Nat.beq y 0) s (some (.int k (.ofNat (Nat.mod x y)))) = s
    cases hy : Nat.beq y 0 with
    | true => rfl
    | false =>
      have hy : y ≠ 0 := fun q => by subst q; cases hy
      subst hs
      have : (Int.ofNat x).tmod (Int.ofNat y) = Int.ofNat (x % y) := rfl
      simp only [intBin, this]
      rw [if_neg (by simp [hy])]; rfl
  case and =>
    refine condO_eq fun h1 => condO_eq fun h2 => fitO_eq fun h => ?_
    subst hs
    simp only [intBin, BitVec.toNat_and, ofInt_nat (bits h1), ofInt_nat (bits h2)]
    exact congrArg (fun z => some (AV.int k z)) (wrap_nat (n := x &&& y) h)
  case or =>
    refine condO_eq fun h1 => condO_eq fun h2 => fitO_eq fun h => ?_
    subst hs
    simp only [intBin, BitVec.toNat_or, ofInt_nat (bits h1), ofInt_nat (bits h2)]
    exact congrArg (fun z => some (AV.int k z)) (wrap_nat (n := x ||| y) h)
  case xor =>
    refine condO_eq fun h1 => condO_eq fun h2 => fitO_eq fun h => ?_
    subst hs
    simp only [intBin, BitVec.toNat_xor, ofInt_nat (bits h1), ofInt_nat (bits h2)]
    exact congrArg (fun z => some (AV.int k z)) (wrap_nat (n := x ^^^ y) h)
  case eql =>
    subst hs
    simp only [KB.fn, nbEql, boolO, intBin, Option.some.injEq, AV.bool.injEq]
    rw [Bool.eq_iff_iff]; simp; omega
  case neq =>
    subst hs
    simp only [KB.fn, nbNeq, boolO, intBin, Option.some.injEq, AV.bool.injEq, notK_eq]
    rw [show (Int.ofNat x != Int.ofNat y) = !(Int.ofNat x == Int.ofNat y) from rfl]
    congr 1
    rw [Bool.eq_iff_iff]; simp; omega
  case lss =>
    subst hs
    simp only [KB.fn, nbLss, boolO, intBin, ltN, Option.some.injEq, AV.bool.injEq]
    rw [Bool.eq_iff_iff]; simp [Nat.succ_le_iff]
  case leq =>
    subst hs
    simp only [KB.fn, nbLeq, boolO, intBin, Option.some.injEq, AV.bool.injEq]
    rw [Bool.eq_iff_iff]; simp
  case gtr =>
    subst hs
    simp only [KB.fn, nbGtr, boolO, intBin, ltN, Option.some.injEq, AV.bool.injEq]
    rw [Bool.eq_iff_iff]; simp [Nat.succ_le_iff]
  case geq =>
    subst hs
    simp only [KB.fn, nbGeq, boolO, intBin, Option.some.injEq, AV.bool.injEq]
    rw [Bool.eq_iff_iff]; simp

theorem shl_eq {k : IntKind} {x y : Int} {s : Option AV} (hs : s = intShift .shl k x y) : intBinK .shl k s x y = s := by
  unfold intBinK
  cases x with
  | negSucc x => rfl
  | ofNat x =>
  cases y with
  | negSucc y => rfl
  | ofNat y =>
  show nbShl k s x y = s
  refine condO_eq fun _ => fitO_eq fun h => ?_
  subst hs
  have h : x <<< y ≤ khi k := h
  rw [Nat.shiftLeft_eq] at h
  have hn : ¬ ((y : Int) < 0) := by omega
  simp only [intShift, Int.ofNat_eq_natCast, Int.toNat_natCast, if_neg hn]
  have e : x * 2 ^ min y k.bits = x * 2 ^ y := by
    rcases Nat.lt_or_ge k.bits y with q | q
    · have hx : x = 0 := by
        rcases Nat.eq_zero_or_pos x with q2 | q2
        · exact q2
        · exfalso
          have h1 : 2 ^ k.bits ≤ 2 ^ y := Nat.pow_le_pow_right (by decide) (by omega)
          have h2 : 2 ^ y ≤ x * 2 ^ y := Nat.le_mul_of_pos_left _ q2
          have := khi_bits k
          omega
      subst hx; simp
    · rw [Nat.min_eq_left q]
  have : ((x : Int) * 2 ^ min y k.bits) = ((x * 2 ^ y : Nat) : Int) := by
    rw [← e]; simp
  rw [this, wrap_natC h]
  rw [show Nat.shiftLeft x y = x * 2 ^ y from Nat.shiftLeft_eq x y]

theorem shr_eq {k : IntKind} {x y : Int} {s : Option AV} (hs : s = intShift .shr k x y) : intBinK .shr k s x y = s := by
  unfold intBinK
  cases x with
  | negSucc x => rfl
  | ofNat x =>
  cases y with
  | negSucc y => rfl
  | ofNat y =>
  show nbShr k s x y = s
  refine condO_eq fun _ => condO_eq fun h => ?_
  have h := both_ble h
  subst hs
  have hn : ¬ ((y : Int) < 0) := by omega
  simp only [intShift, Int.ofNat_eq_natCast, Int.toNat_natCast, if_neg hn]
  have e : x / 2 ^ min y k.bits = x / 2 ^ y := by
    rcases Nat.lt_or_ge k.bits y with q | q
    · rw [Nat.min_eq_right (by omega)]
      have := khi_bits k
      have h1 : 2 ^ k.bits ≤ 2 ^ y := Nat.pow_le_pow_right (by decide) (by omega)
      rw [Nat.div_eq_of_lt (by omega), Nat.div_eq_of_lt (by omega)]
    · rw [Nat.min_eq_left q]
  have : ((x : Int).fdiv (2 ^ min y k.bits)) = ((x / 2 ^ y : Nat) : Int) := by
    rw [← e, Int.fdiv_eq_ediv_of_nonneg _ (by exact_mod_cast Nat.zero_le _)]
    simp
  rw [this]
  rw [show Nat.shiftRight x y = x / 2 ^ y from Nat.shiftRight_eq_div_pow x y]

theorem wrapK_eq (k : IntKind) (n : Int) : wrapK k n = k.wrap n := by
  cases n with
  | negSucc m => rfl
  | ofNat m =>
    show fits k (k.wrap (.ofNat m)) m = _
    unfold fits
    cases h : Nat.ble m (khi k) with
    | false => rfl
    | true => exact (wrap_nat (both_ble h)).symm

theorem kindEq_iff {a b : IntKind} (h : kindEq a b = true) : a = b := by cases a <;> cases b <;> first | rfl | cases h
end Go.Ab
namespace Go.Ab

/-- An operation that is wanted: what it comes to, its calls carried out. -/
def opRest (e : Env) (r : Rec) (nt : Nat) (o : Oper) (fr : Fr) (h : H) : T ORes :=
  match opA e fr h nt o with
  | .val v h => .ret (.val v h)
  | .pan v h => .ret (.pan v h)
  | .call f args => (r.call f args h none).bind CR.res
  | .yld l args => (roundA r l args h).bind CR.res
  | .dfr d => .ret (.dfr d)
  | .rcv => .ret .rcv
  | .pick n kk => .pick n fun i => match kk i with
    | some (v, h) => .ret (.val v h)
    | none => .bad
  | .bad => .bad
theorem runOp_eq (e : Env) (r : Rec) (nt : Nat) (ops : List Oper) (o : Oper) (fr : Fr) (h : H) : runOp e r nt ops o fr h = match wantedA ops fr o with
    | none => .bad
    | some false => .ret (.val (.tup []) h)
    | some true => opRest e r nt o fr h := by
  unfold runOp opRest
  rfl

/-- On with what it comes to. -/
def KRes (k : KK) (Q : Out → Prop) (pk : Bool) (fr : Fr) : ORes → Prop
  | .val v h' => (k v h').all Q
  | .pan v h' => pk = true ∧ Q (.pan v fr h')
  | _ => False

section
variable {e : Env} {r : Rec} {cx : Cx} {ops : List Oper} {pk : Bool} {d : KR} {fr : Fr} {h : H} {k : KK} {Q : Out → Prop} {o : Oper} {nt : Nat}

def Quiet (e : Env) (nt : Nat) (o : Oper) (fr : Fr) (h : H) (k : KK) (Q : Out → Prop) : Prop := ∃ v h', opA e fr h nt o = .val v h' ∧ (k v h').all Q

theorem OR.of_some {v : AV} {x : Option AV} (hx : x = some v) : OR.of h x = .val v h := by subst hx; rfl
theorem tail_row {rr : Row} {cells : List AV} {n elem : Nat} {opn : Bool} {es : Nat} {wr strish : Bool} {o cap : Nat} (hr : rr = ⟨cells, n, elem, opn, es, wr, strish⟩) : tailOpen ⟨cells, n, elem, opn, es, wr, strish⟩ o cap = tailOpen rr o cap := by rw [hr]

theorem q_mv {x : Operand} {S : KS} (ho : o.op = .move x ∨ o.op = .assign x) (hq : (kMv (.of x) S fr.tmps d h k).all Q) : Quiet e nt o fr h k Q := by
  obtain ⟨v, hv, h2⟩ := evK_all hq
  refine ⟨v, h, ?_, h2⟩
  rcases ho with ho | ho <;> (simp only [opA, ho, hv]; rfl)
theorem q_pick {c a b : Operand} {S : KS} (ho : o.op = .pick c a b) (hq : (kPick (.of c) (.of a) (.of b) S fr.tmps d h k).all Q) : Quiet e nt o fr h k Q := by
  obtain ⟨v, hv, h2⟩ := evK_all hq
  obtain ⟨q, rfl, h3⟩ := asBool_all h2
  cases q with
  | true =>
    obtain ⟨u, hu, h4⟩ := evK_all (x := a) (k := kVal h k) h3
    exact ⟨u, h, by simp only [opA, ho, hv, hu], h4⟩
  | false =>
    obtain ⟨u, hu, h4⟩ := evK_all (x := b) (k := kVal h k) h3
    exact ⟨u, h, by simp only [opA, ho, hv, hu], h4⟩
theorem q_load1 {t : Nat} {ti : TI} {a : Operand} {S : KS} (ho : o.op = .load t a) (ht : e.ti t = some ti) (hg : ti.agg = false) (hq : (kLoad1 (.of a) S fr.tmps d h k).all Q) : Quiet e nt o fr h k Q := by
  obtain ⟨v, hv, h2⟩ := evK_all hq
  obtain ⟨b, off, rfl, h3⟩ := asPtr_all h2
  obtain ⟨rr, hr, h4⟩ := rowK_all h3
  obtain ⟨u, hu, h5⟩ := optK_all h4
  refine ⟨u, h, ?_, h5⟩
  rw [lgetK_eq] at hu
  simp only [opA, ho, ht, hv, loadT, hg, H.load1, H.row_of hr, hu]
  rfl
theorem q_loadN {t : Nat} {ti : TI} {a : Operand} {S : KS} (ho : o.op = .load t a) (ht : e.ti t = some ti) (hg : ti.agg = true) (hq : (kLoadN ti.size (.of a) S fr.tmps d h k).all Q) : Quiet e nt o fr h k Q := by
  obtain ⟨v, hv, h2⟩ := evK_all hq
  obtain ⟨b, off, rfl, h3⟩ := asPtr_all h2
  obtain ⟨rr, hr, h4⟩ := rowK_all h3
  obtain ⟨u, hu, h5⟩ := optK_all h4
  refine ⟨.agg u, h, ?_, h5⟩
  rw [partK_eq] at hu
  simp only [opA, ho, ht, hv, loadT, hg, H.loadN, H.row_of hr, hu]
  rfl
theorem q_nilc {x : Operand} {S : KS} (ho : o.op = .nilCheck x) (hq : (kNilc (.of x) S fr.tmps d h k).all Q) : Quiet e nt o fr h k Q := by
  obtain ⟨v, hv, h2⟩ := evK_all hq
  refine ⟨v, h, ?_, ?_⟩
  · cases v <;> first | exact h2.elim | simp only [opA, ho, hv]
  · cases v <;> first | exact h2.elim | exact h2
theorem int_all {v : AV} {d : TO} {k : IntKind → Int → TO} (h : (intOr v d k).all Q) : (∃ a b, v = .int a b ∧ (k a b).all Q) ∨ ((∀ a b, v ≠ .int a b) ∧ d.all Q) := by
  cases v <;> first | exact .inl ⟨_, _, rfl, h⟩ | exact .inr ⟨fun _ _ q => (by cases q), h⟩
theorem kb_int {op : BinOp} {b : KB} (hb : KB.of op = some b) {t : Nat} {xo yo : Operand} {ik : IntKind} {x y : Int} : binA e h op t xo yo (.int ik x) (.int ik y) = intBin op ik x y := by
  cases op <;> simp only [KB.of, reduceCtorEq] at hb <;> simp [binA]
theorem q_bin {op : BinOp} {b : KB} {t ty : Nat} {x y : Operand} (hb : KB.of op = some b) (ho : o.op = .binOp op t x y ty) (hq : (kBin b op t x y (.of x) (.of y) ⟨e, r, cx, ops, pk⟩ fr.tmps d h k).all Q) : Quiet e nt o fr h k Q := by
  obtain ⟨a, ha, h2⟩ := evK_all hq
  obtain ⟨c, hc, h3⟩ := evK_all (x := y) (k := kBinb b op t x y ⟨e, r, cx, ops, pk⟩ h k a) h2
  have key : ∀ v, binA e h op t x y a c = some v → opA e fr h nt o = .val v h := fun v hv => by
    simp only [opA, ho, ha, hc, hv]; rfl
  have slow : (optK (binA e h op t x y a c) (kVal h k)).all Q → Quiet e nt o fr h k Q := fun q => by
    obtain ⟨v, hv, h4⟩ := optK_all q
    exact ⟨v, h, key v hv, h4⟩
  rcases int_all h3 with ⟨ik, n, rfl, h4⟩ | ⟨_, h4⟩
  · rcases int_all h4 with ⟨ik', m, rfl, h5⟩ | ⟨_, h5⟩
    · obtain ⟨v, hv, h6⟩ := optK_all h5
      refine ⟨v, h, key v ?_, h6⟩
      cases hk : kindEq ik ik' with
      | false => rw [hk] at hv; exact hv
      | true =>
        rw [hk] at hv
        have := kindEq_iff hk
        subst this
        rw [← intBinK_eq hb (s := binA e h op t x y (.int ik n) (.int ik m)) (kb_int hb)]
        exact hv
    · exact slow h5
  · exact slow h4
theorem q_shf {b : KB} {op : BinOp} {t ty : Nat} {x y : Operand} (hb : (b = .shl ∧ op = .shl) ∨ (b = .shr ∧ op = .shr)) (ho : o.op = .binOp op t x y ty) (hq : (kShf b op t x y (.of x) (.of y) ⟨e, r, cx, ops, pk⟩ fr.tmps d h k).all Q) : Quiet e nt o fr h k Q := by
  obtain ⟨a, ha, h2⟩ := evK_all hq
  obtain ⟨c, hc, h3⟩ := evK_all (x := y) (k := kShfb b op t x y ⟨e, r, cx, ops, pk⟩ h k a) h2
  have key : ∀ v, binA e h op t x y a c = some v → opA e fr h nt o = .val v h := fun v hv => by
    simp only [opA, ho, ha, hc, hv]; rfl
  have slow : (optK (binA e h op t x y a c) (kVal h k)).all Q → Quiet e nt o fr h k Q := fun q => by
    obtain ⟨v, hv, h4⟩ := optK_all q
    exact ⟨v, h, key v hv, h4⟩
  rcases int_all h3 with ⟨ik, n, rfl, h4⟩ | ⟨_, h4⟩
  · rcases int_all h4 with ⟨ik', m, rfl, h5⟩ | ⟨_, h5⟩
    · obtain ⟨v, hv, h6⟩ := optK_all h5
      refine ⟨v, h, key v ?_, h6⟩
      rcases hb with ⟨rfl, rfl⟩ | ⟨rfl, rfl⟩
      · have := shl_eq (s := binA e h .shl t x y (.int ik n) (.int ik' m)) (k := ik) (x := n) (y := m) (by simp [binA])
        rw [← this]; exact hv
      · have := shr_eq (s := binA e h .shr t x y (.int ik n) (.int ik' m)) (k := ik) (x := n) (y := m) (by simp [binA])
        rw [← this]; exact hv
    · exact slow h5
  · exact slow h4
theorem q_not {t : Nat} {x : Operand} {S : KS} (ho : o.op = .unOp .not t x) (hq : (kNot (.of x) S fr.tmps d h k).all Q) : Quiet e nt o fr h k Q := by
  obtain ⟨a, ha, h2⟩ := evK_all hq
  obtain ⟨q, rfl, h3⟩ := asBool_all h2
  refine ⟨_, h, ?_, h3⟩
  simp only [opA, ho, ha, unA, notK_eq]; rfl
theorem q_un {op : UnOp} {t : Nat} {x : Operand} {S : KS} (ho : o.op = .unOp op t x) (hq : (kUn op (.of x) S fr.tmps d h k).all Q) : Quiet e nt o fr h k Q := by
  obtain ⟨a, ha, h2⟩ := evK_all hq
  obtain ⟨v, hv, h3⟩ := optK_all h2
  refine ⟨v, h, ?_, h3⟩
  simp only [opA, ho, ha, hv]; rfl
theorem q_conv {s t : Nat} {x : Operand} {si di : TI} {a b : IntKind} {S : KS} (ho : o.op = .convert s t x) (hs : e.ti s = some si) (hd : e.ti t = some di) (ks : si.kind = .int a) (kd : di.kind = .int b) (hq : (kConv b (.of x) S fr.tmps d h k).all Q) : Quiet e nt o fr h k Q := by
  obtain ⟨v, hv, h2⟩ := evK_all hq
  obtain ⟨ik, n, rfl, h3⟩ := asInt_all h2
  refine ⟨_, h, ?_, h3⟩
  simp only [opA, ho, hv, convA, hs, hd, ks, kd, wrapK_eq]; rfl
theorem q_fldA {t f off ft : Nat} {q : Bool} {x : Operand} {ti fi : TI} {fs : List (Nat × Nat × Bool)} {S : KS} (ho : o.op = .fieldAddr t x f) (ht : e.ti t = some ti) (kt : ti.kind = .struct fs) (hf : lget fs f = some (off, ft, q)) (hfi : e.ti ft = some fi) (hz : ¬ (Nat.beq fi.size 0 = true))
    (hq : (kFldA off (.of x) S fr.tmps d h k).all Q) : Quiet e nt o fr h k Q := by
  obtain ⟨v, hv, h2⟩ := evK_all hq
  obtain ⟨b, oo, rfl, h3⟩ := asPtr_all h2
  refine ⟨_, h, ?_, h3⟩
  simp only [opA, ho, ht, hv, kt, hf, hfi, if_neg hz]; rfl
theorem q_fld1 {t f off ft : Nat} {q : Bool} {x : Operand} {ti fi : TI} {fs : List (Nat × Nat × Bool)} {S : KS} (ho : o.op = .field t x f) (ht : e.ti t = some ti) (kt : ti.kind = .struct fs) (hf : lget fs f = some (off, ft, q)) (hfi : e.ti ft = some fi) (hg : fi.agg = false)
    (hq : (kFld1 off (.of x) S fr.tmps d h k).all Q) : Quiet e nt o fr h k Q := by
  obtain ⟨v, hv, h2⟩ := evK_all hq
  obtain ⟨cs, rfl, h3⟩ := asAgg_all h2
  obtain ⟨u, hu, h4⟩ := optK_all h3
  rw [lgetK_eq] at hu
  refine ⟨u, h, ?_, h4⟩
  simp only [opA, ho, ht, hv, kt, hf, hfi, partA, hg, hu]; rfl
theorem q_fldN {t f off ft : Nat} {q : Bool} {x : Operand} {ti fi : TI} {fs : List (Nat × Nat × Bool)} {S : KS} (ho : o.op = .field t x f) (ht : e.ti t = some ti) (kt : ti.kind = .struct fs) (hf : lget fs f = some (off, ft, q)) (hfi : e.ti ft = some fi) (hg : fi.agg = true)
    (hq : (kFldN off fi.size (.of x) S fr.tmps d h k).all Q) : Quiet e nt o fr h k Q := by
  obtain ⟨v, hv, h2⟩ := evK_all hq
  obtain ⟨cs, rfl, h3⟩ := asAgg_all h2
  obtain ⟨u, hu, h4⟩ := optK_all h3
  rw [partK_eq] at hu
  refine ⟨.agg u, h, ?_, h4⟩
  simp only [opA, ho, ht, hv, kt, hf, hfi, partA, hg, hu]; rfl
theorem ltN_blt (a b : Nat) : ltN a b = Nat.blt a b := rfl
theorem q_idxA {t el : Nat} {x i : Operand} {ti ei : TI} {S : KS} (ho : o.op = .indexAddr t x i) (ht : e.ti t = some ti) (kt : ti.kind = .slice el) (hei : e.ti el = some ei) (hq : (kIdxA ei.size (.of x) (.of i) S fr.tmps d h k).all Q) : Quiet e nt o fr h k Q := by
  obtain ⟨v, hv, h2⟩ := evK_all hq
  obtain ⟨b, oo, len, cap, rfl, h3⟩ := asSlice_all h2
  obtain ⟨u, hu, h4⟩ := evK_all (x := i) (k := kIdxAi ei.size b oo len h k) h3
  obtain ⟨ik, n, rfl, h5⟩ := asInt_all h4
  obtain ⟨n, rfl, h6⟩ := asNatK_all h5
  obtain ⟨hb, h7⟩ := guardT_all h6
  refine ⟨_, h, ?_, h7⟩
  rw [ltN_blt] at hb
  simp only [opA, ho, ht, hv, hu, kt, hei, hb, if_true]; rfl
theorem q_idxP {t el m : Nat} {x i : Operand} {ti ei : TI} {S : KS} (ho : o.op = .indexAddr t x i) (ht : e.ti t = some ti) (kt : ti.kind = .array m el) (hei : e.ti el = some ei) (hq : (kIdxP ei.size m (.of x) (.of i) S fr.tmps d h k).all Q) : Quiet e nt o fr h k Q := by
  obtain ⟨v, hv, h2⟩ := evK_all hq
  obtain ⟨b, oo, rfl, h3⟩ := asPtr_all h2
  obtain ⟨u, hu, h4⟩ := evK_all (x := i) (k := kIdxPi ei.size b oo m h k) h3
  obtain ⟨ik, n, rfl, h5⟩ := asInt_all h4
  obtain ⟨n, rfl, h6⟩ := asNatK_all h5
  obtain ⟨hb, h7⟩ := guardT_all h6
  refine ⟨_, h, ?_, h7⟩
  rw [ltN_blt] at hb
  simp only [opA, ho, ht, hv, hu, kt, hei, hb, if_true]; rfl
theorem q_idxS {t : Nat} {x i : Operand} {ti : TI} {S : KS} (ho : o.op = .index t x i) (ht : e.ti t = some ti) (kt : ti.kind = .str) (hq : (kIdxS (.of x) (.of i) S fr.tmps d h k).all Q) : Quiet e nt o fr h k Q := by
  obtain ⟨v, hv, h2⟩ := evK_all hq
  obtain ⟨s, rfl, h3⟩ := asStr_all h2
  obtain ⟨u, hu, h4⟩ := evK_all (x := i) (k := kIdxSi s h k) h3
  obtain ⟨ik, n, rfl, h5⟩ := asInt_all h4
  obtain ⟨n, rfl, h6⟩ := asNatK_all h5
  obtain ⟨w, hw, h7⟩ := optK_all h6
  rw [lgetK_eq] at hw
  refine ⟨_, h, ?_, h7⟩
  simp only [opA, ho, ht, hv, hu, kt, hw]
theorem q_ext {t : Operand} {i : Nat} {S : KS} (ho : o.op = .extract t i) (hq : (kExt i (.of t) S fr.tmps d h k).all Q) : Quiet e nt o fr h k Q := by
  obtain ⟨v, hv, h2⟩ := evK_all hq
  obtain ⟨vs, rfl, h3⟩ := asTup_all h2
  obtain ⟨u, hu, h4⟩ := optK_all h3
  rw [lgetK_eq] at hu
  refine ⟨u, h, ?_, h4⟩
  simp only [opA, ho, hv, hu]; rfl
theorem q_mkI {t : Nat} {x : Operand} {ti : TI} {S : KS} (ho : o.op = .makeInterface t x) (ht : e.ti t = some ti) (kt : ∀ b, ti.kind ≠ .iface b) (hq : (kMkI t (.of x) S fr.tmps d h k).all Q) : Quiet e nt o fr h k Q := by
  obtain ⟨v, hv, h2⟩ := evK_all hq
  refine ⟨_, h, ?_, h2⟩
  simp only [opA, ho, ht, hv]
theorem q_mkF {f : Nat} {a c : Array Operand} {S : KS} (ho : o.op = .makeFunc (.func f) a c) (hq : (kMkF f (a.toList.map .of) (c.toList.map .of) S fr.tmps d h k).all Q) : Quiet e nt o fr h k Q := by
  obtain ⟨va, hva, h2⟩ := evsK_all hq
  obtain ⟨vc, hvc, h3⟩ := evsK_all (l := c.toList) (k := kMkFb f h k va) h2
  refine ⟨_, h, ?_, h3⟩
  simp only [opA, ho, hva, hvc]
theorem q_alloc {t : Nat} {ti : TI} {z : List AV} {S : KS} (ho : o.op = .alloc t) (ht : e.ti t = some ti) (hz : ti.zero = some z) (hq : (kAlloc t ti.size z S fr.tmps d h k).all Q) : Quiet e nt o fr h k Q := by
  refine ⟨_, _, ?_, hq⟩
  simp only [opA, ho, ht, hz, newRow, newK_eq]
theorem q_box1 {t : Nat} {x : Operand} {ti : TI} {S : KS} (ho : o.op = .box t x) (ht : e.ti t = some ti) (hs : ti.size = 1) (hq : (kBox1 t (.of x) S fr.tmps d h k).all Q) : Quiet e nt o fr h k Q := by
  obtain ⟨v, hv, h2⟩ := evK_all hq
  obtain ⟨h1, h3⟩ := guardT_all h2
  rw [one1_eq] at h1
  refine ⟨_, _, ?_, h3⟩
  have hc : v.cells = [v] := by cases v <;> first | rfl | cases h1
  simp only [opA, ho, ht, hv, hc, hs, newRow, newK_eq]
  simp [h1]
theorem q_boxN {t : Nat} {x : Operand} {ti : TI} {S : KS} (ho : o.op = .box t x) (ht : e.ti t = some ti) (hq : (kBoxN t ti.size (.of x) S fr.tmps d h k).all Q) : Quiet e nt o fr h k Q := by
  obtain ⟨v, hv, h2⟩ := evK_all hq
  obtain ⟨h1, h3⟩ := guardT_all h2
  obtain ⟨h4, h5⟩ := guardT_all h3
  rw [cellsK_eq] at h1 h4 h5
  rw [eqLen_eq] at h1
  rw [allOne_eq] at h4
  refine ⟨_, _, ?_, h5⟩
  have hl : v.cells.length = ti.size := by simpa using h1
  simp only [opA, ho, ht, hv, h1, h4, newRow, newK_eq, hl]
  simp
end
end Go.Ab
namespace Go.Ab
section
variable {e : Env} {r : Rec} {cx : Cx} {ops : List Oper} {pk : Bool} {d : KR} {fr : Fr} {h : H} {k : KK} {Q : Out → Prop} {o : Oper} {nt : Nat}

theorem ble_true {a b : Nat} (h : a ≤ b) : Nat.ble a b = true := by simpa using h
theorem one_cells {v : AV} (h : oneCell v = true) : v.cells = [v] := by cases v <;> first | rfl | cases h

theorem q_store1 {t : Nat} {a x : Operand} {ti : TI} {S : KS} (ho : o.op = .store t a x) (ht : e.ti t = some ti) (hs : ti.size = 1) (hq : (kStore1 (.of a) (.of x) S fr.tmps d h k).all Q) : Quiet e nt o fr h k Q := by
  obtain ⟨v, hv, h2⟩ := evK_all hq
  obtain ⟨b, off, rfl, h3⟩ := asPtr_all h2
  obtain ⟨u, hu, h4⟩ := evK_all (x := x) (k := kStore1b b off h k) h3
  obtain ⟨h1, h5⟩ := guardT_all h4
  rw [one1_eq] at h1
  obtain ⟨rr, hr, h6⟩ := rowK_all h5
  obtain ⟨cells, n, elem, opn, es, wr, strish⟩ := rr
  obtain ⟨hw, h7⟩ := guardT_all (b := wr) h6
  obtain ⟨hb, h8⟩ := guardT_all h7
  have hb : off + 1 ≤ n := both_ble hb
  subst hw
  rw [putK_eq, lset1_eq] at h8
  refine ⟨_, _, ?_, h8⟩
  simp only [opA, ho, ht, hv, hu, one_cells h1, hs, H.storeN, H.row_of hr]
  simp [h1, hb]
theorem q_storeN {t : Nat} {a x : Operand} {ti : TI} {S : KS} (ho : o.op = .store t a x) (ht : e.ti t = some ti) (hq : (kStoreN ti.size (.of a) (.of x) S fr.tmps d h k).all Q) : Quiet e nt o fr h k Q := by
  obtain ⟨v, hv, h2⟩ := evK_all hq
  obtain ⟨b, off, rfl, h3⟩ := asPtr_all h2
  obtain ⟨u, hu, h4⟩ := evK_all (x := x) (k := kStoreNb ti.size b off h k) h3
  unfold kStoreNb kStoreNc at h4
  rw [cellsK_eq] at h4
  obtain ⟨h1, h5⟩ := guardT_all h4
  rw [eqLen_eq] at h1
  obtain ⟨ha, h5⟩ := guardT_all h5
  rw [allOne_eq] at ha
  obtain ⟨rr, hr, h6⟩ := rowK_all h5
  obtain ⟨cells, n, elem, opn, es, wr, strish⟩ := rr
  obtain ⟨hw, h7⟩ := guardT_all (b := wr) h6
  obtain ⟨hb, h8⟩ := guardT_all h7
  have hb : off + ti.size ≤ n := both_ble hb
  have hl : u.cells.length = ti.size := by simpa using h1
  subst hw
  rw [putK_eq, lputK_eq] at h8
  refine ⟨_, _, ?_, h8⟩
  simp only [opA, ho, ht, hv, hu, hl, H.storeN, H.row_of hr, ha]
  simp [hb]

/-- What is appended or copied. -/
theorem src_all {es : Nat} {v : AV} {kk : Nat → List AV → TO} (hq : (kSrc es h v kk).all Q) : ∃ n new, lenA v = some n ∧ firstA h es n v = some new ∧ new.length = n * es ∧ (∀ m, m ≤ n → firstA h es m v = some (new.take (m * es))) ∧ (kk n new).all Q := by
  cases v with
  | nilslice => exact ⟨0, [], rfl, rfl, by simp, fun m _ => by simp [firstA], hq⟩
  | str s =>
    obtain ⟨h1, h2⟩ := guardT_all hq
    have he : es = 1 := by simpa using h1
    subst he
    rw [mapK_eq] at h2
    refine ⟨s.length, s.map ofU8, rfl, ?_, by simp, fun m hm => ?_, h2⟩
    · have : ∀ l : List UInt8, ltake l.length l = l := by
        intro l
        induction l with
        | nil => rfl
        | cons a l ih => simp [ltake, ih]
      simp [firstA, this]
    · have : ∀ (l : List UInt8) m, ltake m l = l.take m := by
        intro l
        induction l with
        | nil => intro m; cases m <;> rfl
        | cons a l ih => intro m; cases m with
          | zero => rfl
          | succ m => simp [ltake, ih]
      simp [firstA, this, List.map_take]
  | slice b o n c =>
    obtain ⟨rr, hr, h2⟩ := rowK_all hq
    obtain ⟨new, hn, h3⟩ := optK_all h2
    rw [partK_eq, lpart_eq] at hn
    split at hn
    · rename_i hle
      have hle : o + n * es ≤ rr.cells.length := hle
      injection hn with hn
      subst hn
      refine ⟨n, _, rfl, ?_, by simp; omega, fun m hm => ?_, h3⟩
      · simp only [firstA, H.loadN, H.row_of hr, lpart_eq]
        rw [if_pos hle]; rfl
      · simp only [firstA, H.loadN, H.row_of hr, lpart_eq]
        have : m * es ≤ n * es := Nat.mul_le_mul_right _ hm
        rw [if_pos (by omega)]
        rw [List.take_take]
        rw [Nat.min_eq_left (show m * es ≤ n.mul es from this)]
    · cases hn
  | _ => exact hq.elim

theorem q_append {c : Call} {el : Nat} {x y : Operand} {ti yi ei : TI} {z : List AV} {S : KS} (ho : o.op = .call c) (hc : c.callee = .builtin .append) (ha : c.args.toList = [x, y]) (ht : tiOf e c.argTypes 0 = some ti) (hy : tiOf e c.argTypes 1 = some yi)
    (kt : ti.kind = .slice el) (ky : (∃ a, yi.kind = .slice a) ∨ yi.kind = .str) (hei : e.ti el = some ei) (hz : ei.zero = some z) (hs : Nat.beq ei.size 0 = false)
    (hq : (kAppend el ei.size ei.bytes (.of x) (.of y) S fr.tmps d h k).all Q) : Quiet e nt o fr h k Q := by
  obtain ⟨vs, hvs, h2⟩ := evK_all hq
  obtain ⟨vx, hvx, h3⟩ := evK_all (x := y) (k := kAppb el ei.size ei.bytes h k vs) h2
  obtain ⟨n, new, hn, hnew, hlen, _, h4⟩ := src_all h3
  have hop : opA e fr h nt o = OR.of2 (appendA h el ei vs n new) := by
    have hev : fr.evals c.args.toList = some [vs, vx] := by rw [ha]; simp [Fr.evals, hvs, hvx]
    simp only [opA, ho, hev, hc, argOk, cond_true, builtinA, ht, kt, hei, hs, hy, hz]
    rcases ky with ⟨a, ky⟩ | ky
    · simp only [ky, hn, hnew]; rfl
    · simp only [ky, hn, hnew]; rfl
  have roomy_all : ∀ {m : Nat} {kk : TO}, (roomy m ei.bytes kk).all Q → (Nat.ble (2 * m * ei.bytes) twoTo48 && Nat.ble m 9223372036854775807) = true ∧ kk.all Q := fun hh => by
    obtain ⟨a, hh⟩ := guardT_all hh
    obtain ⟨b, hh⟩ := guardT_all hh
    refine ⟨?_, hh⟩
    rw [Bool.and_eq_true]
    exact ⟨a, b⟩
  unfold Quiet
  rw [hop]
  cases vs with
  | nilslice =>
    cases n with
    | zero => exact ⟨_, _, rfl, h4⟩
    | succ n =>
      obtain ⟨hr, h5⟩ := roomy_all (m := n + 1) h4
      unfold growK at h5
      rw [newK_eq] at h5
      refine ⟨_, _, ?_, h5⟩
      simp only [appendA, hr, newRow, hlen]
      simp; rfl
  | slice b oo len cap =>
    change (kAppSlice el ei.size ei.bytes h k n new b oo len cap).all Q at h4
    unfold kAppSlice at h4
    cases hle : Nat.ble (len + n) cap with
    | true =>
      rw [show Nat.ble (Nat.add len n) cap = true from hle] at h4
      cases n with
      | zero => refine ⟨_, _, ?_, h4⟩; simp only [appendA, hle, if_true]; rfl
      | succ n =>
        obtain ⟨rr, hr, h5⟩ := rowK_all (h := h) (b := b) h4
        obtain ⟨cells, rn, elem, opn, es, wr, strish⟩ := rr
        obtain ⟨hw, h6⟩ := guardT_all (b := wr) h5
        obtain ⟨hb, h7⟩ := guardT_all h6
        obtain ⟨hall, h8⟩ := guardT_all h7
        have hb : oo + len * ei.size + (n + 1) * ei.size ≤ rn := both_ble hb
        rw [allOne_eq] at hall
        subst hw
        rw [putK_eq, lputK_eq] at h8
        refine ⟨_, _, ?_, h8⟩
        simp only [appendA, hle, if_true, H.storeN, H.row_of hr, hlen, hall, ble_true hb]
        rfl
    | false =>
      rw [show Nat.ble (Nat.add len n) cap = false from hle] at h4
      obtain ⟨hr1, h5⟩ := roomy_all (m := len + n) h4
      obtain ⟨rr, hr, h6⟩ := rowK_all h5
      obtain ⟨old, hold, h7⟩ := optK_all h6
      rw [partK_eq] at hold
      have hol := (lpart_length _ _ _ _ hold).1
      have hol : old.length = len * ei.size := hol
      have hsz : (old ++ new).length = (len + n) * ei.size := by rw [List.length_append, hol, hlen, Nat.add_mul]
      have hold' : lpart oo (len * ei.size) rr.cells = some old := hold
      obtain ⟨cells, rn, elem, opn, es, wr, strish⟩ := rr
      unfold kAppOld2 at h7
      cases htl : tailOpen ⟨cells, rn, elem, opn, es, wr, strish⟩ oo cap with
      | false =>
        change (Bool.rec (motive := fun _ => TO) _ _ (tailOpen ⟨cells, rn, elem, opn, es, wr, strish⟩ oo cap)).all Q at h7
        rw [htl] at h7
        unfold growK at h7
        rw [newK_eq, appK_eq] at h7
        refine ⟨_, _, ?_, h7⟩
        simp only [appendA, hle, H.row_of hr, hold', htl, newRow, hsz, hr1]
        simp; rfl
      | true =>
        change (Bool.rec (motive := fun _ => TO) _ _ (tailOpen ⟨cells, rn, elem, opn, es, wr, strish⟩ oo cap)).all Q at h7
        rw [htl] at h7
        obtain ⟨g1, h8⟩ := guardT_all (b := wr) h7
        obtain ⟨g2, h9⟩ := guardT_all h8
        obtain ⟨g3, h10⟩ := guardT_all h9
        obtain ⟨g4, h11⟩ := guardT_all h10
        rw [allOne_eq] at g4
        unfold growK at h11
        rw [putK_eq, newK_eq, appK_eq] at h11
        refine ⟨_, _, ?_, h11⟩
        subst g1
        simp only [appendA, hle, H.row_of hr, hold', htl, newRow, hsz, hr1, g2, g3, g4]
        simp; rfl
  | _ => exact h4.elim

theorem q_copy {c : Call} {el : Nat} {x y : Operand} {ti ei : TI} {S : KS} (ho : o.op = .call c) (hc : c.callee = .builtin .copy) (ha : c.args.toList = [x, y]) (ht : tiOf e c.argTypes 0 = some ti)
    (kt : ti.kind = .slice el) (hei : e.ti el = some ei) (hs : Nat.beq ei.size 0 = false)
    (hq : (kCopy ei.size (.of x) (.of y) S fr.tmps d h k).all Q) : Quiet e nt o fr h k Q := by
  obtain ⟨vd, hvd, h2⟩ := evK_all hq
  obtain ⟨vx, hvx, h3⟩ := evK_all (x := y) (k := kCopyb ei.size h k vd) h2
  obtain ⟨n, new, hn, hnew, hlen, hall, h4⟩ := src_all h3
  have hev : fr.evals c.args.toList = some [vd, vx] := by rw [ha]; simp [Fr.evals, hvd, hvx]
  have hs' : ¬ (Nat.beq ei.size 0 = true) := by rw [hs]; simp
  unfold Quiet
  simp only [opA, ho, hev, hc, argOk, cond_true, builtinA, ht, kt, hei, hn]
  cases vd with
  | nilslice =>
    refine ⟨_, _, ?_, h4⟩
    have := hall 0 (Nat.zero_le _)
    simp only [lenA, Nat.min_eq_min, Nat.min_zero]
    rw [if_neg hs', this]
    rfl
  | slice b oo len cap =>
    change (kCopyS ei.size h k n new b oo len cap).all Q at h4
    unfold kCopyS at h4
    simp only [lenA]
    rw [if_neg hs']
    have stor : ∀ {m : Nat} {cs : List AV}, cs.length = (m + 1) * ei.size → (rowK h b (fun r => Row.rec (motive := fun _ => TO) (kCopyIn b oo ei.size (m + 1) cs h k) r)).all Q →
        ∃ h', h.storeN b oo cs = some h' ∧ (k (.int .i64 ((m + 1 : Nat) : Int)) h').all Q := by
      intro m cs hcs hh
      obtain ⟨rr, hr, h5⟩ := rowK_all hh
      obtain ⟨cells, rn, elem, opn, es, wr, strish⟩ := rr
      obtain ⟨hw, h6⟩ := guardT_all (b := wr) h5
      obtain ⟨hb, h7⟩ := guardT_all h6
      obtain ⟨hal, h8⟩ := guardT_all h7
      have hb : oo + (m + 1) * ei.size ≤ rn := both_ble hb
      rw [allOne_eq] at hal
      subst hw
      rw [putK_eq, lputK_eq] at h8
      refine ⟨_, ?_, h8⟩
      simp only [H.storeN, H.row_of hr, hcs, hal, ble_true hb]
      rfl
    cases hle : Nat.ble n len with
    | true =>
      rw [hle] at h4
      have hle : n ≤ len := both_ble hle
      rw [show Nat.min n len = n from Nat.min_eq_left hle, hnew]
      cases n with
      | zero => exact ⟨_, _, rfl, h4⟩
      | succ n =>
        obtain ⟨h', g1, g2⟩ := stor hlen h4
        refine ⟨_, _, ?_, g2⟩
        simp only [g1]
    | false =>
      rw [hle] at h4
      have hlt : len ≤ n := by
        have : ¬ n ≤ len := fun q => by rw [ble_true q] at hle; cases hle
        omega
      rw [show Nat.min n len = len from Nat.min_eq_right hlt, hall len hlt]
      cases len with
      | zero => exact ⟨_, _, rfl, h4⟩
      | succ len =>
        have hlen2 : (takeK new ((len + 1).mul ei.size)).length = (len + 1) * ei.size := by
          rw [takeK_eq, List.length_take, hlen]
          exact Nat.min_eq_left (Nat.mul_le_mul_right _ hlt)
        obtain ⟨h', g1, g2⟩ := stor hlen2 h4
        refine ⟨_, _, ?_, g2⟩
        rw [takeK_eq] at g1
        have g1' : h.storeN b oo (List.take ((len + 1) * ei.size) new) = some h' := g1
        simp only [g1']
  | _ => exact h4.elim
end
end Go.Ab
namespace Go.Ab
section
variable {e : Env} {r : Rec} {cx : Cx} {ops : List Oper} {pk : Bool} {d : KR} {fr : Fr} {h : H} {k : KK} {Q : Out → Prop} {o : Oper} {nt : Nat}

theorem kI64_all {v : AV} {kk : Nat → TO} (hq : (kI64 v kk).all Q) : ∃ n, v = .int .i64 (.ofNat n) ∧ (kk n).all Q := by
  obtain ⟨ik, n, rfl, h2⟩ := asInt_all hq
  obtain ⟨hk, h3⟩ := guardT_all h2
  obtain ⟨m, rfl, h4⟩ := asNatK_all h3
  exact ⟨m, by rw [kindEq_iff hk], h4⟩

theorem q_mkSlice {t el : Nat} {l c : Operand} {ti ei : TI} {z : List AV} {S : KS} (ho : o.op = .makeSlice t l c) (ht : e.ti t = some ti) (kt : ti.kind = .slice el) (hei : e.ti el = some ei) (hz : ei.zero = some z) (hs : Nat.beq ei.size 0 = false)
    (hq : (kMkSlice el ei.size ei.bytes z (.of l) (.of c) S fr.tmps d h k).all Q) : Quiet e nt o fr h k Q := by
  obtain ⟨vl, hvl, h2⟩ := evK_all hq
  obtain ⟨n, rfl, h3⟩ := kI64_all h2
  obtain ⟨vc, hvc, h4⟩ := evK_all (x := c) (k := kMkSc el ei.size ei.bytes z h k n) h3
  obtain ⟨m, rfl, h5⟩ := kI64_all h4
  obtain ⟨g1, h6⟩ := guardT_all h5
  obtain ⟨g2, h7⟩ := guardT_all h6
  obtain ⟨g3, h8⟩ := guardT_all h7
  obtain ⟨g4, h9⟩ := guardT_all h8
  rw [eqLen_eq] at g4
  rw [newK_eq, repK_eq] at h9
  have hl : (lrep m z).length = m * ei.size := by rw [lrep_length, show z.length = ei.size by simpa using g4]
  refine ⟨_, _, ?_, h9⟩
  have g2' : Nat.ble (m * ei.bytes) twoTo48 = true := g2
  simp only [opA, ho, ht, hvl, hvc, kt, hei, hz, hs, g1, g2', g3, newRow, hl]
  rfl

theorem kBnd_all {dd : Nat} {x : Option Operand} {kk : Nat → TO} (hq : (kBndK dd (x.map .of) fr.tmps kk).all Q) : ∃ n v, optEval fr x = some v ∧ bndA dd v = some n ∧ (kk n).all Q := by
  cases x with
  | none => exact ⟨dd, none, rfl, rfl, hq⟩
  | some x =>
    obtain ⟨v, hv, h2⟩ := evK_all (x := x) (k := fun v => kNatV v kk) hq
    obtain ⟨ik, n, rfl, h3⟩ := asInt_all h2
    obtain ⟨m, rfl, h4⟩ := asNatK_all h3
    exact ⟨m, some (.int ik (.ofNat m)), by simp [optEval, hv], rfl, h4⟩

theorem q_slc {t el : Nat} {x : Operand} {lo hi : Option Operand} {ti ei : TI} {S : KS} (ho : o.op = .slice t x lo hi none) (ht : e.ti t = some ti) (kt : ti.kind = .slice el) (hei : e.ti el = some ei)
    (hq : (kSlc ei.size (.of x) (lo.map .of) (hi.map .of) S fr.tmps d h k).all Q) : Quiet e nt o fr h k Q := by
  obtain ⟨v, hv, h2⟩ := evK_all hq
  cases v with
  | nilslice =>
    obtain ⟨l, vl, h3, h4, h5⟩ := kBnd_all (fr := fr) (x := lo) (dd := 0) (kk := fun l => kBndK 0 (hi.map .of) fr.tmps (kSlcNil h k l)) h2
    obtain ⟨hh, vh, h6, h7, h8⟩ := kBnd_all (fr := fr) (x := hi) (dd := 0) (kk := kSlcNil h k l) h5
    obtain ⟨g1, h9⟩ := guardT_all h8
    obtain ⟨g2, h10⟩ := guardT_all h9
    refine ⟨_, h, ?_, h10⟩
    have hb : bndsA 0 0 vl vh none = some (l, hh, 0) := by
      unfold bndsA
      rw [h4, h7, show bndA 0 (none : Option AV) = some 0 from rfl]
      have g3 : (noGap vh none && Nat.ble 0 0 && Nat.ble hh 0 && Nat.ble l hh) = true := by rw [g1, g2]; cases vh <;> rfl
      dsimp only
      rw [if_pos g3]
    simp only [opA, ho, hv, h3, h6, show optEval fr none = some none from rfl, sliceA, ht, kt, hei, hb]
    rfl
  | slice b oo len cap =>
    obtain ⟨l, vl, h3, h4, h5⟩ := kBnd_all (fr := fr) (x := lo) (dd := 0) (kk := fun l => kBndK len (hi.map .of) fr.tmps (kSlcd ei.size h k b oo cap l)) h2
    obtain ⟨hh, vh, h6, h7, h8⟩ := kBnd_all (fr := fr) (x := hi) (dd := len) (kk := kSlcd ei.size h k b oo cap l) h5
    obtain ⟨g1, h9⟩ := guardT_all h8
    obtain ⟨g2, h10⟩ := guardT_all h9
    obtain ⟨rr, hr, h11⟩ := rowK_all h10
    have hb : bndsA len cap vl vh none = some (l, hh, cap) := by
      unfold bndsA
      rw [h4, h7, show bndA cap (none : Option AV) = some cap from rfl]
      have g3 : (noGap vh none && Nat.ble cap cap && Nat.ble hh cap && Nat.ble l hh) = true := by rw [g1, g2, ble_true (Nat.le_refl cap)]; cases vh <;> rfl
      dsimp only
      rw [if_pos g3]
    unfold Quiet
    simp only [opA, ho, hv, h3, h6, show optEval fr none = some none from rfl, sliceA, ht, kt, hei, hb, H.row_of hr]
    cases htl : tailOpen rr oo cap with
    | false =>
      rw [htl] at h11
      refine ⟨_, h, ?_, h11⟩
      simp only [Bool.false_and]
      cases hcl : Nat.beq cap l with
      | true => simp; rfl
      | false => simp; rfl
    | true =>
      rw [htl] at h11
      obtain ⟨g3, h12⟩ := guardT_all h11
      refine ⟨_, h, ?_, h12⟩
      simp only [g3]
      simp; rfl
  | _ => exact h2.elim

theorem fillA_len {place : Nat → Option (Nat × Nat)} : ∀ {ivs : List (Nat × AV)} {cells cs : List AV}, fillA place cells ivs = some cs → cs.length = cells.length
  | [], _, _, hh => by simp only [fillA, Option.some.injEq] at hh; rw [hh]
  | (i, v) :: rest, cells, cs, hh => by
    simp only [fillA] at hh
    split at hh
    · cases hh
    · split at hh
      · rw [fillA_len hh, lput_length]
      · cases hh
theorem fillK_all {place : Nat → Option (Nat × Nat)} : ∀ (is : List Nat) (pl : List (Nat × Nat)) (vs : List AV) (cells : List AV) {kk : List AV → TO} {n : Nat}, is.map place = pl.map some → (∀ p ∈ pl, p.1 + p.2 ≤ n) → cells.length = n → is.length ≤ vs.length → (fillK pl vs cells kk).all Q →
    ∃ cs, fillA place cells (is.zip vs) = some cs ∧ (kk cs).all Q
  | [], [], vs, cells, kk, n, _, _, _, _, hq => ⟨cells, by simp [fillA], hq⟩
  | [], _ :: _, _, _, _, _, hm, _, _, _, _ => by simp at hm
  | _ :: _, [], _, _, _, _, hm, _, _, _, _ => by simp at hm
  | i :: is, p :: pl, [], cells, kk, n, _, _, _, hl, _ => by simp at hl
  | i :: is, p :: pl, v :: vs, cells, kk, n, hm, hp, hc, hl, hq => by
    simp only [List.map_cons, List.cons.injEq] at hm
    obtain ⟨h1, h2⟩ := guardT_all (k := fillK pl vs (lputK cells p.1 (cellsK v)) kk) hq
    rw [cellsK_eq, eqLen_eq] at h1
    rw [cellsK_eq, lputK_eq] at h2
    have hle := hp p (List.mem_cons_self ..)
    obtain ⟨cs, h3, h4⟩ := fillK_all is pl vs _ hm.2 (fun q hq => hp q (List.mem_cons_of_mem _ hq)) (by rw [lput_length]; exact hc) (by simpa using hl) h2
    refine ⟨cs, ?_, h4⟩
    obtain ⟨off, size⟩ := p
    simp only [List.zip_cons_cons, fillA, hm.1]
    rw [if_pos]
    · exact h3
    · rw [Bool.and_eq_true]; exact ⟨h1, ble_true (by rw [hc]; exact hle)⟩

theorem kplaces_ok {fs : List (Nat × Nat × Bool)} {n : Nat} : ∀ {is : List Nat} {pl : List (Nat × Nat)}, kplaces e fs n is = some pl → is.map (placeOf e fs) = pl.map some ∧ ∀ p ∈ pl, p.1 + p.2 ≤ n
  | [], pl, hh => by simp only [kplaces, Option.some.injEq] at hh; subst hh; simp
  | i :: is, pl, hh => by
    simp only [kplaces] at hh
    split at hh
    · rename_i off size rr h1 h2
      cases hb : Nat.ble (off + size) n with
      | false => rw [hb] at hh; cases hh
      | true =>
        rw [hb] at hh
        simp only [cond_true, Option.some.injEq] at hh
        subst hh
        obtain ⟨a, b⟩ := kplaces_ok h2
        refine ⟨by simp [h1, a], fun p hp => ?_⟩
        rcases List.mem_cons.1 hp with rfl | hp
        · exact both_ble hb
        · exact b p hp
    · cases hh
theorem kplacesS_ok {size n : Nat} : ∀ {is : List Nat} {pl : List (Nat × Nat)}, kplacesS size n is = some pl → is.map (fun i => some (i * size, size)) = pl.map some ∧ ∀ p ∈ pl, p.1 + p.2 ≤ n
  | [], pl, hh => by simp only [kplacesS, Option.some.injEq] at hh; subst hh; simp
  | i :: is, pl, hh => by
    simp only [kplacesS] at hh
    split at hh
    · rename_i rr h2
      cases hb : Nat.ble (i * size + size) n with
      | false => rw [hb] at hh; cases hh
      | true =>
        rw [hb] at hh
        simp only [cond_true, Option.some.injEq] at hh
        subst hh
        obtain ⟨a, b⟩ := kplacesS_ok h2
        refine ⟨by simp [a], fun p hp => ?_⟩
        rcases List.mem_cons.1 hp with rfl | hp
        · exact both_ble hb
        · exact b p hp
    · cases hh
theorem evals_length {l : List Operand} : ∀ {vs : List AV}, fr.evals l = some vs → vs.length = l.length := by
  induction l with
  | nil => intro vs hh; simp only [Fr.evals, Option.some.injEq] at hh; subst hh; rfl
  | cons x l ih =>
    intro vs hh
    simp only [Fr.evals] at hh
    split at hh
    · cases hh
    · split at hh
      · cases hh
      · rename_i hr
        injection hh with hh
        subst hh
        simp [ih hr]

theorem q_build {t : Nat} {ps : Array (Nat × Operand)} {ti : TI} {z : List AV} {fs : List (Nat × Nat × Bool)} {pl : List (Nat × Nat)} {S : KS} (ho : o.op = .build t ps) (ht : e.ti t = some ti) (hz : ti.zero = some z) (kt : ti.kind = .struct fs)
    (hpl : kplaces e fs z.length (ps.toList.map (·.1)) = some pl) (hq : (kBuild z pl (ps.toList.map fun p => .of p.2) S fr.tmps d h k).all Q) : Quiet e nt o fr h k Q := by
  have hq' : (evsK ((ps.toList.map (·.2)).map .of) fr.tmps (kBuilda z pl h k)).all Q := by rw [List.map_map]; exact hq
  obtain ⟨vs, hvs, h2⟩ := evsK_all hq'
  obtain ⟨a, b⟩ := kplaces_ok hpl
  have hl := evals_length hvs
  obtain ⟨cs, h3, h4⟩ := fillK_all (ps.toList.map (·.1)) pl vs z a b rfl (by simp at hl ⊢; omega) h2
  refine ⟨_, h, ?_, h4⟩
  simp only [opA, ho, ht, hvs, hz, kt, h3]
  rfl
theorem q_buildS {t el n : Nat} {ps : Array (Nat × Operand)} {ti ei : TI} {z : List AV} {pl : List (Nat × Nat)} {S : KS} (ho : o.op = .buildSlice t n ps) (ht : e.ti t = some ti) (kt : ti.kind = .slice el) (hei : e.ti el = some ei) (hz : ei.zero = some z)
    (hg : (Nat.beq z.length ei.size && !(Nat.beq ei.size 0) && Nat.ble (n * ei.size) 16777216) = true)
    (hpl : kplacesS ei.size (n * ei.size) (ps.toList.map (·.1)) = some pl) (hq : (kBuildS el ei.size n z pl (ps.toList.map fun p => .of p.2) S fr.tmps d h k).all Q) : Quiet e nt o fr h k Q := by
  have hq' : (evsK ((ps.toList.map (·.2)).map .of) fr.tmps (kBuildSa el ei.size n z pl h k)).all Q := by rw [List.map_map]; exact hq
  obtain ⟨vs, hvs, h2⟩ := evsK_all hq'
  obtain ⟨a, b⟩ := kplacesS_ok hpl
  have hl := evals_length hvs
  simp only [Bool.and_eq_true, Bool.not_eq_true'] at hg
  have hzl : z.length = ei.size := by simpa using hg.1.1
  unfold kBuildSa at h2
  rw [repK_eq] at h2
  have hrl : (lrep n z).length = n * ei.size := by rw [lrep_length, hzl]
  obtain ⟨cs, h3, h4⟩ := fillK_all (ps.toList.map (·.1)) pl vs (lrep n z) a b hrl (by simp at hl ⊢; omega) h2
  obtain ⟨h5, h6⟩ := guardT_all h4
  rw [allOne_eq] at h5
  rw [newK_eq] at h6
  refine ⟨_, _, ?_, h6⟩
  have hcl : cs.length = n * ei.size := by rw [fillA_len h3, hrl]
  have hs' : ¬ ((Nat.beq ei.size 0 || !(Nat.ble (n * ei.size) 16777216)) = true) := by rw [hg.1.2, hg.2]; simp
  simp only [opA, ho, ht, hvs, kt, hei, hz]
  rw [if_neg hs']
  simp only [h3, h5, newRow, hcl]
  rfl

/-- Calls. -/
theorem ret_all {cr : CR} {t : PT AV} (hd : d.fr t = fr) (hq : (kRet ⟨e, r, cx, ops, pk⟩ t d k cr).all Q) : (CR.res cr).all (KRes k Q pk fr) := by
  cases cr with
  | ok v h' rc => exact hq
  | pan v h' =>
    obtain ⟨h1, h2⟩ := guardT_all (b := pk) hq
    rw [hd] at h2
    exact ⟨h1, h2⟩
theorem bind_ret {x : T CR} {t : PT AV} (hd : d.fr t = fr) (hq : (T.bindK x (kRet ⟨e, r, cx, ops, pk⟩ t d k)).all Q) : (x.bind CR.res).all (KRes k Q pk fr) := by
  rw [T.bindK_eq] at hq
  exact T.bind_all (T.all_mono (fun cr hc => ret_all hd hc) (T.all_bind hq))
theorem quiet_rest (hq : Quiet e nt o fr h k Q) : (opRest e r nt o fr h).all (KRes k Q pk fr) := by
  obtain ⟨v, h', h1, h2⟩ := hq
  unfold opRest
  rw [h1]
  exact h2
theorem c_call {c : Call} {f : Nat} {fn : Func} (ho : o.op = .call c) (hc : c.callee = .value (.func f)) (hs : e.sums f = none) (hf : e.ft.get f = some (.body fn)) (hd : d.fr fr.tmps = fr)
    (hq : (kCall f (c.args.toList.map .of) ⟨e, r, cx, ops, pk⟩ fr.tmps d h k).all Q) : (opRest e r nt o fr h).all (KRes k Q pk fr) := by
  obtain ⟨vs, hvs, h2⟩ := evsK_all hq
  unfold opRest
  have : opA e fr h nt o = .call f vs := by
    simp only [opA, ho, hvs, hc, Fr.eval, callA, hs, hf]
    simp
  rw [this]
  exact bind_ret hd h2
theorem c_callV {c : Call} {f : Operand} (ho : o.op = .call c) (hc : c.callee = .value f) (hd : d.fr fr.tmps = fr)
    (hq : (kCallV (.of f) (c.args.toList.map .of) ⟨e, r, cx, ops, pk⟩ fr.tmps d h k).all Q) : (opRest e r nt o fr h).all (KRes k Q pk fr) := by
  obtain ⟨v, hv, h2⟩ := evK_all hq
  cases v with
  | func f first caps =>
    obtain ⟨vs, hvs, h3⟩ := evsK_all (k := kCallVc f first caps ⟨e, r, cx, ops, pk⟩ fr.tmps d h k) h2
    have : opA e fr h nt o = callA e h f (first ++ vs ++ caps) := by simp only [opA, ho, hvs, hc, hv]
    unfold opRest
    rw [this]
    change (kCallOr ⟨e, r, cx, ops, pk⟩ fr.tmps d h k (callA e h f (first ++ vs ++ caps))).all Q at h3
    generalize callA e h f (first ++ vs ++ caps) = R at h3 ⊢
    cases R with
    | val v h' => exact h3
    | call f args => exact bind_ret hd h3
    | _ => exact h3.elim
  | yield l =>
    obtain ⟨vs, hvs, h3⟩ := evsK_all (k := kYld l ⟨e, r, cx, ops, pk⟩ fr.tmps d h k) h2
    have : opA e fr h nt o = .yld l vs := by simp only [opA, ho, hvs, hc, hv]
    unfold opRest
    rw [this]
    exact bind_ret hd h3
  | _ => exact h2.elim

/-- ANY OPERATION THAT IS COMPILED. -/
theorem kstep_cases {op : KOp} (hk : kop e o = some op) (hd : d.fr fr.tmps = fr) (hq : (kstep op ⟨e, r, cx, ops, pk⟩ fr.tmps d h k).all Q) :
    Quiet e nt o fr h k Q ∨ (op.quiet = false ∧ (opRest e r nt o fr h).all (KRes k Q pk fr)) := by
  cases ho : o.op with
  | move x =>
    simp only [kop, ho, Option.some.injEq] at hk; subst hk
    exact .inl (q_mv (d := d) (S := ⟨e, r, cx, ops, pk⟩) (.inl ho) hq)
  | assign x =>
    simp only [kop, ho, Option.some.injEq] at hk; subst hk
    exact .inl (q_mv (d := d) (S := ⟨e, r, cx, ops, pk⟩) (.inr ho) hq)
  | pick c a b =>
    simp only [kop, ho, Option.some.injEq] at hk; subst hk
    exact .inl (q_pick (d := d) (S := ⟨e, r, cx, ops, pk⟩) ho hq)
  | alloc t =>
    simp only [kop, ho] at hk
    split at hk
    · rename_i ti ht
      split at hk
      · rename_i z hz
        injection hk with hk; subst hk
        exact .inl (q_alloc (d := d) (S := ⟨e, r, cx, ops, pk⟩) ho ht hz hq)
      · cases hk
    · cases hk
  | box t x =>
    simp only [kop, ho] at hk
    split at hk
    · rename_i ti ht
      cases hb : (Nat.beq ti.size 1 && !ti.agg) with
      | true =>
        rw [hb] at hk; injection hk with hk; subst hk
        rw [Bool.and_eq_true] at hb
        exact .inl (q_box1 (d := d) (S := ⟨e, r, cx, ops, pk⟩) ho ht (by simpa using hb.1) hq)
      | false =>
        rw [hb] at hk; injection hk with hk; subst hk
        exact .inl (q_boxN (d := d) (S := ⟨e, r, cx, ops, pk⟩) ho ht hq)
    · cases hk
  | build t ps =>
    simp only [kop, ho] at hk
    split at hk
    · rename_i ti ht
      split at hk
      · rename_i z fs hz kt
        split at hk
        · rename_i pl hpl
          injection hk with hk; subst hk
          exact .inl (q_build (d := d) (S := ⟨e, r, cx, ops, pk⟩) ho ht hz kt hpl hq)
        · cases hk
      · cases hk
    · cases hk
  | buildSlice t n ps =>
    simp only [kop, ho] at hk
    split at hk
    · rename_i ti ht
      split at hk
      · rename_i el kt
        split at hk
        · rename_i ei hei
          split at hk
          · rename_i z hz
            cases hb : (Nat.beq z.length ei.size && !(Nat.beq ei.size 0) && Nat.ble (n * ei.size) 16777216) with
            | false => rw [hb] at hk; cases hk
            | true =>
              rw [hb, cond_true] at hk
              split at hk
              · rename_i pl hpl
                injection hk with hk; subst hk
                exact .inl (q_buildS (d := d) (S := ⟨e, r, cx, ops, pk⟩) ho ht kt hei hz hb hpl hq)
              · cases hk
          · cases hk
        · cases hk
      · cases hk
    · cases hk
  | load t a =>
    simp only [kop, ho] at hk
    split at hk
    · rename_i ti ht
      cases hb : ti.agg with
      | true => rw [hb] at hk; injection hk with hk; subst hk; exact .inl (q_loadN (d := d) (S := ⟨e, r, cx, ops, pk⟩) ho ht hb hq)
      | false => rw [hb] at hk; injection hk with hk; subst hk; exact .inl (q_load1 (d := d) (S := ⟨e, r, cx, ops, pk⟩) ho ht hb hq)
    · cases hk
  | store t a x =>
    simp only [kop, ho] at hk
    split at hk
    · rename_i ti ht
      cases hb : (Nat.beq ti.size 1 && !ti.agg) with
      | true =>
        rw [hb] at hk; injection hk with hk; subst hk
        rw [Bool.and_eq_true] at hb
        exact .inl (q_store1 (d := d) (S := ⟨e, r, cx, ops, pk⟩) ho ht (by simpa using hb.1) hq)
      | false => rw [hb] at hk; injection hk with hk; subst hk; exact .inl (q_storeN (d := d) (S := ⟨e, r, cx, ops, pk⟩) ho ht hq)
    · cases hk
  | nilCheck x =>
    simp only [kop, ho, Option.some.injEq] at hk; subst hk
    exact .inl (q_nilc (d := d) (S := ⟨e, r, cx, ops, pk⟩) ho hq)
  | binOp bo t x y ty =>
    by_cases h1 : bo = .shl
    · subst h1
      simp only [kop, ho, Option.some.injEq] at hk; subst hk
      exact .inl (q_shf (d := d) (r := r) (cx := cx) (ops := ops) (pk := pk) (.inl ⟨rfl, rfl⟩) ho hq)
    · by_cases h2 : bo = .shr
      · subst h2
        simp only [kop, ho, Option.some.injEq] at hk; subst hk
        exact .inl (q_shf (d := d) (r := r) (cx := cx) (ops := ops) (pk := pk) (.inr ⟨rfl, rfl⟩) ho hq)
      · cases hb : KB.of bo with
        | none => exfalso; cases bo <;> simp_all [kop, KB.of]
        | some b =>
          have hk' : some (KOp.bin b bo t x y (.of x) (.of y)) = some op := by
            rw [← hk]
            cases bo <;> simp_all [kop]
          injection hk' with hk'
          subst hk'
          exact .inl (q_bin (d := d) (r := r) (cx := cx) (ops := ops) (pk := pk) hb ho hq)
  | unOp uo t x =>
    cases uo <;> simp only [kop, ho, Option.some.injEq] at hk <;> subst hk <;>
      first
        | exact .inl (q_not (d := d) (S := ⟨e, r, cx, ops, pk⟩) ho hq)
        | exact .inl (q_un (d := d) (S := ⟨e, r, cx, ops, pk⟩) ho hq)
  | convert s t x =>
    simp only [kop, ho] at hk
    split at hk
    · rename_i si di hs hdi
      split at hk
      · rename_i a b ks kd
        injection hk with hk; subst hk
        exact .inl (q_conv (d := d) (S := ⟨e, r, cx, ops, pk⟩) ho hs hdi ks kd hq)
      · cases hk
    · cases hk
  | makeInterface t x =>
    simp only [kop, ho] at hk
    split at hk
    · rename_i ti ht
      split at hk
      · cases hk
      · rename_i kt
        injection hk with hk; subst hk
        exact .inl (q_mkI (d := d) (S := ⟨e, r, cx, ops, pk⟩) ho ht (fun b hb => kt b hb) hq)
    · cases hk
  | makeFunc f a c =>
    cases f <;> simp only [kop, ho, reduceCtorEq, Option.some.injEq] at hk
    subst hk
    exact .inl (q_mkF (d := d) (S := ⟨e, r, cx, ops, pk⟩) ho hq)
  | makeSlice t l c =>
    simp only [kop, ho] at hk
    split at hk
    · rename_i ti ht
      split at hk
      · rename_i el kt
        split at hk
        · rename_i ei hei
          split at hk
          · rename_i z hz
            cases hb : Nat.beq ei.size 0 with
            | true => rw [hb] at hk; cases hk
            | false =>
              rw [hb] at hk
              injection hk with hk; subst hk
              exact .inl (q_mkSlice (d := d) (S := ⟨e, r, cx, ops, pk⟩) ho ht kt hei hz hb hq)
          · cases hk
        · cases hk
      · cases hk
    · cases hk
  | slice t x lo hi mx =>
    cases mx with
    | some mx => simp only [kop, ho, reduceCtorEq] at hk
    | none =>
      simp only [kop, ho] at hk
      split at hk
      · rename_i ti ht
        split at hk
        · rename_i el kt
          split at hk
          · rename_i ei hei
            injection hk with hk; subst hk
            exact .inl (q_slc (d := d) (S := ⟨e, r, cx, ops, pk⟩) ho ht kt hei hq)
          · cases hk
        · cases hk
      · cases hk
  | fieldAddr t x f =>
    simp only [kop, ho] at hk
    split at hk
    · rename_i ti ht
      split at hk
      · rename_i fs kt
        split at hk
        · rename_i off ft q hf
          split at hk
          · rename_i fi hfi
            split at hk
            · cases hk
            · rename_i hz
              injection hk with hk; subst hk
              exact .inl (q_fldA (d := d) (S := ⟨e, r, cx, ops, pk⟩) ho ht kt hf hfi hz hq)
          · cases hk
        · cases hk
      · cases hk
    · cases hk
  | field t x f =>
    simp only [kop, ho] at hk
    split at hk
    · rename_i ti ht
      split at hk
      · rename_i fs kt
        split at hk
        · rename_i off ft q hf
          split at hk
          · rename_i fi hfi
            cases hg : fi.agg with
            | true => rw [hg] at hk; injection hk with hk; subst hk; exact .inl (q_fldN (d := d) (S := ⟨e, r, cx, ops, pk⟩) ho ht kt hf hfi hg hq)
            | false => rw [hg] at hk; injection hk with hk; subst hk; exact .inl (q_fld1 (d := d) (S := ⟨e, r, cx, ops, pk⟩) ho ht kt hf hfi hg hq)
          · cases hk
        · cases hk
      · cases hk
    · cases hk
  | indexAddr t x i =>
    simp only [kop, ho] at hk
    split at hk
    · rename_i ti ht
      split at hk
      · rename_i el kt
        split at hk
        · rename_i ei hei
          injection hk with hk; subst hk
          exact .inl (q_idxA (d := d) (S := ⟨e, r, cx, ops, pk⟩) ho ht kt hei hq)
        · cases hk
      · rename_i n el kt
        split at hk
        · rename_i ei hei
          injection hk with hk; subst hk
          exact .inl (q_idxP (d := d) (S := ⟨e, r, cx, ops, pk⟩) ho ht kt hei hq)
        · cases hk
      · cases hk
    · cases hk
  | index t x i =>
    simp only [kop, ho] at hk
    split at hk
    · rename_i ti ht
      split at hk
      · rename_i kt
        injection hk with hk; subst hk
        exact .inl (q_idxS (d := d) (S := ⟨e, r, cx, ops, pk⟩) ho ht kt hq)
      · cases hk
    · cases hk
  | extract t i =>
    simp only [kop, ho, Option.some.injEq] at hk; subst hk
    exact .inl (q_ext (d := d) (S := ⟨e, r, cx, ops, pk⟩) ho hq)
  | call c =>
    simp only [kop, ho] at hk
    cases hc : c.callee with
    | invoke q m => simp only [hc, reduceCtorEq] at hk
    | builtin b =>
      cases b <;> simp only [hc, reduceCtorEq] at hk
      case len =>
        split at hk
        · rename_i x ti ha ht
          have hev : ∀ v, fr.eval x = some v → fr.evals c.args.toList = some [v] := fun v hv => by rw [ha]; simp [Fr.evals, hv]
          split at hk
          · rename_i kt
            injection hk with hk; subst hk
            obtain ⟨v, hv, h2⟩ := evK_all (k := kLenSa h k) hq
            obtain ⟨s, rfl, h3⟩ := asStr_all h2
            refine .inl ⟨_, h, ?_, h3⟩
            simp only [opA, ho, hev _ hv, hc, argOk, cond_true, builtinA, ht, kt]
            rfl
          · rename_i el kt
            injection hk with hk; subst hk
            obtain ⟨v, hv, h2⟩ := evK_all (k := kLena h k) hq
            rcases asLen_all h2 with ⟨rfl, h3⟩ | ⟨b, oo, n, cc, rfl, h3⟩
            · refine .inl ⟨_, h, ?_, h3⟩
              simp only [opA, ho, hev _ hv, hc, argOk, cond_true, builtinA, ht, kt]
              rfl
            · refine .inl ⟨_, h, ?_, h3⟩
              simp only [opA, ho, hev _ hv, hc, argOk, cond_true, builtinA, ht, kt]
              rfl
          · cases hk
        · cases hk
      case append =>
        split at hk
        · rename_i x y ti yi ha ht hy
          have fin : ∀ el, ti.kind = .slice el → ((∃ a, yi.kind = .slice a) ∨ yi.kind = .str) → kapp e el x y = some op → Quiet e nt o fr h k Q := by
            intro el kt ky hk
            unfold kapp at hk
            split at hk
            · rename_i ei hei
              split at hk
              · rename_i z hz
                cases hs : Nat.beq ei.size 0 with
                | true => rw [hs] at hk; cases hk
                | false =>
                  rw [hs] at hk
                  injection hk with hk; subst hk
                  exact q_append (d := d) (S := ⟨e, r, cx, ops, pk⟩) ho hc ha ht hy kt ky hei hz hs hq
              · cases hk
            · cases hk
          split at hk
          · rename_i el a kt ky; exact .inl (fin el kt (.inl ⟨a, ky⟩) hk)
          · rename_i el kt ky; exact .inl (fin el kt (.inr ky) hk)
          · cases hk
        · cases hk
      case copy =>
        split at hk
        · rename_i x y ti ha ht
          split at hk
          · rename_i el kt
            split at hk
            · rename_i ei hei
              cases hs : Nat.beq ei.size 0 with
              | true => rw [hs] at hk; cases hk
              | false =>
                rw [hs] at hk
                injection hk with hk; subst hk
                exact .inl (q_copy (d := d) (S := ⟨e, r, cx, ops, pk⟩) ho hc ha ht kt hei hs hq)
            · cases hk
          · cases hk
        · cases hk
    | value f =>
      simp only [hc] at hk
      cases f with
      | func f =>
        dsimp only at hk
        split at hk
        · rename_i fn hs hf
          injection hk with hk; subst hk
          exact .inr ⟨rfl, c_call ho hc hs hf hd hq⟩
        · cases hk
      | tmp i => injection hk with hk; subst hk; exact .inr ⟨rfl, c_callV ho hc hd hq⟩
      | const v => injection hk with hk; subst hk; exact .inr ⟨rfl, c_callV ho hc hd hq⟩
      | global g => injection hk with hk; subst hk; exact .inr ⟨rfl, c_callV ho hc hd hq⟩
  | _ => simp only [kop, ho, reduceCtorEq] at hk
end
end Go.Ab
namespace Go.Ab
section
variable {e : Env} {r : Rec} {cx : Cx} {ops : List Oper} {pk : Bool} {d : KR} {t : PT AV} {h : H} {Q : Out → Prop} {o : Oper} {nt : Nat}

theorem fr_self (d : KR) (t : PT AV) : d.fr (d.fr t).tmps = d.fr t := by cases d; rfl
theorem fr_tm (d : KR) (t : PT AV) : (d.fr t).tmps = t := by cases d; rfl

theorem dst_ok {D : KD} (hk : kdst nt o.dst = some D) (v : AV) : (d.fr t).put nt o.dst v = some (d.fr (putD D t v)) := by
  unfold kdst at hk
  cases hd : o.dst with
  | none => rw [hd] at hk; injection hk with hk; subst hk; rfl
  | some x =>
    rw [hd] at hk
    dsimp only at hk
    cases hb : Nat.blt x nt with
    | false => rw [hb] at hk; cases hk
    | true =>
      rw [hb] at hk
      injection hk with hk; subst hk
      simp only [Fr.put, hb, if_true]
      cases d
      simp only [KR.fr, putD, KP.set_mk]

/-- A guard. -/
theorem grd_ok {G : KG} (hk : kgrd ops o.guard = some G) {yes no : TO} (hq : (grdK G t yes no).all Q) : (wantedA ops (d.fr t) o = some true ∧ yes.all Q) ∨ (wantedA ops (d.fr t) o = some false ∧ no.all Q) := by
  unfold kgrd at hk
  unfold wantedA
  cases hg : o.guard with
  | none => rw [hg] at hk; injection hk with hk; subst hk; exact .inl ⟨rfl, hq⟩
  | some g =>
    obtain ⟨j, w⟩ := g
    rw [hg] at hk
    dsimp only at hk ⊢
    cases hj : lget ops j with
    | none => rw [hj] at hk; cases hk
    | some oj =>
      rw [hj] at hk
      dsimp only at hk ⊢
      cases hd : oj.dst with
      | none => rw [hd] at hk; cases hk
      | some x =>
        rw [hd] at hk
        injection hk with hk; subst hk
        obtain ⟨v, hv, h2⟩ := optK_all (x := (KP.mk x).get t) (k := grdV w yes no) hq
        rw [KP.get_mk] at hv
        dsimp only
        rw [fr_tm, hv]
        cases v with
        | bool q =>
          cases q <;> cases w <;> first | exact .inl ⟨rfl, h2⟩ | exact .inr ⟨rfl, h2⟩
        | _ => exact .inr ⟨rfl, h2⟩

/-- One operation, its guard, its slot. -/
theorem one_ok {G : KG} {D : KD} {op : KOp} (hk : kop e o = some op) (hD : kdst cx.nt o.dst = some D) (hG : kgrd ops o.guard = some G) {kk : Fr → H → TO} {ko : KK}
    (hko : ∀ v h', (ko v h').all Q → (kk (d.fr (putD D t v)) h').all Q) (hq : (grdK G t (kstep op ⟨e, r, cx, ops, pk⟩ t d h ko) (ko (.tup []) h)).all Q) :
    (oneOp e r cx pk ops o (d.fr t) h kk).all Q := by
  unfold oneOp
  refine T.bind_all ?_
  rw [runOp_eq]
  rcases grd_ok hG hq with ⟨hw, h2⟩ | ⟨hw, h2⟩
  · rw [hw]
    dsimp only
    have h2' : (kstep op ⟨e, r, cx, ops, pk⟩ (d.fr t).tmps d h ko).all Q := by rw [fr_tm]; exact h2
    have h3 : (opRest e r cx.nt o (d.fr t) h).all (KRes ko Q pk (d.fr t)) := by
      rcases kstep_cases (nt := cx.nt) hk (fr_self d t) h2' with h3 | ⟨_, h3⟩
      · exact quiet_rest h3
      · exact h3
    refine T.all_mono (fun res hres => ?_) h3
    cases res with
    | val v h' => simp only [putOp, dst_ok hD]; exact hko v h' hres
    | pan v h' =>
      obtain ⟨h4, h5⟩ := hres
      subst h4
      exact h5
    | dfr x => exact hres.elim
    | rcv => exact hres.elim
  · rw [hw]
    show (putOp cx pk o.dst (d.fr t) h kk (.val (.tup []) h)).all Q
    simp only [putOp, dst_ok hD]
    exact hko _ _ h2

theorem ofFr_all {kk : PT AV → KR → TO} {fr : Fr} (hq : (ofFr kk fr).all Q) : (kk fr.tmps ⟨fr.defs, fr.pan, fr.rcd⟩).all Q := hq
theorem ofFr_eq (kk : PT AV → KR → TO) (fr : Fr) : ofFr kk fr = kk fr.tmps ⟨fr.defs, fr.pan, fr.rcd⟩ := rfl
theorem fr_mk (fr : Fr) : KR.fr ⟨fr.defs, fr.pan, fr.rcd⟩ fr.tmps = fr := rfl

theorem opsK_ok : ∀ (l : List Oper) {d : KR} {t : PT AV} {h : H}, (opsK (l.map (kinst e cx.nt ops)) ⟨e, r, cx, ops, true⟩ t d h).all Q → (opsA e r cx ops l (d.fr t) h).all Q
  | [], d, t, h, hq => hq
  | o :: l, d, t, h, hq => by
    rw [List.map_cons] at hq
    change (opsCons (kinst e cx.nt ops o) (l.map (kinst e cx.nt ops)) (opsK (l.map (kinst e cx.nt ops))) ⟨e, r, cx, ops, true⟩ t d h).all Q at hq
    unfold opsCons kinst at hq
    show (oneOp e r cx true ops o (d.fr t) h (opsA e r cx ops l)).all Q
    split at hq
    · rename_i op D G hk hD hG
      refine one_ok hk hD hG (ko := kCont (opsK (l.map (kinst e cx.nt ops))) D ⟨e, r, cx, ops, true⟩ t d) (fun v h' hv => opsK_ok l hv) hq
    · have hq : (oneOp e r cx true ops o (d.fr t) h (kiFr (opsK (l.map (kinst e cx.nt ops))) ⟨e, r, cx, ops, true⟩)).all Q := hq
      unfold oneOp at hq ⊢
      refine T.bind_all (T.all_mono (fun res hres => ?_) (T.all_bind hq))
      have on : ∀ (fr' : Fr) (h' : H), (kiFr (opsK (l.map (kinst e cx.nt ops))) ⟨e, r, cx, ops, true⟩ fr' h').all Q → (opsA e r cx ops l fr' h').all Q := fun fr' h' hh => by
        have := opsK_ok l (ofFr_all hh)
        rwa [fr_mk] at this
      cases res with
      | val v h' =>
        simp only [putOp] at hres ⊢
        split at hres
        · exact on _ _ hres
        · exact hres.elim
      | pan v h' => exact hres
      | dfr x =>
        simp only [putOp] at hres ⊢
        split at hres
        · exact hres.elim
        · rename_i hr
          rw [if_neg hr]
          split at hres
          · exact on _ _ hres
          · exact hres.elim
      | rcv =>
        simp only [putOp] at hres ⊢
        split at hres
        · exact hres.elim
        · rename_i hr
          rw [if_neg hr]
          split at hres
          · split at hres
            · exact on _ _ hres
            · exact hres.elim
          · split at hres
            · exact on _ _ hres
            · exact hres.elim

/- DRAWN REGIONS -/
/-- A reader of the one side and of the other. -/
structure FlOK (e : Env) (nt : Nat) (ops : List Oper) (x : KFl) (y : Fl) : Prop where
  v : x.v = y.v
  n : x.n = y.n
  run : ∀ (r : Rec) (cx : Cx) (pk : Bool) (h : H) (k : KK) (Q : Out → Prop), cx.nt = nt → (kstep x.op ⟨e, r, cx, ops, pk⟩ x.t x.d h k).all Q → ∃ u h', pureA e nt ops y.o y.fr h = some (u, h') ∧ (k u h').all Q

theorem still_ok : ∀ {m : List KFl} {m' : List Fl}, All2 (FlOK e cx.nt ops) m m' → ∀ {kk : TO}, (stillK m ⟨e, r, cx, ops, pk⟩ h kk).all Q → m'.all (stillA e cx.nt ops h) = true ∧ kk.all Q
  | _, _, .nil, kk, hq => ⟨rfl, hq⟩
  | _, _, .cons x y l l' hx hl, kk, hq => by
    obtain ⟨u, h', hu, h2⟩ := hx.run r cx pk h _ Q rfl (show (kstep x.op ⟨e, r, cx, ops, pk⟩ x.t x.d h (stillC x.v (stillK l ⟨e, r, cx, ops, pk⟩ h kk))).all Q from hq)
    obtain ⟨hb, h3⟩ := guardT_all h2
    obtain ⟨h4, h5⟩ := still_ok hl h3
    refine ⟨?_, h5⟩
    rw [List.all_cons, h4, Bool.and_true]
    unfold stillA
    rw [hu]
    dsimp only
    rw [← hx.v]
    exact hb

theorem tick_ok : ∀ {m : List KFl} {m' : List Fl}, All2 (FlOK e nt ops) m m' → All2 (FlOK e nt ops) (tickK m) (tick m')
  | _, _, .nil => .nil
  | _, _, .cons x y l l' hx hl => by
    have ih := tick_ok hl
    obtain ⟨xt, xd, xv, xo, xn, xop⟩ := x
    have hn : xn = y.n := hx.n
    unfold tick
    cases hy : y.n with
    | zero =>
      rw [hy] at hn; subst hn
      exact ih
    | succ n =>
      rw [hy] at hn; subst hn
      exact .cons _ _ _ _ ⟨hx.v, rfl, hx.run⟩ ih

theorem kstep_pk (op : KOp) (hq : op.quiet = true) (pk pk' : Bool) (r r' : Rec) (k : KK) : kstep op ⟨e, r, cx, ops, pk⟩ t d h k = kstep op ⟨e, r', cx, ops, pk'⟩ t d h k := by
  cases op <;> first | rfl | cases hq

theorem quiet_pureA {op : KOp} (hk : kop e o = some op) (hqu : op.quiet = true) (hw : wantedA ops (d.fr t) o = some true) (r : Rec) (cx : Cx) (pk : Bool) (h : H) (k : KK) (Q : Out → Prop) (hn : cx.nt = nt)
    (hq : (kstep op ⟨e, r, cx, ops, pk⟩ t d h k).all Q) : ∃ u h', pureA e nt ops o (d.fr t) h = some (u, h') ∧ (k u h').all Q := by
  have hq' : (kstep op ⟨e, r, cx, ops, pk⟩ (d.fr t).tmps d h k).all Q := by rw [fr_tm]; exact hq
  rcases kstep_cases (nt := nt) hk (fr_self d t) hq' with ⟨v, h', h1, h2⟩ | ⟨h1, _⟩
  · refine ⟨v, h', ?_, h2⟩
    unfold pureA
    rw [hw]
    dsimp only
    rw [h1]
  · rw [hqu] at h1; cases h1

theorem slowP_pureA (r : Rec) (cx : Cx) (pk : Bool) (h : H) (k : KK) (Q : Out → Prop) (hn : cx.nt = nt) (hq : (kstep (.slowP o) ⟨e, r, cx, ops, pk⟩ t d h k).all Q) : ∃ u h', pureA e nt ops o (d.fr t) h = some (u, h') ∧ (k u h').all Q := by
  obtain ⟨p, hp, h2⟩ := optK_all (x := pureA e cx.nt ops o (d.fr t) h) (k := kPair k) hq
  exact ⟨p.1, p.2, by rw [← hn]; exact hp, h2⟩

theorem push_ok {fl : Option Nat} {v : AV} {op : KOp} {m : List KFl} {m' : List Fl} (hm : All2 (FlOK e nt ops) m m')
    (hr : ∀ (r : Rec) (cx : Cx) (pk : Bool) (h : H) (k : KK) (Q : Out → Prop), cx.nt = nt → (kstep op ⟨e, r, cx, ops, pk⟩ t d h k).all Q → ∃ u h', pureA e nt ops o (d.fr t) h = some (u, h') ∧ (k u h').all Q) :
    All2 (FlOK e nt ops) (pushK fl t d v o op m) (match fl with | some n => (⟨d.fr t, v, o, n⟩ : Fl) :: m' | none => m') := by
  cases fl with
  | none => exact hm
  | some n => exact .cons _ _ _ _ ⟨rfl, rfl, hr⟩ hm

theorem drawK_ok {ri : RI} : ∀ (l : List Nat) {m : List KFl} {m' : List Fl} {d : KR} {t : PT AV} {h : H}, All2 (FlOK e cx.nt ops) m m' → (drawK (l.map (kdi e cx.nt ops ri)) ⟨e, r, cx, ops, true⟩ m t d h).all Q → (drawA e r cx ops ri l m' (d.fr t) h).all Q
  | [], m, m', d, t, h, hm, hq => by
    obtain ⟨h1, h2⟩ := still_ok hm hq
    unfold drawA
    rw [h1]
    exact h2
  | i :: l, m, m', d, t, h, hm, hq => by
    rw [List.map_cons] at hq
    change (drawCons (kdi e cx.nt ops ri i) (l.map (kdi e cx.nt ops ri)) (drawK (l.map (kdi e cx.nt ops ri))) ⟨e, r, cx, ops, true⟩ m t d h).all Q at hq
    unfold drawCons kdi at hq
    unfold drawA
    cases ho : lget ops i with
    | none => rw [ho] at hq; exact hq.elim
    | some o =>
      rw [ho] at hq
      dsimp only at hq ⊢
      cases he : lmem i ri.eff with
      | true =>
        rw [he] at hq
        simp only [cond_true] at hq ⊢
        split at hq
        · rename_i op D G hk hD hG
          change (kdEff (lmem i ri.pk) G D op (drawK (l.map (kdi e cx.nt ops ri))) ⟨e, r, cx, ops, true⟩ m t d h).all Q at hq
          obtain ⟨h1, h2⟩ := still_ok hm hq
          rw [h1, cond_true]
          exact one_ok hk hD hG (ko := kdOn (drawK (l.map (kdi e cx.nt ops ri))) D ⟨e, r, cx, ops, true⟩ m t d) (fun v h' hv => drawK_ok l (tick_ok hm) hv) h2
        · change (kdEffS (lmem i ri.pk) o (drawK (l.map (kdi e cx.nt ops ri))) ⟨e, r, cx, ops, true⟩ m t d h).all Q at hq
          obtain ⟨h1, h2⟩ := still_ok hm hq
          rw [h1, cond_true]
          unfold oneOp at h2 ⊢
          refine T.bind_all (T.all_mono (fun res hres => ?_) (T.all_bind h2))
          have on : ∀ (fr' : Fr) (h' : H), (kdFr (drawK (l.map (kdi e cx.nt ops ri))) ⟨e, r, cx, ops, true⟩ m fr' h').all Q → (drawA e r cx ops ri l (tick m') fr' h').all Q := fun fr' h' hh => by
            have := drawK_ok l (tick_ok hm) (ofFr_all hh)
            rwa [fr_mk] at this
          cases res with
          | val v h' =>
            simp only [putOp] at hres ⊢
            split at hres
            · exact on _ _ hres
            · exact hres.elim
          | pan v h' => exact hres
          | dfr x =>
            simp only [putOp] at hres ⊢
            split at hres
            · exact hres.elim
            · rename_i hr
              rw [if_neg hr]
              split at hres
              · exact on _ _ hres
              · exact hres.elim
          | rcv =>
            simp only [putOp] at hres ⊢
            split at hres
            · exact hres.elim
            · rename_i hr
              rw [if_neg hr]
              split at hres
              · split at hres
                · exact on _ _ hres
                · exact hres.elim
              · split at hres
                · exact on _ _ hres
                · exact hres.elim
      | false =>
        rw [he] at hq
        simp only [cond_false] at hq ⊢
        cases hD : kdst cx.nt o.dst with
        | none => rw [hD] at hq; exact hq.elim
        | some D =>
          rw [hD] at hq
          dsimp only at hq
          split at hq
          · rename_i op G hk hG
            cases hqu : op.quiet with
            | false => rw [hqu] at hq; exact hq.elim
            | true =>
              rw [hqu, cond_true] at hq
              change (kdPure (floats i ri.fl) G D op o (drawK (l.map (kdi e cx.nt ops ri))) ⟨e, r, cx, ops, true⟩ m t d h).all Q at hq
              rcases grd_ok (d := d) hG hq with ⟨hw, h2⟩ | ⟨hw, h2⟩
              · obtain ⟨u, h', h3, h4⟩ := quiet_pureA hk hqu hw r cx true h _ Q rfl h2
                rw [h3]
                dsimp only
                rw [dst_ok hD]
                exact drawK_ok l (push_ok hm (quiet_pureA hk hqu hw)) h4
              · have hp : ∀ h, pureA e cx.nt ops o (d.fr t) h = some (.tup [], h) := fun h => by unfold pureA; rw [hw]
                rw [hp h]
                dsimp only
                rw [dst_ok hD]
                exact drawK_ok l (push_ok (op := .mv (.con (.tup []))) hm (fun r' cx' pk' h k Q' hn hh => ⟨.tup [], h, hp h, hh⟩)) h2
          · change (kdPure (floats i ri.fl) .no D (.slowP o) o (drawK (l.map (kdi e cx.nt ops ri))) ⟨e, r, cx, ops, true⟩ m t d h).all Q at hq
            obtain ⟨u, h', h3, h4⟩ := slowP_pureA (nt := cx.nt) r cx true h _ Q rfl (show (kstep (.slowP o) ⟨e, r, cx, ops, true⟩ t d h _).all Q from hq)
            rw [h3]
            dsimp only
            rw [dst_ok hD]
            exact drawK_ok l (push_ok hm slowP_pureA) h4

/- CODE -/
theorem codeK_ok : ∀ (c : Code) {fr : Fr} {h : H} {Q : Out → Prop}, (codeK (kcode e cx c) ⟨e, r, cx⟩ fr h).all Q → (codeA e r cx c fr h).all Q
  | .skip, fr, h, Q, hq => hq
  | .region id ops draw, fr, h, Q, hq => by
    unfold kcode at hq
    unfold codeA
    cases draw with
    | false =>
      have := opsK_ok (e := e) (r := r) (cx := cx) (ops := ops.toList) ops.toList (ofFr_all (kk := cReg1 ops.toList _ ⟨e, r, cx⟩ h) hq)
      rwa [fr_mk] at this
    | true =>
      simp only [cond_true] at hq ⊢
      cases ht : e.ri.get cx.f with
      | none =>
        rw [ht] at hq
        have hq : (codeA e r cx (.region id ops true) fr h).all Q := hq
        unfold codeA at hq
        rw [cond_true, ht] at hq
        exact hq
      | some tt =>
        rw [ht] at hq
        dsimp only at hq ⊢
        cases hr : tt.get id with
        | none =>
          rw [hr] at hq
          have hq : (codeA e r cx (.region id ops true) fr h).all Q := hq
          unfold codeA at hq
          rw [cond_true, ht] at hq
          dsimp only at hq
          rw [hr] at hq
          exact hq
        | some ri =>
          rw [hr] at hq
          dsimp only at hq ⊢
          have := drawK_ok (e := e) (r := r) (cx := cx) (ops := ops.toList) (ri := ri) ri.ord .nil (ofFr_all (kk := cDraw1 ops.toList _ ⟨e, r, cx⟩ h) hq)
          rwa [fr_mk] at this
  | .seq a b, fr, h, Q, hq => by
    have hq : (T.bindK (codeK (kcode e cx a) ⟨e, r, cx⟩ fr h) (cSeq1 (codeK (kcode e cx b)) ⟨e, r, cx⟩)).all Q := hq
    rw [T.bindK_eq] at hq
    unfold codeA
    refine T.bind_all (T.all_mono (fun o ho => ?_) (codeK_ok a (T.all_bind hq)))
    cases o with
    | nrm fr' h' => exact codeK_ok b ho
    | _ => exact ho
  | .cond c a b, fr, h, Q, hq => by
    obtain ⟨v, hv, h2⟩ := evK_all (k := cCond1 (codeK (kcode e cx a)) (codeK (kcode e cx b)) ⟨e, r, cx⟩ fr h) hq
    obtain ⟨q, rfl, h3⟩ := asBool_all h2
    unfold codeA
    rw [hv]
    cases q with
    | true => exact codeK_ok a h3
    | false => exact codeK_ok b h3
  | .block id c, fr, h, Q, hq => by
    have hq : (T.bindK (codeK (kcode e cx c) ⟨e, r, cx⟩ fr h) (cBlock1 id)).all Q := hq
    rw [T.bindK_eq] at hq
    unfold codeA
    refine T.bind_all (T.all_mono (fun o ho => ?_) (codeK_ok c (T.all_bind hq)))
    cases o with
    | ext id' fr' h' =>
      change (Bool.rec (motive := fun _ => TO) (.ret (.ext id' fr' h')) (.ret (.nrm fr' h')) (Nat.beq id' id)).all Q at ho
      dsimp only
      cases hb : Nat.beq id' id with
      | true => rw [hb] at ho; exact ho
      | false => rw [hb] at ho; exact ho
    | _ => exact ho
  | .loop c, fr, h, Q, hq => by
    have hq : (T.bindK (codeK (kcode e cx c) ⟨e, r, cx⟩ fr h) (cLoop1 c ⟨e, r, cx⟩)).all Q := hq
    rw [T.bindK_eq] at hq
    unfold codeA
    refine T.bind_all (T.all_mono (fun o ho => ?_) (codeK_ok c (T.all_bind hq)))
    cases o <;> exact ho
  | .rangeFunc f ps a b, fr, h, Q, hq => hq
  | .exit id, fr, h, Q, hq => hq
  | .ret, fr, h, Q, hq => hq
  | .scope c, fr, h, Q, hq => hq
  | .label l, fr, h, Q, hq => hq
  | .goto l, fr, h, Q, hq => hq
  | .refuse s, fr, h, Q, hq => hq

theorem gather_all {R : CR → Prop} {fr : Fr} : ∀ {l : List ResultVar} {ps : List KP}, kres l = some ps → ∀ {kk : List AV → T CR}, (gatherK ps fr.tmps kk).all R → ∃ vs, resultA e fr h l = some vs ∧ (kk vs).all R
  | [], ps, hk, kk, hq => by
    simp only [kres, Option.some.injEq] at hk; subst hk
    exact ⟨[], rfl, hq⟩
  | .tmp i :: l, ps, hk, kk, hq => by
    simp only [kres] at hk
    split at hk
    · rename_i rr hr
      injection hk with hk; subst hk
      have hq : (Option.rec (motive := fun _ => T CR) .bad (fun v => gatherK rr fr.tmps (gatherTl kk v)) ((KP.mk i).get fr.tmps)).all R := hq
      rw [KP.get_mk] at hq
      cases hv : fr.tmps.get i with
      | none => rw [hv] at hq; exact hq.elim
      | some v =>
        rw [hv] at hq
        obtain ⟨vs, h1, h2⟩ := gather_all (l := l) hr (kk := gatherTl kk v) hq
        exact ⟨v :: vs, by simp only [resultA, hv, h1], h2⟩
    · cases hk
  | .cell _ _ :: l, ps, hk, kk, hq => by simp [kres] at hk

theorem leaveK_ok {R : CR → Prop} {fn : Func} {fr : Fr} (hq : (leaveK e r fn fr h).all R) : (leaveA e r fn fr fr.defs none h).all R := by
  unfold leaveK at hq
  cases hk : kres fn.results.toList with
  | none => rw [hk] at hq; exact hq
  | some ps =>
    rw [hk] at hq
    obtain ⟨tm, defs, pan, rcd⟩ := fr
    cases defs with
    | cons x y => exact hq
    | nil =>
      obtain ⟨vs, h1, h2⟩ := gather_all (e := e) (h := h) (fr := ⟨tm, [], pan, rcd⟩) hk (kk := leave1 h rcd) hq
      unfold leaveA
      unfold resultsA
      rw [h1]
      match vs, h2 with
      | [], h2 => exact h2
      | [v], h2 => exact h2
      | a :: b :: l, h2 => exact h2

theorem initK_eq : ∀ (l : List AV) (n : Nat) (t : PT AV), initK l n t = initTmps n l t
  | [], n, t => rfl
  | v :: l, n, t => by
    show initK l (n + 1) ((KP.mk n).set v t) = _
    rw [KP.set_mk, initK_eq l]
    rfl

theorem enterK_ok {R : CR → Prop} {f : Nat} {args : List AV} {p : Option AV} (hq : (enterK e r f args h p).all R) : (enterA e r f args h p).all R := by
  unfold enterK at hq
  rw [getN_eq] at hq
  unfold enterA
  cases hf : e.ft.get f with
  | none => rw [hf] at hq; exact hq.elim
  | some x =>
    rw [hf] at hq
    cases x with
    | ext x => exact hq.elim
    | body fn =>
      dsimp only
      have hq : (Option.rec (motive := fun _ => T CR) .bad (enter1 e r f args h p fn) fn.body).all R := hq
      cases hb : fn.body with
      | none => rw [hb] at hq; exact hq.elim
      | some c =>
        rw [hb] at hq
        have hq : (enter1 e r f args h p fn c).all R := hq
        unfold enter1 at hq
        rw [lenLe_eq] at hq
        dsimp only
        cases hl : Nat.ble args.length fn.ntmps with
        | false => rw [hl] at hq; exact hq.elim
        | true =>
          rw [hl] at hq
          rw [if_pos rfl]
          have hq : (T.bindK (codeK (kcode e ⟨f, fn.ntmps, false⟩ c) ⟨e, r, ⟨f, fn.ntmps, false⟩⟩ ⟨initK args 0 .lf, [], p, false⟩ h) (enter2 e r fn)).all R := hq
          rw [T.bindK_eq, initK_eq] at hq
          refine T.bind_all (T.all_mono (fun o ho => ?_) (codeK_ok c (T.all_bind hq)))
          cases o with
          | nrm fr' h' => exact leaveK_ok ho
          | ret fr' h' => exact leaveK_ok ho
          | ext id fr' h' => exact ho.elim
          | pan v fr' h' => exact ho

theorem recK_le (e : Env) : ∀ n, (recK e n).le (recN e n)
  | 0 => ⟨fun _ _ _ _ => .bad _, fun _ _ _ _ => .bad _⟩
  | n + 1 => by
    have ih := recK_le e n
    exact ⟨fun cx c fr h Q hq => codeA_le ih cx c fr h Q (codeK_ok c hq), fun f args h p Q hq => enterA_le ih f args h p Q (enterK_ok hq)⟩
end
end Go.Ab
