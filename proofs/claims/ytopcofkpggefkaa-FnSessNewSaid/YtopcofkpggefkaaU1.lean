/-
  Abstract values and an evaluator of regions over them: slices as lists, structs as rows of cells. What abstract values say of memory, and how little disturbs it. How the abstract state follows the machine's: what a new value, or more memory, leaves as it was. Each operation's run, as the abstract evaluator tells it. Each operation's run, as the abstract evaluator tells it: those that make no memory. Each operation's run, as the abstract evaluator tells it: addresses, loads, indices. Each operation's run, as the abstract evaluator tells it: indices, slices, lengths, conversions. Each operation's run, as the abstract evaluator tells it: those that make memory. Each operation's run, as the abstract evaluator tells it: all but the calls, in one theorem. Contracts of functions, and a call by a contract. One operation, whichever it is, as the machine runs it. One operation of the simple kind moves the abstract state as the evaluator tells it. No statement is proved here.
-/
import Derived.Orders
import Derived.Below
import Derived.KernelRfl
import Derived.Laws.IdiomCopy
import Derived.Laws.AppendOwn
import Derived.Laws.MakeOwn
import Derived.Laws.StructEq
import Derived.Laws.Slices
import Derived.Tactics

namespace Go.Proofs.Ytopcofkpggefkaa
open Go

structure Time where
  A : Int
  B : Int
structure Row where
  Key : Int
  Val : Int
  At : Time
  Diff : Int
structure Item where
  Key : Int
  Val : Int
  Count : Int
structure Plan where
  Kind : Int
  Num : Int
  Kids : List Plan
structure Sess where
  Plan : Plan
  Ins : List (List Row)
  Front : List Time
  Told : List Row

/-- The kinds of elements that slices have. -/
inductive Ty where
  | int | byte | bool | str | time | row | item | plan | lrow | litem | sess

@[reducible] def Ty.T : Ty → Type
  | .int => Int | .byte => Int | .bool => Bool | .str => ByteArray | .time => Time | .row => Row | .item => Item | .plan => Plan
  | .lrow => List Row | .litem => List Item | .sess => Sess

/-- One cell of memory, abstractly. -/
inductive C where
  | int (k : IntKind) (n : Int)
  | bool (b : Bool)
  | str (s : ByteArray)
  | lst (t : Ty) (xs : List t.T)
  /-- the nil slice -/
  | nl (t : Ty)

def norm : C → C
  | .nl t => .lst t []
  | .int k n => .int k n
  | .bool b => .bool b
  | .str s => .str s
  | .lst t xs => .lst t xs

def norms : List C → List C
  | [] => []
  | c :: r => norm c :: norms r

def cells : (t : Ty) → t.T → List C
  | .int, n => [.int .i64 n]
  | .byte, n => [.int .u8 n]
  | .bool, b => [.bool b]
  | .str, s => [.str s]
  | .time, x => [.int .i64 x.A, .int .i64 x.B]
  | .row, x => [.int .i64 x.Key, .int .i64 x.Val, .int .i64 x.At.A, .int .i64 x.At.B, .int .i64 x.Diff]
  | .item, x => [.int .i64 x.Key, .int .i64 x.Val, .int .i64 x.Count]
  | .plan, x => [.int .i64 x.Kind, .int .i64 x.Num, .lst .plan x.Kids]
  | .lrow, xs => [.lst .row xs]
  | .litem, xs => [.lst .item xs]
  | .sess, x => [.int .i64 x.Plan.Kind, .int .i64 x.Plan.Num, .lst .plan x.Plan.Kids, .lst .lrow x.Ins, .lst .time x.Front, .lst .row x.Told]

def Ty.size : Ty → Nat
  | .time => 2 | .row => 5 | .item => 3 | .plan => 3 | .sess => 6 | _ => 1

def pk_int : List C → Option Int
  | [.int .i64 n] => some n
  | _ => none
def pk_byte : List C → Option Int
  | [.int .u8 n] => some n
  | _ => none
def pk_bool : List C → Option Bool
  | [.bool b] => some b
  | _ => none
def pk_str : List C → Option ByteArray
  | [.str s] => some s
  | _ => none
def pk_time : List C → Option Time
  | [.int .i64 a, .int .i64 b] => some ⟨a, b⟩
  | _ => none
def pk_row : List C → Option Row
  | [.int .i64 k, .int .i64 v, .int .i64 a, .int .i64 b, .int .i64 d] => some ⟨k, v, ⟨a, b⟩, d⟩
  | _ => none
def pk_item : List C → Option Item
  | [.int .i64 k, .int .i64 v, .int .i64 d] => some ⟨k, v, d⟩
  | _ => none
def pk_plan : List C → Option Plan
  | [.int .i64 k, .int .i64 n, .lst .plan xs] => some ⟨k, n, xs⟩
  | _ => none
def pk_lrow : List C → Option (List Row)
  | [.lst .row xs] => some xs
  | _ => none
def pk_litem : List C → Option (List Item)
  | [.lst .item xs] => some xs
  | _ => none
def pk_sess : List C → Option Sess
  | [.int .i64 k, .int .i64 n, .lst .plan xs, .lst .lrow i, .lst .time f, .lst .row r] => some ⟨⟨k, n, xs⟩, i, f, r⟩
  | _ => none
def pack : (t : Ty) → List C → Option t.T
  | .int, cs => pk_int cs
  | .byte, cs => pk_byte cs
  | .bool, cs => pk_bool cs
  | .str, cs => pk_str cs
  | .time, cs => pk_time cs
  | .row, cs => pk_row cs
  | .item, cs => pk_item cs
  | .plan, cs => pk_plan cs
  | .lrow, cs => pk_lrow cs
  | .litem, cs => pk_litem cs
  | .sess, cs => pk_sess cs

def castL : (t u : Ty) → List u.T → Option (List t.T)
  | .int, .int, xs => some xs
  | .byte, .byte, xs => some xs
  | .bool, .bool, xs => some xs
  | .str, .str, xs => some xs
  | .time, .time, xs => some xs
  | .row, .row, xs => some xs
  | .item, .item, xs => some xs
  | .plan, .plan, xs => some xs
  | .lrow, .lrow, xs => some xs
  | .litem, .litem, xs => some xs
  | .sess, .sess, xs => some xs
  | _, _, _ => none

def dflt : (t : Ty) → t.T
  | .int => (0 : Int) | .byte => (0 : Int) | .bool => false | .str => ByteArray.empty | .time => ⟨0, 0⟩ | .row => ⟨0, 0, ⟨0, 0⟩, 0⟩ | .item => ⟨0, 0, 0⟩
  | .plan => ⟨0, 0, []⟩ | .lrow => [] | .litem => [] | .sess => ⟨⟨0, 0, []⟩, [], [], []⟩

def rd (t : Ty) (xs : List t.T) (i : Int) : t.T := xs.getD i.toNat (dflt t)
def lenI (t : Ty) (xs : List t.T) : Int := (xs.length : Int)
def ssize (s : ByteArray) : Int := (s.size : Int)
def seq (a b : ByteArray) : Bool := a.toList == b.toList
def sidx (s : ByteArray) (i : Int) : Int := ((s.toList.getD i.toNat 0).toNat : Int)
def ssub (s : ByteArray) (i j : Int) : ByteArray := s.extract i.toNat j.toNat
def mx (a b : Int) : Int := if b > a then b else a
def mn (a b : Int) : Int := if b < a then b else a
def inb (i n : Int) : Prop := 0 ≤ i ∧ i < n
def le3 (a b c : Int) : Prop := 0 ≤ a ∧ a ≤ b ∧ b ≤ c
def lim (a b : Int) : Prop := a + b ≤ 1099511627776
def mkOk (p q : Int) : Prop := p = q ∧ 0 ≤ p ∧ p ≤ 1099511627776
def ar (op : BinOp) (k : IntKind) (a b : Int) : Int :=
  match op with
  | .add => k.wrap (a + b)
  | .sub => k.wrap (a - b)
  | .mul => k.wrap (a * b)
  | .quo => k.wrap (a.tdiv b)
  | _ => a.tmod b
def xr (k : IntKind) (a b : Int) : Int := k.wrap ((BitVec.ofInt k.bits a ^^^ BitVec.ofInt k.bits b).toNat)
def cmp (op : BinOp) (a b : Int) : Bool :=
  match op with
  | .eql => a == b
  | .neq => a != b
  | .lss => decide (a < b)
  | .leq => decide (a ≤ b)
  | .gtr => decide (a > b)
  | _ => decide (a ≥ b)

/-- How a cell is held: shared and frozen; frozen and made since the call began; with the right to append; with the right to write. -/
inductive K where
  | sh
  | fr
  | acc (fr : Bool)
  | own (fr : Bool)

def frK : Bool → K
  | true => .fr
  | false => .sh
def scalC : C → Bool
  | .int _ _ => true
  | .bool _ => true
  | .str _ => true
  | _ => false
/-- How a cell is held that comes of a value: scalars are nobody's. -/
def kC (f : Bool) (c : C) : K :=
  match scalC c with
  | true => .fr
  | false => frK f
def scalAll : List C → Bool
  | [] => true
  | c :: r => scalC c && scalAll r
/-- A struct of scalars is nobody's. -/
def upF (f : Bool) (cs : List C) : Bool :=
  match scalAll cs with
  | true => true
  | false => f

/-- Under which tests (slot, wanted, its value) a value is known. -/
abbrev Key := List (Nat × Bool × Bool)
def keyB : Key → Bool
  | [] => true
  | (_, true, x) :: r => x && keyB r
  | (_, false, x) :: r => !x && keyB r
def sameKey : Key → Key → Bool
  | [], [] => true
  | (n, a, _) :: r, (m, b, _) :: r' => Nat.beq n m && ((a == b) && sameKey r r')
  | _, _ => false
/-- The first key's tests are the last ones of the second. -/
def sub (k : Key) : Key → Bool
  | [] => sameKey k []
  | t :: r => sameKey k (t :: r) || sub k r

/-- A value without a right: fresh or not, a struct or one cell, its cells. -/
structure PV where
  fr : Bool
  agg : Bool
  cs : List C

inductive AV where
  | dead
  | v (k : K) (c : C)
  | agg (fr : Bool) (cs : List C)
  | tup (l : List PV)
  | cond (k : Key) (a : AV)
  | box (cs : List (K × C))
  | view (s : Nat) (o : Option Nat)
  | baddr (s o : Nat)
  | faddr (fr : Bool) (cs : List C)
  | oaddr (s : Nat) (i : Int) (o : Nat)

/-- A type's form: its cells' zero, its fields (offset, size), a slice's element. -/
inductive Sh where
  | scalar
  | struct (fs : List (Nat × Nat))
  | slice (elem : Nat)
structure TD where
  sh : Sh
  size : Nat
  zero : List C
  ty : Option Ty
  eq : Bool := false
abbrev TT := List (Nat × TD)
def lk : TT → Nat → Option TD
  | [], _ => none
  | (n, d) :: r, t => match Nat.beq n t with
    | true => some d
    | false => lk r t
def elemId (tt : TT) (t : Nat) : Nat :=
  match lk tt t with
  | some ⟨.slice e, _, _, _, _⟩ => e
  | _ => 0
def elemTy (tt : TT) (t : Nat) : Option (Ty × TD) :=
  match lk tt t with
  | some ⟨.slice e, _, _, _, _⟩ => match lk tt e with
    | some d => match d.ty with
      | some y => some (y, d)
      | none => none
    | none => none
  | _ => none

def eqOf (tt : TT) (t : Nat) (cs : List C) : Bool :=
  match lk tt t with
  | some d => d.eq && Nat.beq cs.length d.size
  | none => false

def constC (tt : TT) (t : Nat) : Value → Option C
  | .int k n => some (.int k n)
  | .bool b => some (.bool b)
  | .string s => some (.str s)
  | .slice none 0 0 => match elemTy tt t with
    | some (y, _) => some (.nl y)
    | none => none
  | _ => none

abbrev Get := Nat → AV
def rdo (tt : TT) (g : Get) (t : Nat) : Operand → AV
  | .tmp n => g n
  | .const v => match constC tt t v with
    | some c => .v .fr c
    | none => .dead
  | _ => .dead

def bears : AV → Bool
  | .v (.acc _) _ => true
  | .v (.own _) _ => true
  | .box _ => true
  | _ => false

def isCond : AV → Bool
  | .cond _ _ => true
  | _ => false
/-- A value as one reads it who runs under the key 'k'. -/
def strip (k : Key) : AV → AV
  | .cond k' a => match sub k' k, isCond a || bears a with
    | true, false => a
    | _, _ => .dead
  | a => a

/-- What a value is to a reader: (borrowed from a slot that may still be written, the value). -/
def plainR (g : Get) : AV → Option (Bool × PV)
  | .v .sh c => some (false, ⟨false, false, [c]⟩)
  | .v .fr c => some (false, ⟨true, false, [c]⟩)
  | .v (.acc f) c => some (false, ⟨f, false, [c]⟩)
  | .v (.own f) c => some (true, ⟨f, false, [c]⟩)
  | .agg f cs => some (false, ⟨f, true, cs⟩)
  | .view s none => match g s with
    | .v (.acc f) c => some (false, ⟨f, false, [c]⟩)
    | .v (.own f) c => some (true, ⟨f, false, [c]⟩)
    | _ => none
  | .view s (some o) => match g s with
    | .box cs => match cs[o]? with
      | some (.acc f, c) => some (false, ⟨f, false, [c]⟩)
      | _ => none
    | _ => none
  | _ => none

def plain (g : Get) (a : AV) : Option (Bool × PV) :=
  match plainR g a with
  | some (b, ⟨f, x, cs⟩) => some (b, ⟨f, x, norms cs⟩)
  | none => none

def PV.av : PV → AV
  | ⟨f, false, [c]⟩ => .v (frK f) c
  | ⟨f, true, cs⟩ => .agg f cs
  | _ => .dead

/-- A box's cells, read as a struct. -/
def boxRead : List (K × C) → Option (Bool × List C)
  | [] => some (true, [])
  | (.sh, c) :: r => match boxRead r with
    | some (_, cs) => some (false, c :: cs)
    | none => none
  | (.fr, c) :: r => match boxRead r with
    | some (f, cs) => some (f, c :: cs)
    | none => none
  | (.acc b, c) :: r => match boxRead r with
    | some (f, cs) => some (b && f, c :: cs)
    | none => none
  | (.own _, _) :: _ => none

/-- The parameters' forms. -/
inductive PT where
  | int (k : IntKind)
  | bool
  | str
  | lst (t : Ty)
  | st (t : Ty)
  | rdr
@[reducible] def PT.T : PT → Type
  | .int _ => Int | .bool => Bool | .str => ByteArray | .lst t => List t.T | .st t => t.T | .rdr => List Int × Int
@[reducible] def Args : List PT → Type
  | [] => Unit
  | p :: ps => p.T × Args ps

def kindEq : IntKind → IntKind → Bool
  | .i8, .i8 => true | .i16, .i16 => true | .i32, .i32 => true | .i64, .i64 => true
  | .u8, .u8 => true | .u16, .u16 => true | .u32, .u32 => true | .u64, .u64 => true | _, _ => false

def dec1 : (p : PT) → PV → Option p.T
  | .int k, ⟨_, false, [.int k' n]⟩ => match kindEq k k' with
    | true => some n
    | false => none
  | .bool, ⟨_, false, [.bool b]⟩ => some b
  | .str, ⟨_, false, [.str s]⟩ => some s
  | .lst t, ⟨_, false, [.lst u xs]⟩ => castL t u xs
  | .st t, ⟨_, true, cs⟩ => pack t cs
  | _, _ => none

/-- The results' forms. -/
inductive RT where
  | one (k : K) (p : PT)
  | rdr
  | tup (l : List (Bool × PT))
@[reducible] def Tup : List (Bool × PT) → Type
  | [] => Unit
  | p :: ps => p.2.T × Tup ps
@[reducible] def RT.T : RT → Type
  | .one _ p => p.T
  | .rdr => List Int × Int
  | .tup l => Tup l

def enc1 : (p : PT) → p.T → Bool × List C
  | .int k, n => (false, [.int k n])
  | .bool, b => (false, [.bool b])
  | .str, s => (false, [.str s])
  | .lst t, xs => (false, [.lst t xs])
  | .st t, x => (true, cells t x)
  | .rdr, _ => (false, [])

def encTup : (l : List (Bool × PT)) → Tup l → List PV
  | [], _ => []
  | (f, p) :: r, x => ⟨f, (enc1 p x.1).1, (enc1 p x.1).2⟩ :: encTup r x.2

def frOf : K → Bool
  | .sh => false
  | .fr => true
  | .acc f => f
  | .own f => f

def RT.av : (r : RT) → r.T → AV
  | .one k p, x => match enc1 p x with
    | (true, cs) => .agg (frOf k) cs
    | (false, [c]) => .v k c
    | _ => .dead
  | .rdr, x => .box [(.sh, .lst .byte x.1), (.fr, .int .i64 x.2)]
  | .tup l, x => .tup (encTup l x)

def allFresh : List (Bool × PT) → Bool
  | [] => true
  | (true, _) :: r => allFresh r
  | (false, _) :: _ => false
def RT.fresh : RT → Bool
  | .one k _ => frOf k
  | .rdr => false
  | .tup l => allFresh l

/-- A function's contract: what comes in, what goes out, whether a reader moves on; the values, and what must hold ahead. -/
structure Spec where
  pts : List PT
  rt : RT
  io : Bool
  val : Args pts → rt.T × Int
  pre : Args pts → Prop
abbrev SP := List (Nat × Spec)
def spk : SP → Nat → Option Spec
  | [], _ => none
  | (n, d) :: r, t => match Nat.beq n t with
    | true => some d
    | false => spk r t

def dec1A (g : Get) (p : PT) (a : AV) : Option (Bool × p.T) :=
  match plain g a with
  | some (bo, pv) => match dec1 p pv with
    | some x => some (bo, x)
    | none => none
  | none => none
def joinA {p : PT} {ps : List PT} (x : Option (Bool × p.T)) (y : Option (Bool × Option Nat × Args ps)) : Option (Bool × Option Nat × Args (p :: ps)) :=
  match x, y with
  | some (bo, x), some (bo', s, xs) => some (bo || bo', s, (x, xs))
  | _, _ => none
def decR (g : Get) : AV → Option (Nat × (List Int × Int))
  | .view s none => match g s with
    | .box [(.sh, .lst .byte b), (.fr, .int .i64 p)] => some (s, (b, p))
    | _ => none
  | _ => none
/-- Arguments as a contract wants them: (borrowed, the reader's slot, the arguments). -/
def decA (g : Get) : (ps : List PT) → List AV → Option (Bool × Option Nat × Args ps)
  | [], [] => some (false, none, ())
  | .rdr :: ps, a :: r => match decR g a, decA g ps r with
    | some (s, x), some (bo, none, xs) => some (bo, some s, (x, xs))
    | _, _ => none
  | .int k :: ps, a :: r => joinA (dec1A g (.int k) a) (decA g ps r)
  | .bool :: ps, a :: r => joinA (dec1A g .bool a) (decA g ps r)
  | .str :: ps, a :: r => joinA (dec1A g .str a) (decA g ps r)
  | .lst t :: ps, a :: r => joinA (dec1A g (.lst t) a) (decA g ps r)
  | .st t :: ps, a :: r => joinA (dec1A g (.st t) a) (decA g ps r)
  | _, _ => none

/-- What an operation gives: a value, what must hold ahead, a slot whose reader moves on. -/
structure Out where
  av : AV
  obs : List Prop
  io : Option (Nat × Int)

def aggEq : List C → List C → Option Bool
  | [], [] => some true
  | .int k a :: r, .int k' b :: r' => match kindEq k k', aggEq r r' with
    | true, some e => some (cmp .eql a b && e)
    | _, _ => none
  | _, _ => none

def isBoolT (tt : TT) (t : Nat) : Bool :=
  match lk tt t with
  | some d => match d.sh, d.zero with
    | .scalar, [.bool _] => true
    | _, _ => false
  | none => false
/-- Whether the two may not be compared. -/
def binBad (tt : TT) (t : Nat) (p : PV) : Bool :=
  match p.agg with
  | true => !eqOf tt t p.cs
  | false => match p.cs with
    | [.bool _] => !isBoolT tt t
    | _ => false
def bin (op : BinOp) (x y : PV) : Option (C × List Prop) :=
  match x, y with
  | ⟨_, false, [.int k a]⟩, ⟨_, false, [.int k' b]⟩ => match kindEq k k' with
    | true => match op with
      | .add => some (.int k (ar .add k a b), [])
      | .sub => some (.int k (ar .sub k a b), [])
      | .mul => some (.int k (ar .mul k a b), [])
      | .quo => some (.int k (ar .quo k a b), [b ≠ 0])
      | .rem => some (.int k (ar .rem k a b), [b ≠ 0])
      | .xor => some (.int k (xr k a b), [])
      | .eql => some (.bool (cmp .eql a b), [])
      | .neq => some (.bool (cmp .neq a b), [])
      | .lss => some (.bool (cmp .lss a b), [])
      | .leq => some (.bool (cmp .leq a b), [])
      | .gtr => some (.bool (cmp .gtr a b), [])
      | .geq => some (.bool (cmp .geq a b), [])
      | _ => none
    | false => none
  | ⟨_, false, [.str a]⟩, ⟨_, false, [.str b]⟩ => match op with
    | .add => some (.str (a ++ b), [lim (ssize a) (ssize b)])
    | .eql => some (.bool (seq a b), [])
    | .neq => some (.bool (!seq a b), [])
    | _ => none
  | ⟨_, false, [.bool a]⟩, ⟨_, false, [.bool b]⟩ => match op with
    | .eql => some (.bool (a == b), [])
    | .neq => some (.bool (!(a == b)), [])
    | _ => none
  | ⟨_, true, cs⟩, ⟨_, true, ds⟩ => match op, aggEq cs ds with
    | .eql, some b => some (.bool b, [])
    | .neq, some b => some (.bool (!b), [])
    | _, _ => none
  | _, _ => none

def setCells : List C → Nat → List C → List C
  | [], _, _ => []
  | _ :: r, 0, d :: ds => d :: setCells r 0 ds
  | c :: r, 0, [] => c :: r
  | c :: r, n + 1, ds => c :: setCells r n ds

/-- A struct built of its parts. -/
def fillS (fs : List (Nat × Nat)) : List (Nat × PV) → Bool × List C → Option (Bool × List C)
  | [], r => some r
  | (i, p) :: ps, (f, cs) => match fs[i]? with
    | some (o, n) => match Nat.beq p.cs.length n && Nat.ble (o + n) cs.length with
      | true => fillS fs ps (f && p.fr, setCells cs o p.cs)
      | false => none
    | none => none

def plainAll (g : Get) : List (Nat × AV) → Option (List (Nat × PV))
  | [] => some []
  | (i, a) :: r => match plainR g a with
    | some (false, pv) => match plainAll g r with
      | some l => some ((i, pv) :: l)
      | none => none
    | _ => none

/-- The elements of a slice that is written out in full. -/
def packs (t : Ty) (sz : Nat) : List (Nat × PV) → Nat → Option (Bool × List t.T)
  | [], _ => some (true, [])
  | (j, p) :: ps, i => match Nat.beq j i && Nat.beq p.cs.length sz, pack t (norms p.cs), packs t sz ps (i + 1) with
    | true, some x, some (f, xs) => some (p.fr && f, x :: xs)
    | _, _, _ => none

def isAgg : TD → Bool
  | ⟨.struct _, _, _, _, _⟩ => true
  | _ => false

def loadBox (d : TD) (s o : Nat) (cs : List (K × C)) : Option AV :=
  match isAgg d with
  | true => match boxRead ((cs.drop o).take d.size), Nat.ble (o + d.size) cs.length with
    | some (f, l), true => some (.agg f l)
    | _, _ => none
  | false => match cs.drop o with
    | (.sh, c) :: _ => some (.v .sh c)
    | (.fr, c) :: _ => some (.v .fr c)
    | (.acc _, _) :: _ => some (.view s (some o))
    | _ => none

/-- Loading through an address. -/
def loadAv (g : Get) (d : TD) : AV → Option AV
  | .faddr f cs => match isAgg d with
    | true => match Nat.ble d.size cs.length with
      | true => some (.agg (upF f (cs.take d.size)) (cs.take d.size))
      | false => none
    | false => match cs with
      | c :: _ => some (.v (kC f c) c)
      | [] => none
  | .baddr s o => match g s with
    | .box cs => loadBox d s o cs
    | _ => none
  | .view s none => match g s with
    | .box cs => loadBox d s 0 cs
    | _ => none
  | .oaddr s i o => match g s with
    | .v (.own f) (.lst t xs) => match isAgg d with
      | true => match Nat.ble (o + d.size) (cells t (rd t xs i)).length with
        | true => some (.agg (upF f (((cells t (rd t xs i)).drop o).take d.size)) (((cells t (rd t xs i)).drop o).take d.size))
        | false => none
      | false => match (cells t (rd t xs i)).drop o with
        | c :: _ => some (.v (kC f c) c)
        | [] => none
    | _ => none
  | _ => none

/-- A pointer that stands in a slot of its own, seen from that slot. -/
def addrOf (g : Get) : Operand → AV
  | .tmp n => match g n with
    | .box _ => .view n none
    | a => a
  | _ => .dead

def fieldAv (g : Get) (o : Nat) : AV → Option AV
  | .faddr f cs => some (.faddr f (cs.drop o))
  | .baddr s p => some (.baddr s (p + o))
  | .view s none => match g s with
    | .box _ => some (.baddr s o)
    | _ => none
  | .oaddr s i p => some (.oaddr s i (p + o))
  | _ => none

def isStrT (tt : TT) (t : Nat) : Bool :=
  match lk tt t with
  | some ⟨.scalar, _, [.str _], _, _⟩ => true
  | _ => false
def isSlT (tt : TT) (t : Nat) : Bool :=
  match lk tt t with
  | some ⟨.slice _, _, _, _, _⟩ => true
  | _ => false
/-- The size of a slice's elements. -/
def elemSz (tt : TT) (t : Nat) : Option Nat :=
  match elemTy tt t with
  | some (_, d) => some d.size
  | none => none

def lenOf (tt : TT) (g : Get) (t : Nat) (a : AV) : Option C :=
  match plain g a with
  | some (_, ⟨_, false, [.lst y xs]⟩) => match isSlT tt t with
    | true => some (.int .i64 (lenI y xs))
    | false => none
  | some (_, ⟨_, false, [.str s]⟩) => match isStrT tt t with
    | true => some (.int .i64 (ssize s))
    | false => none
  | _ => none

def mk1 (a : AV) (obs : List Prop) : Option Out := some ⟨a, obs, none⟩

def moveAv (g : Get) (s : Nat) : AV :=
  match g s with
  | .v (.acc _) _ => .view s none
  | .v (.own _) _ => .view s none
  | .box _ => .view s none
  | a => a

def int1 (g : Get) (a : AV) : Option Int :=
  match plainR g a with
  | some (_, ⟨_, false, [.int _ n]⟩) => some n
  | _ => none

def indexList (g : Get) (sz : Nat) (n : Int) : AV → Option Out
  | .view s none => match g s with
    | .v (.own _) (.lst y xs) => match Nat.beq sz y.size with
      | true => mk1 (.oaddr s n 0) [inb n (lenI y xs)]
      | false => none
    | .v (.acc f) (.lst y xs) => match Nat.beq sz y.size with
      | true => mk1 (.faddr f (cells y (rd y xs n))) [inb n (lenI y xs)]
      | false => none
    | _ => none
  | a => match plain g a with
    | some (false, ⟨f, false, [.lst y xs]⟩) => match Nat.beq sz y.size with
      | true => mk1 (.faddr f (cells y (rd y xs n))) [inb n (lenI y xs)]
      | false => none
    | _ => none

def cutList (sz : Nat) (m : Int) (h : Option Int) : Bool × PV → Option Out
  | (false, ⟨f, false, [.lst y xs]⟩) => match Nat.beq sz y.size, h with
    | true, none => mk1 (.v (frK f) (.lst y (xs.drop m.toNat))) [le3 m (lenI y xs) (lenI y xs)]
    | true, some n => mk1 (.v (frK f) (.lst y ((xs.take n.toNat).drop m.toNat))) [le3 m n (lenI y xs)]
    | _, _ => none
  | _ => none
def cutStr (m : Int) (h : Option Int) : Bool × PV → Option Out
  | (_, ⟨_, false, [.str s]⟩) => match h with
    | none => mk1 (.v .fr (.str (ssub s m (ssize s)))) [le3 m (ssize s) (ssize s)]
    | some n => mk1 (.v .fr (.str (ssub s m n))) [le3 m n (ssize s)]
  | _ => none
def cutVal (tt : TT) (t : Nat) (m : Int) (h : Option Int) (v : Bool × PV) : Option Out :=
  match elemSz tt t, isStrT tt t with
  | some sz, _ => cutList sz m h v
  | none, true => cutStr m h v
  | none, false => none
/-- A bound of a slice expression. -/
def bound (tt : TT) (g : Get) : Option Operand → Option (Option Int)
  | none => some none
  | some x => match int1 g (rdo tt g 0 x) with
    | some n => some (some n)
    | none => none

def callOut (g : Get) (s : Spec) (as : List AV) : Option Out :=
  match decA g s.pts as with
  | some (bo, r, xs) => match bo && (s.io || !s.rt.fresh), r, s.io with
    | false, none, false => some ⟨s.rt.av (s.val xs).1, [s.pre xs], none⟩
    | false, some r, true => some ⟨s.rt.av (s.val xs).1, [s.pre xs], some (r, (s.val xs).2)⟩
    | _, _, _ => none
  | none => none

/-- A box itself, handed on: seen from its slot. -/
def argV : Operand → AV → AV
  | .tmp n, .box _ => .view n none
  | _, a => a
def argsAv (tt : TT) (g : Get) : List Operand → List Nat → List AV
  | x :: xs, t :: ts => argV x (rdo tt g t x) :: argsAv tt g xs ts
  | _, _ => []

def partsAv (tt : TT) (g : Get) (t : Nat) : List (Nat × Operand) → List (Nat × AV)
  | [] => []
  | (i, x) :: r => (i, rdo tt g t x) :: partsAv tt g t r

/-- 'c ? a : b', as far as each side is known on its side. -/
def pickAv (tt : TT) (raw : Get) (k : Key) (t : Nat) (c a b : Operand) : Option Out :=
  match c with
  | .tmp n => match strip k (raw n) with
    | .v _ (.bool x) => match strip ((n, true, x) :: k) (rdo tt raw t a), strip ((n, false, x) :: k) (rdo tt raw t b) with
      | .v _ (.bool p), .v _ (.bool q) => mk1 (.v .fr (.bool (cond x p q))) []
      | _, _ => none
    | _ => none
  | _ => none

/-- How a list is held that is made by its length: one of lists is not written any more. -/
def mkK : Ty → K
  | .lrow => .acc true
  | .litem => .acc true
  | _ => .own true
/-- An operation that writes nothing but its own slot (and moves a reader on). -/
def sev (tt : TT) (sp : SP) (raw : Get) (k : Key) (g : Get) (oty : Nat) : Op → Option Out
  | .move (.tmp s) => mk1 (moveAv g s) []
  | .move x => mk1 (rdo tt g oty x) []
  | .assign (.tmp s) => mk1 (moveAv g s) []
  | .assign x => mk1 (rdo tt g oty x) []
  | .nilCheck (.tmp s) => match g s with
    | .box _ => mk1 (.view s none) []
    | .view n none => match g n with
      | .box _ => mk1 (.view n none) []
      | _ => none
    | _ => none
  | .pick c a b => pickAv tt raw k oty c a b
  | .binOp op t x y yt => match plain g (rdo tt g t x), plain g (rdo tt g yt y) with
    | some (_, p), some (_, q) => match binBad tt t p, bin op p q with
      | false, some (c, obs) => mk1 (.v .fr c) obs
      | _, _ => none
    | _, _ => none
  | .unOp op t x => match op, plain g (rdo tt g t x) with
    | .not, some (_, ⟨_, false, [.bool b]⟩) => mk1 (.v .fr (.bool (!b))) []
    | .neg, some (_, ⟨_, false, [.int k n]⟩) => mk1 (.v .fr (.int k (k.wrap (0 - n)))) []
    | _, _ => none
  | .convert s t x => match plain g (rdo tt g s x), lk tt t, lk tt s with
    | some (_, ⟨_, false, [.int _ n]⟩), some ⟨.scalar, _, [.int k _], _, _⟩, some _ => mk1 (.v .fr (.int k (k.wrap n))) []
    | _, _, _ => none
  | .box t x => match plainR g (rdo tt g t x), lk tt t with
    | some (false, ⟨f, _, cs⟩), some d => match Nat.beq cs.length d.size with
      | true => mk1 (.box (cs.map fun c => (kC f c, c))) []
      | false => none
    | _, _ => none
  | .alloc t => match lk tt t with
    | some d => mk1 (.box (d.zero.map fun c => (.fr, c))) []
    | none => none
  | .build t ps => match lk tt t with
    | some ⟨.struct fs, _, z, _, _⟩ => match plainAll g (partsAv tt g 0 ps.toList) with
      | some l => match fillS fs l (true, z) with
        | some (f, cs) => mk1 (.agg f cs) []
        | none => none
      | none => none
    | _ => none
  | .buildSlice t n ps => match elemTy tt t with
    | some (y, d) => match plainAll g (partsAv tt g (elemId tt t) ps.toList) with
      | some l => match packs y d.size l 0, Nat.beq l.length n && Nat.ble (n * d.size) 16777216 with
        | some (f, xs), true => mk1 (.v (.acc f) (.lst y xs)) []
        | _, _ => none
      | none => none
    | none => none
  | .load t x => match lk tt t with
    | some d => match loadAv g d (addrOf g x) with
      | some r => mk1 r []
      | none => none
    | none => none
  | .fieldAddr t x i => match lk tt t with
    | some ⟨.struct fs, _, _, _, _⟩ => match fs[i]? with
      | some (o, _) => match fieldAv g o (addrOf g x) with
        | some r => mk1 r []
        | none => none
      | none => none
    | _ => none
  | .indexAddr t x i => match elemSz tt t, int1 g (rdo tt g 0 i) with
    | some sz, some n => indexList g sz n (rdo tt g t x)
    | _, _ => none
  | .index t x i => match isStrT tt t, plain g (rdo tt g t x), int1 g (rdo tt g 0 i) with
    | true, some (_, ⟨_, false, [.str s]⟩), some n => mk1 (.v .fr (.int .u8 (sidx s n))) [inb n (ssize s)]
    | _, _, _ => none
  | .slice t x lo hi none => match plain g (rdo tt g t x), bound tt g lo, bound tt g hi with
    | some v, some none, some h => cutVal tt t 0 h v
    | some v, some (some m), some h => cutVal tt t m h v
    | _, _, _ => none
  | .makeSlice t n m => match int1 g (rdo tt g 0 n), int1 g (rdo tt g 0 m), elemTy tt t with
    | some p, some q, some (y, d) => match pack y (norms d.zero) with
      | some z => mk1 (.v (mkK y) (.lst y (List.replicate p.toNat z))) [mkOk p q]
      | none => none
    | _, _, _ => none
  | .extract x i => match rdo tt g 0 x with
    | .tup l => match l[i]? with
      | some p => mk1 p.av []
      | none => none
    | _ => none
  | .call ⟨.builtin .len, args, ts⟩ => match args.toList, ts.toList with
    | [x], [t] => match lenOf tt g t (rdo tt g t x) with
      | some c => mk1 (.v .fr c) []
      | none => none
    | _, _ => none
  | .call ⟨.builtin .max, args, _⟩ => match args.toList with
    | [x, y] => match plain g (rdo tt g 0 x), plain g (rdo tt g 0 y) with
      | some (_, ⟨_, false, [.int k p]⟩), some (_, ⟨_, false, [.int _ q]⟩) => mk1 (.v .fr (.int k (mx p q))) []
      | _, _ => none
    | _ => none
  | .call ⟨.builtin .min, args, _⟩ => match args.toList with
    | [x, y] => match plain g (rdo tt g 0 x), plain g (rdo tt g 0 y) with
      | some (_, ⟨_, false, [.int k p]⟩), some (_, ⟨_, false, [.int _ q]⟩) => mk1 (.v .fr (.int k (mn p q))) []
      | _, _ => none
    | _ => none
  | .call ⟨.value (.func f), args, ts⟩ => match spk sp f with
    | some s => match Nat.beq args.size ts.size with
      | true => callOut g s (argsAv tt g args.toList ts.toList)
      | false => none
    | none => none
  | _ => none

def isDead : AV → Bool
  | .dead => true
  | _ => false

/-- The slot 'd' loses what it bears: those that saw it there see a plain value, or nothing. -/
def unview (d : Nat) (old : AV) : AV → AV
  | .view s o => match Nat.beq s d with
    | true => match o, old with
      | none, .v (.acc f) c => .v (frK f) c
      | _, _ => .dead
    | false => .view s o
  | .baddr s o => match Nat.beq s d with
    | true => .dead
    | false => .baddr s o
  | .oaddr s i o => match Nat.beq s d with
    | true => .dead
    | false => .oaddr s i o
  | .cond _ _ => .dead
  | a => a

/-- What each slot holds; a slot that is not listed is unknown. -/
abbrev Env := List (Nat × AV)
def getE : Env → Nat → AV
  | [], _ => .dead
  | (m, a) :: r, n => match Nat.beq m n with
    | true => a
    | false => getE r n
def setE (e : Env) (d : Nat) (a : AV) : Env := (d, a) :: e
def mapE (f : AV → AV) : Env → Env
  | [] => []
  | (n, a) :: r => (n, f a) :: mapE f r
/-- A slot is written: what hung on its old value is forgotten. -/
def put (e : Env) (d : Nat) (a : AV) : Env :=
  match isDead (getE e d) with
  | true => setE e d a
  | false => setE (mapE (unview d (getE e d)) e) d a

def guardOf (g : Get) (dsts : List (Option Nat)) : Option (Nat × Bool) → Option Key
  | none => some []
  | some (j, b) => match dsts[j]? with
    | some (some d) => match g d with
      | .v _ (.bool x) => some [(d, b, x)]
      | .cond k (.v _ (.bool x)) => some ((d, b, x) :: k)
      | _ => none
    | _ => none

def moveIo (e : Env) (k : Key) : Option (Nat × Int) → Option Env
  | none => some e
  | some (s, p) => match getE e s with
    | .box [(.sh, b), (.fr, .int .i64 q)] => match k with
      | [] => some (setE e s (.box [(.sh, b), (.fr, .int .i64 p)]))
      | k => some (setE e s (.box [(.sh, b), (.fr, .int .i64 (cond (keyB k) p q))]))
    | _ => none

def obsK (k : Key) : List Prop → List Prop
  | [] => []
  | p :: r => match k with
    | [] => p :: obsK k r
    | k => (keyB k = true → p) :: obsK k r
def wrapK : Key → AV → AV
  | [], a => a
  | t :: k, a => .cond (t :: k) a

def memK (d : Nat) : Key → Bool
  | [] => false
  | (n, _, _) :: r => match Nat.beq n d with
    | true => true
    | false => memK d r
/-- Whether a value hangs on the slot itself. -/
def onSlot (d : Nat) : AV → Bool
  | .view n _ => Nat.beq n d
  | .baddr n _ => Nat.beq n d
  | .oaddr n _ _ => Nat.beq n d
  | .cond k a => memK d k || onSlot d a
  | _ => false

/-- One operation of the simple kind: 'w' writes the slot. -/
def stepW (tt : TT) (sp : SP) (dsts : List (Option Nat)) (w : Env → Nat → AV → Option Env) (g : Get) (e : Env) (o : Oper) : Option (Env × List Prop) :=
  match guardOf g dsts o.guard with
  | none => none
  | some k => match sev tt sp g k (fun n => strip k (g n)) o.type o.op, o.dst with
    | some ⟨av, obs, io⟩, some d => match moveIo e k io, bears av && !k.isEmpty with
      | some e1, false => match onSlot d (wrapK k av) || (!k.isEmpty && !isDead (getE e1 d)), w e1 d (wrapK k av) with
        | false, some e2 => some (e2, obsK k obs)
        | _, _ => none
      | _, _ => none
    | _, _ => none

/-- ... into a slot of which nothing is known. -/
def setW (e : Env) (d : Nat) (a : AV) : Option Env :=
  match isDead (getE e d) with
  | true => some (setE e d a)
  | false => none
/-- ... into any. -/
def putW (e : Env) (d : Nat) (a : AV) : Option Env := some (put e d a)

/-- The slot 's' loses the right that it bears: what it holds stays to be read. -/
def dropE (e : Env) (s : Nat) : Env :=
  match getE e s with
  | .v (.acc f) c => setE (mapE (unview s (.v (.acc f) c)) e) s (.v (frK f) c)
  | _ => e

def isView (s o : Nat) : AV → Bool
  | .view s' (some o') => Nat.beq s s' && Nat.beq o o'
  | _ => false

def unviewCell (s o : Nat) (k : K) (c : C) (a : AV) : AV :=
  match isView s o a, isCond a with
  | true, _ => .v k c
  | false, true => .dead
  | false, false => a

/-- 'append': the base's right goes to what comes of it. -/
def appendBase (e : Env) (x : AV) (slot : Option Nat) : Option (Bool × C × Env) :=
  match x with
  | .v _ (.nl t) => some (true, .lst t [], e)
  | .v (.acc f) c => match slot with
    | some s => some (f, c, dropE e s)
    | none => none
  | .view s none => match getE e s with
    | .v (.acc f) c => some (f, norm c, dropE e s)
    | _ => none
  | .view s (some o) => match getE e s with
    | .box cs => match cs[o]? with
      | some (.acc f, c) => some (f, norm c, setE (mapE (unviewCell s o (frK f) c) e) s (.box (cs.set o (frK f, c))))
      | _ => none
    | _ => none
  | _ => none

def slotOf : Operand → Option Nat
  | .tmp n => some n
  | _ => none

def putK : List (K × C) → Nat → List (K × C) → List (K × C)
  | [], _, _ => []
  | _ :: r, 0, d :: ds => d :: putK r 0 ds
  | c :: r, 0, [] => c :: r
  | c :: r, n + 1, ds => c :: putK r n ds

def killViews (s : Nat) : AV → AV
  | .view s' (some o') => match Nat.beq s s' with
    | true => .dead
    | false => .view s' (some o')
  | .cond _ _ => .dead
  | a => a

/-- What is stored: its cells; where it bears a right, that goes along. -/
def storeVal (e : Env) (x : AV) (slot : Option Nat) : Option (List (K × C) × Env) :=
  match x, slot with
  | .v (.acc f) c, some s => some ([(.acc f, c)], dropE e s)
  | x, _ => match plainR (getE e) x with
    | some (false, ⟨f, _, cs⟩) => some (cs.map fun c => (kC f c, c), e)
    | _ => none

def allFr : List (K × C) → Bool
  | [] => true
  | (.sh, _) :: _ => false
  | (.fr, _) :: r => allFr r
  | (.acc f, _) :: r => f && allFr r
  | (.own _, _) :: _ => false

def storeBox (e1 : Env) (s o : Nat) (ks : List (K × C)) : Option (Env × List Prop) :=
  match getE e1 s with
  | .box cs => match Nat.ble (o + ks.length) cs.length with
    | true => some (setE (mapE (killViews s) e1) s (.box (putK cs o ks)), [])
    | false => none
  | _ => none

def stepStore (tt : TT) (e : Env) (t : Nat) (a v : Operand) : Option (Env × List Prop) :=
  match lk tt t with
  | none => none
  | some d => match storeVal e (rdo tt (getE e) t v) (slotOf v) with
    | none => none
    | some (ks, e1) => match Nat.beq ks.length d.size with
      | false => none
      | true => match addrOf (getE e1) a with
        | .baddr s o => storeBox e1 s o ks
        | .view s none => storeBox e1 s 0 ks
        | .oaddr s i o => match getE e1 s with
          | .v (.own f) (.lst y xs) => match Nat.ble (o + ks.length) y.size, pack y (norms (setCells (cells y (rd y xs i)) o (ks.map (·.2)))) with
            | true, some x => some (setE e1 s (.v (.own (f && allFr ks)) (.lst y (xs.set i.toNat x))), [inb i (lenI y xs)])
            | _, _ => none
          | _ => none
        | _ => none

def stepAppend (tt : TT) (e : Env) (d : Nat) (x y : Operand) (t u : Nat) : Option (Env × List Prop) :=
  match plain (getE e) (rdo tt (getE e) u y) with
  | some (false, ⟨f', false, [.lst ty' ys']⟩) => match appendBase e (rdo tt (getE e) t x) (slotOf x) with
    | some (f, .lst ty xs, e1) => match castL ty ty' ys', elemTy tt t with
      | some ys, some (_, dd) => match Nat.beq dd.size ty.size && (Nat.beq dd.zero.length ty.size && Nat.beq t u) with
        | true => some (put e1 d (.v (.acc (f && f')) (.lst ty (xs ++ ys))), [lim (lenI ty xs) (lenI ty ys)])
        | false => none
      | _, _ => none
    | _ => none
  | _ => none

def stepCopy (tt : TT) (e : Env) (d : Nat) (x y : Operand) (t u : Nat) : Option (Env × List Prop) :=
  match plain (getE e) (rdo tt (getE e) u y), rdo tt (getE e) t x with
  | some (false, ⟨f', false, [.lst ty' ys']⟩), .view s none => match getE e s with
    | .v (.own f) (.lst ty xs) => match castL ty ty' ys', elemSz tt t with
      | some ys, some sz => match Nat.beq sz ty.size with
        | true => some (put (setE e s (.v (.own (f && f')) (.lst ty (ys.take xs.length ++ xs.drop ys.length)))) d (.v .fr (.int .i64 ((Nat.min ys.length xs.length : Nat) : Int))), [])
        | false => none
      | _, _ => none
    | _ => none
  | _, _ => none

/-- A right that goes from one slot to another. -/
def stepAssign (e : Env) (s d : Nat) : Option (Env × List Prop) :=
  match Nat.beq s d with
  | true => none
  | false => some (setE (put (mapE (unview s (getE e s)) e) d (getE e s)) s (.view d none), [])

/-- One operation, whichever. -/
def stepF (tt : TT) (sp : SP) (dsts : List (Option Nat)) (e : Env) (o : Oper) : Option (Env × List Prop) :=
  match o.op, o.dst, o.guard with
  | .assign (.tmp s), some d, none => match bears (getE e s) with
    | true => stepAssign e s d
    | false => stepW tt sp dsts putW (getE e) e o
  | .store t a v, none, none => stepStore tt e t a v
  | .call ⟨.builtin .append, args, ts⟩, some d, none => match args.toList, ts.toList with
    | [x, y], [t, u] => stepAppend tt e d x y t u
    | _, _ => none
  | .call ⟨.builtin .copy, args, ts⟩, some d, none => match args.toList, ts.toList with
    | [x, y], [t, u] => stepCopy tt e d x y t u
    | _, _ => none
  | _, _, _ => stepW tt sp dsts putW (getE e) e o

def runF (tt : TT) (sp : SP) (dsts : List (Option Nat)) : List Oper → Env → Option (Env × List Prop)
  | [], e => some (e, [])
  | o :: r, e => match stepF tt sp dsts e o with
    | some (e1, p) => match runF tt sp dsts r e1 with
      | some (e2, q) => some (e2, p ++ q)
      | none => none
    | none => none

/-- What a temporary hangs on by moves and addresses of its region. -/
def root1 (n : Nat) : List Oper → Option Nat
  | [] => none
  | o :: r => match o.dst with
    | some d => match Nat.beq d n with
      | true => match o.op with
        | .move (.tmp s) => some s
        | .nilCheck (.tmp s) => some s
        | .fieldAddr _ (.tmp s) _ => some s
        | .indexAddr _ (.tmp s) _ => some s
        | .load _ (.tmp s) => some s
        | _ => none
      | false => root1 n r
    | none => root1 n r
def roots (ops : List Oper) : Nat → Nat → List Nat
  | 0, _ => []
  | k + 1, n => match root1 n ops with
    | some s => s :: roots ops k s
    | none => []

def tmps : List Operand → List Nat
  | [] => []
  | .tmp t :: r => t :: tmps r
  | _ :: r => tmps r
def names (dsts : List (Option Nat)) (o : Oper) : List Nat :=
  match o.guard with
  | some (j, _) => match dsts[j]? with
    | some (some d) => d :: tmps o.op.operands.toList
    | _ => tmps o.op.operands.toList
  | none => tmps o.op.operands.toList

def rootsAll (ops : List Oper) : List Nat → List Nat
  | [] => []
  | n :: r => n :: (roots ops 6 n ++ rootsAll ops r)
def readsR (ops : List Oper) (dsts : List (Option Nat)) (o : Oper) : List Nat := rootsAll ops (names dsts o)

def hasRdr : List PT → Bool
  | [] => false
  | .rdr :: _ => true
  | _ :: r => hasRdr r

def writes (sp : SP) (ops : List Oper) (dsts : List (Option Nat)) (o : Oper) : List Nat :=
  match o.op with
  | .call ⟨.value (.func f), _, _⟩ => match spk sp f with
    | some ⟨pts, _, _, _, _⟩ => match hasRdr pts with
      | true => o.dst.toList ++ readsR ops dsts o
      | false => o.dst.toList
    | none => o.dst.toList
  | _ => o.dst.toList

def memN (n : Nat) : List Nat → Bool
  | [] => false
  | m :: r => match Nat.beq n m with
    | true => true
    | false => memN n r
def only (rs : List Nat) (e : Env) (n : Nat) : AV :=
  match memN n rs with
  | true => getE e n
  | false => .dead

def anyW (sp : SP) (ops : List Oper) (dsts : List (Option Nat)) (s : Nat) : List Oper → Bool
  | [] => false
  | o :: r => memN s (writes sp ops dsts o) || anyW sp ops dsts s r
def memO (s : Nat) : List (Option Nat) → Bool
  | [] => false
  | none :: r => memO s r
  | some d :: r => match Nat.beq s d with
    | true => true
    | false => memO s r
/-- A pointer that is only handed on, while others move on what it points to: (from, to). -/
def handed (sp : SP) (ops : List Oper) (dsts : List (Option Nat)) (o : Oper) : Option (Nat × Nat) :=
  match o.op, o.dst, o.guard with
  | .move (.tmp s), some d, none => match memO s dsts, anyW sp ops dsts s ops with
    | false, true => some (s, d)
    | _, _ => none
  | _, _, _ => none
def reads (sp : SP) (ops : List Oper) (dsts : List (Option Nat)) (o : Oper) : List Nat :=
  match handed sp ops dsts o with
  | some _ => []
  | none => readsR ops dsts o
def boxB : AV → Bool
  | .box _ => true
  | _ => false
/-- One operation of a region's first part. -/
def stepS (tt : TT) (sp : SP) (all : List Oper) (dsts : List (Option Nat)) (e : Env) (o : Oper) : Option (Env × List Prop) :=
  match handed sp all dsts o with
  | some (s, d) => match boxB (getE e s) && !Nat.beq s d, setW e d (.view s none) with
    | true, some e' => some (e', [])
    | _, _ => none
  | none => stepW tt sp dsts setW (only (readsR all dsts o) e) e o

def runS (tt : TT) (sp : SP) (dsts : List (Option Nat)) (all : List Oper) : List Oper → Env → Option (Env × List Prop)
  | [], e => some (e, [])
  | o :: r, e => match stepS tt sp all dsts e o with
    | some (e1, p) => match runS tt sp dsts all r e1 with
      | some (e2, q) => some (e2, p ++ q)
      | none => none
    | none => none

def strict (o : Oper) : Bool :=
  match o.op with
  | .assign _ => true
  | .store .. => true
  | .call ⟨.builtin .append, _, _⟩ => true
  | .call ⟨.builtin .copy, _, _⟩ => true
  | _ => false

def headOps : List Oper → List Oper
  | [] => []
  | o :: r => match strict o with
    | true => []
    | false => o :: headOps r
def tailOps : List Oper → List Oper
  | [] => []
  | o :: r => match strict o with
    | true => o :: r
    | false => tailOps r

def cleanAV (g : Get) : AV → AV
  | .view s o => match plainR g (.view s o) with
    | some (false, ⟨f, _, [c]⟩) => .v (frK f) c
    | _ => .dead
  | .baddr _ _ => .dead
  | .faddr _ _ => .dead
  | .oaddr _ _ _ => .dead
  | .cond _ _ => .dead
  | .tup _ => .dead
  | .dead => .dead
  | .v k c => .v k c
  | .agg f cs => .agg f cs
  | .box cs => .box cs
def clean (e : Env) : Env := mapE (cleanAV (getE e)) e

/-- Only the slots of 'keep' stay known. -/
def mask (e : Env) : List Nat → Env
  | [] => []
  | k :: ks => (k, getE e k) :: mask e ks

/-- A right goes from slot 'm' to slot 'd', which has the same value. -/
def transfer (e : Env) (m d : Nat) : Env := put (setE (mapE (unview m (getE e m)) e) m .dead) d (getE e m)
/-- What is kept gets the rights of what is not, where it has its value. -/
def settle (keep : List Nat) : List Nat → Env → Env
  | [], e => e
  | d :: r, e => match getE e d with
    | .view m none => match memN m keep, Nat.beq m d with
      | false, false => settle keep r (transfer e m d)
      | _, _ => settle keep r e
    | _ => settle keep r e

/-- A region, from one environment to the next; only the slots of 'keep' stay known. -/
def runReg (tt : TT) (sp : SP) (keep : List Nat) (ops : List Oper) (draw : Bool) (e : Env) : Option (Env × List Prop) :=
  match draw with
  | true => match runS tt sp (ops.map (·.dst)) ops (headOps ops) (clean e) with
    | some (e1, p) => match runF tt sp (ops.map (·.dst)) (tailOps ops) e1 with
      | some (e2, q) => some (mask (clean (settle keep keep e2)) keep, p ++ q)
      | none => none
    | none => none
  | false => match runF tt sp (ops.map (·.dst)) ops (clean e) with
    | some (e2, q) => some (mask (clean (settle keep keep e2)) keep, q)
    | none => none
end Go.Proofs.Ytopcofkpggefkaa

namespace Go.Proofs.Ytopcofkpggefkaa
open Go

/-- Cells that nobody writes any more. -/
abbrev Fz := Nat → Nat → Prop

inductive RC (F : Fz) (lo : Nat) (w : World) : C → Value → Prop where
  | int (k : IntKind) (n : Int) : RC F lo w (.int k n) (.int k n)
  | bool (b : Bool) : RC F lo w (.bool b) (.bool b)
  | str (s : ByteArray) : RC F lo w (.str s) (.string s)
  | nl (t : Ty) : RC F lo w (.nl t) (.slice none 0 0)
  | nil (t : Ty) : RC F lo w (.lst t []) (.slice none 0 0)
  | lst (t : Ty) (xs : List t.T) (b o cap : Nat) (vs : Nat → Nat → Value) (hb : lo ≤ b) (hcap : xs.length ≤ cap)
      (hf : ∀ i j, i < xs.length → j < t.size → F b (o + (i * t.size + j)))
      (hc : ∀ i j, i < xs.length → j < t.size → w.cell? ⟨b, o + (i * t.size + j), none⟩ = some (vs i j))
      (hr : ∀ i j x c, xs[i]? = some x → (cells t x)[j]? = some c → RC F lo w c (vs i j)) :
      RC F lo w (.lst t xs) (.slice (some ⟨b, o, none⟩) xs.length cap)

theorem cells_size (t : Ty) (x : t.T) : (cells t x).length = t.size := by
  cases t <;> rfl

theorem size_pos (t : Ty) : 0 < t.size := by cases t <;> decide

theorem RC.mono {F F' : Fz} {lo lo' : Nat} {w w' : World} (hF : ∀ b o, F b o → F' b o) (hlo : lo' ≤ lo)
    (hw : ∀ b o, F b o → w'.cell? ⟨b, o, none⟩ = w.cell? ⟨b, o, none⟩) {c : C} {v : Value} (h : RC F lo w c v) : RC F' lo' w' c v := by
  induction h with
  | int k n => exact .int k n
  | bool b => exact .bool b
  | str s => exact .str s
  | nl t => exact .nl t
  | nil t => exact .nil t
  | lst t xs b o cap vs hb hcap hf hc hr ih =>
    exact .lst t xs b o cap vs (Nat.le_trans hlo hb) hcap (fun i j hi hj => hF _ _ (hf i j hi hj))
      (fun i j hi hj => by rw [hw _ _ (hf i j hi hj)]; exact hc i j hi hj) (fun i j x c hx hcc => ih i j x c hx hcc)

theorem RC.norm {F : Fz} {lo : Nat} {w : World} {c : C} {v : Value} (h : RC F lo w c v) : RC F lo w (norm c) v := by
  cases h with
  | int k n => exact .int k n
  | bool b => exact .bool b
  | str s => exact .str s
  | nl t => exact .nil t
  | nil t => exact .nil t
  | lst t xs b o cap vs hb hcap hf hc hr => exact .lst t xs b o cap vs hb hcap hf hc hr

/-- A row of cells that represents a list of cells. -/
inductive RCs (F : Fz) (lo : Nat) (w : World) : List C → List Value → Prop where
  | nil : RCs F lo w [] []
  | cons {c v cs vs} : RC F lo w c v → RCs F lo w cs vs → RCs F lo w (c :: cs) (v :: vs)

theorem RCs.mono {F F' : Fz} {lo lo' : Nat} {w w' : World} (hF : ∀ b o, F b o → F' b o) (hlo : lo' ≤ lo)
    (hw : ∀ b o, F b o → w'.cell? ⟨b, o, none⟩ = w.cell? ⟨b, o, none⟩) {c : List C} {v : List Value} (h : RCs F lo w c v) : RCs F' lo' w' c v := by
  induction h with
  | nil => exact .nil
  | cons h _ ih => exact .cons (h.mono hF hlo hw) ih

theorem RCs.norms {F : Fz} {lo : Nat} {w : World} {c : List C} {v : List Value} (h : RCs F lo w c v) : RCs F lo w (norms c) v := by
  induction h with
  | nil => exact .nil
  | cons h _ ih => exact .cons h.norm ih

theorem RC.scal {F F' : Fz} {lo lo' : Nat} {w w' : World} {c : C} {v : Value} (hs : scalC c = true) (h : RC F lo w c v) : RC F' lo' w' c v := by
  cases h with
  | int k n => exact .int k n
  | bool b => exact .bool b
  | str s => exact .str s
  | nl t => cases hs
  | nil t => cases hs
  | lst t xs b o cap vs hb hcap hf hc hr => cases hs

theorem RCs.scal {F F' : Fz} {lo lo' : Nat} {w w' : World} {cs : List C} {vs : List Value} (hs : scalAll cs = true) (h : RCs F lo w cs vs) : RCs F' lo' w' cs vs := by
  induction h with
  | nil => exact .nil
  | cons hc _ ih =>
    simp only [scalAll, Bool.and_eq_true] at hs
    exact .cons (hc.scal hs.1) (ih hs.2)

theorem RCs.length {F : Fz} {lo : Nat} {w : World} {c : List C} {v : List Value} (h : RCs F lo w c v) : c.length = v.length := by
  induction h with
  | nil => rfl
  | cons _ _ ih => simp [ih]

theorem RCs.get {F : Fz} {lo : Nat} {w : World} {cs : List C} {vs : List Value} (h : RCs F lo w cs vs) : ∀ {j : Nat} {c : C}, cs[j]? = some c → ∃ v, vs[j]? = some v ∧ RC F lo w c v := by
  induction h with
  | nil => intro j c h; simp at h
  | cons hc _ ih =>
    intro j c h
    cases j with
    | zero => simp at h; subst h; exact ⟨_, rfl, hc⟩
    | succ j => simpa using ih (by simpa using h)

theorem RCs.mk {F : Fz} {lo : Nat} {w : World} : ∀ {cs : List C} {vs : List Value}, cs.length = vs.length → (∀ (j : Nat) (c : C) (v : Value), cs[j]? = some c → vs[j]? = some v → RC F lo w c v) → RCs F lo w cs vs
  | [], [], _, _ => .nil
  | c :: cs, v :: vs, h, hr => .cons (hr 0 c v rfl rfl) (RCs.mk (by simpa using h) fun j c v hc hv => hr (j + 1) c v (by simpa using hc) (by simpa using hv))

theorem RCs.drop {F : Fz} {lo : Nat} {w : World} {cs : List C} {vs : List Value} (h : RCs F lo w cs vs) : ∀ n, RCs F lo w (cs.drop n) (vs.drop n) := by
  induction h with
  | nil => intro n; simpa using RCs.nil
  | cons hc hr ih =>
    intro n
    cases n with
    | zero => exact .cons hc hr
    | succ n => exact ih n

theorem RCs.take {F : Fz} {lo : Nat} {w : World} {cs : List C} {vs : List Value} (h : RCs F lo w cs vs) : ∀ n, RCs F lo w (cs.take n) (vs.take n) := by
  induction h with
  | nil => intro n; simpa using RCs.nil
  | cons hc hr ih =>
    intro n
    cases n with
    | zero => exact .nil
    | succ n => exact .cons hc (ih n)

theorem RCs.append {F : Fz} {lo : Nat} {w : World} {cs ds : List C} {vs us : List Value} (h : RCs F lo w cs vs) (h' : RCs F lo w ds us) : RCs F lo w (cs ++ ds) (vs ++ us) := by
  induction h with
  | nil => exact h'
  | cons hc _ ih => exact .cons hc ih

def lof (B : Nat) : Bool → Nat
  | true => B
  | false => 0

theorem RCs.up {F : Fz} {B : Nat} {w : World} {f : Bool} {cs : List C} {vs : List Value} (h : RCs F (lof B f) w cs vs) : RCs F (lof B (upF f cs)) w cs vs := by
  unfold upF
  cases hs : scalAll cs with
  | true => exact h.scal hs
  | false => exact h

theorem lof_le (B : Nat) (f : Bool) : lof B f ≤ B := by cases f <;> simp [lof]

/-- A value without a right. -/
def PVR (F : Fz) (B : Nat) (w : World) : PV → Value → Prop
  | ⟨f, false, [c]⟩, v => RC F (lof B f) w c v
  | ⟨_, false, _⟩, _ => False
  | ⟨f, true, cs⟩, v => ∃ vs : List Value, v = .agg vs.toArray ∧ RCs F (lof B f) w cs vs

inductive PVRs (F : Fz) (B : Nat) (w : World) : List PV → List Value → Prop where
  | nil : PVRs F B w [] []
  | cons {c v cs vs} : PVR F B w c v → PVRs F B w cs vs → PVRs F B w (c :: cs) (v :: vs)

theorem PVR.mono {F F' : Fz} {B B' : Nat} {w w' : World} (hF : ∀ b o, F b o → F' b o) (hlo : B' ≤ B)
    (hw : ∀ b o, F b o → w'.cell? ⟨b, o, none⟩ = w.cell? ⟨b, o, none⟩) {p : PV} {v : Value} (h : PVR F B w p v) : PVR F' B' w' p v := by
  obtain ⟨f, a, cs⟩ := p
  have hl : lof B' f ≤ lof B f := by cases f <;> simp [lof, hlo]
  cases a with
  | true => obtain ⟨vs, rfl, h⟩ := h; exact ⟨vs, rfl, h.mono hF hl hw⟩
  | false =>
    match cs, h with
    | [c], h => exact RC.mono hF hl hw h

theorem PVRs.mono {F F' : Fz} {B B' : Nat} {w w' : World} (hF : ∀ b o, F b o → F' b o) (hlo : B' ≤ B)
    (hw : ∀ b o, F b o → w'.cell? ⟨b, o, none⟩ = w.cell? ⟨b, o, none⟩) {p : List PV} {v : List Value} (h : PVRs F B w p v) : PVRs F' B' w' p v := by
  induction h with
  | nil => exact .nil
  | cons h _ ih => exact .cons (h.mono hF hlo hw) ih

/-- A block of cells, none of them shared with a string. -/
def Blk (w : World) (b : Nat) (cs : List Value) : Prop := ∃ e, w.heap[b]? = some (.cells cs.toArray e (0, 0))

theorem Blk.cell {w : World} {b : Nat} {cs : List Value} (h : Blk w b cs) (o : Nat) : w.cell? ⟨b, o, none⟩ = cs[o]? := by
  obtain ⟨e, h⟩ := h
  simp [World.cell?, h]

theorem Blk.lt {w : World} {b : Nat} {cs : List Value} (h : Blk w b cs) : b < w.heap.size := by
  obtain ⟨e, h⟩ := h
  exact (Array.getElem?_eq_some_iff.1 h).1

theorem Blk.frozen {w : World} {b : Nat} {cs : List Value} (h : Blk w b cs) (o : Nat) : w.frozen? ⟨b, o, none⟩ = false := by
  obtain ⟨e, h⟩ := h
  simp [World.frozen?, h]

theorem Blk.same {w w' : World} {b : Nat} {cs : List Value} (h : Blk w b cs) (hs : w'.heap[b]? = w.heap[b]?) : Blk w' b cs := by
  obtain ⟨e, h⟩ := h
  exact ⟨e, hs ▸ h⟩

theorem Blk.inj {w : World} {b : Nat} {cs ds : List Value} (h : Blk w b cs) (h' : Blk w b ds) : cs = ds := by
  obtain ⟨e, h⟩ := h
  obtain ⟨e', h'⟩ := h'
  rw [h] at h'
  have := congrArg (fun o : Option Obj => match o with | some (.cells c _ _) => c.toList | _ => []) h'
  simpa using this

/-- A list with the right to append: its cells are frozen, the rest of its block is nobody else's. -/
def AccR (F : Fz) (lo : Nat) (w : World) (ob : Option Nat) (c : C) (v : Value) : Prop :=
  RC F lo w c v ∧ ((∃ t, norm c = .lst t [] ∧ v = .slice none 0 0) ∨
    ∃ t xs b cap cs, norm c = .lst t xs ∧ v = .slice (some ⟨b, 0, none⟩) xs.length cap ∧ ob = some b ∧ Blk w b cs ∧ cs.length = cap * t.size ∧
      ∀ o, xs.length * t.size ≤ o → ¬ F b o)

/-- A list with the right to write: nobody else sees its cells. -/
def OwnR (F : Fz) (lo : Nat) (w : World) (ob : Option Nat) (c : C) (v : Value) : Prop :=
  (∃ t, c = .lst t [] ∧ v = .slice none 0 0) ∨ ∃ (t : Ty) (xs : List t.T) (b cap : Nat) (cs : List Value) (vs : Nat → Nat → Value), c = .lst t xs ∧ v = .slice (some ⟨b, 0, none⟩) xs.length cap ∧ ob = some b ∧ Blk w b cs ∧ cs.length = cap * t.size ∧ xs.length ≤ cap ∧ lo ≤ b ∧
    (∀ o, ¬ F b o) ∧ (∀ i j, i < xs.length → j < t.size → cs[i * t.size + j]? = some (vs i j)) ∧
    ∀ (i j : Nat) (x : t.T) (c : C), xs[i]? = some x → (cells t x)[j]? = some c → RC F lo w c (vs i j)

/-- One cell of a box. -/
def BoxC (F : Fz) (B : Nat) (w : World) (ob : Option Nat) : K × C → Value → Prop
  | (.sh, c), v => RC F 0 w c v
  | (.fr, c), v => RC F B w c v
  | (.acc f, c), v => AccR F (lof B f) w ob c v
  | (.own _, _), _ => False

/-- What a slot bears by itself. -/
def VR (F : Fz) (B : Nat) (w : World) (ow : Option Nat → Option Nat) : AV → Value → Prop
  | .dead, _ => True
  | .v .sh c, v => RC F 0 w c v
  | .v .fr c, v => RC F B w c v
  | .v (.acc f) c, v => AccR F (lof B f) w (ow none) c v
  | .v (.own f) c, v => OwnR F (lof B f) w (ow none) c v
  | .agg f cs, v => ∃ vs : List Value, v = .agg vs.toArray ∧ RCs F (lof B f) w cs vs
  | .tup l, v => ∃ vs : List Value, v = .tuple vs.toArray ∧ PVRs F B w l vs
  | .box cs, v => ∃ b vs, v = .pointer (some ⟨b, 0, none⟩) ∧ ow none = some b ∧ Blk w b vs ∧ (∀ o, ¬ F b o) ∧ vs.length = cs.length ∧
      ∀ j kc u, cs[j]? = some kc → vs[j]? = some u → BoxC F B w (ow (some j)) kc u
  | _, _ => False

/-- What a slot holds, others being in sight. -/
def SR (F : Fz) (B : Nat) (w : World) (tm : Nat → Value) (g : Get) (ow : Nat → Option Nat → Option Nat) (s : Nat) : AV → Prop
  | .view n none => tm s = tm n ∧ bears (g n) = true ∧ n ≠ s
  | .view n (some j) => n ≠ s ∧ ∃ cs b f c, g n = .box cs ∧ cs[j]? = some (.acc f, c) ∧ tm n = .pointer (some ⟨b, 0, none⟩) ∧ w.cell? ⟨b, j, none⟩ = some (tm s)
  | .baddr n o => n ≠ s ∧ ∃ cs b, g n = .box cs ∧ tm n = .pointer (some ⟨b, 0, none⟩) ∧ tm s = .pointer (some ⟨b, o, none⟩)
  | .faddr f cs => ∃ b o vs, tm s = .pointer (some ⟨b, o, none⟩) ∧ RCs F (lof B f) w cs vs ∧ ∀ j v, vs[j]? = some v → F b (o + j) ∧ w.cell? ⟨b, o + j, none⟩ = some v
  | .oaddr n i o => n ≠ s ∧ ∃ t xs b cap f, g n = .v (.own f) (.lst t xs) ∧ tm n = .slice (some ⟨b, 0, none⟩) xs.length cap ∧ 0 ≤ i ∧ i < xs.length ∧
      tm s = .pointer (some ⟨b, i.toNat * t.size + o, none⟩)
  | .cond k a => (∀ d b x, (d, b, x) ∈ k → d ≠ s ∧ isDead (g d) = false) ∧ KeyT tm k ∧ (keyB k = true → SR F B w tm g ow s a) ∧ (keyB k = false → tm s = undef)
  | a => VR F B w (ow s) a (tm s)
where
  /-- Each test's value is its slot's, where the tests behind it came out as wanted. -/
  KeyT (tm : Nat → Value) : Key → Prop
    | [] => True
    | (d, _, x) :: k => KeyT tm k ∧ (keyB k = true → tm d = .bool x) ∧ (keyB k = false → tm d = undef)

/-- Whether an object is a row of cells. -/
def isC : Obj → Bool
  | .cells _ _ _ => true
  | _ => false

theorem Blk.isC {w : World} {b : Nat} {cs : List Value} (h : Blk w b cs) {o : Obj} (ho : w.heap[b]? = some o) : Go.Proofs.Ytopcofkpggefkaa.isC o = true := by
  obtain ⟨e, h⟩ := h
  rw [h] at ho
  cases ho
  rfl

/-- Since the call began, only what it made itself, and what it was given to write, has changed. -/
structure Kept (B : Nat) (IoB : List Nat) (w w' : World) : Prop where
  os : w'.os = w.os
  tape : w'.tape = w.tape
  output : w'.output = w.output
  size : w.heap.size ≤ w'.heap.size
  block : ∀ k, k < B → k ∉ IoB → w'.heap[k]? = w.heap[k]?
  obj : ∀ (k : Nat) (o : Obj), w.heap[k]? = some o → isC o = false → w'.heap[k]? = some o

theorem Kept.refl (B : Nat) (IoB : List Nat) (w : World) : Kept B IoB w w := ⟨rfl, rfl, rfl, Nat.le_refl _, fun _ _ _ => rfl, fun _ _ h _ => h⟩
theorem Kept.trans {B : Nat} {IoB : List Nat} {a b c : World} (h : Kept B IoB a b) (k : Kept B IoB b c) : Kept B IoB a c :=
  ⟨k.os.trans h.os, k.tape.trans h.tape, k.output.trans h.output, Nat.le_trans h.size k.size, fun i hi hn => (k.block i hi hn).trans (h.block i hi hn), fun i o hi hc => k.obj i o (h.obj i o hi hc) hc⟩

/-- Blocks that one may write: new ones, and those that one was given. -/
abbrev Mn (B : Nat) (IoB : List Nat) (b : Nat) : Prop := B ≤ b ∨ b ∈ IoB

/-- The abstract state of the slots, over known frozen cells and known owners. -/
structure SimX (B : Nat) (IoB : List Nat) (F0 : Fz) (e : Env) (tm : Nat → Value) (w : World) (F : Fz) (ow : Nat → Option Nat → Option Nat) : Prop where
  sub : ∀ b o, F0 b o → F b o
  new : ∀ b o, F b o → F0 b o ∨ Mn B IoB b
  live : ∀ b o, F b o → (w.cell? ⟨b, o, none⟩).isSome
  inj : ∀ s i s' i' b, ow s i = some b → ow s' i' = some b → s = s' ∧ i = i'
  bd : ∀ s i b, ow s i = some b → b < w.heap.size ∧ Mn B IoB b
  sr : ∀ s, SR F B w tm (getE e) ow s (getE e s)

/-- The number of a body's slots, and the slot of the reader that came in. -/
structure NP where
  n : Nat
  r : Option Nat
  k : List (Nat × Value) := []
def notIn (d : Nat) : List (Nat × Value) → Bool
  | [] => true
  | (s, _) :: r => !Nat.beq s d && notIn d r
def NP.ok (N : NP) (d : Nat) : Bool := Nat.blt d N.n && ((match N.r with
  | some s => !Nat.beq s d
  | none => true) && notIn d N.k)
theorem notIn_ne {d : Nat} : ∀ {l : List (Nat × Value)}, notIn d l = true → ∀ p ∈ l, p.1 ≠ d
  | [], _, p, hp => by simp at hp
  | (s, v) :: r, h, p, hp => by
    simp only [notIn, Bool.and_eq_true] at h
    rcases List.mem_cons.1 hp with rfl | hp
    · intro e
      have e : s = d := e
      rw [e, Nat.beq_refl] at h
      exact absurd h.1 (by simp)
    · exact notIn_ne h.2 p hp
theorem NP.ok_lt {N : NP} {d : Nat} (h : N.ok d = true) : d < N.n := by
  simp only [NP.ok, Bool.and_eq_true] at h
  exact Nat.lt_of_lt_of_le (Nat.lt_succ_self _) (Nat.le_of_ble_eq_true h.1)
theorem NP.ok_ne {N : NP} {d s : Nat} (h : N.ok d = true) (hs : N.r = some s) : s ≠ d := by
  simp only [NP.ok, Bool.and_eq_true, hs] at h
  intro e
  rw [e, Nat.beq_refl] at h
  exact absurd h.2.1 (by simp)
theorem NP.ok_k {N : NP} {d : Nat} (h : N.ok d = true) : ∀ p ∈ N.k, p.1 ≠ d := by
  simp only [NP.ok, Bool.and_eq_true] at h
  exact notIn_ne h.2.2

/-- The slots' number; the reader stays in its slot. -/
structure Tms (N : NP) (IoB : List Nat) (tmps : Array Value) : Prop where
  size : tmps.size = N.n
  rd : ∀ s, N.r = some s → ∀ b ∈ IoB, tmps.getD s undef = .pointer (some ⟨b, 0, none⟩)
  kp : ∀ p ∈ N.k, tmps.getD p.1 undef = p.2

/-- The machine's state and the abstract one. -/
structure Sim (N : NP) (B : Nat) (IoB : List Nat) (W0 : World) (F0 : Fz) (e : Env) (a : Act) (w : World) : Prop where
  defers : a.defers = []
  tmps : Tms N IoB a.tmps
  base : B ≤ W0.heap.size
  f0 : ∀ b o, F0 b o → b < B ∧ b ∉ IoB
  kept : Kept B IoB W0 w
  rep : ∃ (F : Fz) (ow : Nat → Option Nat → Option Nat), SimX B IoB F0 e (fun n => a.tmps.getD n undef) w F ow
end Go.Proofs.Ytopcofkpggefkaa

namespace Go.Proofs.Ytopcofkpggefkaa
open Go

/-- Memory has grown; nothing that was there has changed; only new cells are newly frozen. -/
structure Grow (F : Fz) (w : World) (F' : Fz) (w' : World) : Prop where
  os : w'.os = w.os
  tape : w'.tape = w.tape
  output : w'.output = w.output
  size : w.heap.size ≤ w'.heap.size
  block : ∀ k, k < w.heap.size → w'.heap[k]? = w.heap[k]?
  sub : ∀ b o, F b o → F' b o
  new : ∀ b o, F' b o → F b o ∨ w.heap.size ≤ b

theorem Grow.refl (F : Fz) (w : World) : Grow F w F w := ⟨rfl, rfl, rfl, Nat.le_refl _, fun _ _ => rfl, fun _ _ h => h, fun _ _ h => .inl h⟩
theorem Grow.trans {F F' F'' : Fz} {w w' w'' : World} (h : Grow F w F' w') (k : Grow F' w' F'' w'') : Grow F w F'' w'' :=
  ⟨k.os.trans h.os, k.tape.trans h.tape, k.output.trans h.output, Nat.le_trans h.size k.size,
    fun i hi => (k.block i (Nat.lt_of_lt_of_le hi h.size)).trans (h.block i hi), fun _ _ hb => k.sub _ _ (h.sub _ _ hb),
    fun b o hb => (k.new b o hb).elim (h.new b o) (fun hs => .inr (Nat.le_trans h.size hs))⟩

theorem cell_of_heap {w w' : World} {b o : Nat} (h : w'.heap[b]? = w.heap[b]?) : w'.cell? ⟨b, o, none⟩ = w.cell? ⟨b, o, none⟩ := by
  simp [World.cell?, h]

theorem lt_of_cell {w : World} {b o : Nat} {v : Value} (h : w.cell? ⟨b, o, none⟩ = some v) : b < w.heap.size := by
  unfold World.cell? at h
  by_cases hb : b < w.heap.size
  · exact hb
  · rw [show w.heap[b]? = none from Array.getElem?_eq_none (by omega)] at h
    simp at h

/-- What is frozen exists. -/
def Live (F : Fz) (w : World) : Prop := ∀ b o, F b o → (w.cell? ⟨b, o, none⟩).isSome

theorem Live.lt {F : Fz} {w : World} (h : Live F w) {b o : Nat} (hb : F b o) : b < w.heap.size := by
  have := h b o hb
  cases hc : w.cell? ⟨b, o, none⟩ with
  | none => simp [hc] at this
  | some v => exact lt_of_cell hc

theorem Grow.cell {F F' : Fz} {w w' : World} (h : Grow F w F' w') {b o : Nat} (hb : b < w.heap.size) : w'.cell? ⟨b, o, none⟩ = w.cell? ⟨b, o, none⟩ :=
  cell_of_heap (h.block b hb)

theorem Grow.live {F F' : Fz} {w w' : World} (h : Grow F w F' w') (hl : Live F w) : ∀ b o, F b o → w'.cell? ⟨b, o, none⟩ = w.cell? ⟨b, o, none⟩ :=
  fun _ _ hb => h.cell (hl.lt hb)

section
variable {F F' : Fz} {w w' : World} (hg : Grow F w F' w') (hl : Live F w)
include hg hl

theorem RC.grow {lo : Nat} {c : C} {v : Value} (h : RC F lo w c v) : RC F' lo w' c v := h.mono hg.sub (Nat.le_refl _) (hg.live hl)
theorem RCs.grow {lo : Nat} {c : List C} {v : List Value} (h : RCs F lo w c v) : RCs F' lo w' c v := h.mono hg.sub (Nat.le_refl _) (hg.live hl)
theorem PVRs.grow {B : Nat} {c : List PV} {v : List Value} (h : PVRs F B w c v) : PVRs F' B w' c v := h.mono hg.sub (Nat.le_refl _) (hg.live hl)

theorem AccR.grow {lo : Nat} {ob : Option Nat} {c : C} {v : Value} (h : AccR F lo w ob c v) : AccR F' lo w' ob c v := by
  obtain ⟨hr, h⟩ := h
  refine ⟨hr.grow hg hl, ?_⟩
  rcases h with h | ⟨t, xs, b, cap, cs, h1, h2, h3, h4, h5, h6⟩
  · exact .inl h
  · exact .inr ⟨t, xs, b, cap, cs, h1, h2, h3, h4.same (hg.block b h4.lt), h5, fun o ho hF => (hg.new b o hF).elim (h6 o ho) (fun hs => by have := h4.lt; omega)⟩

theorem OwnR.grow {lo : Nat} {ob : Option Nat} {c : C} {v : Value} (h : OwnR F lo w ob c v) : OwnR F' lo w' ob c v := by
  rcases h with h | ⟨t, xs, b, cap, cs, vs, h1, h2, h3, h4, h5, h5', h6, h7, h8, h9⟩
  · exact .inl h
  exact .inr ⟨t, xs, b, cap, cs, vs, h1, h2, h3, h4.same (hg.block b h4.lt), h5, h5', h6, fun o hF => (hg.new b o hF).elim (h7 o) (fun hs => by have := h4.lt; omega), h8,
    fun i j x c hx hc => (h9 i j x c hx hc).grow hg hl⟩

theorem BoxC.grow {B : Nat} {ob : Option Nat} {kc : K × C} {v : Value} (h : BoxC F B w ob kc v) : BoxC F' B w' ob kc v := by
  obtain ⟨k, c⟩ := kc
  cases k with
  | sh => exact RC.grow hg hl h
  | fr => exact RC.grow hg hl h
  | acc f => exact AccR.grow hg hl h
  | own f => exact h.elim

theorem VR.grow {B : Nat} {ow : Option Nat → Option Nat} {av : AV} {v : Value} (h : VR F B w ow av v) : VR F' B w' ow av v := by
  cases av with
  | dead => trivial
  | v k c =>
    cases k with
    | sh => exact RC.grow hg hl h
    | fr => exact RC.grow hg hl h
    | acc f => exact AccR.grow hg hl h
    | own f => exact OwnR.grow hg hl h
  | agg f cs => obtain ⟨vs, rfl, h⟩ := h; exact ⟨vs, rfl, h.grow hg hl⟩
  | tup l => obtain ⟨vs, rfl, h⟩ := h; exact ⟨vs, rfl, h.grow hg hl⟩
  | box cs =>
    obtain ⟨b, vs, h1, h2, h3, h4, h5, h6⟩ := h
    exact ⟨b, vs, h1, h2, h3.same (hg.block b h3.lt), fun o hF => (hg.new b o hF).elim (h4 o) (fun hs => by have := h3.lt; omega), h5,
      fun j kc u hk hu => (h6 j kc u hk hu).grow hg hl⟩
  | cond k a => exact h.elim
  | view s o => exact h.elim
  | baddr s o => exact h.elim
  | faddr f cs => exact h.elim
  | oaddr s i o => exact h.elim

theorem SR.grow {B : Nat} {tm : Nat → Value} {g : Get} {ow : Nat → Option Nat → Option Nat} {s : Nat} : ∀ {av : AV}, SR F B w tm g ow s av → SR F' B w' tm g ow s av
  | .dead, _ => trivial
  | .v k c, h => VR.grow hg hl (av := .v k c) h
  | .agg f cs, h => VR.grow hg hl (av := .agg f cs) h
  | .tup l, h => VR.grow hg hl (av := .tup l) h
  | .box cs, h => VR.grow hg hl (av := .box cs) h
  | .cond _ _, h => ⟨h.1, h.2.1, fun hk => SR.grow (h.2.2.1 hk), h.2.2.2⟩
  | .view _ none, h => h
  | .view _ (some _), h => by
    obtain ⟨hn, cs, b, f, c, h1, h2, h3, h4⟩ := h
    exact ⟨hn, cs, b, f, c, h1, h2, h3, by rw [hg.cell (lt_of_cell h4)]; exact h4⟩
  | .baddr _ _, h => h
  | .faddr f cs, h => by
    obtain ⟨b, o, vs, h1, h2, h3⟩ := h
    exact ⟨b, o, vs, h1, h2.grow hg hl, fun j v hv => ⟨hg.sub _ _ (h3 j v hv).1, by rw [hg.cell (lt_of_cell (h3 j v hv).2)]; exact (h3 j v hv).2⟩⟩
  | .oaddr _ _ _, h => h
end

/-- Whether a value hangs on slot 'd'. -/
def hangs (d : Nat) : AV → Prop
  | .view n _ => n = d
  | .baddr n _ => n = d
  | .oaddr n _ _ => n = d
  | .cond k a => (∃ b x, (d, b, x) ∈ k) ∨ hangs d a
  | _ => False

theorem KeyT.other {tm tm' : Nat → Value} {d : Nat} (ht : ∀ n, n ≠ d → tm' n = tm n) : ∀ {k : Key}, (∀ n b x, (n, b, x) ∈ k → n ≠ d) → SR.KeyT tm k → SR.KeyT tm' k
  | [], _, _ => trivial
  | (n, b, x) :: k, hn, h => by
    have hnd := hn n b x (by simp)
    exact ⟨KeyT.other ht (fun m b x hm => hn m b x (by simp [hm])) h.1, fun hk => (ht n hnd).trans (h.2.1 hk), fun hk => (ht n hnd).trans (h.2.2 hk)⟩

theorem SR.other {F : Fz} {B : Nat} {w : World} {tm tm' : Nat → Value} {g g' : Get} {ow ow' : Nat → Option Nat → Option Nat} {d s : Nat} (hsd : s ≠ d)
    (ht : ∀ n, n ≠ d → tm' n = tm n) (hg : ∀ n, n ≠ d → g' n = g n) (ho : ∀ n, n ≠ d → ow' n = ow n) :
    ∀ {av : AV}, ¬ hangs d av → SR F B w tm g ow s av → SR F B w tm' g' ow' s av
  | .dead, _, _ => trivial
  | .v k c, _, h => by show VR F B w (ow' s) (.v k c) (tm' s); rw [ho s hsd, ht s hsd]; exact h
  | .agg f cs, _, h => by show VR F B w (ow' s) (.agg f cs) (tm' s); rw [ho s hsd, ht s hsd]; exact h
  | .tup l, _, h => by show VR F B w (ow' s) (.tup l) (tm' s); rw [ho s hsd, ht s hsd]; exact h
  | .box cs, _, h => by show VR F B w (ow' s) (.box cs) (tm' s); rw [ho s hsd, ht s hsd]; exact h
  | .cond k a, hh, h => by
    have hk : ∀ n b x, (n, b, x) ∈ k → n ≠ d := fun n b x hm e => hh (.inl ⟨b, x, e ▸ hm⟩)
    refine ⟨fun n b x hm => ⟨(h.1 n b x hm).1, by rw [hg n (hk n b x hm)]; exact (h.1 n b x hm).2⟩, KeyT.other ht hk h.2.1,
      fun hb => SR.other hsd ht hg ho (fun e => hh (.inr e)) (h.2.2.1 hb), fun hb => (ht s hsd).trans (h.2.2.2 hb)⟩
  | .view n none, hh, h => by
    have hn : n ≠ d := hh
    exact ⟨by rw [ht s hsd, ht n hn]; exact h.1, by rw [hg n hn]; exact h.2.1, h.2.2⟩
  | .view n (some j), hh, h => by
    have hn : n ≠ d := hh
    obtain ⟨h0, cs, b, f, c, h1, h2, h3, h4⟩ := h
    exact ⟨h0, cs, b, f, c, by rw [hg n hn]; exact h1, h2, by rw [ht n hn]; exact h3, by rw [ht s hsd]; exact h4⟩
  | .baddr n o, hh, h => by
    have hn : n ≠ d := hh
    obtain ⟨h0, cs, b, h1, h2, h3⟩ := h
    exact ⟨h0, cs, b, by rw [hg n hn]; exact h1, by rw [ht n hn]; exact h2, by rw [ht s hsd]; exact h3⟩
  | .faddr f cs, _, h => by
    obtain ⟨b, o, vs, h1, h2, h3⟩ := h
    exact ⟨b, o, vs, by rw [ht s hsd]; exact h1, h2, h3⟩
  | .oaddr n i o, hh, h => by
    have hn : n ≠ d := hh
    obtain ⟨h0, t, xs, b, cap, f, h1, h2, h3, h4, h5⟩ := h
    exact ⟨h0, t, xs, b, cap, f, by rw [hg n hn]; exact h1, by rw [ht n hn]; exact h2, h3, h4, by rw [ht s hsd]; exact h5⟩

/-- Where nothing is known of a slot, nothing that is known hangs on it; else a condition is not met. -/
theorem SR.dead {F : Fz} {B : Nat} {w : World} {tm tm' : Nat → Value} {g g' : Get} {ow ow' : Nat → Option Nat → Option Nat} {d s : Nat} (hsd : s ≠ d) (hd : isDead (g d) = true)
    (ht : ∀ n, n ≠ d → tm' n = tm n) (hg : ∀ n, n ≠ d → g' n = g n) (ho : ∀ n, n ≠ d → ow' n = ow n) :
    ∀ {av : AV}, SR F B w tm g ow s av → SR F B w tm' g' ow' s av := by
  have hdd : g d = .dead := by cases hgd : g d <;> simp [hgd, isDead] at hd ⊢
  intro av
  induction av with
  | cond k a ih =>
    intro h
    have hk : ∀ n b x, (n, b, x) ∈ k → n ≠ d := fun n b x hm e => by
      have := (h.1 n b x hm).2
      rw [e, hd] at this
      exact absurd this (by simp)
    exact ⟨fun n b x hm => ⟨(h.1 n b x hm).1, by rw [hg n (hk n b x hm)]; exact (h.1 n b x hm).2⟩, KeyT.other ht hk h.2.1,
      fun hb => ih (h.2.2.1 hb), fun hb => (ht s hsd).trans (h.2.2.2 hb)⟩
  | view n o =>
    intro h
    refine SR.other hsd ht hg ho ?_ h
    rintro rfl
    cases o with
    | none => rw [show SR F B w tm g ow s (.view n none) = (tm s = tm n ∧ bears (g n) = true ∧ n ≠ s) from rfl] at h; rw [hdd] at h; simp [bears] at h
    | some j => obtain ⟨_, cs, b, f, c, h1, _⟩ := h; rw [hdd] at h1; cases h1
  | baddr n o =>
    intro h
    refine SR.other hsd ht hg ho ?_ h
    rintro rfl
    obtain ⟨_, cs, b, h1, _⟩ := h; rw [hdd] at h1; cases h1
  | oaddr n i o =>
    intro h
    refine SR.other hsd ht hg ho ?_ h
    rintro rfl
    obtain ⟨_, t, xs, b, cap, f, h1, _⟩ := h; rw [hdd] at h1; cases h1
  | _ => exact SR.other hsd ht hg ho (fun h => h)

theorem beq_ne {n d : Nat} (h : n ≠ d) : Nat.beq n d = false := by
  cases hb : Nat.beq n d with
  | false => rfl
  | true => exact absurd (Nat.eq_of_beq_eq_true hb) h

theorem AccR.plain {F : Fz} {B : Nat} {w : World} {f : Bool} {ob : Option Nat} {c : C} {v : Value} (h : AccR F (lof B f) w ob c v) {ow : Option Nat → Option Nat} : VR F B w ow (.v (frK f) c) v := by
  cases f
  · exact h.1
  · exact h.1

/-- A slot that bore something is written: what hung on it is plain now, or forgotten. -/
theorem SR.unview {F : Fz} {B : Nat} {w : World} {tm tm' : Nat → Value} {g g' : Get} {ow ow' : Nat → Option Nat → Option Nat} {d s : Nat} (hsd : s ≠ d)
    (ht : ∀ n, n ≠ d → tm' n = tm n) (hg : ∀ n, n ≠ d → bears (g n) = true → g' n = g n) (ho : ∀ n, n ≠ d → ow' n = ow n) (hd : SR F B w tm g ow d (g d)) :
    ∀ {av : AV}, SR F B w tm g ow s av → SR F B w tm' g' ow' s (unview d (g d) av)
  | .dead, _ => trivial
  | .v k c, h => by show VR F B w (ow' s) (.v k c) (tm' s); rw [ho s hsd, ht s hsd]; exact h
  | .agg f cs, h => by show VR F B w (ow' s) (.agg f cs) (tm' s); rw [ho s hsd, ht s hsd]; exact h
  | .tup l, h => by show VR F B w (ow' s) (.tup l) (tm' s); rw [ho s hsd, ht s hsd]; exact h
  | .box cs, h => by show VR F B w (ow' s) (.box cs) (tm' s); rw [ho s hsd, ht s hsd]; exact h
  | .cond k a, _ => trivial
  | .faddr f cs, h => by
    obtain ⟨b, o, vs, h1, h2, h3⟩ := h
    exact ⟨b, o, vs, by rw [ht s hsd]; exact h1, h2, h3⟩
  | .view n o, h => by
    by_cases hn : n = d
    · have hb : Nat.beq n d = true := by rw [hn]; exact Nat.beq_refl d
      simp only [Go.Proofs.Ytopcofkpggefkaa.unview, hb]
      subst hn
      cases o with
      | some j => cases hgd : g n <;> trivial
      | none =>
        cases hgd : g n with
        | v k c =>
          cases k with
          | acc f =>
            rw [hgd] at hd
            have h' : VR F B w (ow n) (.v (.acc f) c) (tm n) := hd
            have hp := AccR.plain (B := B) h' (ow := ow' s)
            rw [← h.1, ← ht s hsd] at hp
            cases f <;> exact hp
          | _ => trivial
        | _ => trivial
    · have hb := beq_ne hn
      simp only [Go.Proofs.Ytopcofkpggefkaa.unview, hb]
      cases o with
      | none => exact ⟨by rw [ht s hsd, ht n hn]; exact h.1, by rw [hg n hn h.2.1]; exact h.2.1, h.2.2⟩
      | some j =>
        obtain ⟨h0, cs, b, f, c, h1, h2, h3, h4⟩ := h
        exact ⟨h0, cs, b, f, c, by rw [hg n hn (by rw [h1]; rfl)]; exact h1, h2, by rw [ht n hn]; exact h3, by rw [ht s hsd]; exact h4⟩
  | .baddr n o, h => by
    by_cases hn : n = d
    · have hb : Nat.beq n d = true := by rw [hn]; exact Nat.beq_refl d
      simp only [Go.Proofs.Ytopcofkpggefkaa.unview, hb]
      trivial
    · have hb := beq_ne hn
      simp only [Go.Proofs.Ytopcofkpggefkaa.unview, hb]
      obtain ⟨h0, cs, b, h1, h2, h3⟩ := h
      exact ⟨h0, cs, b, by rw [hg n hn (by rw [h1]; rfl)]; exact h1, by rw [ht n hn]; exact h2, by rw [ht s hsd]; exact h3⟩
  | .oaddr n i o, h => by
    by_cases hn : n = d
    · have hb : Nat.beq n d = true := by rw [hn]; exact Nat.beq_refl d
      simp only [Go.Proofs.Ytopcofkpggefkaa.unview, hb]
      trivial
    · have hb := beq_ne hn
      simp only [Go.Proofs.Ytopcofkpggefkaa.unview, hb]
      obtain ⟨h0, t, xs, b, cap, f, h1, h2, h3, h4, h5⟩ := h
      exact ⟨h0, t, xs, b, cap, f, by rw [hg n hn (by rw [h1]; rfl)]; exact h1, by rw [ht n hn]; exact h2, h3, h4, by rw [ht s hsd]; exact h5⟩

theorem getE_setE (e : Env) (d : Nat) (a : AV) (n : Nat) : getE (setE e d a) n = if n = d then a else getE e n := by
  unfold setE
  by_cases h : n = d
  · subst h; simp [getE, Nat.beq_refl]
  · rw [if_neg h]
    simp only [getE, beq_ne (fun e : d = n => h e.symm)]

theorem getE_mapE (f : AV → AV) (hf : f .dead = .dead) : ∀ (e : Env) (n : Nat), getE (mapE f e) n = f (getE e n)
  | [], n => hf.symm
  | (m, a) :: r, n => by
    simp only [mapE, getE]
    cases Nat.beq m n with
    | true => rfl
    | false => exact getE_mapE f hf r n

theorem unview_dead (d : Nat) (o : AV) : unview d o .dead = .dead := rfl
theorem unview_bears (d : Nat) (o : AV) {a : AV} (h : bears a = true) : unview d o a = a := by
  cases a with
  | v k c => rfl
  | box cs => rfl
  | _ => simp [bears] at h
theorem unview_isDead (d : Nat) (o : AV) {a : AV} (h : isDead (unview d o a) = false) : isDead a = false := by
  cases a <;> first | rfl | (simp [unview, isDead] at h)

theorem getD_set (a : Act) (d : Nat) (v : Value) (hd : d < a.tmps.size) (n : Nat) : (a.put (some d) v).tmps.getD n undef = if n = d then v else a.tmps.getD n undef := by
  simp only [Act.put]
  by_cases h : n = d
  · subst h; simp [Array.getD, hd]
  · rw [if_neg h]
    have : d ≠ n := fun e => h e.symm
    simp only [Array.getD_eq_getD_getElem?, Array.getElem?_setIfInBounds_ne this]

theorem put_size (a : Act) (d : Option Nat) (v : Value) : (a.put d v).tmps.size = a.tmps.size := by
  cases d <;> simp [Act.put]

theorem Tms.put {N : NP} {IoB : List Nat} {a : Act} (h : Tms N IoB a.tmps) {d : Nat} (hd : N.ok d = true) (v : Value) : Tms N IoB (a.put (some d) v).tmps :=
  ⟨by rw [put_size]; exact h.size, fun s hs b hb => by rw [getD_set a d v (by rw [h.size]; exact NP.ok_lt hd), if_neg (NP.ok_ne hd hs)]; exact h.rd s hs b hb,
   fun p hp => by rw [getD_set a d v (by rw [h.size]; exact NP.ok_lt hd), if_neg (NP.ok_k hd p hp)]; exact h.kp p hp⟩

/-- A new value in slot 'd', with more memory: the abstract state follows. -/
theorem SimX.put {B : Nat} {IoB : List Nat} {F0 F F' : Fz} {e : Env} {tm : Nat → Value} {w w' : World} {ow : Nat → Option Nat → Option Nat} {owd : Option Nat → Option Nat} {d : Nat} {av : AV} {v : Value}
    (hs : SimX B IoB F0 e tm w F ow) (hBw : B ≤ w.heap.size) (hg : Grow F w F' w') (hl' : Live F' w') (hf : ∀ i b, owd i = some b → B ≤ b ∧ b < w'.heap.size ∧ ∀ s i', ow s i' ≠ some b)
    (hi : ∀ i i' b, owd i = some b → owd i' = some b → i = i')
    (hav : ∀ g', (∀ n, n ≠ d → bears (getE e n) = true → g' n = getE e n) → (isDead (getE e d) = true → ∀ n, n ≠ d → g' n = getE e n) →
          SR F' B w' (fun n => if n = d then v else tm n) g' (fun s => if s = d then owd else ow s) d av) :
    SimX B IoB F0 (put e d av) (fun n => if n = d then v else tm n) w' F' (fun s => if s = d then owd else ow s) := by
  have h2 : Live F w := hs.live
  refine ⟨fun b o hb => hg.sub _ _ (hs.sub _ _ hb), ?_, hl', ?_, ?_, ?_⟩
  · intro b o hb
    rcases hg.new b o hb with hb | hb
    · exact hs.new b o hb
    · exact .inr (.inl (Nat.le_trans hBw hb))
  · intro s i s' i' b hs1 hs2
    by_cases e1 : s = d <;> by_cases e2 : s' = d <;> simp only [e1, e2, if_true, if_false] at hs1 hs2
    · exact ⟨by rw [e1, e2], hi i i' b hs1 hs2⟩
    · exact absurd hs2 ((hf i b hs1).2.2 s' i')
    · exact absurd hs1 ((hf i' b hs2).2.2 s i)
    · exact hs.inj s i s' i' b hs1 hs2
  · intro s i b hs1
    by_cases e1 : s = d
    · simp only [e1, if_true] at hs1
      have := hf i b hs1
      exact ⟨this.2.1, .inl this.1⟩
    · simp only [e1, if_false] at hs1
      have := hs.bd s i b hs1
      exact ⟨Nat.lt_of_lt_of_le this.1 hg.size, this.2⟩
  · have ht : ∀ n, n ≠ d → (fun n => if n = d then v else tm n) n = tm n := fun n hn => by simp [hn]
    have ho : ∀ n, n ≠ d → (fun s => if s = d then owd else ow s) n = ow n := fun n hn => by simp [hn]
    intro s
    unfold Go.Proofs.Ytopcofkpggefkaa.put
    cases hdd : isDead (getE e d) with
    | true =>
      simp only []
      have hge : ∀ n, n ≠ d → getE (setE e d av) n = getE e n := fun n hn => by rw [getE_setE, if_neg hn]
      rw [getE_setE]
      by_cases e1 : s = d
      · rw [if_pos e1, e1]
        exact hav _ (fun n hn _ => hge n hn) (fun _ n hn => hge n hn)
      · rw [if_neg e1]
        exact SR.dead e1 hdd ht (fun n hn => hge n hn) ho ((hs.sr s).grow hg h2)
    | false =>
      simp only []
      have hgm : ∀ n, n ≠ d → getE (setE (mapE (unview d (getE e d)) e) d av) n = unview d (getE e d) (getE e n) := fun n hn => by
        rw [getE_setE, if_neg hn, getE_mapE _ (unview_dead _ _)]
      have hge : ∀ n, n ≠ d → bears (getE e n) = true → getE (setE (mapE (unview d (getE e d)) e) d av) n = getE e n := fun n hn hb => by
        rw [hgm n hn, unview_bears _ _ hb]
      rw [getE_setE]
      by_cases e1 : s = d
      · rw [if_pos e1, e1]
        exact hav _ hge (fun hx => absurd hx (by simp [hdd]))
      · rw [if_neg e1, getE_mapE _ (unview_dead _ _)]
        exact SR.unview e1 ht hge ho ((hs.sr d).grow hg h2) ((hs.sr s).grow hg h2)
end Go.Proofs.Ytopcofkpggefkaa

namespace Go.Proofs.Ytopcofkpggefkaa
open Go

/-- The value of a zero cell. -/
def zv : C → Value
  | .int k n => .int k n
  | .bool b => .bool b
  | .str s => .string s
  | .nl _ => .slice none 0 0
  | .lst _ _ => .slice none 0 0
def zOk : List C → List Value → Bool
  | [], [] => true
  | .int k n :: r, .int k' n' :: r' => kindEq k k' && (decide (n = n') && zOk r r')
  | .bool b :: r, .bool b' :: r' => (b == b') && zOk r r'
  | .str s :: r, .string s' :: r' => (s.data.toList == [] && s'.data.toList == []) && zOk r r'
  | .nl _ :: r, .slice none 0 0 :: r' => zOk r r'
  | _, _ => false
def fsOk (P : Program) : List (Nat × Nat) → List Field → Bool
  | [], [] => true
  | (o, n) :: r, f :: r' => Nat.beq o f.offset && (Nat.beq n (P.cellsOf f.type) && (Nat.blt 0 n && fsOk P r r'))
  | _, _ => false
/-- Asked of each type that is listed. -/
def tdChk (P : Program) (t : Nat) (d : TD) : Bool :=
  match P.info? t, P.underlying t with
  | some i, some u => Nat.beq i.size d.size && (Nat.ble i.bytes 128 && ((match i.zero with
      | some z => zOk d.zero z.cells.toList
      | none => false) && ((match d.sh, u, d.zero with
      | .scalar, .int k, [.int k' _] => kindEq k k'
      | .scalar, .bool, [.bool _] => true
      | .scalar, .string, [.str _] => true
      | .struct fs, .struct fields, _ => fsOk P fs fields.toList
      | .slice e, .slice e', [.nl _] => Nat.beq e e'
      | _, _, _ => false) && (match d.ty with
      | some y => Nat.beq d.size y.size
      | none => true))))
  | _, _ => false

theorem kindEq_eq : ∀ {k k' : IntKind}, kindEq k k' = true → k = k' := by
  intro k k' h
  cases k <;> cases k' <;> first | rfl | (simp [kindEq] at h)

theorem zOk_eq : ∀ {cs : List C} {vs : List Value}, zOk cs vs = true → vs = cs.map zv
  | [], [], _ => rfl
  | .int k n :: r, .int k' n' :: r', h => by
    simp only [zOk, Bool.and_eq_true, decide_eq_true_eq] at h
    obtain ⟨h1, h2, h3⟩ := h
    rw [kindEq_eq h1, h2, zOk_eq h3]; rfl
  | .bool b :: r, .bool b' :: r', h => by
    simp only [zOk, Bool.and_eq_true, beq_iff_eq] at h
    rw [h.1, zOk_eq h.2]; rfl
  | .str s :: r, .string s' :: r', h => by
    simp only [zOk, Bool.and_eq_true, beq_iff_eq] at h
    obtain ⟨⟨h1, h2⟩, h3⟩ := h
    have : s = s' := by
      obtain ⟨⟨x⟩⟩ := s; obtain ⟨⟨y⟩⟩ := s'
      simp at h1 h2
      rw [h1, h2]
    rw [this, zOk_eq h3]; rfl
  | .nl t :: r, v :: r', h => by
    match v, h with
    | .slice none 0 0, h => simp only [zOk] at h; rw [zOk_eq h]; rfl
  | .int _ _ :: _, [], h => by simp [zOk] at h
  | .bool _ :: _, [], h => by simp [zOk] at h
  | .str _ :: _, [], h => by simp [zOk] at h
  | .nl _ :: _, [], h => by simp [zOk] at h
  | .lst _ _ :: _, _, h => by simp [zOk] at h
  | [], _ :: _, h => by simp [zOk] at h

structure TDok (P : Program) (t : Nat) (d : TD) : Prop where
  info : ∃ i z, P.info? t = some i ∧ i.size = d.size ∧ i.bytes ≤ 128 ∧ i.zero = some z ∧ zOk d.zero z.cells.toList = true
  und : ∃ u, P.underlying t = some u ∧ match d.sh with
    | .scalar => (∃ k n, u = .int k ∧ d.zero = [.int k n]) ∨ (∃ b, u = .bool ∧ d.zero = [.bool b]) ∨ ∃ s, u = .string ∧ d.zero = [.str s]
    | .struct fs => ∃ fields, u = .struct fields ∧ fsOk P fs fields.toList = true
    | .slice e => u = .slice e
  ty : ∀ y, d.ty = some y → d.size = y.size

theorem tdChk_ok {P : Program} {t : Nat} {d : TD} (h : tdChk P t d = true) : TDok P t d := by
  obtain ⟨sh, size, zero, ty, eq⟩ := d
  unfold tdChk at h
  cases hi : P.info? t with
  | none => simp [hi] at h
  | some i =>
    cases hu : P.underlying t with
    | none => simp [hi, hu] at h
    | some u =>
      simp only [hi, hu, Bool.and_eq_true] at h
      obtain ⟨h1, h2, h3, h4, h5⟩ := h
      cases hz : i.zero with
      | none => simp [hz] at h3
      | some z =>
        simp only [hz] at h3
        refine ⟨⟨i, z, hi, Nat.eq_of_beq_eq_true h1, Nat.le_of_ble_eq_true h2, hz, h3⟩, ⟨u, hu, ?_⟩, ?_⟩
        · cases sh with
          | scalar =>
            simp only
            cases u with
            | int k =>
              left
              match zero, h4 with
              | [.int k' n], h4 => exact ⟨k, n, rfl, by rw [kindEq_eq h4]⟩
            | bool =>
              right; left
              match zero, h4 with
              | [.bool b], _ => exact ⟨b, rfl, rfl⟩
            | string =>
              right; right
              match zero, h4 with
              | [.str b], _ => exact ⟨b, rfl, rfl⟩
            | _ => simp at h4
          | struct fs =>
            cases u with
            | struct fields => exact ⟨fields, rfl, by simpa using h4⟩
            | _ => simp at h4
          | slice e =>
            cases u with
            | slice e' =>
              match zero, h4 with
              | [.nl y], h4 => simp only at h4 ⊢; rw [Nat.eq_of_beq_eq_true h4]
            | _ => simp at h4
        · intro y hy
          simp only at hy
          subst hy
          exact Nat.eq_of_beq_eq_true h5

/-- What a value is, wherever it stands. -/
def AVR (F : Fz) (B : Nat) (w : World) (tm : Nat → Value) (ge : Get) (owd : Option Nat → Option Nat) : AV → Value → Prop
  | .view n none, v => v = tm n ∧ bears (ge n) = true
  | .view n (some j), v => ∃ cs b f c, ge n = .box cs ∧ cs[j]? = some (.acc f, c) ∧ tm n = .pointer (some ⟨b, 0, none⟩) ∧ w.cell? ⟨b, j, none⟩ = some v
  | .baddr n o, v => ∃ cs b, ge n = .box cs ∧ tm n = .pointer (some ⟨b, 0, none⟩) ∧ v = .pointer (some ⟨b, o, none⟩)
  | .faddr f cs, v => ∃ b o vs, v = .pointer (some ⟨b, o, none⟩) ∧ RCs F (lof B f) w cs vs ∧ ∀ j u, vs[j]? = some u → F b (o + j) ∧ w.cell? ⟨b, o + j, none⟩ = some u
  | .oaddr n i o, v => ∃ t xs b cap f, ge n = .v (.own f) (.lst t xs) ∧ tm n = .slice (some ⟨b, 0, none⟩) xs.length cap ∧ 0 ≤ i ∧ i < xs.length ∧
      v = .pointer (some ⟨b, i.toNat * t.size + o, none⟩)
  | .cond _ _, _ => False
  | a, v => VR F B w owd a v

theorem SR.avr {F : Fz} {B : Nat} {w : World} {tm : Nat → Value} {ge : Get} {ow : Nat → Option Nat → Option Nat} {n : Nat} {av : AV} (h : SR F B w tm ge ow n av) (hc : ∀ k a, av ≠ .cond k a) :
    AVR F B w tm ge (ow n) av (tm n) := by
  cases av with
  | view m o =>
    cases o with
    | none => exact ⟨h.1, h.2.1⟩
    | some j => exact h.2
  | baddr m o => exact h.2
  | faddr f cs => exact h
  | oaddr m i o => exact h.2
  | cond k a => exact absurd rfl (hc k a)
  | _ => exact h

theorem AVR.sr {F : Fz} {B : Nat} {w : World} {tm : Nat → Value} {ge g' : Get} {ow : Nat → Option Nat → Option Nat} {owd : Option Nat → Option Nat} {d : Nat} {av : AV} {v : Value}
    (h : AVR F B w tm ge owd av v) (hd : onSlot d av = false) (hg : ∀ n, n ≠ d → bears (ge n) = true → g' n = ge n) :
    SR F B w (fun n => if n = d then v else tm n) g' (fun s => if s = d then owd else ow s) d av := by
  have hne : ∀ {n : Nat}, Nat.beq n d = false → n ≠ d := fun hb e => by rw [e, Nat.beq_refl] at hb; exact absurd hb (by simp)
  cases av with
  | view m o =>
    have hm : m ≠ d := hne (by cases o <;> exact hd)
    cases o with
    | none => exact ⟨by simp only [if_true, if_neg hm]; exact h.1, by rw [hg m hm h.2]; exact h.2, hm⟩
    | some j =>
      obtain ⟨cs, b, f, c, h1, h2, h3, h4⟩ := h
      exact ⟨hm, cs, b, f, c, by rw [hg m hm (by rw [h1]; rfl)]; exact h1, h2, by simp only [if_neg hm]; exact h3, by simp only [if_true]; exact h4⟩
  | baddr m o =>
    have hm : m ≠ d := hne hd
    obtain ⟨cs, b, h1, h2, h3⟩ := h
    exact ⟨hm, cs, b, by rw [hg m hm (by rw [h1]; rfl)]; exact h1, by simp only [if_neg hm]; exact h2, by simp only [if_true]; exact h3⟩
  | faddr f cs =>
    obtain ⟨b, o, vs, h1, h2, h3⟩ := h
    exact ⟨b, o, vs, by simp only [if_true]; exact h1, h2, h3⟩
  | oaddr m i o =>
    have hm : m ≠ d := hne hd
    obtain ⟨t, xs, b, cap, f, h1, h2, h3, h4, h5⟩ := h
    exact ⟨hm, t, xs, b, cap, f, by rw [hg m hm (by rw [h1]; rfl)]; exact h1, by simp only [if_neg hm]; exact h2, h3, h4, by simp only [if_true]; exact h5⟩
  | cond k a => exact h.elim
  | dead => trivial
  | v k c => show VR F B w _ (.v k c) _; simp only [if_true]; exact h
  | agg f cs => show VR F B w _ (.agg f cs) _; simp only [if_true]; exact h
  | tup l => show VR F B w _ (.tup l) _; simp only [if_true]; exact h
  | box cs => show VR F B w _ (.box cs) _; simp only [if_true]; exact h

/-- What is known while an operation runs: 'g' is what it may look at, 'ge' what is. -/
structure Kn (F : Fz) (B : Nat) (w : World) (tm : Nat → Value) (ge g : Get) (ow : Nat → Option Nat → Option Nat) : Prop where
  live : Live F w
  sr : ∀ n, g n = .dead ∨ (SR F B w tm ge ow n (g n) ∧ (∀ k a, g n ≠ .cond k a) ∧ (bears (g n) = true → ge n = g n))

theorem Kn.avr {F : Fz} {B : Nat} {w : World} {tm : Nat → Value} {ge g : Get} {ow : Nat → Option Nat → Option Nat} (h : Kn F B w tm ge g ow) (n : Nat) :
    AVR F B w tm ge (ow n) (g n) (tm n) := by
  rcases h.sr n with h | h
  · rw [h]; trivial
  · exact h.1.avr h.2.1

theorem Kn.bears {F : Fz} {B : Nat} {w : World} {tm : Nat → Value} {ge g : Get} {ow : Nat → Option Nat → Option Nat} (h : Kn F B w tm ge g ow) (n : Nat) (hb : bears (g n) = true) : ge n = g n := by
  rcases h.sr n with h | h
  · rw [h] at hb; simp [Go.Proofs.Ytopcofkpggefkaa.bears] at hb
  · exact h.2.2 hb

/-- An operand, read. -/
theorem rdo_avr {F : Fz} {B : Nat} {w : World} {a : Act} {ge g : Get} {ow : Nat → Option Nat → Option Nat} (h : Kn F B w (fun n => a.tmps.getD n undef) ge g ow) (tt : TT) (t : Nat) (x : Operand) :
    ∃ o, AVR F B w (fun n => a.tmps.getD n undef) ge o (rdo tt g t x) (a.eval x) := by
  cases x with
  | tmp n => exact ⟨ow n, h.avr n⟩
  | const v =>
    refine ⟨fun _ => none, ?_⟩
    show AVR F B w _ ge _ (match constC tt t v with | some c => .v .fr c | none => .dead) v
    cases hc : constC tt t v with
    | none => trivial
    | some c =>
      show RC F B w c v
      unfold constC at hc
      split at hc
      · cases hc; exact .int _ _
      · cases hc; exact .bool _
      · cases hc; exact .str _
      · split at hc
        · cases hc; exact .nl _
        · cases hc
      · cases hc
  | global n => exact ⟨fun _ => none, trivial⟩
  | func n => exact ⟨fun _ => none, trivial⟩

/-- What 'plainR' tells of a value. -/
def PlR (F : Fz) (B : Nat) (w : World) (ge : Get) (ow : Nat → Option Nat → Option Nat) (bo : Bool) (p : PV) (v : Value) : Prop :=
  match bo with
  | false => PVR F B w p v
  | true => ∃ f c m, p = ⟨f, false, [c]⟩ ∧ ge m = .v (.own f) c ∧ OwnR F (lof B f) w (ow m none) c v

theorem PVR_frK {F : Fz} {B : Nat} {w : World} {f : Bool} {c : C} {v : Value} (h : RC F (lof B f) w c v) : PVR F B w ⟨f, false, [c]⟩ v := h

theorem plainR_ok {F : Fz} {B : Nat} {w : World} {tm : Nat → Value} {ge g : Get} {ow : Nat → Option Nat → Option Nat} (h : Kn F B w tm ge g ow) {o : Option Nat → Option Nat} {av : AV} {v : Value}
    (hav : AVR F B w tm ge o av v) (ho : ∀ f c, av = .v (.own f) c → ∃ m, o none = ow m none ∧ ge m = av) {bo : Bool} {p : PV} (hp : plainR g av = some (bo, p)) : PlR F B w ge ow bo p v := by
  cases av with
  | dead => simp [plainR] at hp
  | v k c =>
    cases k with
    | sh => simp [plainR] at hp; obtain ⟨rfl, rfl⟩ := hp; exact hav
    | fr => simp [plainR] at hp; obtain ⟨rfl, rfl⟩ := hp; exact hav
    | acc f => simp [plainR] at hp; obtain ⟨rfl, rfl⟩ := hp; exact PVR_frK hav.1
    | own f =>
      simp [plainR] at hp; obtain ⟨rfl, rfl⟩ := hp
      obtain ⟨m, hm, hgm⟩ := ho f c rfl
      refine ⟨f, c, m, rfl, hgm, ?_⟩
      rw [← hm]
      exact hav
  | agg f cs => simp [plainR] at hp; obtain ⟨rfl, rfl⟩ := hp; exact hav
  | tup l => simp [plainR] at hp
  | cond k a => simp [plainR] at hp
  | box cs => simp [plainR] at hp
  | view n i =>
    cases i with
    | none =>
      simp only [plainR] at hp
      have hn := h.avr n
      have hb := h.bears n
      cases hgn : g n with
      | v k c =>
        rw [hgn] at hp hn
        cases k with
        | acc f =>
          simp at hp; obtain ⟨rfl, rfl⟩ := hp
          rw [hav.1]; exact PVR_frK hn.1
        | own f =>
          simp at hp; obtain ⟨rfl, rfl⟩ := hp
          exact ⟨f, c, n, rfl, by rw [hb (by rw [hgn]; rfl), hgn], by rw [hav.1]; exact hn⟩
        | _ => simp at hp
      | _ => rw [hgn] at hp; simp at hp
    | some j =>
      simp only [plainR] at hp
      obtain ⟨cs, b, f, c, h1, h2, h3, h4⟩ := hav
      cases hgn : g n with
      | box ds =>
        rw [hgn] at hp
        have hge : ge n = .box ds := by rw [h.bears n (by rw [hgn]; rfl), hgn]
        rw [h1] at hge
        cases hge
        simp only [h2] at hp
        simp at hp; obtain ⟨rfl, rfl⟩ := hp
        have hn := h.avr n
        rw [hgn] at hn
        obtain ⟨b', vs, e1, e2, e3, e4, e5, e6⟩ := hn
        rw [h3] at e1
        cases e1
        have hv : vs[j]? = some v := by rw [← e3.cell j]; exact h4
        exact PVR_frK (e6 j _ v h2 hv).1
      | _ => rw [hgn] at hp; simp at hp
  | baddr n i => simp [plainR] at hp
  | faddr f cs => simp [plainR] at hp
  | oaddr n i o => simp [plainR] at hp

theorem PlR.norm {F : Fz} {B : Nat} {w : World} {ge : Get} {ow : Nat → Option Nat → Option Nat} {bo : Bool} {f x : Bool} {cs : List C} {v : Value} (h : PlR F B w ge ow bo ⟨f, x, cs⟩ v) : PlR F B w ge ow bo ⟨f, x, norms cs⟩ v := by
  cases bo with
  | false =>
    cases x with
    | true => obtain ⟨vs, rfl, h⟩ := h; exact ⟨vs, rfl, h.norms⟩
    | false =>
      match cs, h with
      | [c], h => exact RC.norm h
  | true =>
    obtain ⟨f', c, m, hp, hge, h⟩ := h
    cases hp
    rcases h with ⟨t, h1, h2⟩ | ⟨t, xs, b, cap, cs, vs, h1, h2⟩
    · subst h1
      exact ⟨f, .lst t [], m, rfl, hge, .inl ⟨t, rfl, h2⟩⟩
    · subst h1
      exact ⟨f, .lst t xs, m, rfl, hge, .inr ⟨t, xs, b, cap, cs, vs, rfl, h2⟩⟩

theorem rdo_own {tt : TT} {g : Get} {t : Nat} {x : Operand} {f : Bool} {c : C} (h : rdo tt g t x = .v (.own f) c) : ∃ n, x = .tmp n := by
  cases x with
  | tmp n => exact ⟨n, rfl⟩
  | const v =>
    simp only [rdo] at h
    split at h <;> cases h
  | _ => simp [rdo] at h

theorem plainR_rdo {F : Fz} {B : Nat} {w : World} {a : Act} {ge g : Get} {ow : Nat → Option Nat → Option Nat} (h : Kn F B w (fun n => a.tmps.getD n undef) ge g ow) {tt : TT} {t : Nat} {x : Operand}
    {bo : Bool} {p : PV} (hp : plainR g (rdo tt g t x) = some (bo, p)) : PlR F B w ge ow bo p (a.eval x) := by
  cases x with
  | tmp n => exact plainR_ok h (o := ow n) (h.avr n) (fun f c e => ⟨n, rfl, by have e' : g n = .v (.own f) c := e; show ge n = g n; exact h.bears n (by rw [e']; rfl)⟩) hp
  | const v =>
    obtain ⟨o, ho⟩ := rdo_avr h tt t (.const v)
    exact plainR_ok h ho (fun f c e => absurd (rdo_own e) (by simp)) hp
  | global n => simp [rdo, plainR] at hp
  | func n => simp [rdo, plainR] at hp

theorem plain_rdo {F : Fz} {B : Nat} {w : World} {a : Act} {ge g : Get} {ow : Nat → Option Nat → Option Nat} (h : Kn F B w (fun n => a.tmps.getD n undef) ge g ow) {tt : TT} {t : Nat} {x : Operand}
    {bo : Bool} {p : PV} (hp : plain g (rdo tt g t x) = some (bo, p)) : PlR F B w ge ow bo p (a.eval x) := by
  unfold plain at hp
  cases hq : plainR g (rdo tt g t x) with
  | none => rw [hq] at hp; simp at hp
  | some q =>
    obtain ⟨b', f', x', cs'⟩ := q
    rw [hq] at hp
    simp at hp
    obtain ⟨rfl, rfl⟩ := hp
    exact (plainR_rdo h hq).norm

/-- An int that is read. -/
theorem PlR.int {F : Fz} {B : Nat} {w : World} {ge : Get} {ow : Nat → Option Nat → Option Nat} {bo f : Bool} {k : IntKind} {n : Int} {v : Value} (h : PlR F B w ge ow bo ⟨f, false, [.int k n]⟩ v) : v = .int k n := by
  cases bo with
  | false => cases h; rfl
  | true => obtain ⟨f', c, m, hp, _, h⟩ := h; cases hp; rcases h with ⟨t, h1, _⟩ | ⟨t, xs, b, cap, cs, vs, h1, _⟩ <;> cases h1
theorem PlR.bool {F : Fz} {B : Nat} {w : World} {ge : Get} {ow : Nat → Option Nat → Option Nat} {bo f : Bool} {n : Bool} {v : Value} (h : PlR F B w ge ow bo ⟨f, false, [.bool n]⟩ v) : v = .bool n := by
  cases bo with
  | false => cases h; rfl
  | true => obtain ⟨f', c, m, hp, _, h⟩ := h; cases hp; rcases h with ⟨t, h1, _⟩ | ⟨t, xs, b, cap, cs, vs, h1, _⟩ <;> cases h1
theorem PlR.str {F : Fz} {B : Nat} {w : World} {ge : Get} {ow : Nat → Option Nat → Option Nat} {bo f : Bool} {n : ByteArray} {v : Value} (h : PlR F B w ge ow bo ⟨f, false, [.str n]⟩ v) : v = .string n := by
  cases bo with
  | false => cases h; rfl
  | true => obtain ⟨f', c, m, hp, _, h⟩ := h; cases hp; rcases h with ⟨t, h1, _⟩ | ⟨t, xs, b, cap, cs, vs, h1, _⟩ <;> cases h1
theorem PlR.agg {F : Fz} {B : Nat} {w : World} {ge : Get} {ow : Nat → Option Nat → Option Nat} {bo f : Bool} {cs : List C} {v : Value} (h : PlR F B w ge ow bo ⟨f, true, cs⟩ v) :
    ∃ vs : List Value, v = .agg vs.toArray ∧ RCs F (lof B f) w cs vs := by
  cases bo with
  | false => exact h
  | true => obtain ⟨f', c, m, hp, _⟩ := h; cases hp
/-- A list that is read: its length; and, if nobody may write it, its cells. -/
theorem PlR.lst {F : Fz} {B : Nat} {w : World} {ge : Get} {ow : Nat → Option Nat → Option Nat} {bo f : Bool} {t : Ty} {xs : List t.T} {v : Value} (h : PlR F B w ge ow bo ⟨f, false, [.lst t xs]⟩ v) :
    ∃ ad cap, v = .slice ad xs.length cap ∧ (bo = false → RC F (lof B f) w (.lst t xs) v) := by
  cases bo with
  | false =>
    refine ?_
    have h' : RC F (lof B f) w (.lst t xs) v := h
    have h2 := h'
    cases h' with
    | nil => exact ⟨none, 0, rfl, fun _ => h2⟩
    | lst _ _ b o cap vs hb hcap hf hc hr => exact ⟨_, cap, rfl, fun _ => h2⟩
  | true =>
    obtain ⟨f', c, m, hp, _, h⟩ := h
    cases hp
    rcases h with ⟨t', h1, h2⟩ | ⟨t', xs', b, cap, cs, vs, h1, h2, h3⟩
    · cases h1
      exact ⟨none, 0, h2, fun h => by cases h⟩
    cases h1
    exact ⟨_, cap, h2, fun e => by simp at e⟩

theorem int1_ok {F : Fz} {B : Nat} {w : World} {a : Act} {ge g : Get} {ow : Nat → Option Nat → Option Nat} (h : Kn F B w (fun n => a.tmps.getD n undef) ge g ow) {tt : TT} {t : Nat} {x : Operand}
    {n : Int} (hp : int1 g (rdo tt g t x) = some n) : ∃ k, a.eval x = .int k n := by
  unfold int1 at hp
  split at hp
  · rename_i q hq
    cases hp
    exact ⟨_, (plainR_rdo h hq).int⟩
  · simp at hp
end Go.Proofs.Ytopcofkpggefkaa

namespace Go.Proofs.Ytopcofkpggefkaa
open Go

/-- An operation that hands back a value of the kind that was told, and changes nothing that was there. -/
def OpRes (P : Program) (F : Fz) (B : Nat) (w : World) (tm : Nat → Value) (ge : Get) (s : Sem Next) (av : AV) : Prop :=
  ∃ v w' F' owd, s.run P w = .ok (.value v) w' ∧ Grow F w F' w' ∧ Live F' w' ∧ (∀ i b, owd i = some b → w.heap.size ≤ b ∧ b < w'.heap.size) ∧
    (∀ i i' b, owd i = some b → owd i' = some b → i = i') ∧ AVR F' B w' tm ge owd av v

theorem OpRes.same {P : Program} {F : Fz} {B : Nat} {w : World} {tm : Nat → Value} {ge : Get} {s : Sem Next} {av : AV} {v : Value} (hl : Live F w)
    (hr : s.run P w = .ok (.value v) w) (h : AVR F B w tm ge (fun _ => none) av v) : OpRes P F B w tm ge s av :=
  ⟨v, w, F, fun _ => none, hr, Grow.refl F w, hl, fun i b h => by simp at h, fun i i' b h => by simp at h, h⟩

theorem AVR.nob {F : Fz} {B : Nat} {w : World} {tm : Nat → Value} {ge : Get} {o o' : Option Nat → Option Nat} {av : AV} {v : Value} (hb : bears av = false) (h : AVR F B w tm ge o av v) : AVR F B w tm ge o' av v := by
  cases av with
  | v k c => cases k <;> first | exact h | (simp [bears] at hb)
  | box cs => simp [bears] at hb
  | view n i => cases i <;> exact h
  | _ => exact h

section
variable {P : Program} {F : Fz} {B : Nat} {w : World} {a : Act} {ge g : Get} {ow : Nat → Option Nat → Option Nat}

theorem move_res (h : Kn F B w (fun n => a.tmps.getD n undef) ge g ow) (s : Nat) :
    AVR F B w (fun n => a.tmps.getD n undef) ge (fun _ => none) (moveAv g s) (a.eval (.tmp s)) := by
  have hs := h.avr s
  have hb := h.bears s
  unfold moveAv
  split
  · rename_i f c e; exact ⟨rfl, by rw [hb (by rw [e]; rfl), e]; rfl⟩
  · rename_i f c e; exact ⟨rfl, by rw [hb (by rw [e]; rfl), e]; rfl⟩
  · rename_i cs e; exact ⟨rfl, by rw [hb (by rw [e]; rfl), e]; rfl⟩
  · rename_i h1 h2 h3
    refine AVR.nob ?_ hs
    cases hg : g s with
    | v k c => cases k <;> first | rfl | exact absurd hg (h1 _ _) | exact absurd hg (h2 _ _)
    | box cs => exact absurd hg (h3 _)
    | _ => rfl

theorem rdo_const_res (tt : TT) (g : Get) (tm : Nat → Value) (ge : Get) (t : Nat) (x : Operand) (hx : ∀ n, x ≠ .tmp n) :
    AVR F B w tm ge (fun _ => none) (rdo tt g t x) (a.eval x) := by
  cases x with
  | tmp n => exact absurd rfl (hx n)
  | const v =>
    show AVR F B w _ ge _ (match constC tt t v with | some c => .v .fr c | none => .dead) v
    cases hc : constC tt t v with
    | none => trivial
    | some c =>
      show RC F B w c v
      unfold constC at hc
      split at hc
      · cases hc; exact .int _ _
      · cases hc; exact .bool _
      · cases hc; exact .str _
      · split at hc
        · cases hc; exact .nl _
        · cases hc
      · cases hc
  | global n => trivial
  | func n => trivial

theorem bin_int (hl : Live F w) {op : BinOp} {k : IntKind} {x y : Int} {t : Nat} {X Y : Operand} {c : C} {obs : List Prop} {f f' : Bool} (tm : Nat → Value) (ge : Get)
    (hb : bin op ⟨f, false, [.int k x]⟩ ⟨f', false, [.int k y]⟩ = some (c, obs)) (ho : ∀ p ∈ obs, p) :
    OpRes P F B w tm ge (do let r ← (do eqGuard op t X Y (.int k x) (.int k y); binOp op t (.int k x) (.int k y)); pure (.value r)) (.v .fr c) := by
  have hk : kindEq k k = true := by cases k <;> rfl
  simp only [bin, hk] at hb
  cases op <;> simp only [Option.some.injEq, Prod.mk.injEq, reduceCtorEq] at hb <;> obtain ⟨rfl, rfl⟩ := hb <;>
    first
    | (refine OpRes.same hl (v := .int k _) ?_ (.int _ _)
       simp [eqGuard, binOp, Op.intArith, ar]
       done)
    | (refine OpRes.same hl (v := .int k _) ?_ (.int _ _)
       simp [eqGuard, binOp, Op.intBits, xr]
       done)
    | (refine OpRes.same hl (v := .bool _) ?_ (.bool _)
       simp [eqGuard, binOp, Op.intCmp, cmp]
       done)
    | (have hy : y ≠ 0 := ho _ (by simp)
       refine OpRes.same hl (v := .int k _) ?_ (.int _ _)
       simp [eqGuard, binOp, Op.intDiv, ar, hy]
       done)

theorem bin_str (hl : Live F w) {op : BinOp} {x y : ByteArray} {t : Nat} {X Y : Operand} {c : C} {obs : List Prop} {f f' : Bool} (tm : Nat → Value) (ge : Get)
    (hb : bin op ⟨f, false, [.str x]⟩ ⟨f', false, [.str y]⟩ = some (c, obs)) (ho : ∀ p ∈ obs, p) :
    OpRes P F B w tm ge (do let r ← (do eqGuard op t X Y (.string x) (.string y); binOp op t (.string x) (.string y)); pure (.value r)) (.v .fr c) := by
  simp only [bin] at hb
  cases op <;> simp only [Option.some.injEq, Prod.mk.injEq, reduceCtorEq] at hb <;> obtain ⟨rfl, rfl⟩ := hb
  · have hs : lim (ssize x) (ssize y) := ho _ (by simp)
    unfold lim ssize at hs
    have h1 : ¬ (((x.size + y.size : Nat) : Int) > IntKind.i64.max) := by
      have : IntKind.i64.max = 9223372036854775807 := by decide
      omega
    refine OpRes.same hl (v := .string (x ++ y)) ?_ (.str _)
    simp only [eqGuard, binOp, Op.stringOp, if_neg h1]
    simp
  · refine OpRes.same hl (v := .bool _) ?_ (.bool _)
    simp [eqGuard, binOp, Op.stringOp, seq]
  · refine OpRes.same hl (v := .bool _) ?_ (.bool _)
    simp [eqGuard, binOp, Op.stringOp, seq]
end
end Go.Proofs.Ytopcofkpggefkaa

namespace Go.Proofs.Ytopcofkpggefkaa
open Go

section
variable {P : Program} {w : World}

theorem TDok.size {t : Nat} {d : TD} (h : TDok P t d) (w : World) : (sizeOf t).run P w = .ok d.size w := by
  obtain ⟨i, z, hi, hs, _⟩ := h.info
  simp [sizeOf, typeInfo, hi, hs]

theorem TDok.agg {t : Nat} {d : TD} (h : TDok P t d) (w : World) : (Go.isAgg t).run P w = .ok (isAgg d) w := by
  obtain ⟨u, hu, hd⟩ := h.und
  obtain ⟨sh, size, zero, ty, eq⟩ := d
  cases sh with
  | scalar =>
    rcases hd with ⟨k, n, rfl, _⟩ | ⟨_, rfl, _⟩ | ⟨_, rfl, _⟩ <;> simp [Go.isAgg, run_underlying hu, isAgg]
  | struct fs =>
    obtain ⟨fields, rfl, _⟩ := hd
    simp [Go.isAgg, run_underlying hu, isAgg]
  | slice e =>
    cases hd
    simp [Go.isAgg, run_underlying hu, isAgg]

theorem TDok.zeroV {t : Nat} {d : TD} (h : TDok P t d) (w : World) : ∃ z : Value, (zeroValue t).run P w = .ok z w ∧ zOk d.zero z.cells.toList = true := by
  obtain ⟨i, z, hi, hs, hb, hz, hc⟩ := h.info
  exact ⟨z, by simp [zeroValue, typeInfo, hi, hz], hc⟩

theorem addr_add (b o j : Nat) : (⟨b, o, none⟩ : Addr).add j = ⟨b, o + j, none⟩ := by
  unfold Addr.add
  split <;> simp_all

theorem run_loadC {b o n : Nat} {us : List Value} (hn : us.length = n) (hu : ∀ j u, us[j]? = some u → w.cell? ⟨b, o + j, none⟩ = some u) :
    (loadCells ⟨b, o, none⟩ n).run P w = .ok us.toArray w := by
  rw [← hn]
  exact run_loadCells_list (P := P) w ⟨b, o, none⟩ us fun j v hv => by rw [addr_add]; exact hu j v hv

theorem run_load_agg {t : Nat} {d : TD} (h : TDok P t d) (ha : isAgg d = true) {b o : Nat} {us : List Value} (hn : us.length = d.size)
    (hu : ∀ j u, us[j]? = some u → w.cell? ⟨b, o + j, none⟩ = some u) : (Instr.loadAt t (.pointer (some ⟨b, o, none⟩))).run P w = .ok (.agg us.toArray) w := by
  simp [Instr.loadAt, Instr.sureAddr, loadVar, h.agg w, ha, h.size w, run_loadC (P := P) hn hu]

theorem run_load_one {t : Nat} {d : TD} (h : TDok P t d) (ha : isAgg d = false) {b o : Nat} {u : Value} (hu : w.cell? ⟨b, o, none⟩ = some u) :
    (Instr.loadAt t (.pointer (some ⟨b, o, none⟩))).run P w = .ok u w := by
  simp [Instr.loadAt, Instr.sureAddr, loadVar, h.agg w, ha, hu]

theorem boxRead_ok {F : Fz} {B : Nat} {ow : Option Nat → Option Nat} : ∀ {cs : List (K × C)} {vs : List Value} {p : Nat} {f : Bool} {l : List C}, cs.length = vs.length →
    (∀ (j : Nat) (kc : K × C) (u : Value), cs[j]? = some kc → vs[j]? = some u → BoxC F B w (ow (some (p + j))) kc u) → boxRead cs = some (f, l) →
    RCs F (lof B f) w l vs
  | [], [], _, f, l, _, _, hr => by simp [boxRead] at hr; obtain ⟨rfl, rfl⟩ := hr; exact .nil
  | (k, c) :: cs, v :: vs, p, f, l, hl, hb, hr => by
    have h0 := hb 0 (k, c) v rfl rfl
    have ht : ∀ {f' : Bool} {l' : List C}, boxRead cs = some (f', l') → RCs F (lof B f') w l' vs := fun hr' =>
      boxRead_ok (p := p + 1) (by simpa using hl) (fun j kc u hk hu => by
        have := hb (j + 1) kc u (by simpa using hk) (by simpa using hu)
        rwa [show p + (j + 1) = p + 1 + j by omega] at this) hr'
    have h00 : ∀ {lo : Nat} {c : C} {v : Value}, RC F lo w c v → RC F 0 w c v := fun h => h.mono (fun _ _ h => h) (Nat.zero_le _) (fun _ _ _ => rfl)
    have h0s : ∀ {lo : Nat} {c : List C} {v : List Value}, RCs F lo w c v → RCs F 0 w c v := fun h => h.mono (fun _ _ h => h) (Nat.zero_le _) (fun _ _ _ => rfl)
    cases k with
    | sh =>
      simp only [boxRead] at hr
      cases hq : boxRead cs with
      | none => rw [hq] at hr; simp at hr
      | some q =>
        obtain ⟨f', l'⟩ := q
        rw [hq] at hr; simp at hr; obtain ⟨rfl, rfl⟩ := hr
        exact .cons h0 (h0s (ht hq))
    | fr =>
      simp only [boxRead] at hr
      cases hq : boxRead cs with
      | none => rw [hq] at hr; simp at hr
      | some q =>
        obtain ⟨f', l'⟩ := q
        rw [hq] at hr; simp at hr; obtain ⟨rfl, rfl⟩ := hr
        refine .cons ?_ (ht hq)
        cases f' with
        | true => exact h0
        | false => exact h00 h0
    | acc b =>
      simp only [boxRead] at hr
      cases hq : boxRead cs with
      | none => rw [hq] at hr; simp at hr
      | some q =>
        obtain ⟨f', l'⟩ := q
        rw [hq] at hr; simp at hr; obtain ⟨rfl, rfl⟩ := hr
        have h1 : RC F (lof B b) w c v := h0.1
        cases b <;> cases f'
        · exact .cons h1 (ht hq)
        · exact .cons h1 (h0s (ht hq))
        · exact .cons (h00 h1) (ht hq)
        · exact .cons h1 (ht hq)
    | own b => simp [boxRead] at hr
  | [], _ :: _, _, _, _, hl, _, _ => by simp at hl
  | _ :: _, [], _, _, _, hl, _, _ => by simp at hl

variable {F : Fz} {B : Nat} {a : Act} {ge g : Get} {ow : Nat → Option Nat → Option Nat}

/-- An address that is looked through. -/
theorem addrOf_avr (h : Kn F B w (fun n => a.tmps.getD n undef) ge g ow) (x : Operand) :
    AVR F B w (fun n => a.tmps.getD n undef) ge (fun _ => none) (addrOf g x) (a.eval x) ∨ ∃ n k c, x = .tmp n ∧ g n = .v k c ∧ addrOf g x = .v k c := by
  cases x with
  | tmp n =>
    have hn := h.avr n
    have hb := h.bears n
    cases hg : g n with
    | box cs => left; simp only [addrOf, hg]; exact ⟨rfl, by rw [hb (by rw [hg]; rfl), hg]; rfl⟩
    | v k c => right; exact ⟨n, k, c, rfl, hg, by simp only [addrOf, hg]⟩
    | dead => left; simp only [addrOf, hg]; trivial
    | agg f cs => left; rw [hg] at hn; simp only [addrOf, hg]; exact hn
    | tup l => left; rw [hg] at hn; simp only [addrOf, hg]; exact hn
    | cond k a => rw [hg] at hn; exact hn.elim
    | view m o => left; rw [hg] at hn; simp only [addrOf, hg]; cases o <;> exact hn
    | baddr m o => left; rw [hg] at hn; simp only [addrOf, hg]; exact hn
    | faddr f cs => left; rw [hg] at hn; simp only [addrOf, hg]; exact hn
    | oaddr m i o => left; rw [hg] at hn; simp only [addrOf, hg]; exact hn
  | const v => left; trivial
  | global n => left; trivial
  | func n => left; trivial

/-- A box, seen from the slot that bears it. -/
theorem box_of (h : Kn F B w (fun n => a.tmps.getD n undef) ge g ow) {s : Nat} {cs : List (K × C)} (hg : g s = .box cs) :
    ge s = .box cs ∧ ∃ b vs, a.tmps.getD s undef = .pointer (some ⟨b, 0, none⟩) ∧ ow s none = some b ∧ Blk w b vs ∧ (∀ o, ¬ F b o) ∧ vs.length = cs.length ∧
      ∀ j kc u, cs[j]? = some kc → vs[j]? = some u → BoxC F B w (ow s (some j)) kc u := by
  have hn := h.avr s
  have hb := h.bears s
  rw [hg] at hn hb
  exact ⟨hb rfl, hn⟩

theorem own_of (h : Kn F B w (fun n => a.tmps.getD n undef) ge g ow) {s : Nat} {f : Bool} {c : C} (hg : g s = .v (.own f) c) :
    ge s = .v (.own f) c ∧ OwnR F (lof B f) w (ow s none) c (a.tmps.getD s undef) := by
  have hn := h.avr s
  have hb := h.bears s
  rw [hg] at hn hb
  exact ⟨hb rfl, hn⟩

theorem acc_of (h : Kn F B w (fun n => a.tmps.getD n undef) ge g ow) {s : Nat} {f : Bool} {c : C} (hg : g s = .v (.acc f) c) :
    ge s = .v (.acc f) c ∧ AccR F (lof B f) w (ow s none) c (a.tmps.getD s undef) := by
  have hn := h.avr s
  have hb := h.bears s
  rw [hg] at hn hb
  exact ⟨hb rfl, hn⟩

theorem loadBox_ok (h : Kn F B w (fun n => a.tmps.getD n undef) ge g ow) {t : Nat} {d : TD} (hd : TDok P t d) {s o b : Nat} {cs : List (K × C)} {vs : List Value} {r : AV}
    (hg : g s = .box cs) (hp : a.tmps.getD s undef = .pointer (some ⟨b, 0, none⟩)) (hB : Blk w b vs) (hl : vs.length = cs.length)
    (hc : ∀ j kc u, cs[j]? = some kc → vs[j]? = some u → BoxC F B w (ow s (some j)) kc u) (hr : loadBox d s o cs = some r) :
    ∃ v, (Instr.loadAt t (.pointer (some ⟨b, o, none⟩))).run P w = .ok v w ∧ AVR F B w (fun n => a.tmps.getD n undef) ge (fun _ => none) r v := by
  have hge := (box_of h hg).1
  unfold loadBox at hr
  cases ha : isAgg d with
  | true =>
    simp only [ha] at hr
    cases hq : boxRead ((cs.drop o).take d.size) with
    | none => rw [hq] at hr; simp at hr
    | some q =>
      obtain ⟨f, l⟩ := q
      rw [hq] at hr
      cases hle : Nat.ble (o + d.size) cs.length with
      | false => rw [hle] at hr; simp at hr
      | true =>
        rw [hle] at hr; simp at hr; subst hr
        have hle' := Nat.le_of_ble_eq_true hle
        refine ⟨.agg ((vs.drop o).take d.size).toArray, run_load_agg hd ha (by simp; omega) (fun j u hu => ?_), (vs.drop o).take d.size, rfl, ?_⟩
        · rw [hB.cell]
          rw [List.getElem?_take] at hu
          split at hu
          · rw [List.getElem?_drop] at hu; exact hu
          · simp at hu
        · refine boxRead_ok (ow := ow s) (p := o) (by simp [hl]) (fun j kc u hk hu => ?_) hq
          rw [List.getElem?_take] at hk hu
          split at hk
          · rename_i hj
            rw [if_pos hj] at hu
            rw [List.getElem?_drop] at hk hu
            exact hc _ _ _ hk hu
          · simp at hk
  | false =>
    simp only [ha] at hr
    cases hd' : cs.drop o with
    | nil => rw [hd'] at hr; simp at hr
    | cons kc rest =>
      obtain ⟨k, c⟩ := kc
      have hco : cs[o]? = some (k, c) := by
        have : (cs.drop o)[0]? = some (k, c) := by rw [hd']; rfl
        rwa [List.getElem?_drop, Nat.add_zero] at this
      have hlt : o < vs.length := by rw [hl]; exact (List.getElem?_eq_some_iff.1 hco).1
      have hvo : vs[o]? = some vs[o] := List.getElem?_eq_getElem hlt
      have hcell : w.cell? ⟨b, o, none⟩ = some vs[o] := by rw [hB.cell]; exact hvo
      refine ⟨vs[o], run_load_one hd ha hcell, ?_⟩
      have hbc := hc o _ _ hco hvo
      rw [hd'] at hr
      cases k with
      | sh => simp at hr; subst hr; exact hbc
      | fr => simp at hr; subst hr; exact hbc
      | acc f => simp at hr; subst hr; exact ⟨cs, b, f, c, hge, hco, hp, hcell⟩
      | own f => simp at hr

theorem rd_of {t : Ty} {xs : List t.T} {i : Int} (h0 : 0 ≤ i) (h1 : i < xs.length) : xs[i.toNat]? = some (rd t xs i) := by
  have : i.toNat < xs.length := by omega
  unfold rd
  rw [List.getD_eq_getElem?_getD, List.getElem?_eq_getElem this]
  rfl

theorem avr_frK {tm : Nat → Value} {ge : Get} {f : Bool} {c : C} {v : Value} (h : RC F (lof B f) w c v) {o : Option Nat → Option Nat} : AVR F B w tm ge o (.v (frK f) c) v := by
  cases f <;> exact h

theorem avr_kC {tm : Nat → Value} {ge : Get} {f : Bool} {c : C} {v : Value} (h : RC F (lof B f) w c v) {o : Option Nat → Option Nat} : AVR F B w tm ge o (.v (kC f c) c) v := by
  unfold kC
  cases hs : scalC c with
  | true => exact h.scal hs
  | false => exact avr_frK h

theorem PVR_frK' {f : Bool} {c : C} {v : Value} (h : RC F (lof B f) w c v) {o : Option Nat → Option Nat} : VR F B w o (.v (frK f) c) v := by
  cases f <;> exact h

theorem own_cells {f : Bool} {ob : Option Nat} {t : Ty} {xs : List t.T} {v : Value} (h : OwnR F (lof B f) w ob (.lst t xs) v) {i : Int} (h0 : 0 ≤ i) (h1 : i < xs.length) :
    ∃ b cap cs, v = .slice (some ⟨b, 0, none⟩) xs.length cap ∧ ob = some b ∧ Blk w b cs ∧
      ∃ us, RCs F (lof B f) w (cells t (rd t xs i)) us ∧ ∀ j u, us[j]? = some u → cs[i.toNat * t.size + j]? = some u := by
  rcases h with ⟨t', e1, _⟩ | ⟨t', xs', b, cap, cs, vs, e1, e2, e3, e4, e5, e5', e6, e7, e8, e9⟩
  · cases e1; simp at h1; omega
  cases e1
  refine ⟨b, cap, cs, e2, e3, e4, (List.range t.size).map (vs i.toNat), ?_, ?_⟩
  · refine RCs.mk (by simp [cells_size]) (fun j c u hc hu => ?_)
    simp only [List.getElem?_map] at hu
    cases hr : (List.range t.size)[j]? with
    | none => rw [hr] at hu; simp at hu
    | some m =>
      rw [hr] at hu
      have hm : m = j := by
        have := List.getElem?_eq_some_iff.1 hr
        obtain ⟨hj, he⟩ := this
        simpa using he.symm
      simp at hu
      subst hu; subst hm
      exact e9 i.toNat m _ c (rd_of h0 h1) hc
  · intro j u hu
    simp only [List.getElem?_map] at hu
    cases hr : (List.range t.size)[j]? with
    | none => rw [hr] at hu; simp at hu
    | some m =>
      rw [hr] at hu
      obtain ⟨hj, he⟩ := List.getElem?_eq_some_iff.1 hr
      have hm : m = j := by simpa using he.symm
      simp at hu
      subst hu; subst hm
      exact e8 i.toNat m (by omega) (by simpa using hj)

/-- A load. -/
theorem load_ok (h : Kn F B w (fun n => a.tmps.getD n undef) ge g ow) {t : Nat} {d : TD} (hd : TDok P t d) {x : Operand} {r : AV} (hr : loadAv g d (addrOf g x) = some r) :
    ∃ v, (Instr.loadAt t (a.eval x)).run P w = .ok v w ∧ AVR F B w (fun n => a.tmps.getD n undef) ge (fun _ => none) r v := by
  rcases addrOf_avr h x with hx | ⟨n, k, c, hx, hg, he⟩
  · cases hq : addrOf g x with
    | faddr f cs =>
      rw [hq] at hx hr
      obtain ⟨b, o, vs, e1, e2, e3⟩ := hx
      simp only [e1]
      simp only [loadAv] at hr
      cases ha : isAgg d with
      | true =>
        simp only [ha] at hr
        cases hle : Nat.ble d.size cs.length with
        | false => rw [hle] at hr; simp at hr
        | true =>
          rw [hle] at hr; simp at hr; subst hr
          have hle' := Nat.le_of_ble_eq_true hle
          have hlen := e2.length
          refine ⟨.agg (vs.take d.size).toArray, run_load_agg hd ha (by simp; omega) (fun j u hu => ?_), vs.take d.size, rfl, (e2.take _).up⟩
          rw [List.getElem?_take] at hu
          split at hu
          · exact (e3 j u hu).2
          · simp at hu
      | false =>
        simp only [ha] at hr
        cases cs with
        | nil => simp at hr
        | cons c cs =>
          simp at hr; subst hr
          cases e2 with
          | cons hc hcs => exact ⟨_, run_load_one hd ha (e3 0 _ rfl).2, avr_kC hc⟩
    | baddr s o =>
      rw [hq] at hx hr
      obtain ⟨cs, b, e1, e2, e3⟩ := hx
      simp only [loadAv] at hr
      cases hg : g s with
      | box ds =>
        rw [hg] at hr
        obtain ⟨hge, b', vs, q1, q2, q3, q4, q5, q6⟩ := box_of h hg
        simp only [] at e2
        rw [q1] at e2
        cases e2
        rw [e3]
        exact loadBox_ok h hd hg q1 q3 q5 q6 hr
      | _ => rw [hg] at hr; simp at hr
    | view s i =>
      rw [hq] at hx hr
      cases i with
      | some j => simp [loadAv] at hr
      | none =>
        simp only [loadAv] at hr
        cases hg : g s with
        | box ds =>
          rw [hg] at hr
          obtain ⟨hge, b', vs, q1, q2, q3, q4, q5, q6⟩ := box_of h hg
          have : a.eval x = .pointer (some ⟨b', 0, none⟩) := hx.1.trans q1
          rw [this]
          exact loadBox_ok h hd hg q1 q3 q5 q6 hr
        | _ => rw [hg] at hr; simp at hr
    | oaddr s i o =>
      rw [hq] at hx hr
      obtain ⟨t', xs, b, cap, f, e1, e2, e3, e4, e5⟩ := hx
      simp only [loadAv] at hr
      cases hg : g s with
      | v k c =>
        rw [hg] at hr
        cases k with
        | own f' =>
          obtain ⟨hge, ho⟩ := own_of h hg
          rw [e1] at hge
          cases hge
          obtain ⟨b', cap', cs, q1, q2, q3, us, q4, q5⟩ := own_cells ho e3 e4
          simp only [] at e2
          rw [q1] at e2
          obtain ⟨rfl, rfl⟩ : b' = b ∧ cap' = cap := by simpa using e2
          rw [e5]
          simp only [] at hr
          have hcell : ∀ j u, us[j]? = some u → w.cell? ⟨b', i.toNat * t'.size + j, none⟩ = some u := fun j u hu => by rw [q3.cell]; exact q5 j u hu
          cases ha : isAgg d with
          | true =>
            simp only [ha] at hr
            cases hle : Nat.ble (o + d.size) (cells t' (rd t' xs i)).length with
            | false => rw [hle] at hr; simp at hr
            | true =>
              rw [hle] at hr; simp at hr; subst hr
              have hle' := Nat.le_of_ble_eq_true hle
              have hlen := q4.length
              refine ⟨.agg ((us.drop o).take d.size).toArray, run_load_agg hd ha (by simp; omega) (fun j u hu => ?_), (us.drop o).take d.size, rfl, ((q4.drop _).take _).up⟩
              rw [List.getElem?_take] at hu
              split at hu
              · rw [List.getElem?_drop] at hu
                rw [show i.toNat * t'.size + o + j = i.toNat * t'.size + (o + j) by omega]
                exact hcell _ _ hu
              · simp at hu
          | false =>
            simp only [ha] at hr
            have hdr := q4.drop o
            cases hcs : (cells t' (rd t' xs i)).drop o with
            | nil => rw [hcs] at hr; simp at hr
            | cons c rest =>
              rw [hcs] at hr hdr
              simp at hr; subst hr
              cases hus : us.drop o with
              | nil => rw [hus] at hdr; cases hdr
              | cons u us' =>
                rw [hus] at hdr
                cases hdr with
                | cons hc _ =>
                  refine ⟨u, run_load_one hd ha (hcell o u ?_), avr_kC hc⟩
                  have : (us.drop o)[0]? = some u := by rw [hus]; rfl
                  rwa [List.getElem?_drop, Nat.add_zero] at this
        | _ => simp at hr
      | _ => rw [hg] at hr; simp at hr
    | dead => rw [hq] at hr; simp [loadAv] at hr
    | v k c => rw [hq] at hr; simp [loadAv] at hr
    | agg f cs => rw [hq] at hr; simp [loadAv] at hr
    | tup l => rw [hq] at hr; simp [loadAv] at hr
    | cond k a => rw [hq] at hr; simp [loadAv] at hr
    | box cs => rw [hq] at hr; simp [loadAv] at hr
  · rw [he] at hr; simp [loadAv] at hr

theorem fs_get {fs : List (Nat × Nat)} {l : List Field} : ∀ (_h : fsOk P fs l = true) {i o n : Nat}, fs[i]? = some (o, n) → ∃ f, l[i]? = some f ∧ f.offset = o ∧ P.cellsOf f.type = n ∧ 0 < n := by
  induction fs generalizing l with
  | nil => intro h i o n hi; simp at hi
  | cons p fs ih =>
    obtain ⟨o', n'⟩ := p
    cases l with
    | nil => intro h; simp [fsOk] at h
    | cons f l =>
      intro h i o n hi
      simp only [fsOk, Bool.and_eq_true] at h
      cases i with
      | zero =>
        simp at hi
        obtain ⟨rfl, rfl⟩ := hi
        exact ⟨f, rfl, (Nat.eq_of_beq_eq_true h.1).symm, (Nat.eq_of_beq_eq_true h.2.1).symm, by simpa [Nat.blt_eq] using h.2.2.1⟩
      | succ i => simpa using ih h.2.2.2 (by simpa using hi)

theorem cells_info {t n : Nat} (h : P.cellsOf t = n) (hn : 0 < n) (w : World) : (sizeOf t).run P w = .ok n w := by
  unfold Program.cellsOf at h
  cases hi : P.info? t with
  | none => rw [hi] at h; simp at h; omega
  | some i =>
    rw [hi] at h
    simp at h
    simp [sizeOf, typeInfo, hi, h]

/-- A field's address. -/
theorem field_ok (h : Kn F B w (fun n => a.tmps.getD n undef) ge g ow) {t : Nat} {d : TD} (hd : TDok P t d) {fs : List (Nat × Nat)} (hs : d.sh = .struct fs) {x : Operand} {i o n : Nat} {r : AV}
    (hi : fs[i]? = some (o, n)) (hr : fieldAv g o (addrOf g x) = some r) :
    ∃ v, (Instr.fieldAt t (a.eval x) i).run P w = .ok v w ∧ AVR F B w (fun n => a.tmps.getD n undef) ge (fun _ => none) r v := by
  obtain ⟨u, hu, hdu⟩ := hd.und
  rw [hs] at hdu
  obtain ⟨fields, rfl, hf⟩ := hdu
  obtain ⟨f, hfi, hfo, hfn, hpos⟩ := fs_get hf hi
  have hfi' : fields[i]? = some f := by rw [← Array.getElem?_toList]; exact hfi
  have hrun : ∀ b p, (Instr.fieldAt t (.pointer (some ⟨b, p, none⟩)) i).run P w = .ok (.pointer (some ⟨b, p + o, none⟩)) w := by
    intro b p
    have hsz := cells_info (P := P) hfn hpos w
    have hne : ¬ n = 0 := by omega
    simp [Instr.fieldAt, run_underlying hu, hfi', Instr.sureAddr, fieldPlace, hsz, hne, addr_add, hfo]
  rcases addrOf_avr h x with hx | ⟨n', k, c, hx, hg, he⟩
  · cases hq : addrOf g x with
    | faddr f' cs =>
      rw [hq] at hx hr
      obtain ⟨b, p, vs, e1, e2, e3⟩ := hx
      simp [fieldAv] at hr; subst hr
      refine ⟨_, by rw [e1]; exact hrun b p, b, p + o, vs.drop o, rfl, e2.drop o, fun j u hu => ?_⟩
      rw [List.getElem?_drop] at hu
      rw [Nat.add_assoc]
      exact e3 _ _ hu
    | baddr s p =>
      rw [hq] at hx hr
      obtain ⟨cs, b, e1, e2, e3⟩ := hx
      simp [fieldAv] at hr; subst hr
      exact ⟨_, by rw [e3]; exact hrun b p, cs, b, e1, e2, rfl⟩
    | view s j =>
      rw [hq] at hx hr
      cases j with
      | some j => simp [fieldAv] at hr
      | none =>
        simp only [fieldAv] at hr
        cases hg : g s with
        | box ds =>
          rw [hg] at hr
          simp at hr; subst hr
          obtain ⟨hge, b', vs, q1, q2, q3, q4, q5, q6⟩ := box_of h hg
          have : a.eval x = .pointer (some ⟨b', 0, none⟩) := hx.1.trans q1
          exact ⟨_, by rw [this]; exact hrun b' 0, ds, b', hge, q1, by rw [Nat.zero_add]⟩
        | _ => rw [hg] at hr; simp at hr
    | oaddr s j p =>
      rw [hq] at hx hr
      obtain ⟨t', xs, b, cap, f', e1, e2, e3, e4, e5⟩ := hx
      simp [fieldAv] at hr; subst hr
      exact ⟨_, by rw [e5]; exact hrun b _, t', xs, b, cap, f', e1, e2, e3, e4, by rw [Nat.add_assoc]⟩
    | dead => rw [hq] at hr; simp [fieldAv] at hr
    | v k c => rw [hq] at hr; simp [fieldAv] at hr
    | agg f cs => rw [hq] at hr; simp [fieldAv] at hr
    | tup l => rw [hq] at hr; simp [fieldAv] at hr
    | cond k a => rw [hq] at hr; simp [fieldAv] at hr
    | box cs => rw [hq] at hr; simp [fieldAv] at hr
  · rw [he] at hr; simp [fieldAv] at hr
end
end Go.Proofs.Ytopcofkpggefkaa

namespace Go.Proofs.Ytopcofkpggefkaa
open Go

/-- What is asked of the listed types. -/
def EqOk (P : Program) (t : Nat) (n : Nat) : Prop :=
  P.eqGuardType P.depth t = false ∧ ∀ (w : World) (cs ds : List C) (b : Bool), aggEq cs ds = some b → cs.length = n → (Op.equal t (.agg (cs.map zv).toArray) (.agg (ds.map zv).toArray)).run P w = .ok b w
structure TTok (P : Program) (tt : TT) : Prop where
  td : ∀ t d, lk tt t = some d → TDok P t d
  eq : ∀ t d, lk tt t = some d → d.eq = true → EqOk P t d.size

section
variable {P : Program} {tt : TT} (htt : TTok P tt)
include htt

theorem elem_of {t : Nat} {y : Ty} {d : TD} (h : elemTy tt t = some (y, d)) :
    ∃ e, P.underlying t = some (.slice e) ∧ lk tt e = some d ∧ d.ty = some y ∧ TDok P e d ∧ elemId tt t = e := by
  unfold elemTy at h
  split at h
  · rename_i e x1 x2 x3 x4 hl
    split at h
    · rename_i d' hd
      split at h
      · rename_i y' hy
        cases h
        have ht := htt.td _ _ hl
        obtain ⟨u, hu, hdu⟩ := ht.und
        cases hdu
        exact ⟨e, hu, hd, hy, htt.td _ _ hd, by simp [elemId, hl]⟩
      · cases h
    · cases h
  · cases h

theorem elemSz_of {t sz : Nat} (h : elemSz tt t = some sz) : ∃ e, P.underlying t = some (.slice e) ∧ ∀ w, (sizeOf e).run P w = .ok sz w := by
  unfold elemSz at h
  split at h
  · rename_i y d hd
    cases h
    obtain ⟨e, he, _, _, hd', _⟩ := elem_of htt hd
    exact ⟨e, he, fun w => hd'.size w⟩
  · cases h

theorem isStrT_of {t : Nat} (h : isStrT tt t = true) : P.underlying t = some .string := by
  unfold isStrT at h
  split at h
  · rename_i s x1 x2 x3 hl
    obtain ⟨u, hu, hdu⟩ := (htt.td _ _ hl).und
    rcases hdu with ⟨k, n, rfl, h2⟩ | ⟨b, rfl, h2⟩ | ⟨s, rfl, _⟩
    · simp at h2
    · simp at h2
    · exact hu
  · cases h

theorem isSlT_of {t : Nat} (h : isSlT tt t = true) : ∃ e, P.underlying t = some (.slice e) := by
  unfold isSlT at h
  split at h
  · rename_i e x1 x2 x3 x4 hl
    obtain ⟨u, hu, hdu⟩ := (htt.td _ _ hl).und
    cases hdu
    exact ⟨e, hu⟩
  · cases h
end

section
variable {P : Program} {w : World} {F : Fz} {B : Nat}

theorem RC.lo0 {lo : Nat} {c : C} {v : Value} (h : RC F lo w c v) : RC F 0 w c v := h.mono (fun _ _ h => h) (Nat.zero_le _) (fun _ _ _ => rfl)

/-- An element's cells. -/
theorem RC.elem {lo : Nat} {t : Ty} {xs : List t.T} {ad : Option Addr} {n cap : Nat} (h : RC F lo w (.lst t xs) (.slice ad n cap)) {i : Int} (h0 : 0 ≤ i) (h1 : i < xs.length) :
    n = xs.length ∧ ∃ b o us, ad = some ⟨b, o, none⟩ ∧ RCs F lo w (cells t (rd t xs i)) us ∧
      ∀ j u, us[j]? = some u → F b (o + i.toNat * t.size + j) ∧ w.cell? ⟨b, o + i.toNat * t.size + j, none⟩ = some u := by
  cases h with
  | nil => simp at h1; omega
  | lst _ _ b o _ vs hb hcap hf hc hr =>
    refine ⟨rfl, b, o, (List.range t.size).map (vs i.toNat), rfl, ?_, ?_⟩
    · refine RCs.mk (by simp [cells_size]) (fun j c u hcj hu => ?_)
      simp only [List.getElem?_map] at hu
      cases hrr : (List.range t.size)[j]? with
      | none => rw [hrr] at hu; simp at hu
      | some m =>
        rw [hrr] at hu
        obtain ⟨hj, he⟩ := List.getElem?_eq_some_iff.1 hrr
        have hm : m = j := by simpa using he.symm
        simp at hu
        subst hu; subst hm
        exact hr i.toNat m _ c (rd_of h0 h1) hcj
    · intro j u hu
      simp only [List.getElem?_map] at hu
      cases hrr : (List.range t.size)[j]? with
      | none => rw [hrr] at hu; simp at hu
      | some m =>
        rw [hrr] at hu
        obtain ⟨hj, he⟩ := List.getElem?_eq_some_iff.1 hrr
        have hm : m = j := by simpa using he.symm
        simp at hu
        subst hu; subst hm
        rw [Nat.add_assoc]
        have hmj : m < t.size := by simpa using hj
        exact ⟨hf i.toNat m (by omega) hmj, hc i.toNat m (by omega) hmj⟩

/-- A part of a list. -/
theorem RC.part {lo : Nat} {t : Ty} {xs : List t.T} {ad : Option Addr} {n cap : Nat} (h : RC F lo w (.lst t xs) (.slice ad n cap)) {m k : Nat} (h1 : m ≤ k) (h2 : k ≤ xs.length) :
    RC F lo w (.lst t ((xs.take k).drop m)) (sliced ad m k cap t.size) := by
  cases h with
  | nil =>
    have hk : k = 0 := by simpa using h2
    have hm : m = 0 := by omega
    subst hk; subst hm
    simp [sliced]
    exact .nil t
  | lst _ _ b o _ vs hb hcap hf hc hr =>
    have hlen : ((xs.take k).drop m).length = k - m := by simp; omega
    have key : ∀ o', o' = o + m * t.size ∨ (cap = m) → RC F lo w (.lst t ((xs.take k).drop m)) (.slice (some ⟨b, o', none⟩) (k - m) (cap - m)) := by
      intro o' ho'
      rw [← hlen]
      have hi' : ∀ i, i < ((xs.take k).drop m).length → o' = o + m * t.size ∧ i + m < xs.length := by
        intro i hi
        rw [hlen] at hi
        rcases ho' with h | h
        · exact ⟨h, by omega⟩
        · omega
      refine .lst t _ b o' (cap - m) (fun i j => vs (i + m) j) hb (by rw [hlen]; omega) ?_ ?_ ?_
      · intro i j hi hj
        obtain ⟨e, hi2⟩ := hi' i hi
        have := hf (i + m) j hi2 hj
        rw [e, show o + m * t.size + (i * t.size + j) = o + ((i + m) * t.size + j) by rw [Nat.add_mul]; omega]
        exact this
      · intro i j hi hj
        obtain ⟨e, hi2⟩ := hi' i hi
        have := hc (i + m) j hi2 hj
        rw [e, show o + m * t.size + (i * t.size + j) = o + ((i + m) * t.size + j) by rw [Nat.add_mul]; omega]
        exact this
      · intro i j x c hx hcc
        have hx' : xs[i + m]? = some x := by
          rw [List.getElem?_drop, List.getElem?_take] at hx
          split at hx
          · rwa [Nat.add_comm] at hx
          · simp at hx
        exact hr (i + m) j x c hx' hcc
    unfold sliced
    by_cases e : cap = m
    · rw [if_pos e]; exact key o (.inr e)
    · rw [if_neg e]
      simp only [Option.map_some, addr_add]
      exact key _ (.inl rfl)

variable {a : Act} {ge g : Get} {ow : Nat → Option Nat → Option Nat}

theorem run_index {t e sz : Nat} (he : P.underlying t = some (.slice e)) (hz : ∀ w, (sizeOf e).run P w = .ok sz w) {b o len cap : Nat} {k : IntKind} {i : Int} (h0 : 0 ≤ i) (h1 : i < len) :
    (Instr.indexAt t (.slice (some ⟨b, o, none⟩) len cap) (.int k i)).run P w = .ok (.pointer (some ⟨b, o + i.toNat * sz, none⟩)) w := by
  simp [Instr.indexAt, run_underlying he, asIntOf, h0, h1, hz w, addr_add]

/-- An index into a list. -/
theorem index_ok (h : Kn F B w (fun n => a.tmps.getD n undef) ge g ow) {tt : TT} {t e sz : Nat} (he : P.underlying t = some (.slice e)) (hz : ∀ w, (sizeOf e).run P w = .ok sz w)
    {x : Operand} {k : IntKind} {n : Int} {av : AV} {obs : List Prop} {io : Option (Nat × Int)} (hr : indexList g sz n (rdo tt g t x) = some ⟨av, obs, io⟩) (ho : ∀ p ∈ obs, p) :
    io = none ∧ ∃ v, (Instr.indexAt t (a.eval x) (.int k n)).run P w = .ok v w ∧ AVR F B w (fun n => a.tmps.getD n undef) ge (fun _ => none) av v := by
  have plainCase : ∀ {av' : AV}, (match plain g av' with
      | some (false, ⟨f, false, [.lst y xs]⟩) => match Nat.beq sz y.size with
        | true => mk1 (.faddr f (cells y (rd y xs n))) [inb n (lenI y xs)]
        | false => none
      | _ => none) = some ⟨av, obs, io⟩ → (∀ bo p, plain g av' = some (bo, p) → PlR F B w ge ow bo p (a.eval x)) →
      io = none ∧ ∃ v, (Instr.indexAt t (a.eval x) (.int k n)).run P w = .ok v w ∧ AVR F B w (fun n => a.tmps.getD n undef) ge (fun _ => none) av v := by
    intro av' hq hpl
    split at hq
    · rename_i f y xs hp
      have hP := hpl _ _ hp
      cases hsz : Nat.beq sz y.size with
      | false => rw [hsz] at hq; simp at hq
      | true =>
        rw [hsz] at hq
        simp [mk1] at hq
        obtain ⟨rfl, rfl, rfl⟩ := hq
        have hs := Nat.eq_of_beq_eq_true hsz
        have hin : inb n (lenI y xs) := ho _ (by simp)
        obtain ⟨ad, cap, hv, hrc⟩ := hP.lst
        have hrc := hrc rfl
        rw [hv] at hrc ⊢
        obtain ⟨hn, b, o, us, rfl, h1, h2⟩ := hrc.elem hin.1 hin.2
        refine ⟨rfl, _, run_index he hz hin.1 hin.2, b, o + n.toNat * sz, us, rfl, h1, fun j u hu => ?_⟩
        rw [hs]
        exact h2 j u hu
    · cases hq
  have hP : ∀ bo p, plain g (rdo tt g t x) = some (bo, p) → PlR F B w ge ow bo p (a.eval x) := fun bo p hp => plain_rdo h hp
  cases hq : rdo tt g t x with
  | view s i =>
    cases i with
    | some j =>
      rw [hq] at hr hP
      exact plainCase (av' := .view s (some j)) hr hP
    | none =>
      rw [hq] at hr
      obtain ⟨o, hx⟩ := rdo_avr h tt t x
      rw [hq] at hx
      simp only [indexList] at hr
      cases hg : g s with
      | v kk c =>
        rw [hg] at hr
        cases kk with
        | own f =>
          cases c with
          | lst y xs =>
            simp only [] at hr
            cases hsz : Nat.beq sz y.size with
            | false => rw [hsz] at hr; simp at hr
            | true =>
              rw [hsz] at hr
              simp [mk1] at hr
              obtain ⟨rfl, rfl, rfl⟩ := hr
              have hs := Nat.eq_of_beq_eq_true hsz
              have hin : inb n (lenI y xs) := ho _ (by simp)
              obtain ⟨hge, hown⟩ := own_of h hg
              obtain ⟨b, cap, cs, q1, q2, q3, us, q4, q5⟩ := own_cells hown hin.1 hin.2
              have hv : a.eval x = .slice (some ⟨b, 0, none⟩) xs.length cap := hx.1.trans q1
              rw [hv]
              refine ⟨rfl, _, run_index he hz hin.1 hin.2, y, xs, b, cap, f, hge, q1, hin.1, hin.2, ?_⟩
              rw [hs]
              simp
          | _ => simp at hr
        | acc f =>
          cases c with
          | lst y xs =>
            simp only [] at hr
            cases hsz : Nat.beq sz y.size with
            | false => rw [hsz] at hr; simp at hr
            | true =>
              rw [hsz] at hr
              simp [mk1] at hr
              obtain ⟨rfl, rfl, rfl⟩ := hr
              have hs := Nat.eq_of_beq_eq_true hsz
              have hin : inb n (lenI y xs) := ho _ (by simp)
              obtain ⟨hge, hacc⟩ := acc_of h hg
              have hrc : RC F (lof B f) w (.lst y xs) (a.eval x) := by rw [hx.1]; exact hacc.1
              have hP' : PlR F B w ge ow false ⟨f, false, [.lst y xs]⟩ (a.eval x) := hrc
              obtain ⟨ad, cap, hv, hrc'⟩ := hP'.lst
              have hrc' := hrc' rfl
              rw [hv] at hrc' ⊢
              obtain ⟨hn, b, o', us, rfl, h1, h2⟩ := hrc'.elem hin.1 hin.2
              refine ⟨rfl, _, run_index he hz hin.1 hin.2, b, o' + n.toNat * sz, us, rfl, h1, fun j u hu => ?_⟩
              rw [hs]
              exact h2 j u hu
          | _ => simp at hr
        | _ => simp at hr
      | _ => rw [hg] at hr; simp at hr
  | dead => rw [hq] at hr hP; exact plainCase (av' := .dead) hr hP
  | v k c => rw [hq] at hr hP; exact plainCase (av' := .v k c) hr hP
  | agg f cs => rw [hq] at hr hP; exact plainCase (av' := .agg f cs) hr hP
  | tup l => rw [hq] at hr hP; exact plainCase (av' := .tup l) hr hP
  | cond k a => rw [hq] at hr hP; exact plainCase (av' := .cond k a) hr hP
  | box cs => rw [hq] at hr hP; exact plainCase (av' := .box cs) hr hP
  | baddr s o => rw [hq] at hr hP; exact plainCase (av' := .baddr s o) hr hP
  | faddr f cs => rw [hq] at hr hP; exact plainCase (av' := .faddr f cs) hr hP
  | oaddr s i o => rw [hq] at hr hP; exact plainCase (av' := .oaddr s i o) hr hP

theorem bytes_get (s : ByteArray) {n : Nat} (h : n < s.size) : s[n]? = some (s.toList.getD n 0) := by
  have h1 : s.toList.length = s.size := by rw [ByteArray.toList_eq]; exact Array.length_toList
  have h2 : s[n]? = some (s[n]'h) := getElem?_pos s n h
  rw [h2]
  congr 1
  rw [List.getD_eq_getElem?_getD, List.getElem?_eq_getElem (by omega)]
  simp [ByteArray.toList_eq]
  rfl

theorem sidx_ok {t : Nat} (ht : P.underlying t = some .string) {s : ByteArray} {k : IntKind} {n : Int} (hin : inb n (ssize s)) :
    (Instr.index t (.string s) (.int k n)).run P w = .ok (.int .u8 (sidx s n)) w := by
  have h0 := hin.1
  have h1 : n.toNat < s.size := by have := hin.2; unfold ssize at this; omega
  simp only [Instr.index, asIntOf, Sem.run_bind, Sem.run_pure, Result.andThen_ok, run_underlying ht, if_pos h0, bytes_get s h1, sidx]

/-- A part of a list or of a string. -/
theorem cutList_ok {t e sz : Nat} (he : P.underlying t = some (.slice e)) (hz : ∀ w, (sizeOf e).run P w = .ok sz w) {bo : Bool} {p : PV} {v : Value} (hp : PlR F B w ge ow bo p v)
    {m : Int} {hi : Option Int} {av : AV} {obs : List Prop} {io : Option (Nat × Int)} (hr : cutList sz m hi (bo, p) = some ⟨av, obs, io⟩) (ho : ∀ p ∈ obs, p) {lo : Option Value} {hv : Option Value}
    (hlo : (lo = none ∧ m = 0) ∨ ∃ k, lo = some (.int k m)) (hhi : (hi = none ∧ hv = none) ∨ ∃ n k, hi = some n ∧ hv = some (.int k n)) (tm : Nat → Value) :
    io = none ∧ ∃ u, (Instr.sliceAt t v lo hv none).run P w = .ok u w ∧ AVR F B w tm ge (fun _ => none) av u := by
  have hel : P.elem t = e := by unfold Program.elem; rw [he]
  have he' : P.underlying t = some (.slice (P.elem t)) := by rw [hel]; exact he
  have hz' : (sizeOf (P.elem t)).run P w = .ok sz w := by rw [hel]; exact hz w
  unfold cutList at hr
  split at hr
  · rename_i f y xs hb
    cases hb
    cases hs : Nat.beq sz y.size with
    | false => rw [hs] at hr; simp at hr
    | true =>
      have hsz := Nat.eq_of_beq_eq_true hs
      rw [hs] at hr
      obtain ⟨ad, cap, hv', hrc⟩ := hp.lst
      have hrc := hrc rfl
      rw [hv'] at hrc ⊢
      have hcap : xs.length ≤ cap := by cases hrc with | nil => simp | lst _ _ _ _ _ _ _ hcap => exact hcap
      rw [run_sliceAt_slice w t _ _ _ _ he']
      rcases hhi with ⟨rfl, rfl⟩ | ⟨n, kn, rfl, rfl⟩
      · simp [mk1] at hr
        obtain ⟨rfl, rfl, rfl⟩ := hr
        have hle : le3 m (lenI y xs) (lenI y xs) := ho _ (by simp)
        obtain ⟨h0, h1, _⟩ := hle
        unfold lenI at h1
        have hm : m.toNat ≤ xs.length := by omega
        have hpart := hrc.part (m := m.toNat) (k := xs.length) hm (Nat.le_refl _)
        rw [List.take_length, ← hsz] at hpart
        refine ⟨rfl, _, ?_, avr_frK hpart⟩
        rcases hlo with ⟨rfl, rfl⟩ | ⟨k, rfl⟩
        · rw [run_slice_all w t ad _ cap he', hz']; rfl
        · rw [run_slice_l w t ad _ cap he' k m h0 (by omega), hz']; rfl
      · simp [mk1] at hr
        obtain ⟨rfl, rfl, rfl⟩ := hr
        have hle : le3 m n (lenI y xs) := ho _ (by simp)
        obtain ⟨h0, h1, h2⟩ := hle
        unfold lenI at h2
        have hpart := hrc.part (m := m.toNat) (k := n.toNat) (by omega) (by omega)
        rw [← hsz] at hpart
        refine ⟨rfl, _, ?_, avr_frK hpart⟩
        rcases hlo with ⟨rfl, rfl⟩ | ⟨k, rfl⟩
        · rw [run_slice_h w t ad _ cap he' kn n (by omega) (by omega), hz']; rfl
        · rw [run_slice_lh w t ad _ cap he' k kn m n h0 h1 (by omega), hz']; rfl
  · cases hr

theorem cutStr_ok {t : Nat} (ht : P.underlying t = some .string) {bo : Bool} {p : PV} {v : Value} (hp : PlR F B w ge ow bo p v)
    {m : Int} {hi : Option Int} {av : AV} {obs : List Prop} {io : Option (Nat × Int)} (hr : cutStr m hi (bo, p) = some ⟨av, obs, io⟩) (ho : ∀ p ∈ obs, p) {lo : Option Value} {hv : Option Value}
    (hlo : (lo = none ∧ m = 0) ∨ ∃ k, lo = some (.int k m)) (hhi : (hi = none ∧ hv = none) ∨ ∃ n k, hi = some n ∧ hv = some (.int k n)) (tm : Nat → Value) :
    io = none ∧ ∃ u, (Instr.sliceAt t v lo hv none).run P w = .ok u w ∧ AVR F B w tm ge (fun _ => none) av u := by
  unfold cutStr at hr
  split at hr
  · rename_i bo' f s hb
    cases hb
    rw [hp.str]
    rw [run_sliceAt_string w t _ _ _ _ ht]
    rcases hhi with ⟨rfl, rfl⟩ | ⟨n, kn, rfl, rfl⟩
    · simp [mk1] at hr
      obtain ⟨rfl, rfl, rfl⟩ := hr
      have hle : le3 m (ssize s) (ssize s) := ho _ (by simp)
      obtain ⟨h0, h1, _⟩ := hle
      unfold ssize at h1
      refine ⟨rfl, .string (ssub s m (ssize s)), ?_, .str _⟩
      rcases hlo with ⟨rfl, rfl⟩ | ⟨k, rfl⟩
      · simp [Instr.slice, run_underlying ht, Instr.sliceBounds, ssub, ssize]
      · simp [Instr.slice, run_underlying ht, Instr.sliceBounds, run_sliceBound, ssub, ssize, h0, h1]
    · simp [mk1] at hr
      obtain ⟨rfl, rfl, rfl⟩ := hr
      have hle : le3 m n (ssize s) := ho _ (by simp)
      obtain ⟨h0, h1, h2⟩ := hle
      unfold ssize at h2
      have hn0 : 0 ≤ n := by omega
      have en : (n.toNat : Int) = n := Int.toNat_of_nonneg hn0
      refine ⟨rfl, .string (ssub s m n), ?_, .str _⟩
      rcases hlo with ⟨rfl, rfl⟩ | ⟨k, rfl⟩
      · simp [Instr.slice, run_underlying ht, Instr.sliceBounds, run_sliceBound, ssub, hn0, h2]
      · simp [Instr.slice, run_underlying ht, Instr.sliceBounds, run_sliceBound, ssub, hn0, h2, h0, en, h1]
  · cases hr

theorem bound_ok (h : Kn F B w (fun n => a.tmps.getD n undef) ge g ow) {tt : TT} {x : Option Operand} {m : Option Int} (hb : bound tt g x = some m) :
    (m = none ∧ x.map a.eval = none) ∨ ∃ n k, m = some n ∧ x.map a.eval = some (.int k n) := by
  cases x with
  | none => simp [bound] at hb; exact .inl ⟨hb.symm, rfl⟩
  | some x =>
    right
    simp only [bound] at hb
    cases hn : int1 g (rdo tt g 0 x) with
    | none => rw [hn] at hb; simp at hb
    | some n =>
      rw [hn] at hb
      simp at hb
      obtain ⟨k, hk⟩ := int1_ok h hn
      exact ⟨n, k, hb.symm, by simp [hk]⟩

theorem len_ok (h : Kn F B w (fun n => a.tmps.getD n undef) ge g ow) {tt : TT} (htt : TTok P tt) {t ty : Nat} {x : Operand} {c : C} (hr : lenOf tt g t (rdo tt g t x) = some c) :
    ∃ n, c = .int .i64 n ∧ (Builtin.len_ #[t] ty #[a.eval x]).run P w = .ok (.int .i64 n) w := by
  unfold lenOf at hr
  split at hr
  · rename_i bo f y xs hp
    have hP := plain_rdo h hp
    cases hs : isSlT tt t with
    | false => rw [hs] at hr; simp at hr
    | true =>
      rw [hs] at hr; simp at hr; subst hr
      obtain ⟨e, he⟩ := isSlT_of htt hs
      obtain ⟨ad, cap, hv, _⟩ := hP.lst
      refine ⟨_, rfl, ?_⟩
      rw [hv]
      simp [Builtin.len_, run_underlying he, goInt, lenI]
  · rename_i bo f s hp
    have hP := plain_rdo h hp
    cases hs : isStrT tt t with
    | false => rw [hs] at hr; simp at hr
    | true =>
      rw [hs] at hr; simp at hr; subst hr
      refine ⟨_, rfl, ?_⟩
      rw [hP.str]
      simp [Builtin.len_, run_underlying (isStrT_of htt hs), goInt, ssize]
  · cases hr
end
end Go.Proofs.Ytopcofkpggefkaa

namespace Go.Proofs.Ytopcofkpggefkaa
open Go

theorem PVR.cells {F : Fz} {B : Nat} {w : World} {f g : Bool} {cs : List C} {v : Value} (h : PVR F B w ⟨f, g, cs⟩ v) : RCs F (lof B f) w cs v.cells.toList := by
  cases g with
  | true => obtain ⟨vs, rfl, h⟩ := h; simpa [Value.cells] using h
  | false =>
    match cs, h with
    | [c], h =>
      have h' : RC F (lof B f) w c v := h
      have : v.cells = #[v] := by cases h' <;> rfl
      rw [this]
      exact .cons h' .nil

theorem zOk_RCs {F : Fz} {lo : Nat} {w : World} : ∀ {cs : List C} {vs : List Value}, zOk cs vs = true → RCs F lo w cs vs
  | [], [], _ => .nil
  | .int k n :: r, .int k' n' :: r', h => by
    simp only [zOk, Bool.and_eq_true, decide_eq_true_eq] at h
    obtain ⟨h1, h2, h3⟩ := h
    rw [kindEq_eq h1, h2]
    exact .cons (.int _ _) (zOk_RCs h3)
  | .bool b :: r, .bool b' :: r', h => by
    simp only [zOk, Bool.and_eq_true, beq_iff_eq] at h
    rw [h.1]
    exact .cons (.bool _) (zOk_RCs h.2)
  | .str s :: r, .string s' :: r', h => by
    have e := zOk_eq h
    simp only [List.map_cons, zv, List.cons.injEq] at e
    rw [e.1]
    simp only [zOk, Bool.and_eq_true] at h
    exact .cons (.str _) (zOk_RCs h.2)
  | .nl t :: r, v :: r', h => by
    match v, h with
    | .slice none 0 0, h => simp only [zOk] at h; exact .cons (.nl _) (zOk_RCs h)
  | .int _ _ :: _, [], h => by simp [zOk] at h
  | .bool _ :: _, [], h => by simp [zOk] at h
  | .str _ :: _, [], h => by simp [zOk] at h
  | .nl _ :: _, [], h => by simp [zOk] at h
  | .lst _ _ :: _, _, h => by simp [zOk] at h
  | [], _ :: _, h => by simp [zOk] at h

theorem pack_cells {t : Ty} {cs : List C} {x : t.T} (h : pack t cs = some x) : cells t x = cs := by
  cases t
  case int =>
    have h' : pk_int cs = some x := h
    unfold pk_int at h'
    split at h'
    · cases h'; rfl
    · cases h'
  case byte =>
    have h' : pk_byte cs = some x := h
    unfold pk_byte at h'
    split at h'
    · cases h'; rfl
    · cases h'
  case bool =>
    have h' : pk_bool cs = some x := h
    unfold pk_bool at h'
    split at h'
    · cases h'; rfl
    · cases h'
  case str =>
    have h' : pk_str cs = some x := h
    unfold pk_str at h'
    split at h'
    · cases h'; rfl
    · cases h'
  case time =>
    have h' : pk_time cs = some x := h
    unfold pk_time at h'
    split at h'
    · cases h'; rfl
    · cases h'
  case row =>
    have h' : pk_row cs = some x := h
    unfold pk_row at h'
    split at h'
    · cases h'; rfl
    · cases h'
  case item =>
    have h' : pk_item cs = some x := h
    unfold pk_item at h'
    split at h'
    · cases h'; rfl
    · cases h'
  case plan =>
    have h' : pk_plan cs = some x := h
    unfold pk_plan at h'
    split at h'
    · cases h'; rfl
    · cases h'
  case lrow =>
    have h' : pk_lrow cs = some x := h
    unfold pk_lrow at h'
    split at h'
    · cases h'; rfl
    · cases h'
  case litem =>
    have h' : pk_litem cs = some x := h
    unfold pk_litem at h'
    split at h'
    · cases h'; rfl
    · cases h'
  case sess =>
    have h' : pk_sess cs = some x := h
    unfold pk_sess at h'
    split at h'
    · cases h'; rfl
    · cases h'

section
variable {P : Program} {w : World} {F : Fz} {B : Nat}

theorem heap_alloc_lt (o : Obj) {k : Nat} (hk : k < w.heap.size) : (w.alloc o).heap[k]? = w.heap[k]? := by
  simp only [World.alloc, Array.getElem?_push]
  rw [if_neg (by omega)]

theorem heap_alloc_new (o : Obj) : (w.alloc o).heap[w.heap.size]? = some o := by
  show (w.heap.push o)[w.heap.size]? = some o
  simp

theorem Grow.alloc (F : Fz) (w : World) (o : Obj) : Grow F w F (w.alloc o) :=
  ⟨rfl, rfl, rfl, by simp, fun _ hk => heap_alloc_lt o hk, fun _ _ h => h, fun _ _ h => .inl h⟩

theorem Live.grow {w' : World} (hl : Live F w) (hg : Grow F w F w') : Live F w' := fun b o hb => by
  rw [hg.cell (hl.lt hb)]; exact hl b o hb

theorem Blk.new (cs : List Value) (e : TypeId) : Blk (w.alloc (.cells cs.toArray e)) w.heap.size cs := ⟨e, heap_alloc_new _⟩

theorem kC_box {F : Fz} {B : Nat} {w : World} {ob : Option Nat} {f : Bool} {c : C} {v : Value} (h : RC F (lof B f) w c v) : BoxC F B w ob (kC f c, c) v := by
  have h0 : BoxC F B w ob (frK f, c) v := by cases f <;> exact h
  cases c with
  | int k n => cases h; exact RC.int _ _
  | bool b => cases h; exact RC.bool _
  | str s => cases h; exact RC.str _
  | lst t xs => exact h0
  | nl t => exact h0

theorem kC_true (c : C) : kC true c = .fr := by cases c <;> rfl

/-- A new box. -/
theorem box_new (hl : Live F w) (_hB : B ≤ w.heap.size) {f : Bool} {cs : List C} {vs : List Value} (h : RCs F (lof B f) w cs vs) (e : TypeId) (tm : Nat → Value) (ge : Get) :
    ∃ owd, Grow F w F (w.alloc (.cells vs.toArray e)) ∧ Live F (w.alloc (.cells vs.toArray e)) ∧ (∀ i b, owd i = some b → w.heap.size ≤ b ∧ b < (w.alloc (.cells vs.toArray e)).heap.size) ∧
      (∀ i i' b, owd i = some b → owd i' = some b → i = i') ∧
      AVR F B (w.alloc (.cells vs.toArray e)) tm ge owd (.box (cs.map fun c => (kC f c, c))) (.pointer (some ⟨w.heap.size, 0, none⟩)) := by
  have hg := Grow.alloc F w (.cells vs.toArray e)
  refine ⟨fun i => match i with | none => some w.heap.size | some _ => none, hg, hl.grow hg, ?_, ?_, ?_⟩
  · intro i b hb
    cases i with
    | none => simp at hb; subst hb; simp
    | some i => simp at hb
  · intro i i' b hb hb'
    cases i <;> cases i' <;> simp at hb hb' ⊢
  · refine ⟨w.heap.size, vs, rfl, rfl, Blk.new vs e, fun o hF => by have := hl.lt hF; omega, by simp [h.length], fun j kc u hk hu => ?_⟩
    simp only [List.getElem?_map] at hk
    cases hc : cs[j]? with
    | none => rw [hc] at hk; simp at hk
    | some c =>
      rw [hc] at hk
      simp at hk
      subst hk
      obtain ⟨u', hu', hr⟩ := h.get hc
      rw [hu] at hu'
      cases hu'
      exact kC_box (hr.grow hg hl)

def setV : List Value → Nat → List Value → List Value
  | [], _, _ => []
  | _ :: r, 0, d :: ds => d :: setV r 0 ds
  | c :: r, 0, [] => c :: r
  | c :: r, n + 1, ds => c :: setV r n ds

theorem setV_nil : ∀ (l : List Value) (n : Nat), setV l n [] = l
  | [], _ => rfl
  | _ :: _, 0 => rfl
  | c :: r, n + 1 => by simp [setV, setV_nil r n]

theorem setV_set : ∀ (l : List Value) (n : Nat) (u : Value) (us : List Value), setV (l.set n u) (n + 1) us = setV l n (u :: us)
  | [], _, _, _ => by simp [setV]
  | c :: r, 0, u, us => by simp [setV]
  | c :: r, n + 1, u, us => by simp [setV, setV_set r n u us]

theorem fold_setV : ∀ (us : List Value) (cs : Array Value) (off k : Nat), ((us.zipIdx k).foldl (fun cs (c, j) => cs.setIfInBounds (off + j) c) cs).toList = setV cs.toList (off + k) us
  | [], cs, off, k => by simp [setV_nil]
  | u :: us, cs, off, k => by
    simp only [List.zipIdx_cons, List.foldl_cons]
    rw [fold_setV us (cs.setIfInBounds (off + k) u) off (k + 1)]
    rw [Array.toList_setIfInBounds, show off + (k + 1) = off + k + 1 by omega, setV_set]

theorem foldA_setV (v : Value) (cs : Array Value) (off : Nat) : (v.cells.zipIdx.foldl (fun cs (c, j) => cs.setIfInBounds (off + j) c) cs).toList = setV cs.toList off v.cells.toList := by
  rw [← Array.foldl_toList]
  simp only [Array.toList_zipIdx]
  exact fold_setV v.cells.toList cs off 0

theorem RCs.set {lo : Nat} {cs : List C} {vs : List Value} (h : RCs F lo w cs vs) : ∀ (o : Nat) {ds : List C} {us : List Value}, RCs F lo w ds us → RCs F lo w (setCells cs o ds) (setV vs o us) := by
  induction h with
  | nil => intro o ds us _; exact .nil
  | cons hc hcs ih =>
    intro o ds us hd
    cases o with
    | zero =>
      cases hd with
      | nil => exact .cons hc hcs
      | cons hd hds => exact .cons hd (ih 0 hds)
    | succ o => exact .cons hc (ih o hd)

theorem setV_length : ∀ (l : List Value) (n : Nat) (us : List Value), (setV l n us).length = l.length
  | [], _, _ => rfl
  | _ :: r, 0, d :: ds => by simp [setV, setV_length r 0 ds]
  | _ :: _, 0, [] => rfl
  | _ :: r, n + 1, ds => by simp [setV, setV_length r n ds]

variable {a : Act} {ge g : Get} {ow : Nat → Option Nat → Option Nat}

/-- Parts, read. -/
theorem plainAll_ok (h : Kn F B w (fun n => a.tmps.getD n undef) ge g ow) {tt : TT} {t : Nat} : ∀ {ps : List (Nat × Operand)} {l : List (Nat × PV)}, plainAll g (partsAv tt g t ps) = some l →
    l.map (·.1) = ps.map (·.1) ∧ ∀ (j : Nat) (i : Nat) (p : PV) (x : Operand), l[j]? = some (i, p) → (ps[j]?).map (·.2) = some x → PVR F B w p (a.eval x)
  | [], l, hp => by simp [partsAv, plainAll] at hp; subst hp; simp
  | (i, x) :: ps, l, hp => by
    simp only [partsAv, plainAll] at hp
    cases hq : plainR g (rdo tt g t x) with
    | none => rw [hq] at hp; simp at hp
    | some q =>
      obtain ⟨bo, pv⟩ := q
      rw [hq] at hp
      cases bo with
      | true => simp at hp
      | false =>
        cases hr : plainAll g (partsAv tt g t ps) with
        | none => rw [hr] at hp; simp at hp
        | some l' =>
          rw [hr] at hp
          simp at hp
          subst hp
          obtain ⟨h1, h2⟩ := plainAll_ok h hr
          refine ⟨by simp [h1], fun j i' p x' hj hx => ?_⟩
          cases j with
          | zero =>
            simp at hj hx
            obtain ⟨rfl, rfl⟩ := hj
            subst hx
            exact plainR_rdo h hq
          | succ j => exact h2 j i' p x' (by simpa using hj) (by simpa using hx)

/-- A struct's parts, laid into it one behind the other. -/
theorem fill_ok {fs : List (Nat × Nat)} : ∀ {ps : List (Nat × PV)} {vs : List (Nat × Value)} {f f' : Bool} {cs cs' : List C} {cur : Array Value} {place : Nat → Option (Nat × Nat)},
    (∀ i, place i = fs[i]?) → ps.map (·.1) = vs.map (·.1) → (∀ (j : Nat) (i : Nat) (p : PV) (v : Value), ps[j]? = some (i, p) → (vs[j]?).map (·.2) = some v → PVR F B w p v) →
    RCs F (lof B f) w cs cur.toList → fillS fs ps (f, cs) = some (f', cs') →
    ∃ cur', Instr.fill place cur vs = some cur' ∧ RCs F (lof B f') w cs' cur'.toList
  | [], vs, f, f', cs, cs', cur, place, hpl, hm, hv, hr, hf => by
    have : vs = [] := by simpa using hm
    subst this
    simp [fillS] at hf
    obtain ⟨rfl, rfl⟩ := hf
    exact ⟨cur, rfl, hr⟩
  | (i, p) :: ps, [], f, f', cs, cs', cur, place, hpl, hm, hv, hr, hf => by simp at hm
  | (i, p) :: ps, (i', v) :: vs, f, f', cs, cs', cur, place, hpl, hm, hv, hr, hf => by
    simp only [List.map_cons, List.cons.injEq] at hm
    obtain ⟨rfl, hm⟩ := hm
    simp only [fillS] at hf
    cases hfs : fs[i]? with
    | none => rw [hfs] at hf; simp at hf
    | some on =>
      obtain ⟨o, n⟩ := on
      rw [hfs] at hf
      simp only [] at hf
      cases hb : Nat.beq p.cs.length n && Nat.ble (o + n) cs.length with
      | false => rw [hb] at hf; simp at hf
      | true =>
        rw [hb] at hf
        simp only [] at hf
        simp only [Bool.and_eq_true] at hb
        have hn := Nat.eq_of_beq_eq_true hb.1
        have ho := Nat.le_of_ble_eq_true hb.2
        obtain ⟨pf, pa, pc⟩ := p
        have hp := hv 0 i ⟨pf, pa, pc⟩ v rfl rfl
        have hpc := hp.cells
        have hlen : v.cells.size = n := by rw [← hn]; simpa using hpc.length.symm
        have hcl := hr.length
        simp only [Instr.fill, hpl, hfs]
        rw [if_neg (by simp only [Array.length_toList] at hcl; simp [hlen]; omega)]
        refine fill_ok (f := f && pf) hpl hm (fun j i p v hj hjv => hv (j + 1) i p v (by simpa using hj) (by simpa using hjv)) ?_ hf
        rw [foldA_setV]
        refine RCs.set ?_ o ?_
        · refine hr.mono (fun _ _ h => h) ?_ (fun _ _ _ => rfl)
          cases f <;> cases pf <;> simp [lof]
        · refine hpc.mono (fun _ _ h => h) ?_ (fun _ _ _ => rfl)
          cases f <;> cases pf <;> simp [lof]

theorem run_places {fs : List (Nat × Nat)} {l : List Field} (h : fsOk P fs l = true) (acc : Array (Nat × Nat)) :
    (List.foldlM (fun (acc : Array (Nat × Nat)) (f : Field) => do let s ← sizeOf f.type; pure (acc.push (f.offset, s))) acc l : Sem (Array (Nat × Nat))).run P w = .ok (acc ++ fs.toArray) w := by
  induction fs generalizing l acc with
  | nil =>
    cases l with
    | nil => simp
    | cons f l => simp [fsOk] at h
  | cons p fs ih =>
    obtain ⟨o, n⟩ := p
    cases l with
    | nil => simp [fsOk] at h
    | cons f l =>
      simp only [fsOk, Bool.and_eq_true] at h
      have hz := cells_info (P := P) (t := f.type) (Nat.eq_of_beq_eq_true h.2.1).symm (by simpa [Nat.blt_eq] using h.2.2.1) w
      simp only [List.foldlM_cons, Sem.run_bind, hz, Result.andThen_ok, Sem.run_pure]
      rw [ih h.2.2.2]
      congr 1
      rw [show f.offset = o from (Nat.eq_of_beq_eq_true h.1).symm]
      apply Array.ext'
      simp

/-- A struct, built. -/
theorem build_ok {t : Nat} {d : TD} (hd : TDok P t d) {fs : List (Nat × Nat)} (hs : d.sh = .struct fs) {ps : List (Nat × PV)} {vs : Array (Nat × Value)} {f : Bool} {cs : List C}
    (hm : ps.map (·.1) = vs.toList.map (·.1)) (hv : ∀ (j : Nat) (i : Nat) (p : PV) (v : Value), ps[j]? = some (i, p) → (vs.toList[j]?).map (·.2) = some v → PVR F B w p v)
    (hf : fillS fs ps (true, d.zero) = some (f, cs)) : ∃ us : List Value, (Instr.build t vs).run P w = .ok (.agg us.toArray) w ∧ RCs F (lof B f) w cs us := by
  obtain ⟨z, hz, hzo⟩ := hd.zeroV w
  obtain ⟨u, hu, hdu⟩ := hd.und
  rw [hs] at hdu
  obtain ⟨fields, rfl, hfs⟩ := hdu
  obtain ⟨cur', h1, h2⟩ := fill_ok (F := F) (B := B) (w := w) (fs := fs) (place := (fs.toArray[·]?)) (fun i => by simp) hm hv (zOk_RCs (lo := lof B true) hzo) hf
  refine ⟨cur'.toList, ?_, h2⟩
  have hpl : (fields.mapM (fun f => do pure (f.offset, ← sizeOf f.type)) : Sem (Array (Nat × Nat))).run P w = .ok fs.toArray w := by
    rw [Array.mapM_eq_foldlM, ← Array.foldlM_toList]
    have := run_places (P := P) (w := w) hfs #[]
    simpa using this
  simp only [Instr.build, Sem.run_bind, hz, Result.andThen_ok, run_underlying hu, hpl]
  rw [h1]
  simp

theorem append_take {α : Type} (l : List α) {n : Nat} (h : l.length = n) (r : List α) : (l ++ r).take n = l := by
  subst h; simp

/-- The parts of a slice, laid into its block one behind the other. -/
theorem fillE_ok {t : Ty} {sz : Nat} {n : Nat} : ∀ {ps : List (Nat × PV)} {vs : List (Nat × Value)} {f : Bool} {xs : List t.T} {pre : List Value} {k : Nat} {cur : Array Value},
    (∀ (j : Nat) (i : Nat) (p : PV) (v : Value), ps[j]? = some (i, p) → (vs[j]?).map (·.2) = some v → PVR F B w p v) → ps.map (·.1) = vs.map (·.1) →
    packs t sz ps k = some (f, xs) → cur.size = n → cur.toList.take (k * sz) = pre → pre.length = k * sz → n = (k + ps.length) * sz →
    ∃ (cur' : Array Value) (uss : List (List Value)), Instr.fill (fun i => some (i * sz, sz)) cur vs = some cur' ∧ cur'.toList = pre ++ uss.flatten ∧ uss.length = xs.length ∧ xs.length = ps.length ∧
      ∀ (i : Nat) (x : t.T) (us : List Value), xs[i]? = some x → uss[i]? = some us → us.length = sz ∧ RCs F (lof B f) w (cells t x) us
  | [], vs, f, xs, pre, k, cur, hv, hm, hp, hn, hpre, hl, hnn => by
    have : vs = [] := by simpa using hm.symm
    subst this
    simp [packs] at hp
    obtain ⟨rfl, rfl⟩ := hp
    refine ⟨cur, [], rfl, ?_, rfl, rfl, fun i x us hx => by simp at hx⟩
    have : cur.toList.length = k * sz := by simp [hn, hnn]
    rw [List.take_of_length_le (by omega)] at hpre
    simp [hpre]
  | (i, p) :: ps, [], f, xs, pre, k, cur, hv, hm, hp, hn, hpre, hl, hnn => by simp at hm
  | (i, p) :: ps, (i', v) :: vs, f, xs, pre, k, cur, hv, hm, hp, hn, hpre, hl, hnn => by
    simp only [List.map_cons, List.cons.injEq] at hm
    obtain ⟨rfl, hm⟩ := hm
    simp only [packs] at hp
    cases hb : Nat.beq i k && Nat.beq p.cs.length sz with
    | false => rw [hb] at hp; simp at hp
    | true =>
      cases hx : pack t (norms p.cs) with
      | none => rw [hb, hx] at hp; simp at hp
      | some x =>
        cases hr : packs t sz ps (k + 1) with
        | none => rw [hb, hx, hr] at hp; simp at hp
        | some q =>
          obtain ⟨f', xs'⟩ := q
          rw [hb, hx, hr] at hp
          simp at hp
          obtain ⟨rfl, rfl⟩ := hp
          simp only [Bool.and_eq_true] at hb
          have hik := Nat.eq_of_beq_eq_true hb.1
          have hsz := Nat.eq_of_beq_eq_true hb.2
          subst hik
          obtain ⟨pf, pa, pc⟩ := p
          have hpv := hv 0 i ⟨pf, pa, pc⟩ v rfl rfl
          have hpc := hpv.cells
          have hlen : v.cells.size = sz := by rw [← hsz]; simpa using hpc.length.symm
          have hns : n = (i * sz + sz) + ps.length * sz := by rw [hnn]; simp [Nat.add_mul]; omega
          simp only [Instr.fill]
          rw [if_neg (by simp [hlen, hn]; omega)]
          have hcur : ∀ (l : List Value) (o : Nat) (us : List Value), o + us.length ≤ l.length → setV l o us = l.take o ++ us ++ l.drop (o + us.length) := by
            intro l
            induction l with
            | nil => intro o us h; simp at h; simp [h.1, h.2, setV]
            | cons c l ih =>
              intro o us h
              cases o with
              | zero =>
                cases us with
                | nil => simp [setV]
                | cons u us =>
                  have := ih 0 us (by simp at h; omega)
                  simp [setV, this]
              | succ o =>
                have := ih o us (by simp at h; omega)
                simp [setV, this, show o + 1 + us.length = (o + us.length) + 1 by omega]
          have hnew := hcur cur.toList (i * sz) v.cells.toList (by simp [hlen, hn]; omega)
          have hnext := fillE_ok (ps := ps) (vs := vs) (f := f') (xs := xs') (pre := pre ++ v.cells.toList) (k := i + 1) (n := n)
            (cur := v.cells.zipIdx.foldl (fun cs (c, j) => cs.setIfInBounds (i * sz + j) c) cur)
            (fun j i p v hj hjv => hv (j + 1) i p v (by simpa using hj) (by simpa using hjv)) hm hr
            (by rw [← Array.length_toList, foldA_setV, setV_length, Array.length_toList, hn])
            (by
              rw [foldA_setV, hnew, hpre]
              have hl2 : (pre ++ v.cells.toList).length = (i + 1) * sz := by simp [hl, hlen, Nat.add_mul]
              rw [← hl2, List.take_append_of_le_length (Nat.le_refl _), List.take_length])
            (by simp [hl, hlen, Nat.add_mul]) (by rw [hnn]; simp only [List.length_cons]; congr 1; omega)
          obtain ⟨cur', uss, h1, h2, h3, h4, h5⟩ := hnext
          refine ⟨cur', v.cells.toList :: uss, h1, by rw [h2]; simp, by simp [h3], by simp [h4], fun j x' us hx' hus => ?_⟩
          cases j with
          | zero =>
            simp at hx' hus
            subst hx'; subst hus
            refine ⟨by simp [hlen], ?_⟩
            have := hpc.norms
            rw [← pack_cells hx] at this
            exact this.mono (fun _ _ h => h) (by cases pf <;> cases f' <;> simp [lof]) (fun _ _ _ => rfl)
          | succ j =>
            obtain ⟨q1, q2⟩ := h5 j x' us (by simpa using hx') (by simpa using hus)
            exact ⟨q1, q2.mono (fun _ _ h => h) (by cases pf <;> cases f' <;> simp [lof]) (fun _ _ _ => rfl)⟩

theorem flatten_get {sz : Nat} : ∀ {uss : List (List Value)}, (∀ us ∈ uss, us.length = sz) → ∀ {i j : Nat}, j < sz → uss.flatten[i * sz + j]? = (uss[i]?).bind (·[j]?)
  | [], _, i, j, _ => by simp
  | us :: uss, h, i, j, hj => by
    have hu := h us (by simp)
    rw [List.flatten_cons]
    cases i with
    | zero => rw [List.getElem?_append_left (by omega)]; simp
    | succ i =>
      rw [List.getElem?_append_right (by rw [hu, Nat.add_mul]; omega), hu, show (i + 1) * sz + j - sz = i * sz + j by rw [Nat.add_mul]; omega]
      simpa using flatten_get (fun us hm => h us (by simp [hm])) hj

/-- A new block, all of it known: a list with the right to append, or to write. -/
theorem lst_new (hl : Live F w) {f : Bool} {t : Ty} {xs : List t.T} {uss : List (List Value)} (hB : B ≤ w.heap.size) (hlen : uss.length = xs.length) 
    (h : ∀ (i : Nat) (x : t.T) (us : List Value), xs[i]? = some x → uss[i]? = some us → us.length = t.size ∧ RCs F (lof B f) w (cells t x) us) (e : TypeId) (tm : Nat → Value) (ge : Get) :
    ∃ F' owd, Grow F w F' (w.alloc (.cells uss.flatten.toArray e)) ∧ Live F' (w.alloc (.cells uss.flatten.toArray e)) ∧ (∀ i b, owd i = some b → w.heap.size ≤ b ∧ b < (w.alloc (.cells uss.flatten.toArray e)).heap.size) ∧
      (∀ i i' b, owd i = some b → owd i' = some b → i = i') ∧
      AVR F' B (w.alloc (.cells uss.flatten.toArray e)) tm ge owd (.v (.acc f) (.lst t xs)) (.slice (some ⟨w.heap.size, 0, none⟩) xs.length xs.length) := by
  have hlens : ∀ us ∈ uss, us.length = t.size := fun us hm => by
    obtain ⟨i, hi⟩ := List.mem_iff_getElem?.1 hm
    have hi' : i < xs.length := by rw [← hlen]; exact (List.getElem?_eq_some_iff.1 hi).1
    exact (h i _ us (List.getElem?_eq_getElem hi') hi).1
  have hfl : uss.flatten.length = xs.length * t.size := by
    rw [← hlen]
    clear h hlen
    induction uss with
    | nil => simp
    | cons us uss ih => simp only [List.flatten_cons, List.length_append, List.length_cons, Nat.add_mul]; rw [hlens us (by simp), ih (fun u hu => hlens u (by simp [hu]))]; omega
  have hblk := Blk.new (w := w) uss.flatten e
  let F' : Fz := fun b o => F b o ∨ (b = w.heap.size ∧ o < xs.length * t.size)
  have hg : Grow F w F' (w.alloc (.cells uss.flatten.toArray e)) :=
    ⟨rfl, rfl, rfl, by simp, fun _ hk => heap_alloc_lt _ hk, fun _ _ h => .inl h, fun b o hb => hb.elim .inl (fun h => .inr (by omega))⟩
  refine ⟨F', fun i => match i with | none => some w.heap.size | some _ => none, hg, ?_, ?_, ?_, ?_, ?_⟩
  · intro b o hb
    rcases hb with hb | ⟨rfl, hb⟩
    · exact (hl.grow (Grow.alloc F w _)) b o hb
    · rw [hblk.cell, List.getElem?_eq_getElem (by omega)]; rfl
  · intro i b hb
    cases i with
    | none => simp at hb; subst hb; simp
    | some i => simp at hb
  · intro i i' b hb hb'
    cases i <;> cases i' <;> simp at hb hb' ⊢
  · refine .lst t xs w.heap.size 0 xs.length (fun i j => ((uss[i]?).bind (·[j]?)).getD undef) (by cases f <;> simp [lof]; exact hB) (Nat.le_refl _) (fun i j hi hj => .inr ⟨rfl, ?_⟩) (fun i j hi hj => ?_) (fun i j x c hx hc => ?_)
    · have : i * t.size + t.size ≤ xs.length * t.size := by rw [← Nat.succ_mul]; exact Nat.mul_le_mul_right _ hi
      omega
    · rw [Nat.zero_add, hblk.cell, flatten_get hlens hj]
      have hi' : i < uss.length := by rw [hlen]; exact hi
      rw [List.getElem?_eq_getElem hi']
      have := hlens _ (List.getElem_mem hi')
      simp [this, hj]
    · have hi' : i < uss.length := by rw [hlen]; exact (List.getElem?_eq_some_iff.1 hx).1
      obtain ⟨q1, q2⟩ := h i x _ hx (List.getElem?_eq_getElem hi')
      obtain ⟨u, hu, hr⟩ := q2.get hc
      simp only [List.getElem?_eq_getElem hi', Option.bind_some, hu, Option.getD_some]
      exact hr.grow hg hl
  · exact .inr ⟨t, xs, w.heap.size, xs.length, uss.flatten, rfl, rfl, rfl, hblk, hfl, fun o ho hF => hF.elim (fun hF => by have := hl.lt hF; omega) (fun h => by omega)⟩

/-- A slice, written out. -/
theorem buildSlice_ok (hl : Live F w) (hB : B ≤ w.heap.size) {t e : Nat} {d : TD} (he : P.underlying t = some (.slice e)) (hd : TDok P e d) {y : Ty} (hy : d.ty = some y) {ps : List (Nat × PV)} {vs : Array (Nat × Value)} {n : Nat} {f : Bool} {xs : List y.T}
    (hm : ps.map (·.1) = vs.toList.map (·.1)) (hv : ∀ (j : Nat) (i : Nat) (p : PV) (v : Value), ps[j]? = some (i, p) → (vs.toList[j]?).map (·.2) = some v → PVR F B w p v)
    (hp : packs y d.size ps 0 = some (f, xs)) (hn : ps.length = n) (hbig : n * d.size ≤ 16777216) (tm : Nat → Value) (ge : Get) :
    ∃ v w' F' owd, (Instr.buildSlice t n vs).run P w = .ok v w' ∧ Grow F w F' w' ∧ Live F' w' ∧ (∀ i b, owd i = some b → w.heap.size ≤ b ∧ b < w'.heap.size) ∧
      (∀ i i' b, owd i = some b → owd i' = some b → i = i') ∧ AVR F' B w' tm ge owd (.v (.acc f) (.lst y xs)) v := by
  obtain ⟨z, hz, hzo⟩ := hd.zeroV w
  have hsz := hd.size w
  have hys := hd.ty y hy
  let zero : Array Value := if n * d.size = 0 then #[] else z.cells
  obtain ⟨cur', uss, h1, h2, h3, h4, h5⟩ := fillE_ok (F := F) (B := B) (w := w) (t := y) (sz := d.size) (n := n * d.size) (pre := []) (k := 0) (cur := (Array.range (n * d.size)).map (zero[· % zero.size]!)) hv hm hp
    (by simp) (by simp) (by simp) (by rw [hn]; simp)
  have hxl : xs.length = n := by rw [h4, hn]
  obtain ⟨F', owd, q1, q2, q3, q4, q5⟩ := lst_new (F := F) (B := B) hl hB h3 (f := f) (fun i x us hx hu => by rw [← hys]; exact h5 i x us hx hu) e tm ge
  rw [hxl] at q5
  refine ⟨_, _, F', owd, ?_, q1, q2, q3, q4, q5⟩
  have hc : cur' = uss.flatten.toArray := by apply Array.ext'; simpa using h2
  by_cases h0 : n * d.size = 0
  · have hz0 : zero = #[] := if_pos h0
    rw [hz0] at h1
    simp only [Instr.buildSlice, Sem.run_bind, run_underlying he, Result.andThen_ok, hsz, if_neg (show ¬ n * d.size > 2 ^ 24 by omega), if_pos h0, Sem.run_pure, h1]
    simp [newRow, hc]
  · have hz0 : zero = z.cells := if_neg h0
    rw [hz0] at h1
    simp only [Instr.buildSlice, Sem.run_bind, run_underlying he, Result.andThen_ok, hsz, if_neg (show ¬ n * d.size > 2 ^ 24 by omega), if_neg h0, Sem.run_pure, hz, h1]
    simp [newRow, hc]

/-- A new slice of zeros. -/
theorem makeSlice_ok (hl : Live F w) (hB : B ≤ w.heap.size) {t e : Nat} {d : TD} (he : P.underlying t = some (.slice e)) (hd : TDok P e d) {y : Ty} (hy : d.ty = some y) {z : y.T} (hz : pack y (norms d.zero) = some z)
    {p q : Int} {k k' : IntKind} (hok : mkOk p q) (tm : Nat → Value) (ge : Get) :
    ∃ v w' F' owd, (Instr.makeSlice t (.int k p) (.int k' q)).run P w = .ok v w' ∧ Grow F w F' w' ∧ Live F' w' ∧ (∀ i b, owd i = some b → w.heap.size ≤ b ∧ b < w'.heap.size) ∧
      (∀ i i' b, owd i = some b → owd i' = some b → i = i') ∧ AVR F' B w' tm ge owd (.v (.own true) (.lst y (List.replicate p.toNat z))) v := by
  obtain ⟨rfl, h0, hp⟩ := hok
  obtain ⟨i, zz, hi, hs, hb, hzz, hzo⟩ := hd.info
  have hys := hd.ty y hy
  have hrun := run_make (P := P) w t e i zz he hi hzz k k' p p h0 (by omega) (by
    have h1 : (i.bytes : Int) * p ≤ 128 * p := by
      have : ((i.bytes : Nat) : Int) ≤ 128 := by omega
      exact Int.mul_le_mul_of_nonneg_right this h0
    omega) (by omega)
  have hzc : RCs F B w (norms d.zero) zz.cells.toList := (zOk_RCs (lo := B) hzo).norms
  have hcz : cells y z = norms d.zero := pack_cells hz
  rw [← hcz] at hzc
  have hzl : zz.cells.size = y.size := by have := hzc.length; rw [cells_size] at this; simpa using this.symm
  let cs := (madeCells zz.cells (p.toNat * i.size)).toList
  have hg := Grow.alloc F w (.cells cs.toArray e)
  refine ⟨_, _, F, fun i => match i with | none => some w.heap.size | some _ => none, hrun, ?_, ?_, ?_, ?_, ?_⟩
  · exact Grow.alloc F w _
  · exact hl.grow (Grow.alloc F w _)
  · intro i b hb
    cases i with
    | none => simp at hb; subst hb; simp
    | some i => simp at hb
  · intro i i' b hb hb'
    cases i <;> cases i' <;> simp at hb hb' ⊢
  · have hcell : ∀ m j, m < p.toNat → j < y.size → cs[m * y.size + j]? = some (zz.cells.toList.getD j undef) := by
      intro m j hm hj
      have hb : m * y.size + j < p.toNat * i.size := by
        rw [hs, hys]
        have : m * y.size + y.size ≤ p.toNat * y.size := by rw [← Nat.succ_mul]; exact Nat.mul_le_mul_right _ hm
        omega
      have hjz : j < zz.cells.size := by omega
      have hmod : (m * y.size + j) % zz.cells.size = j := by rw [hzl, Nat.mul_comm, Nat.mul_add_mod, Nat.mod_eq_of_lt hj]
      simp only [cs, madeCells, Array.toList_map, Array.toList_range, List.getElem?_map, List.getElem?_range hb, Option.map_some, hmod]
      rw [getElem!_pos zz.cells j hjz, List.getD_eq_getElem?_getD, List.getElem?_eq_getElem (by simpa using hjz)]
      simp
    refine .inr ⟨y, List.replicate p.toNat z, w.heap.size, p.toNat, cs, fun _ j => zz.cells.toList.getD j undef, rfl, by simp, rfl, ?_, ?_, by simp, by simpa [lof] using hB, fun o hF => by have := hl.lt hF; omega, ?_, ?_⟩
    · have := Blk.new (w := w) cs e
      simpa [cs] using this
    · simp [cs, size_madeCells, hs, hys]
    · intro m j hm hj
      exact hcell m j (by simpa using hm) hj
    · intro m j x c hx hc
      have hxz : x = z := by
        rw [List.getElem?_replicate] at hx
        split at hx
        · simpa using hx.symm
        · simp at hx
      subst hxz
      obtain ⟨u, hu, hr⟩ := hzc.get hc
      have hgd : zz.cells.toList.getD j undef = u := by rw [List.getD_eq_getElem?_getD, hu]; rfl
      show RC F (lof B true) _ c (zz.cells.toList.getD j undef)
      rw [hgd]
      exact hr.grow (Grow.alloc F w _) hl
end
theorem own_acc {F : Fz} {lo : Nat} {w : World} {ob : Option Nat} {c : C} {v : Value} (hl : Live F w) (h : OwnR F lo w ob c v) :
    ∃ F' : Fz, (∀ b o, F b o → F' b o) ∧ (∀ b o, F' b o → F b o ∨ ob = some b) ∧ Live F' w ∧ AccR F' lo w ob c v := by
  rcases h with ⟨t, rfl, rfl⟩ | ⟨t, xs, b, cap, cs, vs, rfl, rfl, h3, h4, h5, h5', h6, h7, h8, h9⟩
  · exact ⟨F, fun _ _ h => h, fun _ _ h => .inl h, hl, .nil t, .inl ⟨t, rfl, rfl⟩⟩
  · have hpos := size_pos t
    have hidx : ∀ i j, i < xs.length → j < t.size → i * t.size + j < xs.length * t.size := fun i j hi hj => by
      have : i * t.size + t.size ≤ xs.length * t.size := by rw [← Nat.succ_mul]; exact Nat.mul_le_mul_right _ hi
      omega
    refine ⟨fun b' o => F b' o ∨ (b' = b ∧ o < xs.length * t.size), fun _ _ h => .inl h, fun b' o h => h.imp_right fun h => by rw [h.1]; exact h3, fun b' o h => ?_, ?_, .inr ⟨t, xs, b, cap, cs, rfl, rfl, h3, h4, h5, fun o ho h => ?_⟩⟩
    · rcases h with h | ⟨rfl, h⟩
      · exact hl _ _ h
      · rw [h4.cell, List.getElem?_eq_getElem (by rw [h5]; exact Nat.lt_of_lt_of_le h (Nat.mul_le_mul_right _ h5'))]; rfl
    · refine .lst t xs b 0 cap vs h6 h5' (fun i j hi hj => .inr ⟨rfl, by rw [Nat.zero_add]; exact hidx i j hi hj⟩) (fun i j hi hj => ?_) (fun i j x c hx hc => (h9 i j x c hx hc).mono (fun _ _ h => .inl h) (Nat.le_refl _) (fun _ _ _ => rfl))
      rw [Nat.zero_add, h4.cell]; exact h8 i j hi hj
    · rcases h with h | ⟨_, h⟩
      · exact h7 o h
      · omega
theorem makeSliceK_ok {P : Program} {F : Fz} {B : Nat} {w : World} (hl : Live F w) (hB : B ≤ w.heap.size) {t e : Nat} {d : TD} (he : P.underlying t = some (.slice e)) (hd : TDok P e d) {y : Ty} (hy : d.ty = some y) {z : y.T} (hz : pack y (norms d.zero) = some z)
    {p q : Int} {k k' : IntKind} (hok : mkOk p q) (tm : Nat → Value) (ge : Get) :
    ∃ v w' F' owd, (Instr.makeSlice t (.int k p) (.int k' q)).run P w = .ok v w' ∧ Grow F w F' w' ∧ Live F' w' ∧ (∀ i b, owd i = some b → w.heap.size ≤ b ∧ b < w'.heap.size) ∧
      (∀ i i' b, owd i = some b → owd i' = some b → i = i') ∧ AVR F' B w' tm ge owd (.v (mkK y) (.lst y (List.replicate p.toNat z))) v := by
  obtain ⟨v, w', F', owd, h1, h2, h3, h4, h5, h6⟩ := makeSlice_ok (P := P) hl hB he hd hy hz (k := k) (k' := k') hok tm ge
  obtain ⟨F2, g1, g2, g3, g4⟩ := own_acc h3 (show OwnR F' (lof B true) w' (owd none) _ v from h6)
  have hk : mkK y = .own true ∨ mkK y = .acc true := by cases y <;> first | exact .inl rfl | exact .inr rfl
  rcases hk with hk | hk
  · exact ⟨v, w', F', owd, h1, h2, h3, h4, h5, by rw [hk]; exact h6⟩
  · exact ⟨v, w', F2, owd, h1, ⟨h2.os, h2.tape, h2.output, h2.size, h2.block, fun b o h => g1 _ _ (h2.sub b o h), fun b o h => (g2 b o h).elim (h2.new b o) fun h => .inr (h4 _ _ h).1⟩, g3, h4, h5, by rw [hk]; exact g4⟩
end Go.Proofs.Ytopcofkpggefkaa

namespace Go.Proofs.Ytopcofkpggefkaa
open Go

theorem sameKey_ok {tm : Nat → Value} : ∀ {k k' : Key}, sameKey k k' = true → SR.KeyT tm k → SR.KeyT tm k' → keyB k' = true → keyB k = true
  | [], [], _, _, _, _ => rfl
  | [], _ :: _, h, _, _, _ => by simp [sameKey] at h
  | _ :: _, [], h, _, _, _ => by simp [sameKey] at h
  | (n, b, x) :: k, (n', b', x') :: k', h, h1, h2, hk => by
    simp only [sameKey, Bool.and_eq_true, beq_iff_eq] at h
    obtain ⟨hn, rfl, hs⟩ := h
    have hn := Nat.eq_of_beq_eq_true hn
    subst hn
    have hr' : keyB k' = true := by cases b <;> simp [keyB] at hk <;> exact hk.2
    have hr := sameKey_ok hs h1.1 h2.1 hr'
    have e1 := h1.2.1 hr
    have e2 := h2.2.1 hr'
    rw [e1] at e2
    have hx : x = x' := by simpa using e2
    subst hx
    cases b <;> simp [keyB] at hk ⊢ <;> exact ⟨hk.1, hr⟩

theorem sub_ok {tm : Nat → Value} {k' : Key} : ∀ {k : Key}, sub k' k = true → SR.KeyT tm k' → SR.KeyT tm k → keyB k = true → keyB k' = true
  | [], h, h1, h2, hk => sameKey_ok h h1 h2 hk
  | (n, b, x) :: k, h, h1, h2, hk => by
    simp only [sub, Bool.or_eq_true] at h
    rcases h with h | h
    · exact sameKey_ok h h1 h2 hk
    · exact sub_ok h h1 h2.1 (by cases b <;> simp [keyB] at hk <;> exact hk.2)

section
variable {P : Program} {w : World} {F : Fz} {B : Nat} {a : Act} {ge raw : Get} {ow : Nat → Option Nat → Option Nat}

/-- What may be looked at, before its conditions are asked. -/
def RawK (F : Fz) (B : Nat) (w : World) (tm : Nat → Value) (ge raw : Get) (ow : Nat → Option Nat → Option Nat) : Prop :=
  ∀ n, raw n = .dead ∨ (SR F B w tm ge ow n (raw n) ∧ ge n = raw n)

theorem strip_kn {tm : Nat → Value} (hl : Live F w) (h : RawK F B w tm ge raw ow) {k : Key} (hk : SR.KeyT tm k) (hb : keyB k = true) : Kn F B w tm ge (fun n => strip k (raw n)) ow := by
  refine ⟨hl, fun n => ?_⟩
  rcases h n with h | ⟨h, hge⟩
  · left; simp only [h]; rfl
  · show strip k (raw n) = .dead ∨ (SR F B w tm ge ow n (strip k (raw n)) ∧ (∀ k' a, strip k (raw n) ≠ .cond k' a) ∧ (Go.Proofs.Ytopcofkpggefkaa.bears (strip k (raw n)) = true → ge n = strip k (raw n)))
    cases hr : raw n with
    | cond k' a' =>
      rw [hr] at h
      simp only [strip]
      cases hs : sub k' k with
      | false => left; rfl
      | true =>
        cases hc : (isCond a' || bears a') with
        | true => left; rfl
        | false =>
          right
          simp only [Bool.or_eq_false_iff] at hc
          exact ⟨h.2.2.1 (sub_ok hs h.2.1 hk hb), fun k'' a'' e => by have e' : a' = .cond k'' a'' := e; rw [e'] at hc; simp [isCond] at hc, fun hbb => by have h' : Go.Proofs.Ytopcofkpggefkaa.bears a' = true := hbb; rw [hc.2] at h'; exact absurd h' (by simp)⟩
    | _ => right; rw [hr] at h; exact ⟨h, (fun _ _ e => by simp [strip] at e), fun _ => by rw [hge, hr]; rfl⟩

theorem avr_bool {tm : Nat → Value} {o : Option Nat → Option Nat} {k : K} {b : Bool} {v : Value} (h : AVR F B w tm ge o (.v k (.bool b)) v) : v = .bool b := by
  cases k with
  | sh => cases h; rfl
  | fr => cases h; rfl
  | acc f => obtain ⟨h1, _⟩ := h; cases h1; rfl
  | own f => rcases h with ⟨t, h1, _⟩ | ⟨t, xs, b', cap, cs, vs, h1, _⟩ <;> cases h1

theorem aggEq_vals {lo lo' : Nat} : ∀ {cs ds : List C} {e : Bool} {vs us : List Value}, aggEq cs ds = some e → RCs F lo w cs vs → RCs F lo' w ds us → vs = cs.map zv ∧ us = ds.map zv
  | [], [], _, _, _, _, h1, h2 => by cases h1; cases h2; exact ⟨rfl, rfl⟩
  | .int k a :: r, .int k' b :: r', _, vs, us, hq, h1, h2 => by
    simp only [aggEq] at hq
    split at hq
    · rename_i e' hk' hr'
      cases h1 with
      | cons h1 h1' =>
        cases h1
        cases h2 with
        | cons h2 h2' =>
          cases h2
          obtain ⟨q1, q2⟩ := aggEq_vals hr' h1' h2'
          exact ⟨by rw [q1]; rfl, by rw [q2]; rfl⟩
    · cases hq
  | [], _ :: _, _, _, _, hq, _, _ => by simp [aggEq] at hq
  | .bool _ :: _, _, _, _, _, hq, _, _ => by simp [aggEq] at hq
  | .str _ :: _, _, _, _, _, hq, _, _ => by simp [aggEq] at hq
  | .lst _ _ :: _, _, _, _, _, hq, _, _ => by simp [aggEq] at hq
  | .nl _ :: _, _, _, _, _, hq, _, _ => by simp [aggEq] at hq
  | .int _ _ :: _, [], _, _, _, hq, _, _ => by simp [aggEq] at hq
  | .int _ _ :: _, .bool _ :: _, _, _, _, hq, _, _ => by simp [aggEq] at hq
  | .int _ _ :: _, .str _ :: _, _, _, _, hq, _, _ => by simp [aggEq] at hq
  | .int _ _ :: _, .lst _ _ :: _, _, _, _, hq, _, _ => by simp [aggEq] at hq
  | .int _ _ :: _, .nl _ :: _, _, _, _, hq, _, _ => by simp [aggEq] at hq

theorem OpRes.val {s : Sem Value} {tm : Nat → Value} {av : AV} (hl : Live F w) {v : Value} (hr : s.run P w = .ok v w) (h : AVR F B w tm ge (fun _ => none) av v) :
    OpRes P F B w tm ge (do pure (.value (← s))) av := OpRes.same hl (by simp [hr]) h

theorem OpRes.new {s : Sem Value} {tm : Nat → Value} {av : AV} (h : ∃ v w' F' owd, s.run P w = .ok v w' ∧ Grow F w F' w' ∧ Live F' w' ∧ (∀ i b, owd i = some b → w.heap.size ≤ b ∧ b < w'.heap.size) ∧
      (∀ i i' b, owd i = some b → owd i' = some b → i = i') ∧ AVR F' B w' tm ge owd av v) : OpRes P F B w tm ge (do pure (.value (← s))) av := by
  obtain ⟨v, w', F', owd, hr, h⟩ := h
  exact ⟨v, w', F', owd, by simp [hr], h⟩

theorem partsAv_fst {tt : TT} {g : Get} {t : Nat} : ∀ (ps : List (Nat × Operand)), (partsAv tt g t ps).map (·.1) = ps.map (·.1)
  | [] => rfl
  | (_, _) :: r => by simp [partsAv, partsAv_fst r]

set_option maxHeartbeats 4000000 in
/-- An operation that is no call of a function. -/
theorem sev_ok {tt : TT} (htt : TTok P tt) {sp : SP} {k : Key} (hl : Live F w) (hB : B ≤ w.heap.size) (hraw : RawK F B w (fun n => a.tmps.getD n undef) ge raw ow)
    (hk : SR.KeyT (fun n => a.tmps.getD n undef) k) (hb : keyB k = true) {o : Oper} {av : AV} {obs : List Prop} {io : Option (Nat × Int)}
    (hnc : ∀ f args ts, o.op ≠ .call ⟨.value (.func f), args, ts⟩)
    (hs : sev tt sp raw k (fun n => strip k (raw n)) o.type o.op = some ⟨av, obs, io⟩) (ho : ∀ p ∈ obs, p) :
    io = none ∧ OpRes P F B w (fun n => a.tmps.getD n undef) ge (execOp a.eval o) av := by
  have h := strip_kn (F := F) (B := B) (w := w) hl hraw hk hb
  obtain ⟨dst, op, oty, pos, after, guard⟩ := o
  simp only [] at hs hnc
  generalize hg : (fun n => strip k (raw n)) = g at hs h
  cases op with
  | move x =>
    cases x with
    | tmp s => simp [sev, mk1] at hs; obtain ⟨rfl, rfl, rfl⟩ := hs; exact ⟨rfl, OpRes.same hl rfl (move_res h s)⟩
    | _ => simp [sev, mk1] at hs; obtain ⟨rfl, rfl, rfl⟩ := hs; exact ⟨rfl, OpRes.same hl rfl (rdo_const_res tt g _ ge oty _ (by simp))⟩
  | assign x =>
    cases x with
    | tmp s => simp [sev, mk1] at hs; obtain ⟨rfl, rfl, rfl⟩ := hs; exact ⟨rfl, OpRes.same hl rfl (move_res h s)⟩
    | _ => simp [sev, mk1] at hs; obtain ⟨rfl, rfl, rfl⟩ := hs; exact ⟨rfl, OpRes.same hl rfl (rdo_const_res tt g _ ge oty _ (by simp))⟩
  | nilCheck x =>
    cases x with
    | tmp s =>
      simp only [sev] at hs
      have hsr := h.avr s
      cases hgs : g s with
      | box cs =>
        rw [hgs] at hs hsr
        simp only [mk1, Option.some.injEq, Out.mk.injEq] at hs; obtain ⟨rfl, rfl, rfl⟩ := hs
        obtain ⟨hge, b, vs, q1, _⟩ := box_of h hgs
        exact ⟨rfl, OpRes.same hl (v := a.tmps.getD s undef) (by show Sem.run P (match a.tmps.getD s undef with | .pointer none | .nilIface | .nilFunc => _ | .func (.method name) first captured => _ | x => _) w = _; rw [q1]; rfl) ⟨rfl, by rw [hge]; rfl⟩⟩
      | view n i =>
        rw [hgs] at hs hsr
        cases i with
        | some j => simp at hs
        | none =>
          simp only [] at hs
          cases hgn : g n with
          | box cs =>
            rw [hgn] at hs
            simp only [mk1, Option.some.injEq, Out.mk.injEq] at hs; obtain ⟨rfl, rfl, rfl⟩ := hs
            obtain ⟨hge, b, vs, q1, _⟩ := box_of h hgn
            have hv : a.tmps.getD s undef = .pointer (some ⟨b, 0, none⟩) := hsr.1.trans q1
            exact ⟨rfl, OpRes.same hl (v := a.tmps.getD s undef) (by show Sem.run P (match a.tmps.getD s undef with | .pointer none | .nilIface | .nilFunc => _ | .func (.method name) first captured => _ | x => _) w = _; rw [hv]; rfl) hsr⟩
          | _ => rw [hgn] at hs; simp at hs
      | _ => rw [hgs] at hs; simp at hs
    | _ => simp [sev] at hs
  | pick c x y =>
    simp only [sev, pickAv] at hs
    split at hs
    · rename_i n
      split at hs
      · rename_i kk b hc
        have hcv : a.tmps.getD n undef = .bool b := by
          have := h.avr n
          rw [← hg] at this
          simp only [hc] at this
          exact avr_bool this
        split at hs
        · rename_i k1 p k2 q hx hy
          simp only [mk1, Option.some.injEq, Out.mk.injEq] at hs; obtain ⟨rfl, rfl, rfl⟩ := hs
          refine ⟨rfl, ?_⟩
          have opd : ∀ {kb : Bool} {z : Operand} {kz : K} {r : Bool}, b = kb → strip ((n, kb, b) :: k) (rdo tt raw oty z) = .v kz (.bool r) → a.eval z = .bool r := by
            intro kb z kz r hkb hz
            have hkk : SR.KeyT (fun n => a.tmps.getD n undef) ((n, kb, b) :: k) := ⟨hk, fun _ => hcv, fun hf => by rw [hb] at hf; exact absurd hf (by simp)⟩
            have hbb : keyB ((n, kb, b) :: k) = true := by subst hkb; cases b <;> simp [keyB, hb]
            have h2 := strip_kn (F := F) (B := B) (w := w) hl hraw hkk hbb
            cases z with
            | tmp m =>
              have := h2.avr m
              simp only [rdo] at hz
              simp only [hz] at this
              exact avr_bool this
            | const v =>
              have := rdo_const_res (F := F) (B := B) (w := w) (a := a) tt raw (fun n => a.tmps.getD n undef) ge oty (.const v) (by simp)
              cases hr : rdo tt raw oty (.const v) with
              | v kq cq =>
                rw [hr] at hz this
                simp only [strip] at hz
                cases hz
                simp only [rdo] at hr
                split at hr
                · cases hr; exact avr_bool this
                · cases hr
              | cond k' a' =>
                simp only [rdo] at hr
                split at hr <;> cases hr
              | _ => rw [hr] at hz; simp [strip] at hz
            | global m => simp [rdo, strip] at hz
            | func m => simp [rdo, strip] at hz
          refine OpRes.same hl (v := .bool (cond b p q)) ?_ (.bool _)
          have hcv' : a.eval (.tmp n) = .bool b := hcv
          cases b with
          | true => simp [execOp, hcv', asBool, opd (kb := true) rfl hx]
          | false => simp [execOp, hcv', asBool, opd (kb := false) rfl hy]
        · cases hs
      · cases hs
    · cases hs
  | binOp op t x y yt =>
    simp only [sev] at hs
    split at hs
    · rename_i b1 p b2 q hp hq
      have hP := plain_rdo h hp
      have hQ := plain_rdo h hq
      split at hs
      · rename_i c obs' hag hbin
        simp only [mk1, Option.some.injEq, Out.mk.injEq] at hs; obtain ⟨rfl, rfl, rfl⟩ := hs
        refine ⟨rfl, ?_⟩
        show OpRes P F B w _ ge (do let r ← (do eqGuard op t x y (a.eval x) (a.eval y); binOp op t (a.eval x) (a.eval y)); pure (.value r)) _
        have hbin0 := hbin
        unfold bin at hbin
        split at hbin
        · rename_i f1 k1 n1 f2 k2 n2
          split at hbin
          · rename_i hke
            have := kindEq_eq hke
            subst this
            rw [hP.int, hQ.int]
            exact bin_int hl _ ge hbin0 ho
          · cases hbin
        · rename_i f1 s1 f2 s2
          rw [hP.str, hQ.str]
          exact bin_str hl _ ge hbin0 ho
        · rename_i f1 x1 f2 x2
          have hty : isBoolT tt t = true := by simpa [binBad] using hag
          have hu : P.underlying t = some .bool := by
            unfold isBoolT at hty
            split at hty
            · rename_i d hd
              split at hty
              · rename_i b0 hsh hze
                obtain ⟨u, hu, hm⟩ := (htt.td _ _ hd).und
                rw [hsh] at hm
                rcases hm with ⟨k, n, _, hz⟩ | ⟨b, rfl, _⟩ | ⟨s, _, hz⟩
                · rw [hze] at hz; cases hz
                · exact hu
                · rw [hze] at hz; cases hz
              · cases hty
            · cases hty
          have heq : ∀ u v : Bool, (Op.equal t (.bool u) (.bool v)).run P w = .ok (u == v) w := fun u v => by
            show (Op.equalIn (9999 + 1) t (.bool u) (.bool v)).run P w = _
            unfold Op.equalIn
            simp [run_underlying hu]
          rw [hP.bool, hQ.bool]
          split at hbin
          · simp at hbin; obtain ⟨rfl, rfl⟩ := hbin
            refine OpRes.same hl (v := .bool (x1 == x2)) ?_ (.bool _)
            simp [eqGuard, binOp, heq]
          · simp at hbin; obtain ⟨rfl, rfl⟩ := hbin
            refine OpRes.same hl (v := .bool (!(x1 == x2))) ?_ (.bool _)
            simp [eqGuard, binOp, heq]
          · cases hbin
        · rename_i f1 cs f2 ds
          obtain ⟨vs, hvs, hr1⟩ := hP.agg
          obtain ⟨us, hus, hr2⟩ := hQ.agg
          have heq : eqOf tt t cs = true := by simpa [binBad] using hag
          unfold eqOf at heq
          split at heq
          · rename_i d hd
            simp only [Bool.and_eq_true] at heq
            have hlen := Nat.eq_of_beq_eq_true heq.2
            obtain ⟨hgt, hrun⟩ := htt.eq _ _ hd heq.1
            split at hbin
            · rename_i e hae
              simp at hbin; obtain ⟨rfl, rfl⟩ := hbin
              obtain ⟨q1, q2⟩ := aggEq_vals hae hr1 hr2
              have hr := hrun w cs ds e hae hlen
              rw [← q1, ← q2, ← hvs, ← hus] at hr
              refine OpRes.same hl (v := .bool e) ?_ (.bool _)
              rw [hvs, hus] at hr ⊢
              simp [eqGuard, hgt, binOp, hr]
            · rename_i e hae
              simp at hbin; obtain ⟨rfl, rfl⟩ := hbin
              obtain ⟨q1, q2⟩ := aggEq_vals hae hr1 hr2
              have hr := hrun w cs ds e hae hlen
              rw [← q1, ← q2, ← hvs, ← hus] at hr
              refine OpRes.same hl (v := .bool (!e)) ?_ (.bool _)
              rw [hvs, hus] at hr ⊢
              simp [eqGuard, hgt, binOp, hr]
            · cases hbin
          · cases heq
        · cases hbin
      · cases hs
    · cases hs
  | unOp op t x =>
    simp only [sev] at hs
    split at hs
    · rename_i b1 f1 b hp
      have hP := (plain_rdo h hp).bool
      simp only [mk1, Option.some.injEq, Out.mk.injEq] at hs; obtain ⟨rfl, rfl, rfl⟩ := hs
      exact ⟨rfl, OpRes.val hl (v := .bool (!b)) (by rw [hP]; simp [Op.unary]) (.bool _)⟩
    · rename_i b1 f1 kk n hp
      have hP := (plain_rdo h hp).int
      simp only [mk1, Option.some.injEq, Out.mk.injEq] at hs; obtain ⟨rfl, rfl, rfl⟩ := hs
      exact ⟨rfl, OpRes.val hl (v := .int kk (kk.wrap (0 - n))) (by rw [hP]; simp [Op.unary, Op.intArith]) (.int _ _)⟩
    · cases hs
  | convert s t x =>
    simp only [sev] at hs
    split at hs
    · rename_i b1 f1 k1 n x1 kk m x2 x3 d hp hd hd2
      have hP := (plain_rdo h hp).int
      simp only [mk1, Option.some.injEq, Out.mk.injEq] at hs; obtain ⟨rfl, rfl, rfl⟩ := hs
      obtain ⟨u, hu, hdu⟩ := (htt.td _ _ hd).und
      obtain ⟨u2, hu2, _⟩ := (htt.td _ _ hd2).und
      rcases hdu with ⟨k2, n2, rfl, e⟩ | ⟨b, _, e⟩ | ⟨s, _, e⟩
      · cases e
        exact ⟨rfl, OpRes.val hl (v := .int kk (kk.wrap n)) (by rw [hP]; simp [convert, run_underlying hu2, run_underlying hu, Conv.intToInt]) (.int _ _)⟩
      · cases e
      · cases e
    · cases hs
  | box t x =>
    simp only [sev] at hs
    split at hs
    · rename_i f1 ag cs d hp hd
      have hP : PVR F B w ⟨f1, ag, cs⟩ (a.eval x) := plainR_rdo h hp
      split at hs
      · simp only [mk1, Option.some.injEq, Out.mk.injEq] at hs; obtain ⟨rfl, rfl, rfl⟩ := hs
        refine ⟨rfl, OpRes.new ?_⟩
        obtain ⟨owd, q1, q2, q3, q4, q5⟩ := box_new hl hB hP.cells t (fun n => a.tmps.getD n undef) ge
        exact ⟨_, _, F, owd, by simp [Instr.box, newVar, newRow], q1, q2, q3, q4, q5⟩
      · cases hs
    · cases hs
  | alloc t =>
    simp only [sev] at hs
    split at hs
    · rename_i d hd
      simp only [mk1, Option.some.injEq, Out.mk.injEq] at hs; obtain ⟨rfl, rfl, rfl⟩ := hs
      refine ⟨rfl, OpRes.new ?_⟩
      obtain ⟨z, hz, hzo⟩ := (htt.td _ _ hd).zeroV w
      obtain ⟨owd, q1, q2, q3, q4, q5⟩ := box_new (f := true) hl hB (zOk_RCs hzo) t (fun n => a.tmps.getD n undef) ge
      have hk : (d.zero.map fun c => (kC true c, c)) = d.zero.map fun c => (K.fr, c) := by congr 1; funext c; rw [kC_true]
      rw [hk] at q5
      exact ⟨_, _, F, owd, by simp [Instr.alloc, hz, newVar, newRow], q1, q2, q3, q4, q5⟩
    · cases hs
  | build t ps =>
    simp only [sev] at hs
    split at hs
    · rename_i fs x1 z x2 x3 hd
      split at hs
      · rename_i l hl'
        split at hs
        · rename_i f cs hf
          simp only [mk1, Option.some.injEq, Out.mk.injEq] at hs; obtain ⟨rfl, rfl, rfl⟩ := hs
          obtain ⟨h1, h2⟩ := plainAll_ok h hl'
          obtain ⟨us, hr, hrc⟩ := build_ok (P := P) (htt.td _ _ hd) rfl (vs := ps.map fun (i, x) => (i, a.eval x)) (by rw [h1]; simp) (fun j i p v hj hv => by
            simp only [Array.toList_map, List.getElem?_map, Option.map_map] at hv
            cases hps : ps.toList[j]? with
            | none => rw [hps] at hv; simp at hv
            | some ix =>
              rw [hps] at hv
              simp at hv
              subst hv
              exact h2 j i p ix.2 hj (by rw [hps]; rfl)) hf
          exact ⟨rfl, OpRes.val hl hr ⟨us, rfl, hrc⟩⟩
        · cases hs
      · cases hs
    · cases hs
  | buildSlice t n ps =>
    simp only [sev] at hs
    split at hs
    · rename_i y d hd
      split at hs
      · rename_i l hl'
        split at hs
        · rename_i f xs hp hb
          simp only [mk1, Option.some.injEq, Out.mk.injEq] at hs; obtain ⟨rfl, rfl, rfl⟩ := hs
          simp only [Bool.and_eq_true] at hb
          obtain ⟨e, he, hle, hy, hdok, hid⟩ := elem_of htt hd
          obtain ⟨h1, h2⟩ := plainAll_ok h hl'
          exact ⟨rfl, OpRes.new (buildSlice_ok hl hB he hdok hy (vs := ps.map fun (i, x) => (i, a.eval x)) (by rw [h1]; simp) (fun j i p v hj hv => by
            simp only [Array.toList_map, List.getElem?_map, Option.map_map] at hv
            cases hps : ps.toList[j]? with
            | none => rw [hps] at hv; simp at hv
            | some ix =>
              rw [hps] at hv
              simp at hv
              subst hv
              exact h2 j i p ix.2 hj (by rw [hps]; rfl)) hp (Nat.eq_of_beq_eq_true hb.1) (Nat.le_of_ble_eq_true hb.2) _ ge)⟩
        · cases hs
      · cases hs
    · cases hs
  | load t x =>
    simp only [sev] at hs
    split at hs
    · rename_i d hd
      split at hs
      · rename_i r hr
        simp only [mk1, Option.some.injEq, Out.mk.injEq] at hs; obtain ⟨rfl, rfl, rfl⟩ := hs
        obtain ⟨v, hv, hav⟩ := load_ok (P := P) h (htt.td _ _ hd) hr
        exact ⟨rfl, OpRes.val hl hv hav⟩
      · cases hs
    · cases hs
  | fieldAddr t x i =>
    simp only [sev] at hs
    split at hs
    · rename_i fs x1 x2 x3 x4 hd
      split at hs
      · rename_i oo n hi
        split at hs
        · rename_i r hr
          simp only [mk1, Option.some.injEq, Out.mk.injEq] at hs; obtain ⟨rfl, rfl, rfl⟩ := hs
          obtain ⟨v, hv, hav⟩ := field_ok (P := P) h (htt.td _ _ hd) rfl hi hr
          exact ⟨rfl, OpRes.val hl hv hav⟩
        · cases hs
      · cases hs
    · cases hs
  | indexAddr t x i =>
    simp only [sev] at hs
    split at hs
    · rename_i sz n hsz hn
      obtain ⟨e, he, hz⟩ := elemSz_of htt hsz
      obtain ⟨kk, hkk⟩ := int1_ok h hn
      obtain ⟨rfl, v, hv, hav⟩ := index_ok (P := P) h (k := kk) he hz hs ho
      exact ⟨rfl, OpRes.val hl (by rw [hkk]; exact hv) hav⟩
    · cases hs
  | index t x i =>
    simp only [sev] at hs
    split at hs
    · rename_i b1 f1 s n ht hp hn
      obtain ⟨kk, hkk⟩ := int1_ok h hn
      simp only [mk1, Option.some.injEq, Out.mk.injEq] at hs; obtain ⟨rfl, rfl, rfl⟩ := hs
      exact ⟨rfl, OpRes.val hl (by rw [hkk, (plain_rdo h hp).str]; exact sidx_ok (isStrT_of htt ht) (ho _ (by simp))) (.int _ _)⟩
    · cases hs
  | slice t x lo hi mx =>
    cases mx with
    | some m => simp [sev] at hs
    | none =>
      have key : ∀ {v : Bool × PV} {m : Int} {hh : Option Int}, plain g (rdo tt g t x) = some v → cutVal tt t m hh v = some ⟨av, obs, io⟩ →
          ((lo.map a.eval = none ∧ m = 0) ∨ ∃ k, lo.map a.eval = some (.int k m)) → ((hh = none ∧ hi.map a.eval = none) ∨ ∃ n k, hh = some n ∧ hi.map a.eval = some (.int k n)) →
          io = none ∧ OpRes P F B w (fun n => a.tmps.getD n undef) ge (execOp a.eval { dst := dst, op := .slice t x lo hi none, type := oty, pos := pos, after := after, guard := guard }) av := by
        intro v m hh hp hc hlo hhi
        obtain ⟨bo, p⟩ := v
        have hP := plain_rdo h hp
        unfold cutVal at hc
        split at hc
        · rename_i sz hsz
          obtain ⟨e, he, hz⟩ := elemSz_of htt hsz
          obtain ⟨h1, u, hu, hav⟩ := cutList_ok (P := P) he hz hP hc ho hlo hhi (fun n => a.tmps.getD n undef)
          exact ⟨h1, OpRes.val hl hu hav⟩
        · rename_i hsz hst
          obtain ⟨h1, u, hu, hav⟩ := cutStr_ok (P := P) (isStrT_of htt hst) hP hc ho hlo hhi (fun n => a.tmps.getD n undef)
          exact ⟨h1, OpRes.val hl hu hav⟩
        · cases hc
      simp only [sev] at hs
      split at hs
      · rename_i v hh hp hlo hhi
        rcases bound_ok h hlo with ⟨_, e⟩ | ⟨n, k, e, _⟩
        · exact key hp hs (.inl ⟨e, rfl⟩) (bound_ok h hhi)
        · cases e
      · rename_i v m hh hp hlo hhi
        rcases bound_ok h hlo with ⟨e, _⟩ | ⟨n, k, e, e2⟩
        · cases e
        · cases e
          exact key hp hs (.inr ⟨k, e2⟩) (bound_ok h hhi)
      · cases hs
  | makeSlice t n m =>
    simp only [sev] at hs
    split at hs
    · rename_i p q y d hp hq hd
      split at hs
      · rename_i z hz
        simp only [mk1, Option.some.injEq, Out.mk.injEq] at hs; obtain ⟨rfl, rfl, rfl⟩ := hs
        obtain ⟨k1, e1⟩ := int1_ok h hp
        obtain ⟨k2, e2⟩ := int1_ok h hq
        obtain ⟨e, he, hle, hy, hdok, hid⟩ := elem_of htt hd
        have := makeSliceK_ok (P := P) hl hB he hdok hy hz (p := p) (q := q) (k := k1) (k' := k2) (ho _ (List.mem_singleton_self _)) (fun n => a.tmps.getD n undef) ge
        rw [← e1, ← e2] at this
        exact ⟨rfl, OpRes.new this⟩
      · cases hs
    · cases hs
  | extract x i =>
    simp only [sev] at hs
    split at hs
    · rename_i l hx
      split at hs
      · rename_i p hp
        simp only [mk1, Option.some.injEq, Out.mk.injEq] at hs; obtain ⟨rfl, rfl, rfl⟩ := hs
        obtain ⟨o, hav⟩ := rdo_avr h tt 0 x
        rw [hx] at hav
        obtain ⟨vs, hv, hr⟩ := hav
        have : ∀ {l : List PV} {vs : List Value} {i : Nat} {p : PV}, PVRs F B w l vs → l[i]? = some p → ∃ u, vs[i]? = some u ∧ PVR F B w p u := by
          intro l vs i p hr
          induction hr generalizing i with
          | nil => intro h; simp at h
          | cons h1 h2 ih =>
            intro h
            cases i with
            | zero => simp at h; subst h; exact ⟨_, rfl, h1⟩
            | succ i => simpa using ih (by simpa using h)
        obtain ⟨u, hu, hpu⟩ := this hr hp
        refine ⟨rfl, OpRes.val hl (v := u) (by rw [hv]; simp [Instr.extract, hu]) ?_⟩
        obtain ⟨f, ag, cs⟩ := p
        cases ag with
        | true => exact hpu
        | false =>
          match cs, hpu with
          | [c], hpu => exact avr_frK hpu
      · cases hs
    · cases hs
  | call c =>
    obtain ⟨callee, args, ts⟩ := c
    cases callee with
    | builtin b =>
      cases b with
      | len =>
        simp only [sev] at hs
        split at hs
        · rename_i x t hx ht
          split at hs
          · rename_i c hc
            simp only [mk1, Option.some.injEq, Out.mk.injEq] at hs; obtain ⟨rfl, rfl, rfl⟩ := hs
            have hargs : args = #[x] := by apply Array.ext'; simpa using hx
            have hts : ts = #[t] := by apply Array.ext'; simpa using ht
            subst hargs; subst hts
            obtain ⟨n, rfl, hr⟩ := len_ok (P := P) h htt (ty := oty) hc
            exact ⟨rfl, OpRes.same hl (v := .int .i64 n) (by simp [execOp, resolve, invoke, builtin, hr]) (.int _ _)⟩
          · cases hs
        · cases hs
      | max =>
        simp only [sev] at hs
        split at hs
        · rename_i x y hx
          split at hs
          · rename_i b1 f1 kk p b2 f2 k2 q hp hq
            simp only [mk1, Option.some.injEq, Out.mk.injEq] at hs; obtain ⟨rfl, rfl, rfl⟩ := hs
            have hargs : args = #[x, y] := by apply Array.ext'; simpa using hx
            subst hargs
            have h1 := (plain_rdo h hp).int
            have h2 := (plain_rdo h hq).int
            exact ⟨rfl, OpRes.same hl (v := .int kk (Go.Proofs.Ytopcofkpggefkaa.mx p q)) (by simp [execOp, resolve, invoke, builtin, h1, h2, run_max_int2, Go.Proofs.Ytopcofkpggefkaa.mx]) (.int _ _)⟩
          · cases hs
        · cases hs
      | min =>
        simp only [sev] at hs
        split at hs
        · rename_i x y hx
          split at hs
          · rename_i b1 f1 kk p b2 f2 k2 q hp hq
            simp only [mk1, Option.some.injEq, Out.mk.injEq] at hs; obtain ⟨rfl, rfl, rfl⟩ := hs
            have hargs : args = #[x, y] := by apply Array.ext'; simpa using hx
            subst hargs
            have h1 := (plain_rdo h hp).int
            have h2 := (plain_rdo h hq).int
            exact ⟨rfl, OpRes.same hl (v := .int kk (mn p q)) (by simp [execOp, resolve, invoke, builtin, h1, h2, run_min_int2, mn]) (.int _ _)⟩
          · cases hs
        · cases hs
      | _ => simp [sev] at hs
    | value f =>
      cases f with
      | func f => exact absurd rfl (hnc f args ts)
      | _ => simp [sev] at hs
    | invoke r m => simp [sev] at hs
  | _ => simp [sev] at hs
end
end Go.Proofs.Ytopcofkpggefkaa

namespace Go.Proofs.Ytopcofkpggefkaa
open Go

def ArgR (F : Fz) (w : World) (p : PT) (x : p.T) (v : Value) : Prop := PVR F 0 w ⟨false, (enc1 p x).1, (enc1 p x).2⟩ v

/-- The arguments, in memory; the block of the reader that is handed in, if there is one. -/
def ArgsR (F : Fz) (w : World) : (ps : List PT) → Args ps → List Value → Option Nat → Prop
  | [], _, vs, io => vs = [] ∧ io = none
  | .rdr :: ps, x, vs, io => ∃ b sl vs', vs = .pointer (some ⟨b, 0, none⟩) :: vs' ∧ io = some b ∧ Blk w b [sl, .int .i64 x.1.2] ∧ RC F 0 w (.lst .byte x.1.1) sl ∧ (∀ o, ¬ F b o) ∧ ArgsR F w ps x.2 vs' none
  | .int k :: ps, x, vs, io => ∃ v vs', vs = v :: vs' ∧ ArgR F w (.int k) x.1 v ∧ ArgsR F w ps x.2 vs' io
  | .bool :: ps, x, vs, io => ∃ v vs', vs = v :: vs' ∧ ArgR F w .bool x.1 v ∧ ArgsR F w ps x.2 vs' io
  | .str :: ps, x, vs, io => ∃ v vs', vs = v :: vs' ∧ ArgR F w .str x.1 v ∧ ArgsR F w ps x.2 vs' io
  | .lst t :: ps, x, vs, io => ∃ v vs', vs = v :: vs' ∧ ArgR F w (.lst t) x.1 v ∧ ArgsR F w ps x.2 vs' io
  | .st t :: ps, x, vs, io => ∃ v vs', vs = v :: vs' ∧ ArgR F w (.st t) x.1 v ∧ ArgsR F w ps x.2 vs' io

/-- What a call leaves: what was there is as it was, but for the reader's place. -/
structure Left (F : Fz) (w : World) (io : Option Nat) (F' : Fz) (w' : World) : Prop where
  os : w'.os = w.os
  tape : w'.tape = w.tape
  output : w'.output = w.output
  size : w.heap.size ≤ w'.heap.size
  block : ∀ k, k < w.heap.size → io ≠ some k → w'.heap[k]? = w.heap[k]?
  sub : ∀ b o, F b o → F' b o
  new : ∀ b o, F' b o → F b o ∨ w.heap.size ≤ b
  live : Live F' w'

/-- The bytes of the reader among the arguments. -/
def rdB : (ps : List PT) → Args ps → Option (List Int)
  | [], _ => none
  | .rdr :: _, x => some x.1.1
  | .int _ :: ps, x => rdB ps x.2
  | .bool :: ps, x => rdB ps x.2
  | .str :: ps, x => rdB ps x.2
  | .lst _ :: ps, x => rdB ps x.2
  | .st _ :: ps, x => rdB ps x.2

def CallPost (s : Spec) (x : Args s.pts) (F : Fz) (w : World) (io : Option Nat) (e : Ending) (w' : World) : Prop :=
  ∃ v F' ow, e = .returned v ∧ Left F w io F' w' ∧ (∀ i b, ow i = some b → w.heap.size ≤ b ∧ b < w'.heap.size) ∧ (∀ i i' b, ow i = some b → ow i' = some b → i = i') ∧
    VR F' w.heap.size w' ow (s.rt.av (s.val x).1) v ∧ ∀ b bs, io = some b → rdB s.pts x = some bs → ∃ sl, Blk w' b [sl, .int .i64 (s.val x).2] ∧ RC F' 0 w' (.lst .byte bs) sl

structure Con (P : Program) (f : Nat) (s : Spec) : Prop where
  fn : ∃ fn, P.funcs[f]? = some fn ∧ (fn.name == "runtime.NumGoroutine") = false ∧ fn.body.isNone = false
  call : ∀ (x : Args s.pts), s.pre x → ∀ (w : World) (F : Fz) (vs : List Value) (io : Option Nat), Live F w → ArgsR F w s.pts x vs io → Calls P f vs.toArray w (CallPost s x F w io)

theorem castL_ok {F : Fz} {lo : Nat} {w : World} {t u : Ty} {xs : List u.T} {ys : List t.T} {v : Value} (h : castL t u xs = some ys) (hr : RC F lo w (.lst u xs) v) : RC F lo w (.lst t ys) v := by
  cases t <;> cases u <;> first | (simp [castL] at h; done) | (have h' : some xs = some ys := h; cases h'; exact hr)

theorem castL_len {t u : Ty} {xs : List u.T} {ys : List t.T} (h : castL t u xs = some ys) : ∃ e : u = t, ys = e ▸ xs := by
  cases t <;> cases u <;> first | (simp [castL] at h; done) | (have h' : some xs = some ys := h; cases h'; exact ⟨rfl, rfl⟩)

theorem dec1_ok {F : Fz} {w : World} {p : PT} {pv : PV} {x : p.T} {v : Value} (h : dec1 p pv = some x) (hv : PVR F 0 w pv v) : ArgR F w p x v := by
  obtain ⟨f, ag, cs⟩ := pv
  have h0 : ∀ {c : C}, RC F (lof 0 f) w c v → RC F (lof 0 false) w c v := fun h => h.mono (fun _ _ h => h) (by cases f <;> simp [lof]) (fun _ _ _ => rfl)
  cases p with
  | rdr => simp [dec1] at h
  | int k =>
    match ag, cs, h, hv with
    | false, [.int k' n], h, hv =>
      simp only [dec1] at h
      split at h
      · rename_i hk
        cases h
        cases kindEq_eq hk
        exact h0 hv
      · cases h
  | bool =>
    match ag, cs, h, hv with
    | false, [.bool b], h, hv => simp only [dec1] at h; cases h; exact h0 hv
  | str =>
    match ag, cs, h, hv with
    | false, [.str s], h, hv => simp only [dec1] at h; cases h; exact h0 hv
  | lst t =>
    match ag, cs, h, hv with
    | false, [.lst u xs], h, hv => simp only [dec1] at h; exact h0 (castL_ok h hv)
  | st t =>
    cases ag with
    | false => simp [dec1] at h
    | true =>
      simp only [dec1] at h
      obtain ⟨vs, rfl, hr⟩ := hv
      refine ⟨vs, rfl, ?_⟩
      show RCs F (lof 0 false) w (cells t x) vs
      rw [pack_cells h]
      exact hr.mono (fun _ _ h => h) (by cases f <;> simp [lof]) (fun _ _ _ => rfl)

theorem PVR.zero {F : Fz} {B : Nat} {w : World} {p : PV} {v : Value} (h : PVR F B w p v) : PVR F 0 w p v := h.mono (fun _ _ h => h) (Nat.zero_le _) (fun _ _ _ => rfl)

section
variable {P : Program} {w : World} {F : Fz} {B : Nat} {a : Act} {ge g : Get} {ow : Nat → Option Nat → Option Nat}

/-- What may be read while a call runs: the frozen cells, and those of lists that are lent. -/
def Lent (F : Fz) (ge : Get) (ow : Nat → Option Nat → Option Nat) (bo : Bool) : Fz := fun b o =>
  F b o ∨ (bo = true ∧ ∃ m f t xs, ge m = .v (.own f) (.lst t xs) ∧ ow m none = some b ∧ o < xs.length * t.size)

theorem own_lent {f : Bool} {m : Nat} {c : C} {v : Value} (hge : ge m = .v (.own f) c) (h : OwnR F (lof B f) w (ow m none) c v) : RC (Lent F ge ow true) 0 w c v := by
  rcases h with ⟨t, rfl, rfl⟩ | ⟨t, xs, b, cap, cs, vs, rfl, rfl, h3, h4, h5, h5', h6, h7, h8, h9⟩
  · exact .nil t
  refine .lst t xs b 0 cap vs (Nat.zero_le _) h5' (fun i j hi hj => .inr ⟨rfl, m, f, t, xs, hge, h3, ?_⟩) (fun i j hi hj => ?_) (fun i j x c hx hc => ?_)
  · have : i * t.size + t.size ≤ xs.length * t.size := by rw [← Nat.succ_mul]; exact Nat.mul_le_mul_right _ hi
    omega
  · rw [Nat.zero_add, h4.cell]; exact h8 i j hi hj
  · exact (h9 i j x c hx hc).mono (fun _ _ h => .inl h) (Nat.zero_le _) (fun _ _ _ => rfl)

theorem lent_mono {bo bo' : Bool} (h : bo = true → bo' = true) : ∀ b o, Lent F ge ow bo b o → Lent F ge ow bo' b o :=
  fun _ _ hb => hb.elim .inl (fun ⟨h1, h2⟩ => .inr ⟨h h1, h2⟩)

theorem ArgR.mono {F F' : Fz} {w : World} (hF : ∀ b o, F b o → F' b o) {p : PT} {x : p.T} {v : Value} (h : ArgR F w p x v) : ArgR F' w p x v := PVR.mono hF (Nat.le_refl _) (fun _ _ _ => rfl) h

theorem plain_argV {tt : TT} {t : Nat} {y : Operand} : plain g (argV y (rdo tt g t y)) = plain g (rdo tt g t y) := by
  unfold argV
  split
  · rename_i n cs hb
    have hb : g n = .box cs := hb
    show plain g (.view n none) = plain g (g n)
    rw [hb]
    simp only [plain, plainR, hb]
  · rfl
theorem argV_view (h : Kn F B w (fun n => a.tmps.getD n undef) ge g ow) {tt : TT} {t : Nat} {y : Operand} {n : Nat} (hv : argV y (rdo tt g t y) = .view n none) : a.eval y = a.tmps.getD n undef := by
  obtain ⟨o, hav⟩ := rdo_avr h tt t y
  generalize rdo tt g t y = r at hv hav
  unfold argV at hv
  split at hv
  · cases hv; rfl
  · rw [hv] at hav
    exact hav.1
/-- The arguments that the evaluator decodes stand in memory. -/
theorem decA_ok (h : Kn F B w (fun n => a.tmps.getD n undef) ge g ow) (hinj : ∀ s i s' i' b, ow s i = some b → ow s' i' = some b → s = s' ∧ i = i') {tt : TT} :
    ∀ {ps : List PT} {xs : List Operand} {ts : List Nat} {bo : Bool} {r : Option Nat} {x : Args ps} {Fx : Fz}, (∀ b o, Lent F ge ow bo b o → Fx b o) → (∀ b o, Fx b o → Lent F ge ow true b o) → xs.length = ts.length →
      decA g ps (argsAv tt g xs ts) = some (bo, r, x) → ArgsR Fx w ps x (xs.map a.eval) (r.bind (ow · none)) ∧ (r = none → True) ∧ ∀ s, r = some s → ∃ b bs q, ow s none = some b ∧ ge s = .box [(.sh, .lst .byte bs), (.fr, .int .i64 q)] ∧ rdB ps x = some bs
  | [], [], [], bo, r, x, Fx, hF, hF', hl, hd => by
    simp [decA, argsAv] at hd
    obtain ⟨rfl, rfl⟩ := hd
    exact ⟨⟨rfl, rfl⟩, fun _ => trivial, fun s hs => by simp at hs⟩
  | [], y :: ys, [], bo, r, x, Fx, hF, hF', hl, hd => by simp at hl
  | [], [], t :: ts, bo, r, x, Fx, hF, hF', hl, hd => by simp at hl
  | p :: ps, y :: ys, [], bo, r, x, Fx, hF, hF', hl, hd => by simp at hl
  | p :: ps, [], t :: ts, bo, r, x, Fx, hF, hF', hl, hd => by simp at hl
  | [], y :: ys, t :: ts, bo, r, x, Fx, hF, hF', hl, hd => by simp [decA, argsAv] at hd
  | p :: ps, [], [], bo, r, x, Fx, hF, hF', hl, hd => by cases p <;> simp [decA, argsAv] at hd
  | p :: ps, y :: ys, t :: ts, bo, r, x, Fx, hF, hF', hl, hd => by
    have gen : joinA (dec1A g p (argV y (rdo tt g t y))) (decA g ps (argsAv tt g ys ts)) = some (bo, r, x) → ArgR Fx w p x.1 (a.eval y) ∧ ArgsR Fx w ps x.2 (ys.map a.eval) (r.bind (ow · none)) ∧ ∀ s, r = some s → ∃ b bs q, ow s none = some b ∧ ge s = .box [(.sh, .lst .byte bs), (.fr, .int .i64 q)] ∧ rdB ps x.2 = some bs := by
      intro hq
      cases hx : dec1A g p (argV y (rdo tt g t y)) with
      | none => rw [hx] at hq; simp [joinA] at hq
      | some bx =>
        obtain ⟨b1, x1⟩ := bx
        cases hdr : decA g ps (argsAv tt g ys ts) with
        | none => rw [hx, hdr] at hq; simp [joinA] at hq
        | some q =>
          obtain ⟨b2, s, xs⟩ := q
          rw [hx, hdr] at hq
          simp only [joinA, Option.some.injEq, Prod.mk.injEq] at hq
          obtain ⟨rfl, rfl, rfl⟩ := hq
          obtain ⟨q1, _, q3⟩ := decA_ok (Fx := Fx) h hinj (fun b o hb => hF b o (lent_mono (fun hb2 => by rw [hb2]; simp) b o hb)) hF' (by simpa using hl) hdr
          refine ⟨?_, q1, q3⟩
          unfold dec1A at hx
          rw [plain_argV] at hx
          cases hpl : plain g (rdo tt g t y) with
          | none => rw [hpl] at hx; simp at hx
          | some bp =>
            obtain ⟨b1', pv⟩ := bp
            rw [hpl] at hx
            simp only [] at hx
            cases hd1 : dec1 p pv with
            | none => rw [hd1] at hx; simp at hx
            | some x1' =>
              rw [hd1] at hx
              simp only [Option.some.injEq, Prod.mk.injEq] at hx
              obtain ⟨rfl, rfl⟩ := hx
              have hP := plain_rdo h hpl
              cases b1' with
              | false => exact dec1_ok hd1 ((PVR.zero hP).mono (fun b o hb => hF b o (.inl hb)) (Nat.le_refl _) (fun _ _ _ => rfl))
              | true =>
                obtain ⟨f, c, m, rfl, hgm, hown⟩ := hP
                have hr := own_lent (F := F) hgm hown
                refine dec1_ok hd1 (p := p) (F := Fx) (w := w) ?_
                have hr' : RC Fx 0 w c (a.eval y) := hr.mono (fun b o hb => hF b o (lent_mono (by simp) b o hb)) (Nat.le_refl _) (fun _ _ _ => rfl)
                exact hr'.mono (fun _ _ h => h) (by cases f <;> simp [lof]) (fun _ _ _ => rfl)
    cases p with
    | rdr =>
      simp only [decA, argsAv] at hd
      cases hr : decR g (argV y (rdo tt g t y)) with
      | none => rw [hr] at hd; simp at hd
      | some sx =>
        obtain ⟨s, bs, pp⟩ := sx
        rw [hr] at hd
        cases hdr : decA g ps (argsAv tt g ys ts) with
        | none => rw [hdr] at hd; simp at hd
        | some q =>
          obtain ⟨b1, s', x1⟩ := q
          rw [hdr] at hd
          cases s' with
          | some s' => simp at hd
          | none =>
            simp only [Option.some.injEq, Prod.mk.injEq] at hd
            obtain ⟨rfl, rfl, rfl⟩ := hd
            obtain ⟨q1, _, q3⟩ := decA_ok (Fx := Fx) h hinj hF hF' (by simpa using hl) hdr
            unfold decR at hr
            split at hr
            · rename_i n hv
              have hvn : a.eval y = a.tmps.getD n undef := argV_view h hv
              split at hr
              · rename_i bs' pp' hg
                cases hr
                obtain ⟨hge, b, vs, e1, e2, e3, e4, e5, e6⟩ := box_of h hg
                have hval : a.eval y = .pointer (some ⟨b, 0, none⟩) := hvn.trans e1
                match vs, e5 with
                | [sl, u], _ =>
                  have h0 := e6 0 (.sh, .lst .byte bs) sl rfl rfl
                  have h1 : RC F B w (.int .i64 pp) u := e6 1 (.fr, .int .i64 pp) u rfl rfl
                  cases h1
                  refine ⟨⟨b, sl, ys.map a.eval, by simp [hval], by simp [e2], e3, ?_, ?_, q1⟩, fun _ => trivial, fun s' hs' => ?_⟩
                  · have h0' : RC F 0 w (.lst .byte bs) sl := h0
                    exact h0'.mono (fun b o hb => hF b o (.inl hb)) (Nat.le_refl _) (fun _ _ _ => rfl)
                  · intro o hb
                    rcases hF' b o hb with hb | ⟨_, m, f, t', xs', hm, hom, _⟩
                    · exact e4 o hb
                    · obtain ⟨rfl, _⟩ := hinj _ _ _ _ _ hom e2
                      rw [hge] at hm
                      cases hm
                  · simp at hs'; subst hs'; exact ⟨b, _, _, e2, hge, rfl⟩
              · cases hr
            · cases hr
    | int k => exact ((fun q => ⟨⟨_, _, rfl, q.1, q.2.1⟩, fun _ => trivial, q.2.2⟩) (gen (by simpa only [decA, argsAv] using hd)))
    | bool => exact ((fun q => ⟨⟨_, _, rfl, q.1, q.2.1⟩, fun _ => trivial, q.2.2⟩) (gen (by simpa only [decA, argsAv] using hd)))
    | str => exact ((fun q => ⟨⟨_, _, rfl, q.1, q.2.1⟩, fun _ => trivial, q.2.2⟩) (gen (by simpa only [decA, argsAv] using hd)))
    | lst t' => exact ((fun q => ⟨⟨_, _, rfl, q.1, q.2.1⟩, fun _ => trivial, q.2.2⟩) (gen (by simpa only [decA, argsAv] using hd)))
    | st t' => exact ((fun q => ⟨⟨_, _, rfl, q.1, q.2.1⟩, fun _ => trivial, q.2.2⟩) (gen (by simpa only [decA, argsAv] using hd)))

theorem RC.above {F : Fz} {lo : Nat} {c : C} {v : Value} (h : RC F lo w c v) : RC (fun b o => F b o ∧ lo ≤ b) lo w c v := by
  induction h with
  | int k n => exact .int k n
  | bool b => exact .bool b
  | str s => exact .str s
  | nl t => exact .nl t
  | nil t => exact .nil t
  | lst t xs b o cap vs hb hcap hf hc hr ih => exact .lst t xs b o cap vs hb hcap (fun i j hi hj => ⟨hf i j hi hj, hb⟩) hc ih

theorem RCs.above {F : Fz} {lo : Nat} {c : List C} {v : List Value} (h : RCs F lo w c v) : RCs (fun b o => F b o ∧ lo ≤ b) lo w c v := by
  induction h with
  | nil => exact .nil
  | cons h _ ih => exact .cons h.above ih

/-- What is fresh is seen by the new cells alone. -/
theorem VR.fresh {F F' : Fz} {M : Nat} {w : World} {o : Option Nat → Option Nat} {rt : RT} {x : rt.T} {v : Value} (hfr : rt.fresh = true) (h : VR F M w o (rt.av x) v)
    (h1 : ∀ b o, F b o → M ≤ b → F' b o) (h2 : ∀ b o, F' b o → F b o) : VR F' M w o (rt.av x) v := by
  have rc : ∀ {c : C} {v : Value}, RC F M w c v → RC F' M w c v := fun h => h.above.mono (fun b o hb => h1 b o hb.1 hb.2) (Nat.le_refl _) (fun _ _ _ => rfl)
  have rcs : ∀ {c : List C} {v : List Value}, RCs F M w c v → RCs F' M w c v := fun h => h.above.mono (fun b o hb => h1 b o hb.1 hb.2) (Nat.le_refl _) (fun _ _ _ => rfl)
  cases rt with
  | rdr => simp [RT.fresh] at hfr
  | tup l =>
    obtain ⟨vs, rfl, h⟩ := h
    refine ⟨vs, rfl, ?_⟩
    have key : ∀ {l : List (Bool × PT)} {x : Tup l} {vs : List Value}, allFresh l = true → PVRs F M w (encTup l x) vs → PVRs F' M w (encTup l x) vs := by
      intro l
      induction l with
      | nil => intro x vs _ h; cases h; exact .nil
      | cons p l ih =>
        obtain ⟨f, p⟩ := p
        intro x vs hf h
        cases f with
        | false => simp [allFresh] at hf
        | true =>
          cases h with
          | cons h h' =>
            refine .cons ?_ (ih hf h')
            cases hq : enc1 p x.1 with
            | mk ag cs =>
              rw [hq] at h
              cases ag with
              | true => obtain ⟨us, rfl, h⟩ := h; exact ⟨us, rfl, rcs h⟩
              | false =>
                match cs, h with
                | [c], h => exact rc h
    exact key hfr h
  | one k p =>
    simp only [RT.av] at h ⊢
    cases hq : enc1 p x with
    | mk ag cs =>
      rw [hq] at h
      cases ag with
      | true =>
        simp only [] at h ⊢
        have hk : frOf k = true := hfr
        rw [hk] at h ⊢
        obtain ⟨us, rfl, h⟩ := h
        exact ⟨us, rfl, rcs h⟩
      | false =>
        match cs, h with
        | [c], h =>
          cases k with
          | sh => simp [RT.fresh, frOf] at hfr
          | fr => exact rc h
          | acc f =>
            have hf : f = true := hfr
            subst hf
            obtain ⟨q1, q2⟩ := h
            refine ⟨rc q1, ?_⟩
            rcases q2 with q2 | ⟨t, xs, b, cap, cs, e1, e2, e3, e4, e5, e6⟩
            · exact .inl q2
            · exact .inr ⟨t, xs, b, cap, cs, e1, e2, e3, e4, e5, fun o ho hb => e6 o ho (h2 b o hb)⟩
          | own f =>
            have hf : f = true := hfr
            subst hf
            rcases h with h | ⟨t, xs, b, cap, cs, vs, e1, e2, e3, e4, e5, e5', e6, e7, e8, e9⟩
            · exact .inl h
            exact .inr ⟨t, xs, b, cap, cs, vs, e1, e2, e3, e4, e5, e5', e6, fun o hb => e7 o (h2 b o hb), e8, fun i j x c hx hc => rc (e9 i j x c hx hc)⟩
        | [], _ => trivial
        | _ :: _ :: _, _ => trivial
end
end Go.Proofs.Ytopcofkpggefkaa

namespace Go.Proofs.Ytopcofkpggefkaa
open Go

theorem VR.lower {F : Fz} {B M : Nat} (hB : B ≤ M) {w : World} {o : Option Nat → Option Nat} {av : AV} {v : Value} (h : VR F M w o av v) : VR F B w o av v := by
  have hl : ∀ f, lof B f ≤ lof M f := fun f => by cases f <;> simp [lof, hB]
  have rc : ∀ {f : Bool} {c : C} {v : Value}, RC F (lof M f) w c v → RC F (lof B f) w c v := fun h => h.mono (fun _ _ h => h) (hl _) (fun _ _ _ => rfl)
  have acc : ∀ {f : Bool} {ob : Option Nat} {c : C} {v : Value}, AccR F (lof M f) w ob c v → AccR F (lof B f) w ob c v := fun h => ⟨rc h.1, h.2⟩
  cases av with
  | dead => trivial
  | v k c =>
    cases k with
    | sh => exact h
    | fr => exact RC.mono (fun _ _ h => h) hB (fun _ _ _ => rfl) h
    | acc f => exact acc h
    | own f =>
      rcases h with h | ⟨t, xs, b, cap, cs, vs, e1, e2, e3, e4, e5, e5', e6, e7, e8, e9⟩
      · exact .inl h
      exact .inr ⟨t, xs, b, cap, cs, vs, e1, e2, e3, e4, e5, e5', Nat.le_trans (hl f) e6, e7, e8, fun i j x c hx hc => rc (e9 i j x c hx hc)⟩
  | agg f cs => obtain ⟨vs, rfl, h⟩ := h; exact ⟨vs, rfl, h.mono (fun _ _ h => h) (hl f) (fun _ _ _ => rfl)⟩
  | tup l => obtain ⟨vs, rfl, h⟩ := h; exact ⟨vs, rfl, h.mono (fun _ _ h => h) hB (fun _ _ _ => rfl)⟩
  | box cs =>
    obtain ⟨b, vs, h1, h2, h3, h4, h5, h6⟩ := h
    refine ⟨b, vs, h1, h2, h3, h4, h5, fun j kc u hk hu => ?_⟩
    have := h6 j kc u hk hu
    obtain ⟨k, c⟩ := kc
    cases k with
    | sh => exact this
    | fr => exact RC.mono (fun _ _ h => h) hB (fun _ _ _ => rfl) this
    | acc f => exact acc this
    | own f => exact this
  | cond k a => exact h.elim
  | view s i => exact h.elim
  | baddr s i => exact h.elim
  | faddr f cs => exact h.elim
  | oaddr s i j => exact h.elim

theorem rtav_avr {F : Fz} {B : Nat} {w : World} {tm : Nat → Value} {ge : Get} {o : Option Nat → Option Nat} {rt : RT} {x : rt.T} {v : Value} (h : VR F B w o (rt.av x) v) : AVR F B w tm ge o (rt.av x) v := by
  cases rt with
  | rdr => exact h
  | tup l => exact h
  | one k p =>
    simp only [RT.av] at h ⊢
    cases hq : enc1 p x with
    | mk ag cs =>
      rw [hq] at h
      cases ag with
      | true => exact h
      | false =>
        match cs, h with
        | [c], h => exact h
        | [], _ => trivial
        | _ :: _ :: _, _ => trivial

/-- What an operation has done: its value, and where the reader stands. -/
def After (F : Fz) (B : Nat) (w : World) (tm : Nat → Value) (ge : Get) (ow : Nat → Option Nat → Option Nat) (av : AV) (io : Option (Nat × Int)) (v : Value) (w' : World) : Prop :=
  ∃ F' owd, Left F w (io.bind fun sp => ow sp.1 none) F' w' ∧ (∀ i b, owd i = some b → w.heap.size ≤ b ∧ b < w'.heap.size) ∧ (∀ i i' b, owd i = some b → owd i' = some b → i = i') ∧
    AVR F' B w' tm ge owd av v ∧ ∀ s p, io = some (s, p) → VR F' B w' owd av v ∧ ∃ b bs q sl, ow s none = some b ∧ ge s = .box [(.sh, .lst .byte bs), (.fr, .int .i64 q)] ∧ Blk w' b [sl, .int .i64 p] ∧ RC F' 0 w' (.lst .byte bs) sl

theorem Grow.left {F F' : Fz} {w w' : World} (h : Grow F w F' w') (hl : Live F' w') : Left F w none F' w' :=
  ⟨h.os, h.tape, h.output, h.size, fun k hk _ => h.block k hk, h.sub, h.new, hl⟩

section
variable {P : Program} {w : World} {F : Fz} {B : Nat} {a : Act} {ge raw : Get} {ow : Nat → Option Nat → Option Nat}

theorem argsAv_len {tt : TT} {g : Get} : ∀ {ps : List PT} {xs : List Operand} {ts : List Nat} {q : Bool × Option Nat × Args ps}, decA g ps (argsAv tt g xs ts) = some q → xs.length ≤ ts.length → True := fun _ _ => trivial

/-- A call by a contract. -/
theorem call_ok {tt : TT} {s : Spec} {f : Nat} (hc : Con P f s) {g : Get} (h : Kn F B w (fun n => a.tmps.getD n undef) ge g ow) (hB : B ≤ w.heap.size)
    (hinj : ∀ s i s' i' b, ow s i = some b → ow s' i' = some b → s = s' ∧ i = i') (_hbd : ∀ s i b, ow s i = some b → b < w.heap.size)
    (hge : ∀ m f c, ge m = .v (.own f) c → OwnR F (lof B f) w (ow m none) c (a.tmps.getD m undef))
    {xs : List Operand} {ts : List Nat} (hlen : xs.length = ts.length) {av : AV} {obs : List Prop} {io : Option (Nat × Int)} (hs : callOut g s (argsAv tt g xs ts) = some ⟨av, obs, io⟩) (ho : ∀ p ∈ obs, p) :
    Calls P f (xs.map a.eval).toArray w (fun e w' => ∃ v, e = .returned v ∧ After F B w (fun n => a.tmps.getD n undef) ge ow av io v w') := by
  unfold callOut at hs
  cases hd : decA g s.pts (argsAv tt g xs ts) with
  | none => rw [hd] at hs; simp at hs
  | some q =>
    obtain ⟨bo, r, x⟩ := q
    rw [hd] at hs
    simp only [] at hs
    -- the cells that the call may read
    have hLive : ∀ bo, Live (Lent F ge ow bo) w := by
      intro bo b o hb
      rcases hb with hb | ⟨_, m, f', t, xs', hm, hom, ho'⟩
      · exact h.live b o hb
      · rcases hge m f' _ hm with ⟨t2, e1, _⟩ | ⟨t2, xs2, b2, cap, cs, vs, e1, e2, e3, e4, e5, e5', e6, e7, e8, e9⟩
        · cases e1; simp at ho'
        cases e1
        rw [hom] at e3
        cases e3
        rw [e4.cell]
        have : o < cs.length := by
          rw [e5]
          exact Nat.lt_of_lt_of_le ho' (Nat.mul_le_mul_right _ e5')
        rw [List.getElem?_eq_getElem this]; rfl
    obtain ⟨hA, _, hrs⟩ := decA_ok (Fx := Lent F ge ow bo) h hinj (fun _ _ h => h) (lent_mono (by simp)) hlen hd
    have hr : (bo && (s.io || !s.rt.fresh)) = false ∧ obs = [s.pre x] ∧ av = s.rt.av (s.val x).1 ∧ ((r = none ∧ s.io = false ∧ io = none) ∨ ∃ r', r = some r' ∧ s.io = true ∧ io = some (r', (s.val x).2)) := by
      cases hbf : (bo && (s.io || !s.rt.fresh)) with
      | true => rw [hbf] at hs; simp at hs
      | false =>
        rw [hbf] at hs
        cases r with
        | none =>
          cases hio : s.io with
          | true => rw [hio] at hs; simp at hs
          | false => rw [hio] at hs; simp at hs; exact ⟨rfl, hs.2.1.symm, hs.1.symm, .inl ⟨rfl, rfl, hs.2.2.symm⟩⟩
        | some r' =>
          cases hio : s.io with
          | false => rw [hio] at hs; simp at hs
          | true => rw [hio] at hs; simp at hs; exact ⟨rfl, hs.2.1.symm, hs.1.symm, .inr ⟨r', rfl, rfl, hs.2.2.symm⟩⟩
    obtain ⟨hbf, rfl, rfl, hio⟩ := hr
    have hpre : s.pre x := ho _ (by simp)
    have hob : (r.bind (ow · none)) = (io.bind fun sp => ow sp.1 none) := by
      rcases hio with ⟨rfl, _, rfl⟩ | ⟨r', rfl, _, rfl⟩ <;> rfl
    refine (hc.call x hpre w (Lent F ge ow bo) _ _ (hLive bo) hA).mono ?_
    rintro e w' ⟨v, Fc, owd, rfl, hleft, hfr, hij, hv, hrd⟩
    refine ⟨v, rfl, ?_⟩
    rw [hob] at hleft
    let F' : Fz := fun b o => F b o ∨ (Fc b o ∧ w.heap.size ≤ b)
    have hsub : ∀ b o, F' b o → Fc b o := fun b o hb => hb.elim (fun hb => hleft.sub _ _ (.inl hb)) (fun hb => hb.1)
    have hVR : VR F' B w' owd (s.rt.av (s.val x).1) v := by
      refine VR.lower hB ?_
      cases hbo : bo with
      | true =>
        rw [hbo] at hbf
        exact hv.fresh (by simp at hbf; exact hbf.2) (fun b o hb hm => .inr ⟨hb, hm⟩) hsub
      | false =>
        subst hbo
        -- nothing was lent: the two agree
        have heq : ∀ b o, Fc b o ↔ F' b o := fun b o => ⟨fun hb => (hleft.new b o hb).elim (fun hb => .inl (hb.elim id (fun hb => absurd hb.1 (by simp)))) (fun hs => .inr ⟨hb, hs⟩), hsub b o⟩
        have : Fc = F' := by funext b o; exact propext (heq b o)
        rw [← this]
        exact hv
    refine ⟨F', owd, ⟨hleft.os, hleft.tape, hleft.output, hleft.size, hleft.block, fun _ _ hb => .inl hb, fun b o hb => hb.elim .inl (fun hb => .inr hb.2), fun b o hb => hleft.live _ _ (hsub b o hb)⟩, hfr, hij, rtav_avr hVR, ?_⟩
    · intro s' p hsp
      rcases hio with ⟨_, _, rfl⟩ | ⟨r', hr', hsio, rfl⟩
      · simp at hsp
      · simp at hsp
        obtain ⟨rfl, rfl⟩ := hsp
        obtain ⟨b, bs, q, hb, hgb, hbs⟩ := hrs _ hr'
        obtain ⟨sl, g1, g2⟩ := hrd b bs (by rw [hr']; exact hb) hbs
        have hbo : bo = false := by
          rw [hsio] at hbf
          cases hb2 : bo with
          | false => rfl
          | true => rw [hb2] at hbf; exact absurd hbf (by simp)
        refine ⟨hVR, b, bs, q, sl, hb, hgb, g1, g2.mono (fun b o hb => ?_) (Nat.le_refl _) (fun _ _ _ => rfl)⟩
        rw [hbo] at hleft
        exact (hleft.new b o hb).elim (fun hb => .inl (hb.elim id (fun hb => absurd hb.1 (by simp)))) (fun hs => .inr ⟨hb, hs⟩)

set_option maxHeartbeats 1000000 in
/-- An operation of the simple kind, run. -/
theorem op_wp {tt : TT} (htt : TTok P tt) {sp : SP} (hsp : ∀ f s, spk sp f = some s → Con P f s) {k : Key} (hl : Live F w) (hB : B ≤ w.heap.size)
    (hraw : RawK F B w (fun n => a.tmps.getD n undef) ge raw ow) (hk : SR.KeyT (fun n => a.tmps.getD n undef) k) (hb : keyB k = true)
    (hinj : ∀ s i s' i' b, ow s i = some b → ow s' i' = some b → s = s' ∧ i = i') (hbd : ∀ s i b, ow s i = some b → b < w.heap.size)
    (hge : ∀ m f c, ge m = .v (.own f) c → OwnR F (lof B f) w (ow m none) c (a.tmps.getD m undef))
    {o : Oper} {av : AV} {obs : List Prop} {io : Option (Nat × Int)}
    (hs : sev tt sp raw k (fun n => strip k (raw n)) o.type o.op = some ⟨av, obs, io⟩) (ho : ∀ p ∈ obs, p) {next : Act → World → Prop} {Q : Exit → Act → World → Prop}
    (hn : ∀ v w', After F B w (fun n => a.tmps.getD n undef) ge ow av io v w' → next (a.put o.dst v) w') : o.wp P a w next Q := by
  by_cases hcall : ∃ f args ts, o.op = .call ⟨.value (.func f), args, ts⟩
  · obtain ⟨f, args, ts, hop⟩ := hcall
    rw [hop] at hs
    simp only [sev] at hs
    cases hsf : spk sp f with
    | none => rw [hsf] at hs; simp at hs
    | some s =>
      rw [hsf] at hs
      simp only [] at hs
      have hc := hsp f s hsf
      cases hlb : Nat.beq args.size ts.size with
      | false => rw [hlb] at hs; simp at hs
      | true =>
        rw [hlb] at hs
        have hlen : args.toList.length = ts.toList.length := by simpa using Nat.eq_of_beq_eq_true hlb
        have hcalls := call_ok hc (strip_kn hl hraw hk hb) hB hinj hbd hge hlen hs ho
        obtain ⟨fn, hfn, hname, hbody⟩ := hc.fn
        have hrun : (execOp a.eval o).run P w = .ok (.enter f (args.toList.map a.eval).toArray) w := by
          obtain ⟨dst, op, ty, pos, aft, gd⟩ := o
          simp only [] at hop
          subst hop
          have hargs : (args.map a.eval) = (args.toList.map a.eval).toArray := by apply Array.ext'; simp
          have hname' : ¬ fn.name = "runtime.NumGoroutine" := by simpa using hname
          have hbody' : ¬ fn.body = none := by intro e; rw [e] at hbody; simp at hbody
          rw [← hargs]
          simp [execOp, resolve, Act.eval, Deferred.ofValue, invoke, callFunc, hfn, hname', hbody']
        unfold Oper.wp
        rw [hrun, Oper.upon_enter]
        refine hcalls.mono ?_
        rintro e w' ⟨v, rfl, hv⟩
        exact hn v w' hv
  · obtain ⟨rfl, v, w', F', owd, hr, hg, hl', hf, hij, hav⟩ := sev_ok htt hl hB hraw hk hb (fun f args ts e => hcall ⟨f, args, ts, e⟩) hs ho
    unfold Oper.wp
    rw [hr, Oper.upon_value]
    exact hn v w' ⟨F', owd, hg.left hl', hf, hij, hav, fun s p hsp => by simp at hsp⟩
end
end Go.Proofs.Ytopcofkpggefkaa

namespace Go.Proofs.Ytopcofkpggefkaa
open Go

/-- One block is other than it was. -/
structure Pk (w : World) (b : Nat) (w1 : World) : Prop where
  os : w1.os = w.os
  tape : w1.tape = w.tape
  output : w1.output = w.output
  size : w1.heap.size = w.heap.size
  block : ∀ k, k ≠ b → w1.heap[k]? = w.heap[k]?
structure Poked (w : World) (b : Nat) (us : List Value) (w1 : World) : Prop extends Pk w b w1 where
  blk : Blk w1 b us

/-- The frozen cells are as they were. -/
def FSame (F : Fz) (w w1 : World) : Prop := ∀ b o, F b o → w1.cell? ⟨b, o, none⟩ = w.cell? ⟨b, o, none⟩

theorem Pk.same {w w1 : World} {F : Fz} {b : Nat} (hp : Pk w b w1) (hF : ∀ o, ¬ F b o) : FSame F w w1 :=
  fun b' o h => cell_of_heap (hp.block b' (fun e => hF o (e ▸ h)))

section
variable {w w1 : World} {F : Fz} {B : Nat} {b : Nat} (hp : Pk w b w1) (hF : FSame F w w1)
include hp hF

theorem RC.poke {lo : Nat} {c : C} {v : Value} (h : RC F lo w c v) : RC F lo w1 c v := by
  have _ := hp
  exact h.mono (fun _ _ h => h) (Nat.le_refl _) hF
theorem RCs.poke {lo : Nat} {c : List C} {v : List Value} (h : RCs F lo w c v) : RCs F lo w1 c v := by
  have _ := hp
  exact h.mono (fun _ _ h => h) (Nat.le_refl _) hF
theorem PVRs.poke {c : List PV} {v : List Value} (h : PVRs F B w c v) : PVRs F B w1 c v := by
  have _ := hp
  exact h.mono (fun _ _ h => h) (Nat.le_refl _) hF

theorem AccR.poke {lo : Nat} {ob : Option Nat} {c : C} {v : Value} (hob : ob ≠ some b) (h : AccR F lo w ob c v) : AccR F lo w1 ob c v := by
  obtain ⟨hr, h⟩ := h
  refine ⟨hr.poke hp hF, ?_⟩
  rcases h with h | ⟨t, xs, b', cap, cs, h1, h2, h3, h4, h5, h6⟩
  · exact .inl h
  · exact .inr ⟨t, xs, b', cap, cs, h1, h2, h3, h4.same (hp.block b' (fun e => hob (e ▸ h3))), h5, h6⟩

theorem OwnR.poke {lo : Nat} {ob : Option Nat} {c : C} {v : Value} (hob : ob ≠ some b) (h : OwnR F lo w ob c v) : OwnR F lo w1 ob c v := by
  rcases h with h | ⟨t, xs, b', cap, cs, vs, h1, h2, h3, h4, h5, h5', h6, h7, h8, h9⟩
  · exact .inl h
  exact .inr ⟨t, xs, b', cap, cs, vs, h1, h2, h3, h4.same (hp.block b' (fun e => hob (e ▸ h3))), h5, h5', h6, h7, h8, fun i j x c hx hc => (h9 i j x c hx hc).poke hp hF⟩

theorem BoxC.poke {ob : Option Nat} {kc : K × C} {v : Value} (hob : ob ≠ some b) (h : BoxC F B w ob kc v) : BoxC F B w1 ob kc v := by
  obtain ⟨k, c⟩ := kc
  cases k with
  | sh => exact RC.poke hp hF h
  | fr => exact RC.poke hp hF h
  | acc f => exact AccR.poke hp hF hob h
  | own f => exact h.elim

theorem VR.poke {o : Option Nat → Option Nat} {av : AV} {v : Value} (hob : ∀ i, o i ≠ some b) (h : VR F B w o av v) : VR F B w1 o av v := by
  cases av with
  | dead => trivial
  | v k c =>
    cases k with
    | sh => exact RC.poke hp hF h
    | fr => exact RC.poke hp hF h
    | acc f => exact AccR.poke hp hF (hob none) h
    | own f => exact OwnR.poke hp hF (hob none) h
  | agg f cs => obtain ⟨vs, rfl, h⟩ := h; exact ⟨vs, rfl, h.poke hp hF⟩
  | tup l => obtain ⟨vs, rfl, h⟩ := h; exact ⟨vs, rfl, h.poke hp hF⟩
  | box cs =>
    obtain ⟨b', vs, h1, h2, h3, h4, h5, h6⟩ := h
    exact ⟨b', vs, h1, h2, h3.same (hp.block b' (fun e => hob none (e ▸ h2))), h4, h5, fun j kc u hk hu => (h6 j kc u hk hu).poke hp hF (hob _)⟩
  | cond k a => exact h.elim
  | view s i => exact h.elim
  | baddr s i => exact h.elim
  | faddr f cs => exact h.elim
  | oaddr s i j => exact h.elim
end

/-- What a slot that is written goes on to be. -/
def Stays (x y : AV) : Prop :=
  (∃ cs cs', x = .box cs ∧ y = .box cs') ∨ ∃ t f xs f' xs', x = .v (.own f) (.lst t xs) ∧ y = .v (.own f') (.lst t xs') ∧ xs'.length = xs.length

/-- A block that slot 's' bears is written: what other slots hold stays, unless it was a look at a cell there. -/
theorem SR.poke {w w1 : World} {F : Fz} {B : Nat} {b s : Nat} (hp : Pk w b w1) (hF : FSame F w w1) {tm : Nat → Value} {g g' : Get} {ow ow' : Nat → Option Nat → Option Nat}
    (hs : ow s none = some b) (hst : Stays (g s) (g' s))
    (hg : ∀ n, n ≠ s → g' n = g n) (ho : ∀ n, n ≠ s → ow' n = ow n) (hinj : ∀ s i s' i' b, ow s i = some b → ow s' i' = some b → s = s' ∧ i = i')
    (hbox : ∀ m cs, g m = .box cs → ∃ b', tm m = .pointer (some ⟨b', 0, none⟩) ∧ ow m none = some b') {n : Nat} (hn : n ≠ s) :
    ∀ {av : AV}, ((∀ (cs : List (K × C)) (j : Nat) (f : Bool) (c : C), g s = .box cs → cs[j]? ≠ some (K.acc f, c)) ∨ (isCond av = false ∧ ∀ j, av ≠ .view s (some j))) → SR F B w tm g ow n av → SR F B w1 tm g' ow' n av
  | .dead, _, _ => trivial
  | .v k c, _, h => by
    show VR F B w1 (ow' n) (.v k c) (tm n); rw [ho n hn]
    exact VR.poke hp hF (fun i e => hn (hinj _ _ _ _ _ e hs).1) h
  | .agg f cs, _, h => by
    show VR F B w1 (ow' n) (.agg f cs) (tm n); rw [ho n hn]
    exact VR.poke hp hF (fun i e => hn (hinj _ _ _ _ _ e hs).1) h
  | .tup l, _, h => by
    show VR F B w1 (ow' n) (.tup l) (tm n); rw [ho n hn]
    exact VR.poke hp hF (fun i e => hn (hinj _ _ _ _ _ e hs).1) h
  | .box cs, _, h => by
    show VR F B w1 (ow' n) (.box cs) (tm n); rw [ho n hn]
    exact VR.poke hp hF (fun i e => hn (hinj _ _ _ _ _ e hs).1) h
  | .cond k a, hv, h => by
    refine ⟨fun d b' x hm => ⟨(h.1 d b' x hm).1, ?_⟩, h.2.1, fun hb => SR.poke hp hF hs hst hg ho hinj hbox hn (.inl (hv.resolve_right (fun e => by simp [isCond] at e))) (h.2.2.1 hb), h.2.2.2⟩
    by_cases e : d = s
    · subst e
      rcases hst with ⟨_, cs', _, h'⟩ | ⟨_, _, _, _, _, _, h', _⟩ <;> rw [h'] <;> rfl
    · rw [hg d e]; exact (h.1 d b' x hm).2
  | .view m none, _, h => by
    refine ⟨h.1, ?_, h.2.2⟩
    by_cases e : m = s
    · subst e
      rcases hst with ⟨_, cs', _, h'⟩ | ⟨_, _, _, _, _, _, h', _⟩ <;> rw [h'] <;> rfl
    · rw [hg m e]; exact h.2.1
  | .view m (some j), hv, h => by
    obtain ⟨h0, cs, b', f, c, h1, h2, h3, h4⟩ := h
    by_cases e : m = s
    · subst e
      rcases hv with hv | hv
      · exact absurd h2 (hv cs j f c h1)
      · exact absurd rfl (hv.2 j)
    · obtain ⟨b2, q1, q2⟩ := hbox m cs h1
      rw [h3] at q1
      have hbb : b' = b2 := by simpa using q1
      subst hbb
      have hne : b' ≠ b := fun e' => e (hinj _ _ _ _ _ (e' ▸ q2) hs).1
      exact ⟨h0, cs, b', f, c, by rw [hg m e]; exact h1, h2, h3, by rw [cell_of_heap (hp.block b' hne)]; exact h4⟩
  | .baddr m o, _, h => by
    obtain ⟨h0, cs, b', h1, h2, h3⟩ := h
    by_cases e : m = s
    · subst e
      rcases hst with ⟨_, cs', _, h'⟩ | ⟨_, _, _, _, _, h', _⟩
      · exact ⟨h0, cs', b', h', h2, h3⟩
      · rw [h1] at h'; cases h'
    · exact ⟨h0, cs, b', by rw [hg m e]; exact h1, h2, h3⟩
  | .faddr f cs, _, h => by
    obtain ⟨b', o, vs, h1, h2, h3⟩ := h
    exact ⟨b', o, vs, h1, h2.poke hp hF, fun j v hv => ⟨(h3 j v hv).1, by rw [hF _ _ (h3 j v hv).1]; exact (h3 j v hv).2⟩⟩
  | .oaddr m i o, _, h => by
    obtain ⟨h0, t, xs, b', cap, f, h1, h2, h3, h4, h5⟩ := h
    by_cases e : m = s
    · subst e
      rcases hst with ⟨_, cs', h', _⟩ | ⟨t', f', xs', f2, xs2, h', h2', hlen⟩
      · rw [h1] at h'; cases h'
      · rw [h1] at h'
        cases h'
        exact ⟨h0, t, xs2, b', cap, f2, h2', by rw [hlen]; exact h2, h3, by rw [hlen]; exact h4, h5⟩
    · exact ⟨h0, t, xs, b', cap, f, by rw [hg m e]; exact h1, h2, h3, h4, h5⟩

/-- A block that no slot bears is written. -/
theorem SR.pokeFree {w w1 : World} {F : Fz} {B : Nat} {b : Nat} (hp : Pk w b w1) (hF : FSame F w w1) {tm : Nat → Value} {g : Get} {ow : Nat → Option Nat → Option Nat}
    (hs : ∀ s i, ow s i ≠ some b) (hbox : ∀ m cs, g m = .box cs → ∃ b', tm m = .pointer (some ⟨b', 0, none⟩) ∧ ow m none = some b') {n : Nat} :
    ∀ {av : AV}, SR F B w tm g ow n av → SR F B w1 tm g ow n av
  | .dead, _ => trivial
  | .v k c, h => VR.poke (av := .v k c) hp hF (hs n) h
  | .agg f cs, h => VR.poke (av := .agg f cs) hp hF (hs n) h
  | .tup l, h => VR.poke (av := .tup l) hp hF (hs n) h
  | .box cs, h => VR.poke (av := .box cs) hp hF (hs n) h
  | .cond k a, h => ⟨h.1, h.2.1, fun hb => SR.pokeFree hp hF hs hbox (h.2.2.1 hb), h.2.2.2⟩
  | .view m none, h => h
  | .view m (some j), h => by
    obtain ⟨h0, cs, b', f, c, h1, h2, h3, h4⟩ := h
    obtain ⟨b2, q1, q2⟩ := hbox m cs h1
    rw [h3] at q1
    have hbb : b' = b2 := by simpa using q1
    subst hbb
    have hne : b' ≠ b := fun e' => hs m none (e' ▸ q2)
    exact ⟨h0, cs, b', f, c, h1, h2, h3, by rw [cell_of_heap (hp.block b' hne)]; exact h4⟩
  | .baddr m o, h => h
  | .faddr f cs, h => by
    obtain ⟨b', o, vs, h1, h2, h3⟩ := h
    exact ⟨b', o, vs, h1, h2.poke hp hF, fun j v hv => ⟨(h3 j v hv).1, by rw [hF _ _ (h3 j v hv).1]; exact (h3 j v hv).2⟩⟩
  | .oaddr m i o, h => h

/-- More cells are frozen, none of them in a block that a slot bears. -/
theorem SR.ext {w : World} {F F' : Fz} {B : Nat} (hsub : ∀ b o, F b o → F' b o) {tm : Nat → Value} {g : Get} {ow : Nat → Option Nat → Option Nat}
    (hnew : ∀ b o, F' b o → F b o ∨ ∀ s i, ow s i ≠ some b) {n : Nat} : ∀ {av : AV}, SR F B w tm g ow n av → SR F' B w tm g ow n av := by
  have rc : ∀ {lo : Nat} {c : C} {v : Value}, RC F lo w c v → RC F' lo w c v := fun h => h.mono hsub (Nat.le_refl _) (fun _ _ _ => rfl)
  have acc : ∀ {lo : Nat} {i : Option Nat} {c : C} {v : Value}, AccR F lo w (ow n i) c v → AccR F' lo w (ow n i) c v := fun {lo i c v} h => by
    obtain ⟨h1, h2⟩ := h
    refine ⟨rc h1, ?_⟩
    rcases h2 with h2 | ⟨t, xs, b, cap, cs, e1, e2, e3, e4, e5, e6⟩
    · exact .inl h2
    · exact .inr ⟨t, xs, b, cap, cs, e1, e2, e3, e4, e5, fun o ho hb => (hnew b o hb).elim (e6 o ho) (fun hh => hh n i e3)⟩
  intro av
  induction av with
  | dead => exact fun _ => trivial
  | v k c =>
    intro h
    cases k with
    | sh => exact rc h
    | fr => exact rc h
    | acc f => exact acc h
    | own f =>
      rcases h with h | ⟨t, xs, b, cap, cs, vs, e1, e2, e3, e4, e5, e5', e6, e7, e8, e9⟩
      · exact .inl h
      exact .inr ⟨t, xs, b, cap, cs, vs, e1, e2, e3, e4, e5, e5', e6, fun o hb => (hnew b o hb).elim (e7 o) (fun hh => hh n none e3), e8, fun i j x c hx hc => rc (e9 i j x c hx hc)⟩
  | agg f cs => rintro ⟨vs, e, h⟩; exact ⟨vs, e, h.mono hsub (Nat.le_refl _) (fun _ _ _ => rfl)⟩
  | tup l => rintro ⟨vs, e, h⟩; exact ⟨vs, e, h.mono hsub (Nat.le_refl _) (fun _ _ _ => rfl)⟩
  | box cs =>
    rintro ⟨b, vs, e1, e2, e3, e4, e5, e6⟩
    refine ⟨b, vs, e1, e2, e3, fun o hb => (hnew b o hb).elim (e4 o) (fun hh => hh n none e2), e5, fun j kc u hk hu => ?_⟩
    have := e6 j kc u hk hu
    obtain ⟨k, c⟩ := kc
    cases k with
    | sh => exact rc this
    | fr => exact rc this
    | acc f => exact acc this
    | own f => exact this
  | cond k a ih => intro h; exact ⟨h.1, h.2.1, fun hb => ih (h.2.2.1 hb), h.2.2.2⟩
  | view m o => cases o <;> exact fun h => h
  | baddr m o => exact fun h => h
  | faddr f cs => rintro ⟨b, o, vs, e1, e2, e3⟩; exact ⟨b, o, vs, e1, e2.mono hsub (Nat.le_refl _) (fun _ _ _ => rfl), fun j v hv => ⟨hsub _ _ (e3 j v hv).1, (e3 j v hv).2⟩⟩
  | oaddr m i o => exact fun h => h

theorem SimX.box {B : Nat} {IoB : List Nat} {F0 F : Fz} {e : Env} {tm : Nat → Value} {w : World} {ow : Nat → Option Nat → Option Nat} (hs : SimX B IoB F0 e tm w F ow) {m : Nat} {cs : List (K × C)} (h : getE e m = .box cs) :
    ∃ b vs, tm m = .pointer (some ⟨b, 0, none⟩) ∧ ow m none = some b ∧ Blk w b vs ∧ (∀ o, ¬ F b o) ∧ vs.length = cs.length ∧
      ∀ j kc u, cs[j]? = some kc → vs[j]? = some u → BoxC F B w (ow m (some j)) kc u := by
  have := hs.sr m
  rw [h] at this
  exact this

/-- The reader moves on. -/
theorem SimX.read {B : Nat} {IoB : List Nat} {F0 F : Fz} {e : Env} {tm : Nat → Value} {w w1 : World} {ow : Nat → Option Nat → Option Nat} (hs : SimX B IoB F0 e tm w F ow) {s b : Nat} {c : C} {q p : Int} {sl : Value}
    (he : getE e s = .box [(.sh, c), (.fr, .int .i64 q)]) (hb : ow s none = some b) (hp : Poked w b [sl, .int .i64 p] w1) (hsl : RC F 0 w c sl) :
    SimX B IoB F0 (setE e s (.box [(.sh, c), (.fr, .int .i64 p)])) tm w1 F ow := by
  obtain ⟨b', vs, q1, q2, q3, q4, q5, q6⟩ := hs.box he
  rw [hb] at q2
  cases q2
  refine ⟨hs.sub, hs.new, fun b o hbo => ?_, hs.inj, fun n i b hn => by rw [hp.size]; exact hs.bd n i b hn, fun n => ?_⟩
  · rw [hp.same q4 _ _ hbo]; exact hs.live b o hbo
  · rw [getE_setE]
    by_cases hn : n = s
    · rw [if_pos hn, hn]
      refine ⟨b, [sl, .int .i64 p], q1, hb, hp.blk, q4, rfl, fun j kc u hk hu => ?_⟩
      match j, hk, hu with
      | 0, hk, hu =>
        simp at hk hu; subst hk; subst hu
        exact RC.poke hp.toPk (hp.same q4) hsl
      | 1, hk, hu =>
        simp at hk hu; subst hk; subst hu
        exact RC.int _ _
      | j + 2, hk, hu => simp at hk
    · rw [if_neg hn]
      have hge : ∀ m, m ≠ s → getE (setE e s (.box [(.sh, c), (.fr, .int .i64 p)])) m = getE e m := fun m hm => by rw [getE_setE, if_neg hm]
      refine SR.poke hp.toPk (hp.same q4) hb (.inl ⟨_, _, he, by rw [getE_setE, if_pos rfl]⟩) hge (fun _ _ => rfl) hs.inj (fun m cs hm => ?_) hn (.inl ?_) (hs.sr n)
      · obtain ⟨b2, vs2, e1, e2, _⟩ := hs.box hm
        exact ⟨b2, e1, e2⟩
      · intro cs j f c' hcs
        rw [he] at hcs
        cases hcs
        match j with
        | 0 => simp
        | 1 => simp
        | j + 2 => simp

theorem SimX.grow {B : Nat} {IoB : List Nat} {F0 F F' : Fz} {e : Env} {tm : Nat → Value} {w w' : World} {ow : Nat → Option Nat → Option Nat} (hs : SimX B IoB F0 e tm w F ow) (hBw : B ≤ w.heap.size) (hg : Grow F w F' w') (hl' : Live F' w') :
    SimX B IoB F0 e tm w' F' ow := by
  have h2 : Live F w := hs.live
  refine ⟨fun b o hb => hg.sub _ _ (hs.sub _ _ hb), ?_, hl', hs.inj, ?_, fun n => (hs.sr n).grow hg h2⟩
  · intro b o hb
    rcases hg.new b o hb with hb | hb
    · exact hs.new b o hb
    · exact .inr (.inl (Nat.le_trans hBw hb))
  · intro s i b hb
    exact ⟨Nat.lt_of_lt_of_le (hs.bd s i b hb).1 hg.size, (hs.bd s i b hb).2⟩

/-- The world with one block as it was. -/
theorem unpoke {w w' : World} {b : Nat} {us vs : List Value} (hb : Blk w b us) (hb' : Blk w' b vs) (hl : us.length = vs.length) : ∃ w2, Poked w2 b vs w' ∧ w2.heap[b]? = w.heap[b]? := by
  have _ := hl
  obtain ⟨e, he⟩ := hb
  have hlt := hb'.lt
  refine ⟨{ w' with heap := w'.heap.setIfInBounds b (.cells us.toArray e (0, 0)) }, ⟨⟨rfl, rfl, rfl, by simp, fun k hk => ?_⟩, hb'⟩, ?_⟩
  · show w'.heap[k]? = (w'.heap.setIfInBounds b _)[k]?
    rw [Array.getElem?_setIfInBounds, if_neg (fun e => hk e.symm)]
  · show (w'.heap.setIfInBounds b _)[b]? = w.heap[b]?
    rw [Array.getElem?_setIfInBounds, if_pos rfl, if_pos hlt, he]

/-- What an operation leaves, and the reader's move: the abstract state before the value is put down. -/
theorem SimX.after {B : Nat} {IoB : List Nat} {F0 F : Fz} {e e1 : Env} {tm : Nat → Value} {w w' : World} {ow : Nat → Option Nat → Option Nat} (hs : SimX B IoB F0 e tm w F ow) (hBw : B ≤ w.heap.size)
    {av : AV} {io : Option (Nat × Int)} {v : Value} (ha : After F B w tm (getE e) ow av io v w') {k : Key} (hk : keyB k = true) (hm : moveIo e k io = some e1) :
    ∃ F' owd, SimX B IoB F0 e1 tm w' F' ow ∧ (∀ j, j < B → j ∉ IoB → w'.heap[j]? = w.heap[j]?) ∧ w'.os = w.os ∧ w'.tape = w.tape ∧ w'.output = w.output ∧ w.heap.size ≤ w'.heap.size ∧ (∀ (k : Nat) (o : Obj), w.heap[k]? = some o → isC o = false → w'.heap[k]? = some o) ∧
      (∀ i b, owd i = some b → B ≤ b ∧ b < w'.heap.size ∧ ∀ s i', ow s i' ≠ some b) ∧ (∀ i i' b, owd i = some b → owd i' = some b → i = i') ∧ AVR F' B w' tm (getE e1) owd av v := by
  obtain ⟨F', owd, hl, hf, hij, hav, hio⟩ := ha
  have hf' : ∀ i b, owd i = some b → B ≤ b ∧ b < w'.heap.size ∧ ∀ s i', ow s i' ≠ some b := fun i b hb =>
    ⟨Nat.le_trans hBw (hf i b hb).1, (hf i b hb).2, fun s i' h => absurd (hs.bd s i' b h).1 (by have := (hf i b hb).1; omega)⟩
  cases io with
  | none =>
    simp only [moveIo, Option.some.injEq] at hm
    subst hm
    have hg : Grow F w F' w' := ⟨hl.os, hl.tape, hl.output, hl.size, fun j hj => hl.block j hj (by simp), hl.sub, hl.new⟩
    exact ⟨F', owd, hs.grow hBw hg hl.live, fun j hj _ => hg.block j (by omega), hl.os, hl.tape, hl.output, hl.size, fun k o hk _ => by rw [hg.block k (Array.getElem?_eq_some_iff.1 hk).1]; exact hk, hf', hij, hav⟩
  | some sp =>
    obtain ⟨s, p⟩ := sp
    obtain ⟨hVR, b, bs, q, sl, hb, he, hblk, hrc⟩ := hio s p rfl
    have hbd := hs.bd s none b hb
    have he1 : e1 = setE e s (.box [(.sh, .lst .byte bs), (.fr, .int .i64 p)]) := by
      simp only [moveIo, he] at hm
      split at hm
      · simp only [Option.some.injEq] at hm; exact hm.symm
      · rw [hk] at hm
        simp only [cond_true, Option.some.injEq] at hm
        exact hm.symm
    subst he1
    obtain ⟨b', vs, q1, q2, q3, q4, q5, q6⟩ := hs.box he
    rw [hb] at q2
    cases q2
    obtain ⟨w2, hp, hsame⟩ := unpoke q3 hblk q5
    have hF' : ∀ o, ¬ F' b o := fun o ho => (hl.new b o ho).elim (q4 o) (fun h => by omega)
    have hg : Grow F w F' w2 := by
      refine ⟨hp.os.symm.trans hl.os, hp.tape.symm.trans hl.tape, hp.output.symm.trans hl.output, by rw [← hp.size]; exact hl.size, fun j hj => ?_, hl.sub, hl.new⟩
      by_cases hjb : j = b
      · rw [hjb, hsame]
      · rw [← hp.block j hjb]
        exact hl.block j hj (by simp [hb]; exact fun e => hjb e.symm)
    have hl2 : Live F' w2 := fun b' o ho => by
      rw [← hp.same hF' b' o ho]
      exact hl.live b' o ho
    have hx := (hs.grow hBw hg hl2).read he hb hp (hrc.mono (fun _ _ h => h) (Nat.le_refl _) (fun b' o ho => (hp.same hF' b' o ho).symm))
    refine ⟨F', owd, hx, fun j hj hjio => ?_, hl.os, hl.tape, hl.output, hl.size, fun k o hk hc => ?_, hf', hij, ?_⟩
    · have hne : b ≠ j := fun e => by
        subst e
        exact hbd.2.elim (fun h => by omega) hjio
      exact hl.block j (by omega) (by simp [hb]; exact hne)
    · have hne : b ≠ k := fun e => by
        rw [e] at q3
        rw [q3.isC hk] at hc
        cases hc
      rw [hl.block k (Array.getElem?_eq_some_iff.1 hk).1 (by simp [hb]; exact hne)]
      exact hk
    · cases av with
      | view n i => exact hVR.elim
      | baddr n i => exact hVR.elim
      | faddr f cs => exact hVR.elim
      | oaddr n i j => exact hVR.elim
      | cond k a => exact hVR.elim
      | _ => exact hVR

theorem moveIo_skip {B : Nat} {IoB : List Nat} {F0 F : Fz} {e e1 : Env} {tm : Nat → Value} {w : World} {ow : Nat → Option Nat → Option Nat} (hs : SimX B IoB F0 e tm w F ow) {io : Option (Nat × Int)} {k : Key} (hk : keyB k = false)
    (hm : moveIo e k io = some e1) : SimX B IoB F0 e1 tm w F ow ∧ ∀ n, getE e1 n = getE e n := by
  cases io with
  | none => simp only [moveIo, Option.some.injEq] at hm; subst hm; exact ⟨hs, fun _ => rfl⟩
  | some sp =>
    obtain ⟨s, p⟩ := sp
    simp only [moveIo] at hm
    split at hm
    · rename_i c q he
      split at hm
      · simp [keyB] at hk
      · rw [hk] at hm
        simp only [cond_false, Option.some.injEq] at hm
        subst hm
        have hge : ∀ n, getE (setE e s (.box [(.sh, c), (.fr, .int .i64 q)])) n = getE e n := fun n => by
          rw [getE_setE]; split
          · rename_i h; rw [h, he]
          · rfl
        have hfe : getE (setE e s (.box [(.sh, c), (.fr, .int .i64 q)])) = getE e := funext hge
        exact ⟨⟨hs.sub, hs.new, hs.live, hs.inj, hs.bd, fun n => by rw [hfe]; exact hs.sr n⟩, hge⟩
    · cases hm
end Go.Proofs.Ytopcofkpggefkaa

namespace Go.Proofs.Ytopcofkpggefkaa
open Go

theorem getD_cases (a : Act) (d : Nat) : (∃ v, a.tmps[d]? = some v ∧ a.tmps.getD d undef = v) ∨ (a.tmps[d]? = none ∧ a.tmps.getD d undef = undef) := by
  rw [Array.getD_eq_getD_getElem?]
  cases h : a.tmps[d]? with
  | none => exact .inr ⟨rfl, rfl⟩
  | some v => exact .inl ⟨v, rfl, rfl⟩

theorem guard_ok {F : Fz} {B : Nat} {w : World} {a : Act} {ge raw : Get} {ow : Nat → Option Nat → Option Nat} (hraw : RawK F B w (fun n => a.tmps.getD n undef) ge raw ow)
    {ops : Array Oper} {o : Oper} {k : Key} (hg : guardOf raw (ops.toList.map (·.dst)) o.guard = some k) :
    SR.KeyT (fun n => a.tmps.getD n undef) k ∧ Region.wanted o (yielded ops a.tmps) = keyB k ∧ ∀ d b x, (d, b, x) ∈ k → isDead (ge d) = false := by
  unfold Region.wanted
  cases hgd : o.guard with
  | none =>
    rw [hgd] at hg
    simp only [guardOf, Option.some.injEq] at hg
    subst hg
    exact ⟨trivial, rfl, fun d b x hm => by simp at hm⟩
  | some jb =>
    obtain ⟨j, b⟩ := jb
    rw [hgd] at hg
    simp only [guardOf] at hg
    split at hg
    · rename_i d hd
      have hdst : (ops[j]?).bind (·.dst) = some d := by
        rw [List.getElem?_map] at hd
        rw [← Array.getElem?_toList]
        cases hj : ops.toList[j]? with
        | none => rw [hj] at hd; simp at hd
        | some oj => rw [hj] at hd; simp at hd; simp [hd]
      have hy : yielded ops a.tmps j = match a.tmps[d]? with | some (.bool b) => some b | _ => none := by
        unfold yielded; rw [hdst]; rfl
      have hyb : ∀ {x : Bool}, a.tmps.getD d undef = .bool x → yielded ops a.tmps j = some x := by
        intro x hx
        rw [hy]
        rcases getD_cases a d with ⟨v, h1, h2⟩ | ⟨h1, h2⟩
        · rw [h1]; rw [h2] at hx; rw [hx]
        · rw [h2] at hx; cases hx
      have hyn : a.tmps.getD d undef = undef → yielded ops a.tmps j = none := by
        intro hx
        rw [hy]
        rcases getD_cases a d with ⟨v, h1, h2⟩ | ⟨h1, h2⟩
        · rw [h1]; rw [h2] at hx; rw [hx]; rfl
        · rw [h1]
      have hsr := hraw d
      split at hg
      · rename_i kk x hgx
        simp only [Option.some.injEq] at hg
        subst hg
        rcases hsr with hsr | ⟨hsr, hge⟩
        · rw [hsr] at hgx; cases hgx
        · rw [hgx] at hsr
          have hv : a.tmps.getD d undef = .bool x := avr_bool (hsr.avr (fun _ _ e => by cases e))
          refine ⟨⟨trivial, fun _ => hv, fun h => by simp [keyB] at h⟩, ?_, fun d' b' x' hm => ?_⟩
          · simp only [hyb hv]
            cases b <;> cases x <;> rfl
          · simp only [List.mem_singleton, Prod.mk.injEq] at hm
            obtain ⟨rfl, _, _⟩ := hm
            rw [hge, hgx]; rfl
      · rename_i k' kk x hgx
        simp only [Option.some.injEq] at hg
        subst hg
        rcases hsr with hsr | ⟨hsr, hge⟩
        · rw [hsr] at hgx; cases hgx
        · rw [hgx] at hsr
          obtain ⟨h1, h2, h3, h4⟩ := hsr
          have hv : keyB k' = true → a.tmps.getD d undef = .bool x := fun hk => avr_bool ((h3 hk).avr (fun _ _ e => by cases e))
          refine ⟨⟨h2, hv, h4⟩, ?_, fun d' b' x' hm => ?_⟩
          · cases hk : keyB k' with
            | true =>
              simp only [hyb (hv hk)]
              cases b <;> cases x <;> simp [keyB, hk]
            | false =>
              simp only [hyn (h4 hk)]
              cases b <;> cases x <;> simp [keyB, hk]
          · simp only [List.mem_cons, Prod.mk.injEq] at hm
            rcases hm with ⟨rfl, _, _⟩ | hm
            · rw [hge, hgx]; rfl
            · exact (h1 d' b' x' hm).2
      · cases hg
    · cases hg

theorem memK_ne {d : Nat} : ∀ {k : Key}, memK d k = false → ∀ {n : Nat} {b x : Bool}, (n, b, x) ∈ k → n ≠ d
  | [], _, _, _, _, hm => by simp at hm
  | (m, b', x') :: k, h, n, b, x, hm => by
    simp only [memK] at h
    cases hb : Nat.beq m d with
    | true => rw [hb] at h; simp at h
    | false =>
      rw [hb] at h
      simp only [List.mem_cons, Prod.mk.injEq] at hm
      rcases hm with ⟨rfl, _, _⟩ | hm
      · intro e; rw [e, Nat.beq_refl] at hb; exact absurd hb (by simp)
      · exact memK_ne h hm

theorem obsK_mem {k : Key} (hk : keyB k = true) : ∀ {obs : List Prop}, (∀ p ∈ obsK k obs, p) → ∀ p ∈ obs, p
  | [], _, p, hm => by simp at hm
  | q :: r, h, p, hm => by
    cases k with
    | nil =>
      simp only [List.mem_cons] at hm
      rcases hm with rfl | hm
      · exact h p (by simp [obsK])
      · exact obsK_mem hk (fun p hp => h p (by simp [obsK, hp])) p hm
    | cons t k =>
      simp only [List.mem_cons] at hm
      rcases hm with rfl | hm
      · exact h (keyB (t :: k) = true → p) (by simp [obsK]) hk
      · exact obsK_mem hk (fun p hp => h p (by simp only [obsK, List.mem_cons]; exact .inr hp)) p hm

theorem Sim.raw {B : Nat} {IoB : List Nat} {F0 F : Fz} {e : Env} {a : Act} {w : World} {ow : Nat → Option Nat → Option Nat} (hx : SimX B IoB F0 e (fun n => a.tmps.getD n undef) w F ow)
    {g : Get} (hg : ∀ n, g n = .dead ∨ g n = getE e n) : RawK F B w (fun n => a.tmps.getD n undef) (getE e) g ow := fun n => by
  rcases hg n with h | h
  · exact .inl h
  · right; rw [h]; exact ⟨hx.sr n, rfl⟩

theorem putW_eq {wf : Env → Nat → AV → Option Env} (hwf : wf = putW ∨ wf = setW) {e e' : Env} {d : Nat} {av : AV} (h : wf e d av = some e') : e' = put e d av := by
  rcases hwf with rfl | rfl
  · simpa [putW] using h.symm
  · unfold setW at h
    unfold put
    split at h
    · simpa using h.symm
    · cases h

section
variable {P : Program} {tt : TT} (htt : TTok P tt) {sp : SP} (hsp : ∀ f s, spk sp f = some s → Con P f s)
include htt hsp

theorem stepW_ok {N : NP} {B : Nat} {IoB : List Nat} {W0 : World} {F0 : Fz} {e e' : Env} {a : Act} {w : World} (hs : Sim N B IoB W0 F0 e a w) {g : Get} (hg : ∀ n, g n = .dead ∨ g n = getE e n) {ops : Array Oper} {o : Oper}
    {wf : Env → Nat → AV → Option Env} (hwf : wf = putW ∨ wf = setW) {obs : List Prop} (hst : stepW tt sp (ops.toList.map (·.dst)) wf g e o = some (e', obs)) (ho : ∀ p ∈ obs, p) (hdN : ∀ d, o.dst = some d → N.ok d = true)
    {next : Act → World → Prop} {Q : Exit → Act → World → Prop} (hn : ∀ a' w', Sim N B IoB W0 F0 e' a' w' → next a' w') :
    if Region.wanted o (yielded ops a.tmps) then o.wp P a w next Q else next (a.put o.dst undef) w := by
  obtain ⟨F, ow, hx⟩ := hs.rep
  have hraw := Sim.raw hx hg
  unfold stepW at hst
  cases hgo : guardOf g (ops.toList.map (·.dst)) o.guard with
  | none => rw [hgo] at hst; simp at hst
  | some k =>
    rw [hgo] at hst
    obtain ⟨hkt, hwant, hkd⟩ := guard_ok hraw hgo
    simp only [] at hst
    cases hsev : sev tt sp g k (fun n => strip k (g n)) o.type o.op with
    | none => rw [hsev] at hst; simp at hst
    | some out =>
      obtain ⟨av, obs0, io⟩ := out
      cases hdst : o.dst with
      | none => rw [hsev, hdst] at hst; simp at hst
      | some d =>
        rw [hsev, hdst] at hst
        simp only [] at hst
        cases hmv : moveIo e k io with
        | none => rw [hmv] at hst; simp at hst
        | some e1 =>
          rw [hmv] at hst
          cases hbk : (bears av && !k.isEmpty) with
          | true => rw [hbk] at hst; simp at hst
          | false =>
            rw [hbk] at hst
            simp only [] at hst
            cases hos : (onSlot d (wrapK k av) || (!k.isEmpty && !isDead (getE e1 d))) with
            | true => rw [hos] at hst; simp at hst
            | false =>
              rw [hos] at hst
              cases hwe : wf e1 d (wrapK k av) with
              | none => rw [hwe] at hst; simp at hst
              | some e2 =>
                rw [hwe] at hst
                simp only [Option.some.injEq, Prod.mk.injEq] at hst
                obtain ⟨rfl, rfl⟩ := hst
                have he2 := putW_eq hwf hwe
                subst he2
                have hd : d < N.n := NP.ok_lt (hdN d hdst)
                have hds : d < a.tmps.size := by rw [hs.tmps.size]; exact hd
                have hBw : B ≤ w.heap.size := Nat.le_trans hs.base hs.kept.size
                simp only [Bool.or_eq_false_iff] at hos
                obtain ⟨hos1, hos2⟩ := hos
                have htm : ∀ v, (fun n => (a.put (some d) v).tmps.getD n undef) = fun n => if n = d then v else a.tmps.getD n undef := fun v => funext (getD_set a d v hds)
                rw [hwant]
                cases hkb : keyB k with
                | true =>
                  rw [if_pos rfl]
                  refine op_wp htt hsp hx.live hBw hraw hkt hkb hx.inj (fun s i b h => (hx.bd s i b h).1) (fun m f c hm => ?_) hsev (obsK_mem hkb ho) (fun v w' ha => ?_)
                  · have := hx.sr m
                    rw [hm] at this
                    exact this
                  · obtain ⟨F', owd, hx1, hbl1, ho1, ht1, hu1, hsz1, hob1, hf1, hi1, hav1⟩ := hx.after hBw ha hkb hmv
                    rw [hdst]
                    apply hn
                    refine ⟨hs.defers, hs.tmps.put (hdN d hdst) _, hs.base, hs.f0, ?_, F', fun s => if s = d then owd else ow s, ?_⟩
                    · refine ⟨ho1.trans hs.kept.os, ht1.trans hs.kept.tape, hu1.trans hs.kept.output, ?_, fun j hj hio => ?_, fun k o hk hc => hob1 k o (hs.kept.obj k o hk hc) hc⟩
                      · have := hs.kept.size; omega
                      · rw [hbl1 j hj hio]
                        exact hs.kept.block j hj hio
                    · rw [htm v]
                      refine hx1.put (by omega) (Grow.refl F' w') hx1.live hf1 hi1 (fun g' hg1' hg2' => ?_)
                      cases k with
                      | nil => exact hav1.sr hos1 hg1'
                      | cons t k =>
                        have hdd : isDead (getE e1 d) = true := by simpa using hos2
                        have hg' := hg2' hdd
                        simp only [wrapK, onSlot, Bool.or_eq_false_iff] at hos1
                        refine ⟨fun n b x hm => ⟨memK_ne hos1.1 hm, ?_⟩, KeyT.other (tm := fun n => a.tmps.getD n undef) (fun n hn => by simp [hn]) (fun n b x hm => memK_ne hos1.1 hm) hkt, fun _ => hav1.sr hos1.2 hg1', fun h => by rw [hkb] at h; exact absurd h (by simp)⟩
                        have hnd := memK_ne hos1.1 hm
                        rw [hg' n hnd]
                        -- the reader's move leaves a test's slot as it was
                        have := hkd n b x hm
                        cases io with
                        | none => simp only [moveIo, Option.some.injEq] at hmv; subst hmv; exact this
                        | some sp0 =>
                          obtain ⟨s0, p0⟩ := sp0
                          simp only [moveIo] at hmv
                          split at hmv
                          · simp only [Option.some.injEq] at hmv
                            subst hmv
                            rw [getE_setE]
                            split
                            · rfl
                            · exact this
                          · cases hmv
                | false =>
                  rw [if_neg (by simp)]
                  obtain ⟨hx1, hge1⟩ := moveIo_skip hx hkb hmv
                  apply hn
                  refine ⟨hs.defers, hs.tmps.put (hdN d hdst) _, hs.base, hs.f0, hs.kept, F, fun s => if s = d then (fun _ => none) else ow s, ?_⟩
                  rw [htm undef]
                  refine hx1.put hBw (Grow.refl F w) hx.live (fun i b h => by simp at h) (fun i i' b h => by simp at h) (fun g' hg1' hg2' => ?_)
                  cases k with
                  | nil => simp [keyB] at hkb
                  | cons t k =>
                    have hdd : isDead (getE e1 d) = true := by simpa using hos2
                    have hg' := hg2' hdd
                    simp only [wrapK, onSlot, Bool.or_eq_false_iff] at hos1
                    refine ⟨fun n b x hm => ⟨memK_ne hos1.1 hm, ?_⟩, KeyT.other (tm := fun n => a.tmps.getD n undef) (fun n hn => by simp [hn]) (fun n b x hm => memK_ne hos1.1 hm) hkt, fun h => by rw [hkb] at h; exact absurd h (by simp), fun _ => by simp⟩
                    rw [hg' n (memK_ne hos1.1 hm), hge1 n]
                    exact hkd n b x hm
end
end Go.Proofs.Ytopcofkpggefkaa

namespace Go.Proofs.Ytopcofkpggefkaa
open Go

section
variable {B : Nat} {IoB : List Nat} {F0 F : Fz} {e : Env} {tm : Nat → Value} {w : World} {ow : Nat → Option Nat → Option Nat}

theorem SimX.congr (hs : SimX B IoB F0 e tm w F ow) {e' : Env} (h : ∀ n, getE e' n = getE e n) : SimX B IoB F0 e' tm w F ow := by
  have hf : getE e' = getE e := funext h
  exact ⟨hs.sub, hs.new, hs.live, hs.inj, hs.bd, fun n => by rw [hf]; exact hs.sr n⟩

theorem getE_put (e : Env) (d : Nat) (a : AV) (n : Nat) : getE (put e d a) n = if n = d then a else match isDead (getE e d) with | true => getE e n | false => unview d (getE e d) (getE e n) := by
  unfold Go.Proofs.Ytopcofkpggefkaa.put
  cases isDead (getE e d) with
  | true => exact getE_setE e d a n
  | false => simp only []; rw [getE_setE]; split
             · rfl
             · exact getE_mapE _ (unview_dead _ _) e n

/-- A right is given up at 's', in another's favour or nobody's. -/
theorem SimX.unviewAt (hs : SimX B IoB F0 e tm w F ow) (s : Nat) (x : AV) (hx : ∀ g ow', SR F B w tm g ow' s x) :
    SimX B IoB F0 (setE (mapE (unview s (getE e s)) e) s x) tm w F (fun n => if n = s then fun _ => none else ow n) := by
  have hge : ∀ n, n ≠ s → getE (setE (mapE (unview s (getE e s)) e) s x) n = unview s (getE e s) (getE e n) := fun n hn => by
    rw [getE_setE, if_neg hn, getE_mapE _ (unview_dead _ _)]
  refine ⟨hs.sub, hs.new, hs.live, ?_, ?_, ?_⟩
  · intro s1 i1 s2 i2 b h1 h2
    by_cases e1 : s1 = s
    · simp [e1] at h1
    · by_cases e2 : s2 = s
      · simp [e2] at h2
      · simp only [e1, e2, if_false] at h1 h2
        exact hs.inj _ _ _ _ _ h1 h2
  · intro s1 i1 b h1
    by_cases e1 : s1 = s
    · simp [e1] at h1
    · simp only [e1, if_false] at h1
      exact hs.bd _ _ _ h1
  · intro n
    by_cases e1 : n = s
    · rw [getE_setE, if_pos e1, e1]; exact hx _ _
    · rw [hge n e1]
      exact SR.unview e1 (fun _ _ => rfl) (fun m hm hb => by rw [hge m hm, unview_bears _ _ hb]) (fun m hm => by simp [hm]) (hs.sr s) (hs.sr n)

/-- A slot of which nothing is known gets a value, and maybe what that owns. -/
theorem SimX.fillDead (hs : SimX B IoB F0 e tm w F ow) {s : Nat} (hd : isDead (getE e s) = true) {x : AV} (hx : SR F B w tm (getE (setE e s x)) ow s x) :
    SimX B IoB F0 (setE e s x) tm w F ow := by
  refine ⟨hs.sub, hs.new, hs.live, hs.inj, hs.bd, fun n => ?_⟩
  by_cases e1 : n = s
  · rw [getE_setE, if_pos e1, e1]; exact hx
  · rw [getE_setE, if_neg e1]
    exact SR.dead e1 hd (fun _ _ => rfl) (fun m hm => by rw [getE_setE, if_neg hm]) (fun _ _ => rfl) (hs.sr n)

/-- 'SimX.put', the owned blocks being known to be nobody's else. -/
theorem SimX.putG {F' : Fz} {w' : World} {owd : Option Nat → Option Nat} {d : Nat} {av : AV} {v : Value}
    (hs : SimX B IoB F0 e tm w F ow) (hBw : B ≤ w.heap.size) (hg : Grow F w F' w') (hl' : Live F' w') (hf : ∀ i b, owd i = some b → b < w'.heap.size ∧ Mn B IoB b)
    (hd : ∀ i b, owd i = some b → ∀ s' i', s' ≠ d → ow s' i' ≠ some b)
    (hi : ∀ i i' b, owd i = some b → owd i' = some b → i = i')
    (hav : ∀ g', (∀ n, n ≠ d → bears (getE e n) = true → g' n = getE e n) → (isDead (getE e d) = true → ∀ n, n ≠ d → g' n = getE e n) →
          SR F' B w' (fun n => if n = d then v else tm n) g' (fun s => if s = d then owd else ow s) d av) :
    SimX B IoB F0 (Go.Proofs.Ytopcofkpggefkaa.put e d av) (fun n => if n = d then v else tm n) w' F' (fun s => if s = d then owd else ow s) := by
  have h2 : Live F w := hs.live
  refine ⟨fun b o hb => hg.sub _ _ (hs.sub _ _ hb), ?_, hl', ?_, ?_, ?_⟩
  · intro b o hb
    rcases hg.new b o hb with hb | hb
    · exact hs.new b o hb
    · exact .inr (.inl (Nat.le_trans hBw hb))
  · intro s i s' i' b hs1 hs2
    by_cases e1 : s = d <;> by_cases e2 : s' = d <;> simp only [e1, e2, if_true, if_false] at hs1 hs2
    · exact ⟨by rw [e1, e2], hi i i' b hs1 hs2⟩
    · exact absurd hs2 (hd i b hs1 s' i' e2)
    · exact absurd hs1 (hd i' b hs2 s i e1)
    · exact hs.inj s i s' i' b hs1 hs2
  · intro s i b hs1
    by_cases e1 : s = d
    · simp only [e1, if_true] at hs1
      exact ⟨(hf i b hs1).1, (hf i b hs1).2⟩
    · simp only [e1, if_false] at hs1
      have := hs.bd s i b hs1
      exact ⟨Nat.lt_of_lt_of_le this.1 hg.size, this.2⟩
  · have ht : ∀ n, n ≠ d → (fun n => if n = d then v else tm n) n = tm n := fun n hn => by simp [hn]
    have ho : ∀ n, n ≠ d → (fun s => if s = d then owd else ow s) n = ow n := fun n hn => by simp [hn]
    intro s
    by_cases e1 : s = d
    · rw [e1, getE_put, if_pos rfl]
      refine hav _ (fun n hn hb => ?_) (fun hdd n hn => ?_)
      · rw [getE_put, if_neg hn]
        split
        · rfl
        · exact unview_bears _ _ hb
      · rw [getE_put, if_neg hn, hdd]
    · cases hdd : isDead (getE e d) with
      | true =>
        have hge : ∀ n, n ≠ d → getE (Go.Proofs.Ytopcofkpggefkaa.put e d av) n = getE e n := fun n hn => by rw [getE_put, if_neg hn, hdd]
        rw [hge s e1]
        exact SR.dead e1 hdd ht (fun n hn => hge n hn) ho ((hs.sr s).grow hg h2)
      | false =>
        have hgm : ∀ n, n ≠ d → getE (Go.Proofs.Ytopcofkpggefkaa.put e d av) n = unview d (getE e d) (getE e n) := fun n hn => by rw [getE_put, if_neg hn, hdd]
        rw [hgm s e1]
        exact SR.unview e1 ht (fun n hn hb => by rw [hgm n hn, unview_bears _ _ hb]) ho ((hs.sr d).grow hg h2) ((hs.sr s).grow hg h2)

theorem bears_sr {x : AV} (hb : bears x = true) {g : Get} {ow : Nat → Option Nat → Option Nat} {s : Nat} : SR F B w tm g ow s x = VR F B w (ow s) x (tm s) := by
  cases x with
  | v k c => rfl
  | box cs => rfl
  | _ => simp [bears] at hb

/-- A right goes from slot 's' to slot 'd', which gets its value. -/
theorem SimX.assign (hs : SimX B IoB F0 e tm w F ow) (hBw : B ≤ w.heap.size) {s d : Nat} (hsd : s ≠ d) (hb : bears (getE e s) = true) :
    ∃ ow', SimX B IoB F0 (setE (Go.Proofs.Ytopcofkpggefkaa.put (mapE (unview s (getE e s)) e) d (getE e s)) s (.view d none)) (fun n => if n = d then tm s else tm n) w F ow' := by
  have h1 := hs.unviewAt s .dead (fun _ _ => trivial)
  have h2 := h1.putG (d := d) (av := getE e s) (v := tm s) (owd := ow s) hBw (Grow.refl F w) hs.live (fun i b h => hs.bd s i b h)
    (fun i b h s' i' _ h' => by
      by_cases e1 : s' = s
      · simp [e1] at h'
      · simp only [e1, if_false] at h'
        exact e1 (hs.inj _ _ _ _ _ h' h).1)
    (fun i i' b h h' => (hs.inj _ _ _ _ _ h h').2)
    (fun g' _ _ => by
      rw [bears_sr hb]
      simp only [if_true]
      have := hs.sr s
      rw [bears_sr hb] at this
      exact this)
  have hge : ∀ n, n ≠ s → getE (Go.Proofs.Ytopcofkpggefkaa.put (mapE (unview s (getE e s)) e) d (getE e s)) n = getE (Go.Proofs.Ytopcofkpggefkaa.put (setE (mapE (unview s (getE e s)) e) s .dead) d (getE e s)) n := fun n hn => by
    rw [getE_put, getE_put, getE_setE _ s _ d, if_neg (Ne.symm hsd), getE_setE _ s _ n, if_neg hn]
  have hds : isDead (getE (Go.Proofs.Ytopcofkpggefkaa.put (setE (mapE (unview s (getE e s)) e) s .dead) d (getE e s)) s) = true := by
    rw [getE_put, if_neg hsd, getE_setE _ s _ s, if_pos rfl]
    split <;> rfl
  have h3 := h2.fillDead (x := .view d none) hds ⟨by simp only [if_true, if_neg hsd], by rw [getE_setE, if_neg (Ne.symm hsd), getE_put, if_pos rfl]; exact hb, Ne.symm hsd⟩
  refine ⟨_, h3.congr fun n => ?_⟩
  rw [getE_setE, getE_setE]
  split
  · rfl
  · rename_i hn; exact hge n hn

/-- A right is dropped: the value stays. -/
theorem SimX.drop (hs : SimX B IoB F0 e tm w F ow) (s : Nat) :
    SimX B IoB F0 (dropE e s) tm w F (match getE e s with | .v (.acc _) _ => fun n => if n = s then fun _ => none else ow n | _ => ow) := by
  unfold dropE
  cases hg : getE e s with
  | v k c =>
    cases k with
    | acc f =>
      simp only []
      have := hs.unviewAt s (.v (frK f) c) (fun g ow' => by
        have h := hs.sr s
        rw [hg] at h
        exact AccR.plain (h : VR F B w (ow s) (.v (.acc f) c) (tm s)))
      rw [hg] at this
      exact this
    | _ => exact hs
  | _ => exact hs
end

section
variable {P : Program}

theorem stepAssign_ok {N : NP} {B : Nat} {IoB : List Nat} {W0 : World} {F0 : Fz} {e e' : Env} {a : Act} {w : World} (hs : Sim N B IoB W0 F0 e a w) {o : Oper} {s d : Nat} (hop : o.op = .assign (.tmp s)) (hd : o.dst = some d)
    (hb : bears (getE e s) = true) {obs : List Prop} (hst : stepAssign e s d = some (e', obs)) (hdN : N.ok d = true)
    {next : Act → World → Prop} {Q : Exit → Act → World → Prop} (hn : ∀ a' w', Sim N B IoB W0 F0 e' a' w' → next a' w') : o.wp P a w next Q := by
  unfold stepAssign at hst
  cases hsd : Nat.beq s d with
  | true => rw [hsd] at hst; simp at hst
  | false =>
    rw [hsd] at hst
    simp only [Option.some.injEq, Prod.mk.injEq] at hst
    obtain ⟨rfl, _⟩ := hst
    have hne : s ≠ d := fun e => by rw [e, Nat.beq_refl] at hsd; exact absurd hsd (by simp)
    obtain ⟨F, ow, hx⟩ := hs.rep
    have hBw : B ≤ w.heap.size := Nat.le_trans hs.base hs.kept.size
    obtain ⟨ow', hx'⟩ := hx.assign hBw hne hb
    have hrun : (execOp a.eval o).run P w = .ok (.value (a.tmps.getD s undef)) w := by
      obtain ⟨dst, op, ty, pos, aft, gd⟩ := o
      simp only [] at hop
      subst hop
      rfl
    unfold Oper.wp
    rw [hrun, Oper.upon_value, hd]
    apply hn
    refine ⟨hs.defers, hs.tmps.put hdN _, hs.base, hs.f0, hs.kept, F, ow', ?_⟩
    have htm : (fun n => (a.put (some d) (a.tmps.getD s undef)).tmps.getD n undef) = fun n => if n = d then a.tmps.getD s undef else a.tmps.getD n undef := funext (getD_set a d _ (by rw [hs.tmps.size]; exact NP.ok_lt hdN))
    rw [htm]
    exact hx'
end
end Go.Proofs.Ytopcofkpggefkaa
