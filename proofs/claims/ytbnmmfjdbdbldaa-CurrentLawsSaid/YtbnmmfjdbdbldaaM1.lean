/-
  CurrentLaws returns true at every input, and its arguments read behind the call as they read before; no condition. Part 1 of 5.
-/
import GoSem.Core.Code
import GoSem.Core.Program
import GoSem.Core.Lib
import GoSem.Machine.Frame
import GoSem.Dispatch
import Derived.Orders
import Derived.Laws.AppendOwn
import Derived.Laws.Rows
import Derived.Laws.CopyRow
import Derived.Laws.Cells
import Derived.Laws.Sem
import Derived.Laws.Tables
import Derived.Laws.Entries
import Derived.Deep.AppendSrc
import Derived.Laws.StructEq
import Derived.Laws.Slices
import Derived.Tactics

/-
  An abstract machine for a fragment of the model's code: values with ghost places, blocks with typed contents. It only computes; its soundness is proved in the text Sim.
-/
namespace Go.Abs

class Dom where
  Tag : Type
  dec : DecidableEq Tag
  El : Tag → Type

instance instTag [D : Dom] : DecidableEq D.Tag := D.dec

/-- An abstract value. Places are numbers of abstract blocks. -/
inductive AV [D : Dom] : Type
  | v (x : Value)
  | ptr (l off : Nat)
  | ept (l i off : Nat)
  | sl (l : Nat)
  | fsl (l n k : Nat)
  | imm (t : D.Tag) (xs : List (D.El t))
  | imp (t : D.Tag) (x : D.El t) (off : Nat)
  | fn (f : Nat) (caps : List AV)
  | agg (cs : List AV)
  | tup (vs : List AV)

/-- What a cell of a type of elements is: plain, a slice of elements, a pointer to one. -/
inductive CK [D : Dom] : Type
  | flat
  | sl (t : D.Tag)
  | pt (t : D.Tag)

class Coding [D : Dom] where
  tagOf : TypeId → Option D.Tag
  k : D.Tag → Nat
  kinds : D.Tag → List CK
  enc : (t : D.Tag) → D.El t → List AV
  dec : (t : D.Tag) → List AV → Option (D.El t)
  eqT : TypeId → Bool

inductive Blk [D : Dom] : Type
  | cells (cs : List AV)
  | arr (t : D.Tag) (xs : List (D.El t))
  | fz (t : D.Tag) (xs : List (D.El t))
  | dead

abbrev Hp [D : Dom] := Nat → Blk

structure St [D : Dom] where
  tm : List (Option AV)
  fs : List (List (Option AV))
  hp : Hp
  nx : Nat

/-- What an operation read, wrote and made; 'opq': it is not told. -/
structure Lg where
  rd : List Nat := []
  wr : List Nat := []
  nw : List Nat := []
  opq : Bool := false

def Lg.join (a b : Lg) : Lg := ⟨a.rd ++ b.rd, a.wr ++ b.wr, a.nw ++ b.nw, a.opq || b.opq⟩

inductive Ex where
  | normal
  | exit (id : Nat)
  | ret
  | goto (l : Nat)

section
variable [D : Dom] [C : Coding]

/-- The element at a place of a list of elements (a list that is not written out). -/
def elt {α : Type} (xs : List α) (i : Nat) : Option α := xs[i]?

/-- The item at a place of a list that is written out. -/
def nth {α : Type} : List α → Nat → Option α
  | [], _ => none
  | x :: _, 0 => some x
  | _ :: xs, n + 1 => nth xs n

def put' {α : Type} : List α → Nat → α → List α
  | [], _, _ => []
  | _ :: xs, 0, y => y :: xs
  | x :: xs, n + 1, y => x :: put' xs n y

def takeN {α : Type} : Nat → List α → Option (List α)
  | 0, _ => some []
  | _ + 1, [] => none
  | n + 1, x :: xs => match takeN n xs with | some ys => some (x :: ys) | none => none

def dropN {α : Type} : Nat → List α → List α
  | 0, xs => xs
  | _ + 1, [] => []
  | n + 1, _ :: xs => dropN n xs

def lenIs {α : Type} : Nat → List α → Bool
  | 0, [] => true
  | n + 1, _ :: xs => lenIs n xs
  | _, _ => false

def setE {α : Type} (xs : List α) (i : Nat) (y : α) : List α := xs.set i y

def memN (l : Nat) : List Nat → Bool
  | [] => false
  | x :: xs => bif Nat.beq x l then true else memN l xs

def idxN (l : Nat) : List Nat → Nat → Option Nat
  | [], _ => none
  | x :: xs, i => bif Nat.beq x l then some i else idxN l xs (i + 1)

def same (t t' : D.Tag) : Bool := decide (t' = t)

def get? (tm : List (Option AV)) (t : Nat) : Option AV :=
  match nth tm t with
  | some (some a) => some a
  | _ => none

def St.put (st : St) (d : Option Nat) (a : AV) : St :=
  match d with
  | some t => { st with tm := put' st.tm t (some a) }
  | none => st

def upd (h : Hp) (l : Nat) (b : Blk) : Hp := fun i => bif Nat.beq i l then b else h i

def evalA (st : St) : Operand → Option AV
  | .tmp t => get? st.tm t
  | .const v => some (.v v)
  | .global _ => none
  | .func f => some (.fn f [])

def evalsA (st : St) : List Operand → Option (List AV)
  | [] => some []
  | x :: xs =>
    match evalA st x with
    | some a => match evalsA st xs with
      | some as => some (a :: as)
      | none => none
    | none => none

/-- Is there no place in a value? -/
def flatV : Value → Bool
  | .bool _ | .int _ _ | .float _ _ | .complex _ _ _ | .string _ | .nilFunc | .nilIface => true
  | .pointer none => true
  | .slice none 0 0 => true
  | _ => false

def oneV : Value → Bool
  | .agg _ | .tuple _ => false
  | _ => true

/-- Is it a value of one cell? -/
def oneA : AV → Bool
  | .v x => oneV x
  | .agg _ => false
  | .tup _ => false
  | _ => true

def allA (p : AV → Bool) : List AV → Bool
  | [] => true
  | a :: as => p a && allA p as

def locfree : AV → Bool
  | .v x => flatV x
  | .imp _ _ _ => true
  | .imm _ _ => true
  | .fn _ [] => true
  | _ => false

/-- A cell as an element's cell: what is a place in it is given up. -/
def coerce1 (q : CK) (a : AV) (h : Hp) : Option (AV × Hp × Lg) :=
  match q, a with
  | .sl t, .v (.slice none 0 0) => some (.imm t [], h, {})
  | .sl t, .imm t' xs => bif same t t' then some (.imm t' xs, h, {}) else none
  | .sl t, .sl l => match h l with
    | .arr t' xs => bif same t t' then some (.imm t' xs, upd h l (.fz t' xs), { wr := [l] }) else none
    | .fz t' xs => bif same t t' then some (.imm t' xs, h, { rd := [l] }) else none
    | _ => none
  | .flat, .v x => bif flatV x then some (.v x, h, {}) else none
  | .flat, .fn f [] => some (.fn f [], h, {})
  | .pt t, .imp t' x 0 => bif same t t' then some (.imp t' x 0, h, {}) else none
  | _, _ => none

def coerce : List CK → List AV → Hp → Option (List AV × Hp × Lg)
  | [], [], h => some ([], h, {})
  | q :: qs, a :: as, h =>
    match coerce1 q a h with
    | some (b, h, g) => match coerce qs as h with
      | some (bs, h, g') => some (b :: bs, h, g.join g')
      | none => none
    | none => none
  | _, _, _ => none

/-- The cells of a value. -/
def cellsOf : AV → List AV
  | .agg cs => cs
  | .v (.agg cs) => cs.toList.map .v
  | a => [a]

/-- An element of a value. -/
def elOf (t : D.Tag) (a : AV) (h : Hp) : Option (D.El t × Hp × Lg) :=
  match coerce (C.kinds t) (cellsOf a) h with
  | some (cs, h, g) => match C.dec t cs with
    | some x => some (x, h, g)
    | none => none
  | none => none

/-! types of the program -/
variable (P : Program)

def sz? (T : TypeId) : Option Nat := match P.info? T with | some i => some i.size | none => none

def aggT (T : TypeId) : Bool := match P.underlying T with | some (.struct _) => true | some (.array _ _) => true | _ => false

/-- The tag of a slice type's elements. -/
def sliceTag (T : TypeId) : Option D.Tag := match P.underlying T with | some (.slice e) => C.tagOf e | _ => none

/-- Which cells of a type are slices of tagged elements. -/
def slots : Nat → TypeId → List (Option D.Tag)
  | 0, _ => []
  | n + 1, T => match P.underlying T with
    | some (.struct fs) => fs.toList.flatMap fun f => slots n f.type
    | some (.array m e) => (List.replicate m (slots n e)).flatten
    | some (.slice e) => [C.tagOf e]
    | _ => [none]

/-- Nil slices of tagged elements become places of their own, from n on. -/
def unnil : List (Option D.Tag) → List AV → Hp → Nat → List AV × Hp × List Nat
  | some t :: qs, .v (.slice none 0 0) :: cs, h, n =>
    match unnil qs cs (upd h n (.arr t [])) (n + 1) with
    | (ds, h', ns) => (.sl n :: ds, h', n :: ns)
  | _ :: qs, c :: cs, h, n =>
    match unnil qs cs h n with
    | (ds, h', ns) => (c :: ds, h', ns)
  | _, cs, h, _ => (cs, h, [])

def zeroCells (T : TypeId) : Option (List AV) :=
  match P.info? T with
  | some i => match i.zero with
    | some z => some (z.cells.toList.map .v)
    | none => none
  | none => none

def fieldT (T : TypeId) (f : Nat) : Option (Nat × TypeId) :=
  match P.underlying T with
  | some (.struct fs) => match fs[f]? with
    | some f => some (f.offset, f.type)
    | none => none
  | _ => none

/-- Cells as a value of a type. -/
def valueT (T : TypeId) (cs : List AV) : Option AV :=
  match P.underlying T with
  | some (.struct _) => some (.agg cs)
  | some (.array _ _) => some (.agg cs)
  | some _ => match cs with | [c] => some c | _ => none
  | none => none

/-- A piece of cells. -/
def piece (cs : List AV) (off n : Nat) : Option (List AV) :=
  takeN n (dropN off cs)

def overlay (cs : List AV) (off : Nat) : List AV → List AV
  | [] => cs
  | d :: ds => overlay (put' cs off d) (off + 1) ds

def loadA {α : Type} (h : Hp) (T : TypeId) (a : AV) (K : AV → Lg → Option α) : Option α :=
  let part (cs : List AV) (off : Nat) (g : Lg) : Option α := match sz? P T with
    | some n => match piece cs off n with
      | some ds => match valueT P T ds with
        | some v => K v g
        | none => none
      | none => none
    | none => none
  match a with
  | .ptr l off => match h l with
    | .cells cs => part cs off { rd := [l] }
    | _ => none
  | .ept l i off => match h l with
    | .arr t xs => match elt xs i with
      | some x => part (C.enc t x) off { rd := [l] }
      | none => none
    | .fz t xs => match elt xs i with
      | some x => part (C.enc t x) off { rd := [l] }
      | none => none
    | _ => none
  | .imp t x off => part (C.enc t x) off {}
  | _ => none

/-- n: where new places begin. -/
def storeA {α : Type} (h : Hp) (n : Nat) (T : TypeId) (a v : AV) (K : Hp → Lg → Option α) : Option α :=
  match sz? P T with
  | none => none
  | some sz => bif lenIs sz (cellsOf v) && allA oneA (cellsOf v) && Nat.ble 1 sz then
    match a with
    | .ptr l off => match unnil (slots P 8 T) (cellsOf v) h n with
      | (ds, h', ns) => match h l with
        | .cells cs => match piece cs off sz with
          | some _ => K (upd h' l (.cells (overlay cs off ds))) { wr := [l], nw := ns }
          | none => none
        | _ => none
    | .ept l i off => match h l with
      | .arr t xs => match elt xs i with
        | some x => match piece (C.enc t x) off sz with
          | some _ => match coerce (C.kinds t) (overlay (C.enc t x) off (cellsOf v)) h with
            | some (cs, h', g) => match C.dec t cs with
              | some y => match h' l with
                | .arr _ _ => K (upd h' l (.arr t (setE xs i y))) (g.join { wr := [l] })
                | _ => none
              | none => none
            | none => none
          | none => none
        | none => none
      | _ => none
    | _ => none
    else none

def fillA (T : TypeId) (st : St) : List (Nat × Operand) → List AV → Option (List AV)
  | [], cs => some cs
  | (i, x) :: rest, cs =>
    match fieldT P T i with
    | some (off, ft) => match sz? P ft with
      | some n => match evalA st x with
        | some a => bif lenIs n (cellsOf a) && allA oneA (cellsOf a) && Nat.ble 1 n then
            match piece cs off n with
            | some _ => fillA T st rest (overlay cs off (cellsOf a))
            | none => none
          else none
        | none => none
      | none => none
    | none => none

/-- Are all the fields' types known, and is it a struct? -/
def structT (T : TypeId) : Bool := match P.underlying T with
  | some (.struct fs) => fs.toList.all fun f => (sz? P f.type).isSome
  | _ => false

def binIntA (op : BinOp) (k : IntKind) (a b : Int) : Option Value :=
  match op with
  | .add => some (.int k (k.wrap (a + b)))
  | .sub => some (.int k (k.wrap (a - b)))
  | .mul => some (.int k (k.wrap (a * b)))
  | .lss => some (.bool (a < b))
  | .leq => some (.bool (a ≤ b))
  | .gtr => some (.bool (a > b))
  | .geq => some (.bool (a ≥ b))
  | _ => none

def eqFlat : Value → Value → Option Bool
  | .int k a, .int k' b => bif decide (k = k') then some (a == b) else none
  | .bool a, .bool b => some (a == b)
  | .string a, .string b => some (a.toList == b.toList)
  | _, _ => none

def kindA (T : TypeId) (x : Value) : Bool := match P.underlying T, x with
  | some (.int _), .int _ _ => true
  | some .bool, .bool _ => true
  | some .string, .string _ => true
  | _, _ => false

def eqFs : List Field → List AV → List AV → Option Bool
  | [], _, _ => some true
  | f :: fs, as, bs => match nth as f.offset, nth bs f.offset with
    | some (.v x), some (.v y) => bif kindA P f.type x && kindA P f.type y then match eqFlat x y with
        | some c => match eqFs fs as bs with
          | some d => some (c && d)
          | none => none
        | none => none
      else none
    | _, _ => none

def isPtr (T : TypeId) : Bool := match P.underlying T with | some (.pointer _) => true | _ => false

def aggCells : AV → Option (List AV)
  | .agg cs => some cs
  | .v (.agg cs) => some (cs.toList.map .v)
  | _ => none

def ptrA : AV → Option Bool
  | .v (.pointer none) => some true
  | .ptr _ _ => some false
  | .ept _ _ _ => some false
  | .imp _ _ _ => some false
  | _ => none

def eqA (T : TypeId) (a b : AV) : Option Bool :=
  match aggCells a, aggCells b with
  | some as, some bs => match P.underlying T with
    | some (.struct fs) => bif C.eqT T then eqFs P fs.toList as bs else none
    | _ => none
  | none, none => match ptrA a, ptrA b with
    | some x, some y => bif isPtr P T && (x || y) then some (x && y) else none
    | none, none => match a, b with
      | .v x, .v y => bif kindA P T x && kindA P T y then eqFlat x y else none
      | _, _ => none
    | _, _ => none
  | _, _ => none

def binA (T : TypeId) (op : BinOp) (a b : AV) : Option AV :=
  match op with
  | .eql => match eqA P T a b with | some c => some (.v (.bool c)) | none => none
  | .neq => match eqA P T a b with | some c => some (.v (.bool (!c))) | none => none
  | op => match a, b with
    | .v (.int k x), .v (.int k' y) => bif decide (k = k') then (match binIntA op k x y with | some c => some (.v c) | none => none) else none
    | _, _ => none

def unA (op : UnOp) (a : AV) : Option AV :=
  match op, a with
  | .not, .v (.bool b) => some (.v (.bool !b))
  | .neg, .v (.int k n) => some (.v (.int k (k.wrap (0 - n))))
  | _, _ => none

def isSlice (T : TypeId) : Bool := match P.underlying T with | some (.slice _) => true | _ => false

def isStr (T : TypeId) : Bool := match P.underlying T with | some .string => true | _ => false

def lenA (T : TypeId) (h : Hp) (a : AV) : Option (Nat × Lg) :=
  match a with
  | .v (.string s) => bif isStr P T then some (s.size, {}) else none
  | a => bif isSlice P T then match a with
      | .v (.slice none 0 0) => some (0, {})
      | .imm _ xs => some (xs.length, {})
      | .fsl _ n _ => some (n, {})
      | .sl l => match h l with
        | .arr _ xs => some (xs.length, { rd := [l] })
        | .fz _ xs => some (xs.length, { rd := [l] })
        | _ => none
      | _ => none
    else none

def castE (t t' : D.Tag) (xs : List (D.El t')) : Option (List (D.El t)) := if h : t' = t then some (h ▸ xs) else none

/-- The elements that are appended. -/
def newsA (t : D.Tag) (h : Hp) (a : AV) : Option (List (D.El t) × Lg) :=
  match a with
  | .v (.slice none 0 0) => some ([], {})
  | .imm t' xs => match castE t t' xs with | some ys => some (ys, {}) | none => none
  | .sl l => match h l with
    | .arr t' xs => match castE t t' xs with | some ys => some (ys, { rd := [l] }) | none => none
    | .fz t' xs => match castE t t' xs with | some ys => some (ys, { rd := [l] }) | none => none
    | _ => none
  | _ => none

/-- Is there room for n elements, whatever the order in which memory grows? -/
def fitsA (T : TypeId) (n : Nat) : Bool := match P.underlying T with
  | some (.slice e) => match P.info? e with
    | some i => Nat.ble 1 i.bytes && decide (n * i.bytes ≤ 140737488355328)
    | none => false
  | _ => false

def appendA {α : Type} (T : TypeId) (s x : AV) (h : Hp) (n : Nat) (K : AV → Hp → Lg → Option α) : Option α :=
  match sliceTag P T with
  | none => none
  | some t => match newsA t h x with
    | none => none
    | some (ys, g) =>
      match s with
      | .v (.slice none 0 0) => bif fitsA P T ys.length then K (.sl n) (upd h n (.arr t ys)) (g.join { nw := [n] }) else none
      | .sl l => match h l with
        | .arr t' xs => match castE t t' xs with
          | some xs => bif fitsA P T (xs.length + ys.length) then K (.sl n) (upd (upd h l .dead) n (.arr t (xs ++ ys))) (g.join { wr := [l], nw := [n] }) else none
          | none => none
        | _ => none
      | _ => none

/-- The elements of a literal, each given. -/
def partsA (t : D.Tag) (st : St) : Nat → List (Nat × Operand) → Hp → Option (List (D.El t) × Hp × Lg)
  | _, [], h => some ([], h, {})
  | i, (j, x) :: rest, h =>
    bif Nat.beq i j then
      match evalA st x with
      | some a => match elOf t a h with
        | some (y, h, g) => match partsA t st (i + 1) rest h with
          | some (ys, h, g') => some (y :: ys, h, g.join g')
          | none => none
        | none => none
      | none => none
    else none

def fpartsA (k : Nat) (st : St) : List (Nat × Operand) → List AV → Option (List AV)
  | [], cs => some cs
  | (i, x) :: rest, cs =>
    match evalA st x with
    | some a => bif lenIs k (cellsOf a) && allA oneA (cellsOf a) && Nat.ble 1 k then
        match piece cs (i * k) k with
        | some _ => fpartsA k st rest (overlay cs (i * k) (cellsOf a))
        | none => none
      else none
    | none => none

def max2A : List AV → Option AV
  | [.v (.int .i64 a), .v (.int .i64 b)] => some (.v (.int .i64 (max a b)))
  | _ => none

def min2A : List AV → Option AV
  | [.v (.int .i64 a), .v (.int .i64 b)] => some (.v (.int .i64 (min a b)))
  | _ => none

def elemSz (T : TypeId) : Option Nat := match P.underlying T with | some (.slice e) => sz? P e | _ => none

def indexA {α : Type} (T : TypeId) (x : AV) (i : Int) (h : Hp) (K : AV → Lg → Option α) : Option α :=
  match x with
  | .ptr l off => match P.underlying T with
    | some (.array n e) => match sz? P e with
      | some k => bif decide (0 ≤ i ∧ i < n) then K (.ptr l (off + i.toNat * k)) {} else none
      | none => none
    | _ => none
  | x => match elemSz P T with
    | none => none
    | some m => match x with
      | .fsl l n k => bif Nat.beq k m && decide (0 ≤ i ∧ i < n) then K (.ptr l (i.toNat * k)) {} else none
      | .imm t xs => bif Nat.beq (C.k t) m && decide (0 ≤ i) then match elt xs i.toNat with | some e => K (.imp t e 0) {} | none => none else none
      | .sl l => match h l with
        | .arr t xs => bif Nat.beq (C.k t) m && decide (0 ≤ i) then match elt xs i.toNat with | some _ => K (.ept l i.toNat 0) { rd := [l] } | none => none else none
        | .fz t xs => bif Nat.beq (C.k t) m && decide (0 ≤ i) then match elt xs i.toNat with | some e => K (.imp t e 0) { rd := [l] } | none => none else none
        | _ => none
      | _ => none

def optA (st : St) : Option Operand → Option (Option AV)
  | none => some none
  | some x => match evalA st x with
    | some a => some (some a)
    | none => none

def bndA (d : Int) : Option AV → Option Int
  | none => some d
  | some (.v (.int _ n)) => some n
  | _ => none

/-- A piece of a row: the row itself is given up. -/
def sliceA {α : Type} (T : TypeId) (x : AV) (lo hi : Option AV) (h : Hp) (n : Nat) (K : AV → Hp → Lg → Option α) : Option α :=
  match x with
  | .sl l => match h l with
    | .arr t xs => match bndA 0 lo, bndA (xs.length : Int) hi, elemSz P T with
      | some a, some b, some m => bif Nat.beq (C.k t) m && (decide (0 ≤ a) && (decide (a ≤ b) && decide (b ≤ (xs.length : Int)))) then
          K (.sl n) (upd (upd h l .dead) n (.arr t ((xs.take b.toNat).drop a.toNat))) { wr := [l], nw := [n] } else none
      | _, _, _ => none
    | _ => none
  | _ => none

/-- One operation: its value, the heap, where new places begin from now on, what it touched. -/
def valA {α : Type} (call : Nat → List AV → St → (AV → St → Lg → Option α) → Option α) (o : Oper) (st : St) (K : AV → St → Lg → Option α) : Option α :=
  let opt (a : Option AV) : Option α := match a with | some a => K a st {} | none => none
  match o.op with
  | .move x | .assign x => match x with
    | .const (.slice none 0 0) => match sliceTag P o.type with
      | some t => K (.sl st.nx) { st with hp := upd st.hp st.nx (.arr t []), nx := st.nx + 1 } { nw := [st.nx] }
      | none => K (.v (.slice none 0 0)) st {}
    | x => opt (evalA st x)
  | .pick c a b => match evalA st c, evalA st a, evalA st b with
    | some (.v (.bool c)), some (.v (.bool a)), some (.v (.bool b)) => K (.v (.bool (cond c a b))) st {}
    | some (.v (.bool c)), some a, some b => bif c then K a st {} else K b st {}
    | _, _, _ => none
  | .alloc T => match zeroCells P T with
    | some cs => bif allA oneA cs then match unnil (slots P 8 T) cs st.hp (st.nx + 1) with
      | (ds, h, ns) => K (.ptr st.nx 0) { st with hp := upd h st.nx (.cells ds), nx := st.nx + 1 + ns.length } { nw := st.nx :: ns }
      else none
    | none => none
  | .box T x => match evalA st x with
    | some a => bif allA oneA (cellsOf a) then match unnil (slots P 8 T) (cellsOf a) st.hp (st.nx + 1) with
      | (ds, h, ns) => K (.ptr st.nx 0) { st with hp := upd h st.nx (.cells ds), nx := st.nx + 1 + ns.length } { nw := st.nx :: ns }
      else none
    | none => none
  | .build T ps => match zeroCells P T with
    | some cs => bif structT P T && allA oneA cs then match fillA P T st ps.toList cs with
        | some ds => K (.agg ds) st {}
        | none => none
      else none
    | none => none
  | .buildSlice T n ps => match P.underlying T with
    | some (.slice e) => match sz? P e with
      | none => none
      | some sz => bif Nat.ble (n * sz) (2 ^ 24) then match C.tagOf e with
        | some t => bif Nat.beq ps.size n && Nat.beq (C.k t) sz then match partsA t st 0 ps.toList st.hp with
            | some (xs, h, g) => K (.sl st.nx) { st with hp := upd h st.nx (.arr t xs), nx := st.nx + 1 } (g.join { nw := [st.nx] })
            | none => none
          else none
        | none => match zeroCells P e with
          | some z => bif lenIs sz z && allA oneA z then match fpartsA sz st ps.toList (List.replicate n z).flatten with
              | some cs => K (.fsl st.nx n sz) { st with hp := upd st.hp st.nx (.cells cs), nx := st.nx + 1 } { nw := [st.nx] }
              | none => none
            else none
          | none => none
        else none
    | _ => none
  | .load T a => match evalA st a with
    | some a => loadA P st.hp T a fun v g => K v st g
    | none => none
  | .store T a v => match evalA st a, evalA st v with
    | some a, some v => storeA P st.hp st.nx T a v fun h g => K (.v undef) { st with hp := h, nx := st.nx + g.nw.length } g
    | _, _ => none
  | .nilCheck x => match evalA st x with
    | some (.ptr l off) => K (.ptr l off) st {}
    | some (.ept l i off) => K (.ept l i off) st {}
    | some (.imp t x off) => K (.imp t x off) st {}
    | _ => none
  | .binOp op T x y _ => match evalA st x, evalA st y with
    | some a, some b => match op with
      | .quo => match a, b with
        | .v (.int k a), .v (.int k' b) => bif decide (k = k') then (bif decide (b = 0) then none else K (.v (.int k (k.wrap (a.tdiv b)))) st {}) else none
        | _, _ => none
      | .rem => match a, b with
        | .v (.int k a), .v (.int k' b) => bif decide (k = k') then (bif decide (b = 0) then none else K (.v (.int k (a.tmod b))) st {}) else none
        | _, _ => none
      | op => opt (binA P T op a b)
    | _, _ => none
  | .unOp op _ x => match evalA st x with
    | some a => opt (unA op a)
    | none => none
  | .makeFunc (.func f) first caps => bif Nat.beq first.size 0 then match evalsA st caps.toList with
      | some cs => K (.fn f cs) st {}
      | none => none
    else none
  | .fieldAddr T x f => match evalA st x, fieldT P T f with
    | some a, some (d, ft) => match sz? P ft with
      | some (_ + 1) => match a with
        | .ptr l off => K (.ptr l (off + d)) st {}
        | .ept l i off => K (.ept l i (off + d)) st {}
        | .imp t y off => K (.imp t y (off + d)) st {}
        | _ => none
      | _ => none
    | _, _ => none
  | .indexAddr T x i => match evalA st x, evalA st i with
    | some a, some (.v (.int _ i)) => indexA P T a i st.hp fun v g => K v st g
    | _, _ => none
  | .extract x i => match evalA st x with
    | some (.tup vs) => opt (nth vs i)
    | _ => none
  | .call c => match c.callee with
    | .builtin .len => match evalsA st c.args.toList, c.argTypes.toList with
      | some [a], [T] => match lenA P T st.hp a with
        | some (n, g) => K (.v (.int .i64 n)) st g
        | none => none
      | _, _ => none
    | .builtin .append => match evalsA st c.args.toList, c.argTypes.toList with
      | some [s, x], [T, T'] => bif isSlice P T' then appendA P T s x st.hp st.nx fun a h g => K a { st with hp := h, nx := st.nx + 1 } g else none
      | _, _ => none
    | .builtin .max => match evalsA st c.args.toList with
      | some as => opt (max2A as)
      | none => none
    | .builtin .min => match evalsA st c.args.toList with
      | some as => opt (min2A as)
      | none => none
    | .value f => match evalA st f, evalsA st c.args.toList with
      | some (.fn g caps), some as => call g (as ++ caps) st K
      | _, _ => none
    | _ => none
  | .slice T x lo hi none => match evalA st x, optA st lo, optA st hi with
    | some a, some lo, some hi => sliceA P T a lo hi st.hp st.nx fun a h g => K a { st with hp := h, nx := st.nx + 1 } g
    | _, _, _ => none
  | _ => none

/-- The Bool that a guard asks for: of the operation j of a region. -/
def yieldA (ops : List Oper) (st : St) (j : Nat) : Option (Nat × Option Bool) :=
  match nth ops j with
  | some o => match o.dst with
    | some d => match get? st.tm d with
      | some (.v (.bool b)) => some (d, some b)
      | some (.v _) => some (d, none)
      | _ => none
    | none => none
  | none => none

/-- One operation of a region, under its guard. -/
def stepA {α : Type} (call : Nat → List AV → St → (AV → St → Lg → Option α) → Option α) (all : List Oper) (o : Oper) (st : St) (K : St → Lg → Option α) : Option α :=
  match o.guard with
  | none => valA P call o st fun a st g => K (st.put o.dst a) g
  | some (j, want) => match yieldA all st j with
    | some (_, none) => K (st.put o.dst (.v undef)) {}
    | some (d, some b) =>
      match want with
      | true => bif b then valA P call o (st.put (some d) (.v (.bool true))) fun a st g => K (st.put o.dst a) g
        else K ((st.put (some d) (.v (.bool false))).put o.dst (.v undef)) {}
      | false => bif b then K ((st.put (some d) (.v (.bool true))).put o.dst (.v undef)) {}
        else valA P call o (st.put (some d) (.v (.bool false))) fun a st g => K (st.put o.dst a) g
    | none => none

/-- A region's end that clears a row from some place on: the piece is cut, and cleared. -/
def clearA : List Oper → St → Option (Bool × St)
  | [o, o'], st => match o.guard, o'.guard, o.dst, o'.dst, o.op, o'.op with
    | none, none, some d, none, .slice T s (some x) none none, .call c => match c.callee, c.args.toList, c.argTypes.toList with
      | .builtin .clear, [.tmp d'], [T'] => bif Nat.beq d' d && Nat.beq T' T && Nat.blt d st.tm.length then
          match evalA st s, evalA st x with
          | some (.sl l), some (.v (.int _ i)) => match st.hp l, P.underlying T with
            | .arr t xs, some (.slice e) => match C.tagOf e, zeroCells P e with
              | some t', some z => bif same t t' && allA oneA z then match C.dec t z with
                  | some y => some (decide (0 ≤ i) && decide (i ≤ (xs.length : Int)), { st with tm := put' st.tm d none, hp := upd st.hp l (.arr t (xs.take i.toNat ++ List.replicate (xs.length - i.toNat) y)) })
                  | none => none
                else none
              | _, _ => none
            | _, _ => none
          | _, _ => none
        else none
      | _, _, _ => none
    | _, _, _, _, _, _ => none
  | _, _ => none

def opsA {α : Type} (call : Nat → List AV → St → (AV → St → Lg → Option α) → Option α) (all : List Oper) : List Oper → St → (St → Option α) → Option α
  | [], st, K => K st
  | o :: os, st, K => match clearA P (o :: os) st with
    | some (c, st) => bif c then K st else none
    | none => stepA P call all o st fun st _ => opsA call all os st K

/-! a region that draws its order: the operations in the text's order; what is not ordered may not meet -/
def meetN : List Nat → List Nat → Bool
  | [], _ => false
  | x :: xs, ys => bif memN x ys then true else meetN xs ys

def tmpsOf (o : Oper) (all : List Oper) : List Nat :=
  o.op.operands.toList.filterMap (fun | .tmp t => some t | _ => none) ++
    (match o.guard with | some (j, _) => (match nth all j with | some p => p.dst.toList | none => []) | none => [])

/-- May two operations that are not ordered be turned round? -/
def apartA (all : List Oper) (o : Oper) (g : Lg) (o' : Oper) (g' : Lg) : Bool :=
  !g.opq && !g'.opq && !meetN o.dst.toList (tmpsOf o' all) && !meetN o'.dst.toList (tmpsOf o all) && !meetN o.dst.toList o'.dst.toList &&
  !meetN (g.wr ++ g.nw) (g'.rd ++ g'.wr) && !meetN (g'.wr ++ g'.nw) (g.rd ++ g.wr)

/-- The operations that are ordered ahead of each, as a bit row. -/
def aheadA : List Oper → List Nat → List Nat
  | [], acc => acc
  | o :: os, acc =>
    aheadA os (acc ++ [o.after.toList.foldl (fun s e => bif Region.binds .any e then Nat.lor (Nat.lor s (2 ^ e.on)) ((nth acc e.on).getD 0) else s) 0])

def pairsA (all : List Oper) (bits : Nat) : Nat → List (Oper × Lg) → Oper × Lg → Bool
  | _, [], _ => true
  | i, x :: xs, y => (Nat.testBit bits i || apartA all x.1 x.2 y.1 y.2) && pairsA all bits (i + 1) xs y

def okA (all : List Oper) : List Nat → List (Oper × Lg) → List (Oper × Lg) → Bool
  | b :: bs, done, x :: xs => pairsA all b 0 done x && okA all bs (done ++ [x]) xs
  | _, _, [] => true
  | [], _, _ => false

/-- Do all orderings look back? -/
def backA : Nat → List Oper → Bool
  | _, [] => true
  | i, o :: os => (o.after.toList.all fun e => !Region.binds .any e || Nat.blt e.on i) && backA (i + 1) os

def drawA {α : Type} (call : Nat → List AV → St → (AV → St → Lg → Option α) → Option α) (all : List Oper) (base : Nat) : Nat → List Oper → St → List (Oper × Lg) → (St → List (Oper × Lg) → Option α) → Option α
  | _, [], st, gs, K => K st gs
  | i, o :: os, st, gs, K => stepA P call all o { st with nx := base + 64 * i } fun st g =>
      bif Nat.ble st.nx (base + 64 * (i + 1)) then drawA call all base (i + 1) os st (gs ++ [(o, g)]) K else none

/-! places that are reached, and new numbers for them -/
mutual
def locs : AV → List Nat
  | .ptr l _ => [l]
  | .ept l _ _ => [l]
  | .sl l => [l]
  | .fsl l _ _ => [l]
  | .fn _ cs => locsL cs
  | .agg cs => locsL cs
  | .tup cs => locsL cs
  | _ => []
def locsL : List AV → List Nat
  | [] => []
  | a :: as => locs a ++ locsL as
end

def locsB : Blk → List Nat
  | .cells cs => locsL cs
  | _ => []

def reach (h : Hp) : Nat → List Nat → List Nat → List Nat
  | 0, _, seen => seen
  | _ + 1, [], seen => seen
  | n + 1, l :: ls, seen =>
    bif memN l seen then reach h n ls seen
    else reach h n (locsB (h l) ++ ls) (seen ++ [l])

def place? (rs : List Nat) (l : Nat) : Option Nat := idxN l rs 0

mutual
def ren (rs : List Nat) : AV → Option AV
  | .v x => some (.v x)
  | .ptr l off => match place? rs l with | some l => some (.ptr l off) | none => none
  | .ept l i off => match place? rs l with | some l => some (.ept l i off) | none => none
  | .sl l => match place? rs l with | some l => some (.sl l) | none => none
  | .fsl l n k => match place? rs l with | some l => some (.fsl l n k) | none => none
  | .imm t xs => some (.imm t xs)
  | .imp t x off => some (.imp t x off)
  | .fn f cs => match renL rs cs with | some cs => some (.fn f cs) | none => none
  | .agg cs => match renL rs cs with | some cs => some (.agg cs) | none => none
  | .tup cs => match renL rs cs with | some cs => some (.tup cs) | none => none
def renL (rs : List Nat) : List AV → Option (List AV)
  | [] => some []
  | a :: as => match ren rs a with
    | some a => match renL rs as with | some as => some (a :: as) | none => none
    | none => none
end

def renT (rs : List Nat) : List (Option AV) → List (Option AV)
  | [] => []
  | none :: r => none :: renT rs r
  | some a :: r => ren rs a :: renT rs r

def renB (rs : List Nat) : Blk → Blk
  | .cells cs => match renL rs cs with | some cs => .cells cs | none => .dead
  | b => b

def locsT : List (Option AV) → List Nat
  | [] => []
  | none :: r => locsT r
  | some a :: r => locs a ++ locsT r

def keepT (keep : List Nat) : Nat → List (Option AV) → List (Option AV)
  | _, [] => []
  | i, a :: r => (bif memN i keep then a else none) :: keepT keep (i + 1) r

def hpL (bs : List Blk) : Hp := fun i => match nth bs i with | some b => b | none => .dead

def gcA (keep : List Nat) (st : St) : St :=
  let tm := keepT keep 0 st.tm
  let rs := reach st.hp 1000 (locsT tm ++ st.fs.flatMap locsT) []
  { tm := renT rs tm, fs := st.fs.map (renT rs), hp := hpL (rs.map fun l => renB rs (st.hp l)), nx := rs.length }

/-! code -/
/-- The first region's number in a code. -/
def keyC : Code → Option Nat
  | .region id _ _ => some id
  | .seq a b => match keyC a with | some i => some i | none => keyC b
  | .block _ b => keyC b
  | .loop b => keyC b
  | .cond _ a b => match keyC a with | some i => some i | none => keyC b
  | .scope b => keyC b
  | _ => none

def iterA {α : Type} (keep : List Nat) (f : St → (Ex → St → Option α) → Option α) : Nat → St → (Ex → St → Option α) → Option α
  | 0, _, _ => none
  | n + 1, st, K => f st fun e st => match e with
    | .normal => iterA keep f n (gcA keep st) K
    | e => K e (gcA keep st)

def runA {α : Type} (call dcall : Nat → List AV → St → (AV → St → Lg → Option α) → Option α) (fuel : Nat → Nat) (keep : Nat → List Nat) : Code → St → (Ex → St → Option α) → Option α
  | .skip, st, K => K .normal st
  | .region _ ops draw, st, K =>
    bif draw then drawA P dcall ops.toList st.nx 0 ops.toList st [] fun st' gs =>
        bif backA 0 ops.toList && okA ops.toList (aheadA ops.toList []) [] gs then K .normal { st' with nx := st.nx + 64 * gs.length } else none
    else opsA P call ops.toList ops.toList st (K .normal)
  | .seq a b, st, K => runA call dcall fuel keep a st fun e st => match e with
    | .normal => runA call dcall fuel keep b st K
    | e => K e st
  | .cond c t e, st, K => match evalA st c with
    | some (.v (.bool b)) => bif b then runA call dcall fuel keep t st K else runA call dcall fuel keep e st K
    | _ => none
  | .block id b, st, K => runA call dcall fuel keep b st fun e st => match e with
    | .exit i => bif Nat.beq i id then K .normal st else K (.exit i) st
    | e => K e st
  | .loop b, st, K => iterA (keep ((keyC b).getD 0)) (runA call dcall fuel keep b) (fuel ((keyC b).getD 0)) (gcA (keep ((keyC b).getD 0)) st) K
  | .exit id, st, K => K (.exit id) st
  | .ret, st, K => K .ret st
  | .label _, st, K => K .normal st
  | .goto l, st, K => K (.goto l) st
  | _, _, _ => none

/-- Back to a label, again and again. -/
def jumpA {α : Type} (keep : List Nat) (l : Nat) (f : St → (Ex → St → Option α) → Option α) : Nat → St → (Ex → St → Option α) → Option α
  | 0, _, _ => none
  | n + 1, st, K => f st fun e st => match e with
    | .goto l' => bif Nat.beq l' l then jumpA keep l f n (gcA keep st) K else none
    | e => K e st

def labelOf : Code → Nat
  | .seq a b => match a with
    | .label l => l
    | _ => labelOf b
  | .label l => l
  | _ => 0

/-- A function's code; at its end a scope may stand in which it goes back to one label. -/
def runSc {α : Type} (call dcall : Nat → List AV → St → (AV → St → Lg → Option α) → Option α) (fuel : Nat → Nat) (keep : Nat → List Nat) (c : Code) (st : St) (K : Ex → St → Option α) : Option α :=
  match c with
  | .seq a (.scope b) => match findLabel b (labelOf b) with
    | some rest => runA P call dcall fuel keep a st fun e st => match e with
      | .normal => runA P call dcall fuel keep b st fun e st => match e with
        | .goto l => bif Nat.beq l (labelOf b) then jumpA (keep 1000) (labelOf b) (runA P call dcall fuel keep rest) (fuel 1000) (gcA (keep 1000) st) K else none
        | e => K e st
      | e => K e st
    | none => none
  | c => runA P call dcall fuel keep c st K

/-! contracts -/
end

/-- A value with what it owns: plain; a slice of elements; a pointer to an object. -/
inductive MC [D : Dom] : Type
  | av (a : AV)
  | arr (t : D.Tag) (xs : List (D.El t))
  | ptr (t : D.Tag) (x : D.El t)

inductive MK [D : Dom] : Type
  | flat (q : CK)
  | arr (t : D.Tag)
  | ptr (t : D.Tag)

/-- How objects lie in memory. -/
class Objs [D : Dom] where
  mkinds : D.Tag → List MK
  menc : (t : D.Tag) → D.El t → List MC
  mdec : (t : D.Tag) → List MC → Option (D.El t)

/-- What becomes of an argument: it is a value; an object that is handed on; a slice that is handed on; a slice that is given away. -/
inductive Mode [D : Dom] : Type
  | val (agg : Bool) (qs : List CK)
  | own (t : D.Tag)
  | row (t : D.Tag)
  | mov (t : D.Tag)

/-- What comes out, by conditions. -/
inductive Out (X : Type) : Type
  | ret (x : X)
  | br (c : Bool) (a b : Out X)

def Out.flat {X : Type} : Out X → X
  | .ret x => x
  | .br c a b => bif c then a.flat else b.flat

def goOut {X α : Type} (go : X → Option α) : Out X → Option α
  | .ret x => go x
  | .br c a b => bif c then goOut go a else goOut go b

theorem goOut_flat {X α : Type} (go : X → Option α) : ∀ t : Out X, goOut go t = go t.flat
  | .ret _ => rfl
  | .br c a b => by cases c <;> simp [goOut, Out.flat, goOut_flat go a, goOut_flat go b]

/-- A function's contract. -/
structure Ctr [D : Dom] where
  modes : List Mode
  pre : List MC → Bool
  t : List MC → Out (List MC × List MC)

def Ctr.f [D : Dom] (c : Ctr) (ms : List MC) : List MC × List MC := (c.t ms).flat

section
variable [D : Dom] [C : Coding] [O : Objs]

def takeVal (agg : Bool) (qs : List CK) (a : AV) (h : Hp) : Option (MC × Hp × Lg) :=
  match coerce qs (cellsOf a) h with
  | some (cs, h, g) => match agg with
    | true => match aggCells a with
      | some _ => some (.av (.agg cs), h, g)
      | none => none
    | false => match aggCells a, cs with
      | none, [c] => some (.av c, h, g)
      | _, _ => none
  | none => none

def takeArr (t : D.Tag) (a : AV) (h : Hp) : Option (MC × Hp × Lg) :=
  match a with
  | .v (.slice none 0 0) => some (.arr t [], h, {})
  | .sl l => match h l with
    | .arr t' xs => bif same t t' then some (.arr t' xs, upd h l .dead, { wr := [l] }) else none
    | _ => none
  | _ => none

def takeCell (rec : D.Tag → AV → Hp → Option (MC × Hp × Lg)) (q : MK) (a : AV) (h : Hp) : Option (MC × Hp × Lg) :=
  match q with
  | .flat q => match coerce1 q a h with
    | some (b, h, g) => some (.av b, h, g)
    | none => none
  | .arr t => takeArr t a h
  | .ptr t => rec t a h

def takeCells (rec : D.Tag → AV → Hp → Option (MC × Hp × Lg)) : List MK → List AV → Hp → Option (List MC × Hp × Lg)
  | [], [], h => some ([], h, {})
  | q :: qs, a :: as, h => match takeCell rec q a h with
    | some (m, h, g) => match takeCells rec qs as h with
      | some (ms, h, g') => some (m :: ms, h, g.join g')
      | none => none
    | none => none
  | _, _, _ => none

def takePtr : Nat → D.Tag → AV → Hp → Option (MC × Hp × Lg)
  | 0, _, _, _ => none
  | n + 1, t, a, h => match a with
    | .ptr l 0 => match h l with
      | .cells cs => match takeCells (takePtr n) (O.mkinds t) cs (upd h l .dead) with
        | some (ms, h, g) => match O.mdec t ms with
          | some x => some (.ptr t x, h, ({ wr := [l] } : Lg).join g)
          | none => none
        | none => none
      | _ => none
    | .v (.pointer none) => some (.av (.v (.pointer none)), h, {})
    | _ => none

def takeM (m : Mode) (a : AV) (h : Hp) : Option (MC × Hp × Lg) :=
  match m with
  | .val agg qs => takeVal agg qs a h
  | .own t => takePtr 6 t a h
  | .row t => takeArr t a h
  | .mov t => takeArr t a h

def takeMs : List Mode → List AV → Hp → Option (List MC × Hp × Lg)
  | [], [], h => some ([], h, {})
  | q :: qs, a :: as, h => match takeM q a h with
    | some (m, h, g) => match takeMs qs as h with
      | some (ms, h, g') => some (m :: ms, h, g.join g')
      | none => none
    | none => none
  | _, _, _ => none

/-! what is given: new places from n on -/
def giveW (rec : MC → Hp → Nat → Option (AV × Hp × Nat)) : List MC → Hp → Nat → Option (List AV × Hp × Nat)
  | [], h, n => some ([], h, n)
  | m :: ms, h, n => match rec m h n with
    | some (a, h, n) => match giveW rec ms h n with
      | some (as, h, n) => some (a :: as, h, n)
      | none => none
    | none => none

def giveM : Nat → MC → Hp → Nat → Option (AV × Hp × Nat)
  | 0, m, h, n => match m with
    | .av a => some (a, h, n)
    | .arr t xs => some (.sl n, upd h n (.arr t xs), n + 1)
    | .ptr _ _ => none
  | k + 1, m, h, n => match m with
    | .av a => some (a, h, n)
    | .arr t xs => some (.sl n, upd h n (.arr t xs), n + 1)
    | .ptr t x => match giveW (giveM k) (O.menc t x) h (n + 1) with
      | some (as, h, n') => some (.ptr n 0, upd h n (.cells as), n')
      | none => none

def giveL (k : Nat) : List MC → Hp → Nat → Option (List AV × Hp × Nat) := giveW (giveM k)

/-- What was handed on is put back at its place. -/
def backM (m : Mode) (a : AV) (x : MC) (h : Hp) (n : Nat) : Option (Hp × Nat) :=
  match m, a, x with
  | .own t, .ptr l 0, .ptr t' x => bif same t t' then match giveL 6 (O.menc t' x) h n with
      | some (as, h, n) => some (upd h l (.cells as), n)
      | none => none
    else none
  | .row t, .sl l, .arr t' xs => bif same t t' then some (upd h l (.arr t' xs), n) else none
  | .row _, .v (.slice none 0 0), .arr _ _ => some (h, n)
  | .val _ _, _, _ => some (h, n)
  | .mov _, _, _ => some (h, n)
  | _, _, _ => none

def backMs : List Mode → List AV → List MC → Hp → Nat → Option (Hp × Nat)
  | [], [], [], h, n => some (h, n)
  | m :: ms, a :: as, x :: xs, h, n => match backM m a x h n with
    | some (h, n) => backMs ms as xs h n
    | none => none
  | _, _, _, _, _ => none

def oneOf : List AV → AV
  | [a] => a
  | as => .tup as

def newsFrom : Nat → Nat → List Nat
  | _, 0 => []
  | a, k + 1 => a :: newsFrom (a + 1) k

def callC0 {α : Type} (c : Ctr) (as : List AV) (st : St) (K : AV → St → Lg → Option α) : Option α :=
  match takeMs c.modes as st.hp with
  | some (ms, h, g) => bif c.pre ms then match backMs c.modes as (c.f ms).2 h st.nx with
      | some (h, n) => match giveL 6 (c.f ms).1 h n with
        | some (rs, h, n) => K (oneOf rs) { st with hp := h, nx := n } (g.join { nw := newsFrom st.nx (n - st.nx) })
        | none => none
      | none => none
    else none
  | none => none

def callC {α : Type} (c : Ctr) (as : List AV) (st : St) (K : AV → St → Lg → Option α) : Option α :=
  match takeMs c.modes as st.hp with
  | some (ms, h, g) => bif c.pre ms then goOut (fun x => match backMs c.modes as x.2 h st.nx with
      | some (h, n) => match giveL 6 x.1 h n with
        | some (rs, h, n) => K (oneOf rs) { st with hp := h, nx := n } (g.join { nw := newsFrom st.nx (n - st.nx) })
        | none => none
      | none => none) (c.t ms)
    else none
  | none => none

omit C in
theorem callC_eq {α : Type} (c : Ctr) (as : List AV) (st : St) (K : AV → St → Lg → Option α) : callC c as st K = callC0 c as st K := by
  unfold callC callC0
  split
  · rw [goOut_flat]; rfl
  · rfl

variable (P : Program)

def resA (st : St) : List ResultVar → Option (List AV)
  | [] => some []
  | .tmp t :: rs => match get? st.tm t with
    | some a => match resA st rs with | some as => some (a :: as) | none => none
    | none => none
  | .cell t T :: rs => match get? st.tm t with
    | some a => match loadA P st.hp T a fun v _ => some v with
      | some v => match resA st rs with | some as => some (v :: as) | none => none
      | none => none
    | none => none

/-- How a function's loops are gone through: how often at most; which temporaries are kept. -/
structure Ann where
  fuel : Nat → Nat := fun _ => 0
  keep : Nat → List Nat := fun _ => []

def frameOf (fn : Func) (as : List AV) : List (Option AV) := as.map some ++ List.replicate (fn.ntmps - as.length) none

def callD {α : Type} (Γ : Nat → Option Ctr) (g : Nat) (as : List AV) (st : St) (K : AV → St → Lg → Option α) : Option α :=
  match Γ g with
  | some c => callC c as st K
  | none => none

/-- A call: by its contract, or gone into (n deep, of the functions of inl). -/
def callA {α : Type} (Γ : Nat → Option Ctr) (ann : Nat → Ann) (inl : List Nat) : Nat → Nat → List AV → St → (AV → St → Lg → Option α) → Option α
  | 0, g, as, st, K => callD Γ g as st K
  | n + 1, g, as, st, K => match Γ g with
    | some c => callC c as st K
    | none => bif memN g inl then match P.funcs[g]? with
        | some fn => match fn.body with
          | some b => runA P (callA Γ ann inl n) (callD Γ) (ann g).fuel (ann g).keep b { tm := frameOf fn as, fs := st.tm :: st.fs, hp := st.hp, nx := st.nx } fun e st' => match e, st'.fs with
            | .exit _, _ => none
            | .goto _, _ => none
            | _, tm :: fs => match resA P st' fn.results.toList with
              | some rs => K (oneOf rs) { tm := tm, fs := fs, hp := st'.hp, nx := st'.nx } { opq := true }
              | none => none
            | _, [] => none
          | none => none
        | none => none
      else none

/-- The arguments as they are at the end. -/
def argsT : List (Option AV) → Option (List AV)
  | [] => some []
  | some a :: r => match argsT r with | some as => some (a :: as) | none => none
  | none :: _ => none

def finM (m : Mode) (a : AV) (h : Hp) : Option (MC × Hp) :=
  match m with
  | .val _ _ => some (.av (.v undef), h)
  | .mov _ => some (.av (.v undef), h)
  | .own t => match takePtr 6 t a h with | some (m, h, _) => some (m, h) | none => none
  | .row t => match takeArr t a h with | some (m, h, _) => some (m, h) | none => none

def finMs : List Mode → List AV → Hp → Option (List MC)
  | [], [], _ => some []
  | q :: qs, a :: as, h => match finM q a h with
    | some (m, h) => match finMs qs as h with
      | some ms => some (m :: ms)
      | none => none
    | none => none
  | _, _, _ => none

/-- A function, gone through from what it is given to what it leaves. -/
def runF (Γ : Nat → Option Ctr) (ann : Nat → Ann) (inl : List Nat) (depth : Nat) (g : Nat) (modes rmodes : List Mode) (ms : List MC) : Option (List MC × List MC) :=
  match P.funcs[g]? with
  | some fn => match fn.body with
    | some b => match giveL 6 ms (fun _ => .dead) 0 with
      | some (as, h, n) => runSc P (callA P Γ ann inl depth) (callD Γ) (ann g).fuel (ann g).keep b { tm := frameOf fn as, fs := [as.map some], hp := h, nx := n } fun e st => match e, st.fs with
        | .exit _, _ => none
        | .goto _, _ => none
        | _, [tm] => match resA P st fn.results.toList with
          | some rs => match takeMs rmodes rs st.hp with
            | some (ms, h, _) => match argsT tm with
              | some as => match finMs modes as h with
                | some fs => some (ms, fs)
                | none => none
              | none => none
            | none => none
          | none => none
        | _, _ => none
      | none => none
    | none => none
  | none => none

end
end Go.Abs

/-
  What an abstract value and an abstract heap say of a world; how they are kept. (Soundness of the abstract machine, first part.)
-/
namespace Go.Abs

/-- The places that may be taken: those of p; those below lo are not taken now. -/
structure FS where
  p : Nat → Prop
  lo : Nat

instance : CoeFun FS (fun _ => Nat → Prop) := ⟨FS.p⟩

/-- All places. -/
abbrev All : FS := ⟨fun _ => True, 0⟩

/-- Where an abstract block lies. -/
inductive Pl where
  | gone
  | at (b : Nat)
  | row (b o n cap k : Nat)
  | nil

def Pl.blk? : Pl → Option Nat
  | .at b => some b
  | .row b _ _ _ _ => some b
  | _ => none

/-- What stays: the blocks of ok keep their cells. -/
def Keeps (ok : Nat → Prop) (w w' : World) : Prop := ∀ b, ok b → ∀ o, w'.cell? ⟨b, o, none⟩ = w.cell? ⟨b, o, none⟩

theorem Keeps.refl (ok : Nat → Prop) (w : World) : Keeps ok w w := fun _ _ _ => rfl

/-- From w0 to w: what lay there stays, but for the blocks of M. -/
structure Goes (M : Nat → Prop) (w0 w : World) : Prop where
  os : w.os = w0.os
  tape : w.tape = w0.tape
  output : w.output = w0.output
  size : w0.heap.size ≤ w.heap.size
  block : ∀ b, b < w0.heap.size → ¬ M b → w.heap[b]? = w0.heap[b]?

theorem Goes.refl (M : Nat → Prop) (w : World) : Goes M w w := ⟨rfl, rfl, rfl, Nat.le_refl _, fun _ _ _ => rfl⟩

section
variable [D : Dom] [C : Coding]

/-- What is asked of the coding. -/
class Lawful (P : Program) : Prop where
  enc_len : ∀ t x, (C.enc t x).length = C.k t
  dec_enc : ∀ t cs x, C.dec t cs = some x → C.enc t x = cs
  enc_free : ∀ t x, allA locfree (C.enc t x) = true
  kpos : ∀ t, 0 < C.k t
  eqT : ∀ T fs, C.eqT T = true → P.underlying T = some (.struct fs) → P.stoodInHeld T = false ∧ P.eqGuardType P.depth T = false ∧ ∀ f ∈ fs.toList, f.name ≠ "_"
  tag : ∀ T t, C.tagOf T = some t → ∃ i z, P.info? T = some i ∧ i.zero = some z ∧ z.cells.size = i.size ∧ i.size = C.k t

/-- w: the world; ok: blocks that stay as they are; μ: where the abstract blocks lie. -/
inductive VRep (w : World) (ok : Nat → Prop) (μ : Nat → Pl) : AV → Value → Prop
  | v (x : Value) : VRep w ok μ (.v x) x
  | ptr (l off b : Nat) (h : μ l = .at b) : VRep w ok μ (.ptr l off) (.pointer (some ⟨b, off, none⟩))
  | ept (l i off b o n cap k : Nat) (h : μ l = .row b o n cap k) : VRep w ok μ (.ept l i off) (.pointer (some ⟨b, o + i * k + off, none⟩))
  | sl (l b o n cap k : Nat) (h : μ l = .row b o n cap k) : VRep w ok μ (.sl l) (.slice (some ⟨b, o, none⟩) n cap)
  | slNil (l : Nat) (h : μ l = .nil) : VRep w ok μ (.sl l) (.slice none 0 0)
  | fsl (l n k b : Nat) (h : μ l = .at b) : VRep w ok μ (.fsl l n k) (.slice (some ⟨b, 0, none⟩) n n)
  | immNil (t : D.Tag) : VRep w ok μ (.imm t []) (.slice none 0 0)
  | imm (t : D.Tag) (xs : List (D.El t)) (b o cap : Nat) (hok : ok b) (hcap : xs.length ≤ cap) (u : Nat → Nat → Value)
      (hc : ∀ (i : Nat) (x : D.El t), xs[i]? = some x → ∀ (j : Nat) (a : AV), (C.enc t x)[j]? = some a → w.cell? ⟨b, o + i * C.k t + j, none⟩ = some (u i j))
      (hr : ∀ (i : Nat) (x : D.El t), xs[i]? = some x → ∀ (j : Nat) (a : AV), (C.enc t x)[j]? = some a → VRep w ok μ a (u i j)) : VRep w ok μ (.imm t xs) (.slice (some ⟨b, o, none⟩) xs.length cap)
  | imp (t : D.Tag) (x : D.El t) (off b o : Nat) (hok : ok b) (u : Nat → Value)
      (hc : ∀ (j : Nat) (a : AV), (C.enc t x)[j]? = some a → w.cell? ⟨b, o + j, none⟩ = some (u j))
      (hr : ∀ (j : Nat) (a : AV), (C.enc t x)[j]? = some a → VRep w ok μ a (u j)) : VRep w ok μ (.imp t x off) (.pointer (some ⟨b, o + off, none⟩))
  | fn (f : Nat) (cs : List AV) (vs : List Value) (hl : vs.length = cs.length) (hr : ∀ (i : Nat) (a : AV) (v : Value), cs[i]? = some a → vs[i]? = some v → VRep w ok μ a v) :
      VRep w ok μ (.fn f cs) (.func (.func f) #[] vs.toArray)
  | agg (cs : List AV) (vs : List Value) (hl : vs.length = cs.length) (h1 : ∀ v ∈ vs, v.oneCell' = true) (hr : ∀ (i : Nat) (a : AV) (v : Value), cs[i]? = some a → vs[i]? = some v → VRep w ok μ a v) :
      VRep w ok μ (.agg cs) (.agg vs.toArray)
  | tup (cs : List AV) (vs : List Value) (hl : vs.length = cs.length) (hr : ∀ (i : Nat) (a : AV) (v : Value), cs[i]? = some a → vs[i]? = some v → VRep w ok μ a v) :
      VRep w ok μ (.tup cs) (.tuple vs.toArray)

theorem VRep.mono {w w' : World} {ok ok' : Nat → Prop} {μ μ' : Nat → Pl} {a : AV} {v : Value} (h : VRep w ok μ a v)
    (hk : Keeps ok w w') (hok : ∀ b, ok b → ok' b) (hμ : ∀ l, μ l ≠ .gone → μ' l = μ l) : VRep w' ok' μ' a v := by
  induction h with
  | v x => exact .v x
  | ptr l off b h => exact .ptr l off b ((hμ l (by simp [h])).trans h)
  | ept l i off b o n cap k h => exact .ept l i off b o n cap k ((hμ l (by simp [h])).trans h)
  | sl l b o n cap k h => exact .sl l b o n cap k ((hμ l (by simp [h])).trans h)
  | slNil l h => exact .slNil l ((hμ l (by simp [h])).trans h)
  | fsl l n k b h => exact .fsl l n k b ((hμ l (by simp [h])).trans h)
  | immNil t => exact .immNil t
  | imm t xs b o cap hb hcap u hc _ ih => exact .imm t xs b o cap (hok b hb) hcap u (fun i x hx j a ha => (hk b hb _).trans (hc i x hx j a ha)) ih
  | imp t x off b o hb u hc _ ih => exact .imp t x off b o (hok b hb) u (fun j a ha => (hk b hb _).trans (hc j a ha)) ih
  | fn f cs vs hl _ ih => exact .fn f cs vs hl ih
  | agg cs vs hl h1 _ ih => exact .agg cs vs hl h1 ih
  | tup cs vs hl _ ih => exact .tup cs vs hl ih

/-- A value without places does not hang on where places lie. -/
theorem VRep.free {w : World} {ok : Nat → Prop} {μ μ' : Nat → Pl} {P : Program} (L : Lawful P) {a : AV} {v : Value} (h : VRep w ok μ a v) (hf : locfree a = true) : VRep w ok μ' a v := by
  have all : ∀ (l : List AV) (j : Nat) (a : AV), allA locfree l = true → l[j]? = some a → locfree a = true := by
    intro l
    induction l with
    | nil => intro j a _ h; simp at h
    | cons x l ih =>
      intro j a h ha
      simp only [allA, Bool.and_eq_true] at h
      cases j with
      | zero => simp at ha; exact ha ▸ h.1
      | succ j => exact ih j a h.2 (by simpa using ha)
  induction h with
  | v x => exact .v x
  | immNil t => exact .immNil t
  | imm t xs b o cap hb hcap u hc _ ih => exact .imm t xs b o cap hb hcap u hc fun i x hx j a ha => ih i x hx j a ha (all _ j a (L.enc_free t x) ha)
  | imp t x off b o hb u hc _ ih => exact .imp t x off b o hb u hc fun j a ha => ih j a ha (all _ j a (L.enc_free t x) ha)
  | fn f cs vs hl hr _ =>
    cases cs with
    | nil => exact .fn f [] vs hl fun i a v h => by simp at h
    | cons _ _ => simp [locfree] at hf
  | _ => simp [locfree] at hf

/-! cells -/
/-- Cells of an abstract block: in a row from o on. -/
def Cells (w : World) (ok : Nat → Prop) (μ : Nat → Pl) (cur : Array Value) (o : Nat) (cs : List AV) : Prop :=
  ∀ j a, cs[j]? = some a → ∃ u, cur[o + j]? = some u ∧ u.oneCell' = true ∧ VRep w ok μ a u

inductive BRep (w : World) (ok : Nat → Prop) (μ : Nat → Pl) : Pl → Blk → Prop
  | dead (p : Pl) : BRep w ok μ p .dead
  | cells (b : Nat) (cs : List AV) (cur : Array Value) (e : TypeId) (hb : w.heap[b]? = some (.cells cur e (0, 0))) (hc : Cells w ok μ cur 0 cs) : BRep w ok μ (.at b) (.cells cs)
  | arrNil (t : D.Tag) : BRep w ok μ .nil (.arr t [])
  | arr (b o cap : Nat) (t : D.Tag) (xs : List (D.El t)) (cur : Array Value) (e : TypeId) (hb : w.heap[b]? = some (.cells cur e (0, 0))) (hcap : xs.length ≤ cap) (hsz : o + cap * C.k t ≤ cur.size)
      (hc : ∀ (i : Nat) (x : D.El t), xs[i]? = some x → Cells w ok μ cur (o + i * C.k t) (C.enc t x)) : BRep w ok μ (.row b o xs.length cap (C.k t)) (.arr t xs)
  | fzNil (t : D.Tag) : BRep w ok μ .nil (.fz t [])
  | fz (b o cap : Nat) (t : D.Tag) (xs : List (D.El t)) (hok : ok b) (hcap : xs.length ≤ cap) (u : Nat → Nat → Value)
      (hc : ∀ (i : Nat) (x : D.El t), xs[i]? = some x → ∀ (j : Nat) (a : AV), (C.enc t x)[j]? = some a → w.cell? ⟨b, o + i * C.k t + j, none⟩ = some (u i j))
      (hr : ∀ (i : Nat) (x : D.El t), xs[i]? = some x → ∀ (j : Nat) (a : AV), (C.enc t x)[j]? = some a → VRep w ok μ a (u i j)) : BRep w ok μ (.row b o xs.length cap (C.k t)) (.fz t xs)

def live : Blk → Bool
  | .cells _ => true
  | .arr _ _ => true
  | _ => false

/-- Where a call began: the world; the blocks that it may turn; those that stay. -/
structure Base where
  w0 : World
  M : Nat → Prop
  ok0 : Nat → Prop

/-- The heap. -/
structure HSim (B : Base) (ok : Nat → Prop) (μ : Nat → Pl) (h : Hp) (w : World) : Prop where
  goes : Goes B.M B.w0 w
  rep : ∀ l, BRep w ok μ (μ l) (h l)
  inj : ∀ l l' b, l ≠ l' → live (h l) = true → live (h l') = true → (μ l).blk? = some b → (μ l').blk? ≠ some b
  nok : ∀ l b, live (h l) = true → (μ l).blk? = some b → ¬ ok b ∧ (B.w0.heap.size ≤ b ∨ B.M b)
  okb : ∀ b, ok b → b < w.heap.size
  okm : ∀ b, B.ok0 b → ok b
  oko : ∀ b, ok b → B.ok0 b ∨ B.M b ∨ B.w0.heap.size ≤ b

theorem Cells.mono {w w' : World} {ok ok' : Nat → Prop} {μ μ' : Nat → Pl} {cur : Array Value} {o : Nat} {cs : List AV} (h : Cells w ok μ cur o cs)
    (hk : Keeps ok w w') (hok : ∀ b, ok b → ok' b) (hμ : ∀ l, μ l ≠ .gone → μ' l = μ l) : Cells w' ok' μ' cur o cs :=
  fun j a ha => let ⟨u, h1, h2, h3⟩ := h j a ha; ⟨u, h1, h2, h3.mono hk hok hμ⟩

/-- A block is kept where its row is. -/
theorem BRep.mono {w w' : World} {ok ok' : Nat → Prop} {μ μ' : Nat → Pl} {p : Pl} {b : Blk} (h : BRep w ok μ p b)
    (hk : Keeps ok w w') (hok : ∀ b, ok b → ok' b) (hμ : ∀ l, μ l ≠ .gone → μ' l = μ l) (hb : live b = true → ∀ g, p.blk? = some g → w'.heap[g]? = w.heap[g]?) : BRep w' ok' μ' p b := by
  cases h with
  | dead => exact .dead _
  | cells b cs cur e h1 h2 => exact .cells b cs cur e ((hb rfl b rfl).trans h1) (h2.mono hk hok hμ)
  | arrNil t => exact .arrNil t
  | arr b o cap t xs cur e h1 h2 h3 h4 => exact .arr b o cap t xs cur e ((hb rfl b rfl).trans h1) h2 h3 fun i x hx => (h4 i x hx).mono hk hok hμ
  | fzNil t => exact .fzNil t
  | fz b o cap t xs h1 h2 u h3 h4 => exact .fz b o cap t xs (hok b h1) h2 u (fun i x hx j a ha => (hk b h1 _).trans (h3 i x hx j a ha)) fun i x hx j a ha => (h4 i x hx j a ha).mono hk hok hμ


/-! the heap turns -/
def updP (μ : Nat → Pl) (l : Nat) (p : Pl) : Nat → Pl := fun i => if i = l then p else μ i

omit D C in
theorem updP_same (μ : Nat → Pl) (l : Nat) (p : Pl) : updP μ l p l = p := by simp [updP]
omit D C in
theorem updP_ne (μ : Nat → Pl) {l i : Nat} (p : Pl) (h : i ≠ l) : updP μ l p i = μ i := by simp [updP, h]
omit C in
theorem upd_same (h : Hp) (l : Nat) (b : Blk) : upd h l b l = b := by simp [upd]
omit C in
theorem upd_ne (h : Hp) {l i : Nat} (b : Blk) (hne : i ≠ l) : upd h l b i = h i := by
  have : Nat.beq i l = false := by rw [← Bool.not_eq_true]; intro e; exact hne (Nat.eq_of_beq_eq_true e)
  simp [upd, this]

/-- Between two worlds: the blocks of w stay, but for those of X. -/
structure Kept (X : Nat → Prop) (w w' : World) : Prop where
  os : w'.os = w.os
  tape : w'.tape = w.tape
  output : w'.output = w.output
  size : w.heap.size ≤ w'.heap.size
  block : ∀ b, b < w.heap.size → ¬ X b → w'.heap[b]? = w.heap[b]?

omit D C in
theorem Kept.keeps {X ok : Nat → Prop} {w w' : World} (h : Kept X w w') (hok : ∀ b, ok b → b < w.heap.size ∧ ¬ X b) : Keeps ok w w' := fun b hb o => by
  simp only [World.cell?, h.block b (hok b hb).1 (hok b hb).2]

omit D C in
theorem Kept.alloc {w w' : World} {o : Obj} (hh : w'.heap = w.heap.push o) (h1 : w'.os = w.os) (h2 : w'.tape = w.tape) (h3 : w'.output = w.output) : Kept (fun _ => False) w w' :=
  ⟨h1, h2, h3, by rw [hh]; simp, fun b hb _ => by rw [hh, Array.getElem?_push, if_neg (by omega)]⟩

omit D C in
theorem Kept.setRow {w : World} {g : Nat} {cs : Array Value} : Kept (fun b => b = g) w (w.setRow g cs) :=
  ⟨rfl, rfl, rfl, by simp [World.setRow], fun b _ hb => setRow_other w g b cs hb⟩

omit D C in
theorem Goes.kept {M X : Nat → Prop} {w0 w w' : World} (h : Goes M w0 w) (k : Kept X w w') (hx : ∀ b, X b → w0.heap.size ≤ b ∨ M b) : Goes M w0 w' :=
  ⟨k.os.trans h.os, k.tape.trans h.tape, k.output.trans h.output, Nat.le_trans h.size k.size, fun b hb hm =>
    (k.block b (Nat.lt_of_lt_of_le hb h.size) (fun e => by rcases hx b e with h' | h' <;> first | omega | exact hm h')).trans (h.block b hb hm)⟩

section
variable {B : Base} {w w' : World} {ok : Nat → Prop} {μ : Nat → Pl} {h : Hp}

theorem BRep.blk_lt {p : Pl} {b : Blk} (hr : BRep w ok μ p b) (hl : live b = true) {g : Nat} (hg : p.blk? = some g) : g < w.heap.size := by
  cases hr with
  | dead => simp [live] at hl
  | cells b cs cur e h1 h2 => simp [Pl.blk?] at hg; subst hg; exact (Array.getElem?_eq_some_iff.1 h1).1
  | arrNil t => simp [Pl.blk?] at hg
  | arr b o cap t xs cur e h1 => simp [Pl.blk?] at hg; subst hg; exact (Array.getElem?_eq_some_iff.1 h1).1
  | fzNil t => simp [live] at hl
  | fz => simp [live] at hl

theorem HSim.lt (hs : HSim B ok μ h w) {l g : Nat} (hl : live (h l) = true) (hg : (μ l).blk? = some g) : g < w.heap.size := (hs.rep l).blk_lt hl hg

/-- A new block at a new place. -/
theorem HSim.alloc (hs : HSim B ok μ h w) {l : Nat} (hd : h l = .dead) (hg : μ l = .gone) {p : Pl} {b : Blk} (hk : Kept (fun _ => False) w w')
    (hp : ∀ g, p.blk? = some g → w.heap.size ≤ g) (hr : BRep w' ok (updP μ l p) p b) : HSim B ok (updP μ l p) (upd h l b) w' := by
  have hμ : ∀ i, μ i ≠ .gone → updP μ l p i = μ i := fun i hi => updP_ne μ p (fun e => hi (e ▸ hg))
  have hkeeps : Keeps ok w w' := hk.keeps fun b hb => ⟨hs.okb b hb, id⟩
  refine ⟨hs.goes.kept hk (fun _ hf => hf.elim), fun i => ?_, fun i j g hij hi hj hgi hgj => ?_, fun i g hi hgi => ?_, fun b hb => Nat.lt_of_lt_of_le (hs.okb b hb) hk.size, hs.okm, hs.oko⟩
  · by_cases e : i = l
    · subst e; rw [updP_same, upd_same]; exact hr
    · rw [updP_ne μ p e, upd_ne h b e]
      exact (hs.rep i).mono hkeeps (fun _ x => x) hμ fun hl g hg' => hk.block g (hs.lt hl hg') id
  · by_cases ei : i = l
    · by_cases ej : j = l
      · exact hij (ei.trans ej.symm)
      · rw [ei, updP_same] at hgi; rw [updP_ne μ p ej] at hgj; rw [upd_ne h b ej] at hj
        have := hp g hgi; have := hs.lt hj hgj; omega
    · by_cases ej : j = l
      · rw [ej, updP_same] at hgj; rw [updP_ne μ p ei] at hgi; rw [upd_ne h b ei] at hi
        have := hp g hgj; have := hs.lt hi hgi; omega
      · rw [updP_ne μ p ei] at hgi; rw [updP_ne μ p ej] at hgj; rw [upd_ne h b ei] at hi; rw [upd_ne h b ej] at hj
        exact hs.inj i j g hij hi hj hgi hgj
  · by_cases e : i = l
    · rw [e, updP_same] at hgi
      have := hp g hgi
      exact ⟨fun x => by have := hs.okb g x; omega, .inl (Nat.le_trans hs.goes.size this)⟩
    · rw [updP_ne μ p e] at hgi; rw [upd_ne h b e] at hi
      exact hs.nok i g hi hgi

/-- A live block is written. -/
theorem HSim.write (hs : HSim B ok μ h w) {l g : Nat} (hl : live (h l) = true) (hg : (μ l).blk? = some g) {b : Blk} (hk : Kept (fun b => b = g) w w')
    (hr : BRep w' ok μ (μ l) b) : HSim B ok μ (upd h l b) w' := by
  have hkeeps : Keeps ok w w' := hk.keeps fun b hb => ⟨hs.okb b hb, fun e => (hs.nok l g hl hg).1 (e ▸ hb)⟩
  have hlive : ∀ i, live (upd h l b i) = true → live (h i) = true := fun i hi => by
    by_cases e : i = l
    · rw [e]; exact hl
    · rwa [upd_ne h b e] at hi
  refine ⟨hs.goes.kept hk (fun b e => e ▸ (hs.nok l g hl hg).2), fun i => ?_, fun i j g' hij hi hj => hs.inj i j g' hij (hlive i hi) (hlive j hj), fun i g' hi => hs.nok i g' (hlive i hi), fun b hb => Nat.lt_of_lt_of_le (hs.okb b hb) hk.size, hs.okm, hs.oko⟩
  by_cases e : i = l
  · subst e; rw [upd_same]; exact hr
  · rw [upd_ne h b e]
    exact (hs.rep i).mono hkeeps (fun _ x => x) (fun _ _ => rfl) fun hli g' hg' => hk.block g' (hs.lt hli hg') fun e' => hs.inj i l g' e hli hl hg' (e' ▸ hg)

/-- A block is given up. -/
theorem HSim.kill (hs : HSim B ok μ h w) (l : Nat) : HSim B ok μ (upd h l .dead) w := by
  have hlive : ∀ i, live (upd h l .dead i) = true → live (h i) = true ∧ i ≠ l := fun i hi => by
    by_cases e : i = l
    · subst e; rw [upd_same] at hi; simp [live] at hi
    · rw [upd_ne h _ e] at hi; exact ⟨hi, e⟩
  refine ⟨hs.goes, fun i => ?_, fun i j g' hij hi hj => hs.inj i j g' hij (hlive i hi).1 (hlive j hj).1, fun i g' hi => hs.nok i g' (hlive i hi).1, hs.okb, hs.okm, hs.oko⟩
  by_cases e : i = l
  · subst e; rw [upd_same]; exact .dead _
  · rw [upd_ne h _ e]; exact hs.rep i

omit D C in
theorem cells_cell {cur : Array Value} {e : TypeId} {b : Nat} (hb : w.heap[b]? = some (.cells cur e (0, 0))) (o : Nat) : w.cell? ⟨b, o, none⟩ = cur[o]? := by
  simp [World.cell?, hb]

/-- An array becomes what stays. -/
theorem HSim.freeze (hs : HSim B ok μ h w) {l : Nat} {t : D.Tag} {xs : List (D.El t)} (hl : h l = .arr t xs) :
    ∃ ok', (∀ b, ok b → ok' b) ∧ HSim B ok' μ (upd h l (.fz t xs)) w ∧ BRep w ok' μ (μ l) (.fz t xs) ∧ ∀ b, ok' b → ok b ∨ (μ l).blk? = some b := by
  have hr := hs.rep l
  rw [hl] at hr
  have key : ∀ (ok' : Nat → Prop), (∀ b, ok b → ok' b) → (∀ b, ok' b → ok b ∨ (μ l).blk? = some b) → BRep w ok' μ (μ l) (.fz t xs) → HSim B ok' μ (upd h l (.fz t xs)) w := by
    intro ok' hok hback hbr
    have hll : live (h l) = true := by rw [hl]; rfl
    have hlive : ∀ i, live (upd h l (.fz t xs) i) = true → live (h i) = true ∧ i ≠ l := fun i hi => by
      by_cases e : i = l
      · subst e; rw [upd_same] at hi; simp [live] at hi
      · rw [upd_ne h _ e] at hi; exact ⟨hi, e⟩
    refine ⟨hs.goes, fun i => ?_, fun i j g' hij hi hj => hs.inj i j g' hij (hlive i hi).1 (hlive j hj).1, fun i g' hi hg' => ⟨fun hx => ?_, (hs.nok i g' (hlive i hi).1 hg').2⟩, fun b hb => ?_, fun b hb => hok b (hs.okm b hb), fun b hb => ?_⟩
    · by_cases e : i = l
      · subst e; rw [upd_same]; exact hbr
      · rw [upd_ne h _ e]; exact (hs.rep i).mono (Keeps.refl _ _) hok (fun _ _ => rfl) fun _ _ _ => rfl
    · rcases hback g' hx with hx | hx
      · exact (hs.nok i g' (hlive i hi).1 hg').1 hx
      · exact hs.inj i l g' (hlive i hi).2 (hlive i hi).1 hll hg' hx
    · rcases hback b hb with hb | hb
      · exact hs.okb b hb
      · exact hs.lt hll hb
    · rcases hback b hb with hb | hb
      · exact hs.oko b hb
      · exact .inr (hs.nok l b hll hb).2.symm
  generalize hp : μ l = p at hr key ⊢
  cases hr with
  | arrNil => exact ⟨ok, fun _ x => x, key ok (fun _ x => x) (fun _ x => .inl x) (.fzNil t), .fzNil t, fun _ x => .inl x⟩
  | arr b o cap t xs cur e h1 h2 h3 h4 =>
    let ok' : Nat → Prop := fun g => ok g ∨ g = b
    have hbr : BRep w ok' μ (.row b o xs.length cap (C.k t)) (.fz t xs) := by
      have h5 : ∀ (i : Nat) (x : D.El t), xs[i]? = some x → ∀ (j : Nat) (a : AV), (C.enc t x)[j]? = some a → ∃ u, cur[o + i * C.k t + j]? = some u ∧ VRep w ok' μ a u :=
        fun i x hx j a ha => let ⟨u, a1, _, a3⟩ := h4 i x hx j a ha; ⟨u, a1, a3.mono (Keeps.refl _ _) (fun _ x => .inl x) fun _ _ => rfl⟩
      refine .fz b o cap t xs (.inr rfl) h2 (fun i j => cur.getD (o + i * C.k t + j) undef) ?_ ?_
      · intro i x hx j a ha
        obtain ⟨u, a1, _⟩ := h5 i x hx j a ha
        rw [cells_cell h1, a1, Array.getD_eq_getD_getElem?, a1]
        rfl
      · intro i x hx j a ha
        obtain ⟨u, a1, a2⟩ := h5 i x hx j a ha
        rw [Array.getD_eq_getD_getElem?, a1]
        exact a2
    have hback : ∀ g, ok' g → ok g ∨ (Pl.row b o xs.length cap (C.k t)).blk? = some g := fun g hg => hg.imp id (fun e => by simp [Pl.blk?, e])
    exact ⟨ok', fun _ x => .inl x, key ok' (fun _ x => .inl x) hback hbr, hbr, hback⟩

end
end
end Go.Abs

/-
  Soundness of the abstract machine, second part: the state; each operation that leaves the heap alone or reads it.
-/
namespace Go.Abs

section
variable [D : Dom] [C : Coding]

/-- The temporaries. -/
structure TRep (w : World) (ok : Nat → Prop) (μ : Nat → Pl) (tm : List (Option AV)) (tmps : Array Value) : Prop where
  len : tm.length = tmps.size
  rep : ∀ t av, get? tm t = some av → VRep w ok μ av (tmps.getD t undef)

/-- The callers' temporaries. -/
def FRep (w : World) (ok : Nat → Prop) (μ : Nat → Pl) : List (List (Option AV)) → List (Array Value) → Prop
  | [], [] => True
  | f :: fs, c :: cs => TRep w ok μ f c ∧ FRep w ok μ fs cs
  | _, _ => False

/-- Places that are not taken: from n on, and below F.lo. -/
def Fresh (F : FS) (n : Nat) (μ : Nat → Pl) (h : Hp) : Prop := F.lo ≤ n ∧ ∀ l, (n ≤ l ∨ l < F.lo) → F l → h l = .dead ∧ μ l = .gone

/-- The state, at a frame and a world. F: the places that may be taken. -/
structure Sim (B : Base) (F : FS) (cfs : List (Array Value)) (ok : Nat → Prop) (μ : Nat → Pl) (st : St) (tmps : Array Value) (w : World) : Prop where
  heap : HSim B ok μ st.hp w
  tm : TRep w ok μ st.tm tmps
  fs : FRep w ok μ st.fs cfs
  fresh : Fresh F st.nx μ st.hp

variable {w w' : World} {ok ok' : Nat → Prop} {μ μ' : Nat → Pl}

theorem TRep.mono {tm : List (Option AV)} {tmps : Array Value} (h : TRep w ok μ tm tmps) (hk : Keeps ok w w') (hok : ∀ b, ok b → ok' b) (hμ : ∀ l, μ l ≠ .gone → μ' l = μ l) : TRep w' ok' μ' tm tmps :=
  ⟨h.len, fun t av ha => (h.rep t av ha).mono hk hok hμ⟩

theorem FRep.mono : ∀ {fs : List (List (Option AV))} {cfs : List (Array Value)}, FRep w ok μ fs cfs → Keeps ok w w' → (∀ b, ok b → ok' b) → (∀ l, μ l ≠ .gone → μ' l = μ l) → FRep w' ok' μ' fs cfs
  | [], [], _, _, _, _ => trivial
  | _ :: _, _ :: _, h, hk, hok, hμ => ⟨h.1.mono hk hok hμ, FRep.mono h.2 hk hok hμ⟩
  | [], _ :: _, h, _, _, _ => h.elim
  | _ :: _, [], h, _, _, _ => h.elim

omit C in
omit D in
theorem nth_put' {α : Type} : ∀ (l : List α) (i j : Nat) (x : α), nth (put' l i x) j = if i = j ∧ i < l.length then some x else nth l j
  | [], i, j, x => by simp [put', nth]
  | y :: l, 0, 0, x => by simp [put', nth]
  | y :: l, 0, j + 1, x => by simp [put', nth]
  | y :: l, i + 1, 0, x => by simp [put', nth]
  | y :: l, i + 1, j + 1, x => by simp only [put', nth, nth_put' l i j x]; simp

omit C in
omit D in
theorem length_put' {α : Type} : ∀ (l : List α) (i : Nat) (x : α), (put' l i x).length = l.length
  | [], i, x => rfl
  | y :: l, 0, x => rfl
  | y :: l, i + 1, x => by simp [put', length_put' l i x]

omit C in
omit D in
theorem nth_eq {α : Type} : ∀ (l : List α) (i : Nat), nth l i = l[i]?
  | [], i => by simp [nth]
  | x :: l, 0 => by simp [nth]
  | x :: l, i + 1 => by simp [nth, nth_eq l i]

theorem TRep.put {tm : List (Option AV)} {tmps : Array Value} (h : TRep w ok μ tm tmps) {d : Nat} {av : AV} {v : Value} (hv : VRep w ok μ av v) :
    TRep w ok μ (put' tm d (some av)) (tmps.setIfInBounds d v) := by
  refine ⟨by rw [length_put', h.len]; simp, fun t a ha => ?_⟩
  unfold get? at ha
  rw [nth_put'] at ha
  by_cases e : d = t ∧ d < tm.length
  · rw [if_pos e] at ha
    simp at ha
    subst ha
    obtain ⟨rfl, hlt⟩ := e
    rw [h.len] at hlt
    simpa [Array.getD_eq_getD_getElem?, Array.getElem?_setIfInBounds, hlt] using hv
  · rw [if_neg e] at ha
    have := h.rep t a ha
    by_cases e' : d = t
    · subst e'
      have hnl : ¬ d < tmps.size := fun hx => e ⟨rfl, by rw [h.len]; exact hx⟩
      simpa [Array.getD_eq_getD_getElem?, Array.getElem?_setIfInBounds, hnl] using this
    · simpa [Array.getD_eq_getD_getElem?, Array.getElem?_setIfInBounds, e'] using this

variable {B : Base} {F : FS} {cfs : List (Array Value)} {st : St} {tmps : Array Value}

theorem Sim.put (hs : Sim B F cfs ok μ st tmps w) (dst : Option Nat) {av : AV} {v : Value} (hv : VRep w ok μ av v) (ds : List Deferred) :
    Sim B F cfs ok μ (st.put dst av) ((Act.mk tmps ds).put dst v).tmps w := by
  cases dst with
  | none => exact hs
  | some d => exact ⟨hs.heap, hs.tm.put hv, hs.fs, hs.fresh⟩

theorem evalA_rep (ht : TRep w ok μ st.tm tmps) {x : Operand} {av : AV} (h : evalA st x = some av) (ds : List Deferred) : VRep w ok μ av ((Act.mk tmps ds).eval x) := by
  cases x with
  | tmp t => exact ht.rep t av h
  | const v => simp [evalA] at h; subst h; exact .v v
  | global g => simp [evalA] at h
  | func f => simp [evalA] at h; subst h; exact .fn f [] [] rfl (fun _ _ _ h => by simp at h)

theorem evalsA_rep (ht : TRep w ok μ st.tm tmps) (ds : List Deferred) : ∀ {xs : List Operand} {as : List AV}, evalsA st xs = some as →
    as.length = xs.length ∧ ∀ (i : Nat) (a : AV) (v : Value), as[i]? = some a → (xs.map (Act.mk tmps ds).eval)[i]? = some v → VRep w ok μ a v
  | [], as, h => by simp [evalsA] at h; subst h; exact ⟨rfl, fun _ _ _ h => by simp at h⟩
  | x :: xs, as, h => by
    simp only [evalsA] at h
    split at h
    · rename_i a ha
      split at h
      · rename_i as' has
        simp at h; subst h
        obtain ⟨h1, h2⟩ := evalsA_rep ht ds has
        refine ⟨by simp [h1], fun i b v hb hv => ?_⟩
        cases i with
        | zero => simp at hb hv; subst hb; subst hv; exact evalA_rep ht ha ds
        | succ i => exact h2 i b v (by simpa using hb) (by simpa using hv)
      · simp at h
    · simp at h

/-! one cell -/
omit D C in
theorem oneV_one : ∀ (v : Value), oneV v = true → v.oneCell' = true := fun v h => by cases v <;> simp_all [oneV, Value.oneCell']

theorem oneA_one {a : AV} {v : Value} (h : VRep w ok μ a v) (h1 : oneA a = true) : v.oneCell' = true := by
  cases h <;> first | exact oneV_one _ h1 | rfl | simp [oneA] at h1

omit D C in
theorem flat_one (v : Value) (h : flatV v = true) : oneV v = true := by
  cases v <;> simp_all [flatV, oneV]

omit C in
theorem free_one {a : AV} (h : locfree a = true) : oneA a = true := by
  cases a <;> simp_all [locfree, oneA]
  exact flat_one _ h

omit C in
theorem allA_get {p : AV → Bool} : ∀ {l : List AV}, allA p l = true → ∀ {i : Nat} {a : AV}, l[i]? = some a → p a = true
  | [], _, i, a, h => by simp at h
  | x :: l, hp, 0, a, h => by simp [allA] at hp; simp at h; exact h ▸ hp.1
  | x :: l, hp, i + 1, a, h => by simp [allA] at hp; exact allA_get (l := l) hp.2 (by simpa using h)

/-- The cells of a value. -/
theorem cellsOf_rep {a : AV} {v : Value} (h : VRep w ok μ a v) (h1 : allA oneA (cellsOf a) = true) :
    (cellsOf a).length = v.cells.size ∧ ∀ (i : Nat) (b : AV), (cellsOf a)[i]? = some b → ∃ u, v.cells[i]? = some u ∧ u.oneCell' = true ∧ VRep w ok μ b u := by
  have single : ∀ {a : AV} {v : Value}, VRep w ok μ a v → cellsOf a = [a] → allA oneA [a] = true → v.cells = #[v] →
      (cellsOf a).length = v.cells.size ∧ ∀ (i : Nat) (b : AV), (cellsOf a)[i]? = some b → ∃ u, v.cells[i]? = some u ∧ u.oneCell' = true ∧ VRep w ok μ b u := by
    intro a v h hc h1 hv
    rw [hc, hv]
    refine ⟨rfl, fun i b hb => ?_⟩
    cases i with
    | zero => simp at hb; subst hb; exact ⟨v, by simp, oneA_one h (by simpa [allA] using h1), h⟩
    | succ i => simp at hb
  cases h with
  | v =>
    cases v with
    | agg cs =>
      refine ⟨by simp [cellsOf, Value.cells], fun i b hb => ?_⟩
      have h1' := allA_get h1 hb
      simp [cellsOf, List.getElem?_map] at hb
      obtain ⟨u, hu, rfl⟩ := hb
      exact ⟨u, by simpa [Value.cells] using hu, oneV_one u h1', .v u⟩
    | _ => exact single (.v _) rfl h1 rfl
  | agg cs vs hl h1' hr =>
    refine ⟨by simp [cellsOf, Value.cells, hl], fun i b hb => ?_⟩
    have hlt : i < vs.length := by rw [hl]; exact (List.getElem?_eq_some_iff.1 hb).1
    exact ⟨vs[i], by simp [Value.cells, hlt], h1' _ (List.getElem_mem _), hr i b vs[i] hb (by simp [hlt])⟩
  | ptr l off b h => exact single (.ptr l off b h) rfl h1 rfl
  | ept l i off b o n cap k h => exact single (.ept l i off b o n cap k h) rfl h1 rfl
  | sl l b o n cap k h => exact single (.sl l b o n cap k h) rfl h1 rfl
  | slNil l h => exact single (.slNil l h) rfl h1 rfl
  | fsl l n k b h => exact single (.fsl l n k b h) rfl h1 rfl
  | immNil t => exact single (.immNil t) rfl h1 rfl
  | imm t xs b o cap a1 a2 u a3 a4 => exact single (.imm t xs b o cap a1 a2 u a3 a4) rfl h1 rfl
  | imp t x off b o a1 u a2 a3 => exact single (.imp t x off b o a1 u a2 a3) rfl h1 rfl
  | fn f cs vs a1 a2 => exact single (.fn f cs vs a1 a2) rfl h1 rfl
  | tup cs vs a1 a2 => simp [cellsOf, allA, oneA] at h1


/-! pieces of lists -/
omit D C in
theorem dropN_eq {α : Type} : ∀ (n : Nat) (l : List α), dropN n l = l.drop n
  | 0, l => rfl
  | n + 1, [] => rfl
  | n + 1, _ :: l => by simp [dropN, dropN_eq n l]

omit D C in
theorem takeN_some {α : Type} : ∀ {n : Nat} {l r : List α}, takeN n l = some r → r.length = n ∧ r = l.take n ∧ n ≤ l.length
  | 0, l, r, h => by simp [takeN] at h; subst h; simp
  | n + 1, [], r, h => by simp [takeN] at h
  | n + 1, x :: l, r, h => by
    simp only [takeN] at h
    split at h
    · rename_i ys hy
      simp at h; subst h
      obtain ⟨h1, h2, h3⟩ := takeN_some hy
      exact ⟨by simp [h1], by simp [h2], by simpa using h3⟩
    · simp at h

omit C in
theorem piece_some {cs ds : List AV} {off n : Nat} (h : piece cs off n = some ds) : ds.length = n ∧ off + n ≤ cs.length + (if n = 0 then off else 0) ∧ ∀ (j : Nat) (a : AV), ds[j]? = some a → cs[off + j]? = some a := by
  unfold piece at h
  rw [dropN_eq] at h
  obtain ⟨h1, h2, h3⟩ := takeN_some h
  rw [List.length_drop] at h3
  refine ⟨h1, by split <;> omega, fun j a ha => ?_⟩
  rw [h2, List.getElem?_take] at ha
  split at ha
  · simpa using ha
  · simp at ha

omit D C in
theorem exists_list {α β : Type} : ∀ (l : List α) (p : Nat → α → β → Prop), (∀ j a, l[j]? = some a → ∃ u, p j a u) → ∃ vs : List β, vs.length = l.length ∧ ∀ j a u, l[j]? = some a → vs[j]? = some u → p j a u
  | [], p, _ => ⟨[], rfl, fun _ _ _ h => by simp at h⟩
  | x :: l, p, h => by
    obtain ⟨u, hu⟩ := h 0 x (by simp)
    obtain ⟨vs, h1, h2⟩ := exists_list l (fun j => p (j + 1)) (fun j a ha => h (j + 1) a (by simpa using ha))
    refine ⟨u :: vs, by simp [h1], fun j a v ha hv => ?_⟩
    cases j with
    | zero => simp at ha hv; subst ha; subst hv; exact hu
    | succ j => exact h2 j a v (by simpa using ha) (by simpa using hv)

omit D C in
theorem add_none (b o n : Nat) : (⟨b, o, none⟩ : Addr).add n = ⟨b, o + n, none⟩ := by
  unfold Addr.add; split <;> simp_all

variable {P : Program}

omit D C in
theorem sz_run {T n : Nat} (h : sz? P T = some n) (w : World) : (sizeOf T).run P w = .ok n w := by
  unfold sz? at h
  split at h
  · rename_i i hi; simp at h; subst h; simp [sizeOf, typeInfo, hi]
  · simp at h

omit D C in
theorem loadVar_agg {T n b o : Nat} {vs : List Value} (hn : sz? P T = some n) (hl : vs.length = n) (hagg : (isAgg T).run P w = .ok true w)
    (hc : ∀ j v, vs[j]? = some v → w.cell? ⟨b, o + j, none⟩ = some v) : (loadVar T ⟨b, o, none⟩).run P w = .ok (.agg vs.toArray) w := by
  have h := run_loadCells_list (P := P) w ⟨b, o, none⟩ vs (fun j v hv => by rw [add_none]; exact hc j v hv)
  rw [hl] at h
  simp [loadVar, hagg, sz_run hn, h]

theorem loadVar_sound {T n b o : Nat} {ds : List AV} {av : AV} (hn : sz? P T = some n) (hl : ds.length = n)
    (hc : ∀ (j : Nat) (a : AV), ds[j]? = some a → ∃ u, w.cell? ⟨b, o + j, none⟩ = some u ∧ u.oneCell' = true ∧ VRep w ok μ a u) (hv : valueT P T ds = some av) :
    ∃ u, (loadVar T ⟨b, o, none⟩).run P w = .ok u w ∧ VRep w ok μ av u := by
  obtain ⟨vs, h1, h2⟩ := exists_list ds (fun j a u => w.cell? ⟨b, o + j, none⟩ = some u ∧ u.oneCell' = true ∧ VRep w ok μ a u) hc
  have hget : ∀ j v, vs[j]? = some v → ∃ a, ds[j]? = some a := fun j v hj => by
    have : j < ds.length := by rw [← h1]; exact (List.getElem?_eq_some_iff.1 hj).1
    exact ⟨ds[j], List.getElem?_eq_getElem this⟩
  have hagg : (isAgg T).run P w = .ok true w → av = .agg ds → ∃ u, (loadVar T ⟨b, o, none⟩).run P w = .ok u w ∧ VRep w ok μ av u := by
    rintro ha rfl
    refine ⟨_, loadVar_agg hn (h1.trans hl) ha (fun j v hj => let ⟨a, haj⟩ := hget j v hj; (h2 j a v haj hj).1), .agg ds vs h1 (fun v hv => ?_) fun i a v ha hv => (h2 i a v ha hv).2.2⟩
    obtain ⟨j, hj⟩ := List.getElem?_of_mem hv
    obtain ⟨a, haj⟩ := hget j v hj
    exact (h2 j a v haj hj).2.1
  unfold valueT at hv
  split at hv
  · rename_i hu; simp at hv; exact hagg (by simp [isAgg, run_underlying hu]) hv.symm
  · rename_i hu; simp at hv; exact hagg (by simp [isAgg, run_underlying hu]) hv.symm
  · rename_i d hu1 hu2 hu
    split at hv
    · rename_i c
      simp at hv; subst hv
      obtain ⟨u, a1, a2, a3⟩ := hc 0 c (by simp)
      refine ⟨u, ?_, a3⟩
      have : (isAgg T).run P w = .ok false w := by
        simp only [isAgg, Sem.run_bind, run_underlying hu, Result.andThen_ok]
        cases d <;> first | rfl | exact (hu1 _ hu).elim | exact (hu2 _ _ hu).elim
      simp only [Nat.add_zero] at a1
      simp [loadVar, this, load, Sem.run, a1]
    · simp at hv
  · simp at hv

/-- The cells of what stays are values of one cell. -/
theorem free_cells {a : AV} {u : Value} (hf : locfree a = true) (h : VRep w ok μ a u) : u.oneCell' = true := oneA_one h (free_one hf)

theorem loadA_sound {α : Type} [L : Lawful P] {h : Hp} {T : Nat} {a : AV} {v : Value} {K : AV → Lg → Option α} {r : α} (hl : loadA P h T a K = some r)
    (hs : HSim B ok μ h w) (hv : VRep w ok μ a v) : ∃ av g u, K av g = some r ∧ (Instr.loadAt T v).run P w = .ok u w ∧ VRep w ok μ av u := by
  have fin : ∀ {cs : List AV} {off b o : Nat} {g : Lg}, (match sz? P T with
      | some n => match piece cs off n with
        | some ds => match valueT P T ds with
          | some v => K v g
          | none => none
        | none => none
      | none => none) = some r → v = .pointer (some ⟨b, o + off, none⟩) → (∀ (j : Nat) (a : AV), cs[j]? = some a → ∃ u, w.cell? ⟨b, o + j, none⟩ = some u ∧ u.oneCell' = true ∧ VRep w ok μ a u) →
      ∃ av g u, K av g = some r ∧ (Instr.loadAt T v).run P w = .ok u w ∧ VRep w ok μ av u := by
    intro cs off b o g hm hval hc
    split at hm
    · rename_i n hn
      split at hm
      · rename_i ds hd
        obtain ⟨p1, _, p2⟩ := piece_some hd
        split at hm
        · rename_i av hav
          obtain ⟨u, u1, u2⟩ := loadVar_sound (w := w) (ok := ok) (μ := μ) (b := b) (o := o + off) hn p1 (fun j a ha => by rw [Nat.add_assoc]; exact hc _ a (p2 j a ha)) hav
          exact ⟨av, _, u, hm, by rw [hval]; simp [Instr.loadAt, Instr.sureAddr, u1], u2⟩
        · simp at hm
      · simp at hm
    · simp at hm
  unfold loadA at hl
  cases hv with
  | ptr l off b hμ =>
    simp only at hl
    split at hl
    · rename_i cs hcs
      have hr := hs.rep l
      rw [hcs, hμ] at hr
      cases hr with
      | cells b cs cur e h1 h2 =>
        refine fin (b := b) (o := 0) hl (by simp) fun j a ha => ?_
        obtain ⟨u, u1, u2, u3⟩ := h2 j a ha
        exact ⟨u, by rw [cells_cell h1]; exact u1, u2, u3⟩
    · simp at hl
  | ept l i off b o n cap k hμ =>
    simp only at hl
    split at hl
    · rename_i t xs hcs
      split at hl
      · rename_i x hx
        have hr := hs.rep l
        rw [hcs, hμ] at hr
        cases hr with
        | arr b o cap t xs cur e h1 h2 h3 h4 =>
          refine fin (o := o + i * C.k t) hl rfl fun j a ha => ?_
          obtain ⟨u, u1, u2, u3⟩ := h4 i x hx j a ha
          exact ⟨u, by rw [cells_cell h1]; exact u1, u2, u3⟩
      · simp at hl
    · rename_i t xs hcs
      split at hl
      · rename_i x hx
        have hr := hs.rep l
        rw [hcs, hμ] at hr
        cases hr with
        | fz b o cap t xs h1 h2 u h3 h4 =>
          refine fin (o := o + i * C.k t) hl rfl fun j a ha => ?_
          exact ⟨u i j, h3 i x hx j a ha, free_cells (allA_get (L.enc_free t x) ha) (h4 i x hx j a ha), h4 i x hx j a ha⟩
      · simp at hl
    · simp at hl
  | imp t x off b o hok u hc hr =>
    exact fin (o := o) hl rfl fun j a ha => ⟨u j, hc j a ha, free_cells (allA_get (L.enc_free t x) ha) (hr j a ha), hr j a ha⟩
  | _ => simp at hl

end
end Go.Abs

/-
  Soundness of the abstract machine, third part: stores, new blocks.
-/
namespace Go.Abs

section
variable [D : Dom] [C : Coding] {P : Program}
variable {B : Base} {w w' : World} {ok ok' : Nat → Prop} {μ μ' : Nat → Pl} {F : FS} {h : Hp}

/-- What a step keeps. -/
structure Step (ok : Nat → Prop) (μ : Nat → Pl) (w : World) (ok' : Nat → Prop) (μ' : Nat → Pl) (w' : World) : Prop where
  keeps : Keeps ok w w'
  ok : ∀ b, ok b → ok' b
  pl : ∀ l, μ l ≠ .gone → μ' l = μ l

omit D C in
theorem Step.refl (ok : Nat → Prop) (μ : Nat → Pl) (w : World) : Step ok μ w ok μ w := ⟨Keeps.refl _ _, fun _ x => x, fun _ _ => rfl⟩

omit D C in
theorem Step.trans {ok1 ok2 ok3 : Nat → Prop} {μ1 μ2 μ3 : Nat → Pl} {w1 w2 w3 : World} (a : Step ok1 μ1 w1 ok2 μ2 w2) (b : Step ok2 μ2 w2 ok3 μ3 w3) : Step ok1 μ1 w1 ok3 μ3 w3 :=
  ⟨fun g hg o => (b.keeps g (a.ok g hg) o).trans (a.keeps g hg o), fun g hg => b.ok g (a.ok g hg), fun l hl => by
    have := a.pl l hl
    rw [b.pl l (by rw [this]; exact hl), this]⟩

theorem VRep.step (s : Step ok μ w ok' μ' w') {a : AV} {v : Value} (h : VRep w ok μ a v) : VRep w' ok' μ' a v := h.mono s.keeps s.ok s.pl

omit D C in
theorem Kept.refl (w : World) : Kept (fun _ => False) w w := ⟨rfl, rfl, rfl, Nat.le_refl _, fun _ _ _ => rfl⟩

theorem unnil_sound : ∀ (qs : List (Option D.Tag)) (cs : List AV) (h : Hp) (n : Nat) (μ : Nat → Pl) {ds : List AV} {h' : Hp} {ns : List Nat}, unnil qs cs h n = (ds, h', ns) → HSim B ok μ h w →
    (∀ l, n ≤ l → l < n + ns.length → h l = .dead ∧ μ l = .gone) →
    ∃ μ', HSim B ok μ' h' w ∧ (∀ l, μ l ≠ .gone → μ' l = μ l) ∧ (∀ l, l < n ∨ n + ns.length ≤ l → h' l = h l ∧ μ' l = μ l) ∧ ds.length = cs.length ∧
      ∀ (j : Nat) (a : AV), ds[j]? = some a → ∃ c, cs[j]? = some c ∧ ∀ u, VRep w ok μ c u → VRep w ok μ' a u := by
  intro qs cs h n μ ds h' ns hu hs hf
  induction qs generalizing cs h n μ ds h' ns with
  | nil =>
    simp only [unnil] at hu
    obtain ⟨rfl, rfl, rfl⟩ : cs = ds ∧ h = h' ∧ [] = ns := by simpa using hu
    exact ⟨μ, hs, fun _ _ => rfl, fun _ _ => ⟨rfl, rfl⟩, rfl, fun j a ha => ⟨a, ha, fun _ x => x⟩⟩
  | cons q qs ih =>
    cases cs with
    | nil =>
      have : unnil (q :: qs) [] h n = ([], h, []) := by cases q <;> rfl
      rw [this] at hu
      obtain ⟨rfl, rfl, rfl⟩ : [] = ds ∧ h = h' ∧ [] = ns := by simpa using hu
      exact ⟨μ, hs, fun _ _ => rfl, fun _ _ => ⟨rfl, rfl⟩, rfl, fun j a ha => by simp at ha⟩
    | cons c cs =>
      have plain : ∀ {ds : List AV} {h' : Hp} {ns : List Nat}, (match unnil qs cs h n with | (ds, h', ns) => (c :: ds, h', ns)) = (ds, h', ns) → (∀ l, n ≤ l → l < n + ns.length → h l = .dead ∧ μ l = .gone) →
          ∃ μ', HSim B ok μ' h' w ∧ (∀ l, μ l ≠ .gone → μ' l = μ l) ∧ (∀ l, l < n ∨ n + ns.length ≤ l → h' l = h l ∧ μ' l = μ l) ∧ ds.length = (c :: cs).length ∧
            ∀ (j : Nat) (a : AV), ds[j]? = some a → ∃ c', (c :: cs)[j]? = some c' ∧ ∀ u, VRep w ok μ c' u → VRep w ok μ' a u := by
        intro ds h' ns hu hf
        generalize hx : unnil qs cs h n = x at hu
        obtain ⟨ds1, h1, ns1⟩ := x
        obtain ⟨rfl, rfl, rfl⟩ : c :: ds1 = ds ∧ h1 = h' ∧ ns1 = ns := by simpa using hu
        obtain ⟨μ', a1, a2, a3, a4, a5⟩ := ih cs h n μ hx hs hf
        refine ⟨μ', a1, a2, a3, by simp [a4], fun j a ha => ?_⟩
        cases j with
        | zero => simp at ha; subst ha; exact ⟨c, rfl, fun u hu => hu.mono (Keeps.refl _ _) (fun _ x => x) a2⟩
        | succ j => exact a5 j a (by simpa using ha)
      cases q with
      | none =>
        refine plain ?_ hf
        rw [← hu]
        cases c <;> rfl
      | some t =>
        by_cases hc : c = .v (.slice none 0 0)
        · subst hc
          simp only [unnil] at hu
          generalize hx : unnil qs cs (upd h n (.arr t [])) (n + 1) = x at hu
          obtain ⟨ds1, h1, ns1⟩ := x
          obtain ⟨rfl, rfl, rfl⟩ : AV.sl n :: ds1 = ds ∧ h1 = h' ∧ n :: ns1 = ns := by simpa using hu
          have hn := hf n (Nat.le_refl _) (by simp)
          have hs1 := hs.alloc (p := .nil) (b := .arr t []) hn.1 hn.2 (Kept.refl w) (fun g hg => by simp [Pl.blk?] at hg) (.arrNil t)
          obtain ⟨μ', a1, a2, a3, a4, a5⟩ := ih cs (upd h n (.arr t [])) (n + 1) (updP μ n .nil) hx hs1 (fun l h1 h2 => by
            have := hf l (by omega) (by simp; omega)
            exact ⟨by rw [upd_ne h _ (by omega)]; exact this.1, by rw [updP_ne μ _ (by omega)]; exact this.2⟩)
          have hmono : ∀ l, μ l ≠ .gone → μ' l = μ l := fun l hl => by
            have hne : l ≠ n := fun e => hl (e ▸ hn.2)
            rw [a2 l (by rw [updP_ne μ _ hne]; exact hl), updP_ne μ _ hne]
          refine ⟨μ', a1, hmono, fun l hl => ?_, by simp [a4], fun j a ha => ?_⟩
          · have h3 := a3 l (by simp at hl; omega)
            have hne : l ≠ n := by simp at hl; omega
            exact ⟨by rw [h3.1, upd_ne h _ hne], by rw [h3.2, updP_ne μ _ hne]⟩
          · cases j with
            | zero =>
              simp at ha; subst ha
              refine ⟨_, rfl, fun u hu => ?_⟩
              cases hu
              exact .slNil n ((a3 n (.inl (by omega))).2.trans (updP_same _ _ _))
            | succ j =>
              obtain ⟨c, c1, c2⟩ := a5 j a (by simpa using ha)
              exact ⟨c, by simpa using c1, fun u hu => c2 u (hu.mono (Keeps.refl _ _) (fun _ x => x) fun l hl => updP_ne μ _ (fun e => hl (e ▸ hn.2)))⟩
        · refine plain ?_ hf
          rw [← hu]
          rw [unnil]
          exact fun _ _ hx => hc hx

/-! overlays -/
omit C in
theorem overlay_len : ∀ (ds cs : List AV) (off : Nat), (overlay cs off ds).length = cs.length
  | [], cs, off => rfl
  | d :: ds, cs, off => by rw [overlay, overlay_len ds, length_put']

omit C in
theorem overlay_get : ∀ (ds cs : List AV) (off j : Nat) (a : AV), off + ds.length ≤ cs.length → (overlay cs off ds)[j]? = some a →
    (off ≤ j ∧ j < off + ds.length ∧ ds[j - off]? = some a) ∨ ((j < off ∨ off + ds.length ≤ j) ∧ cs[j]? = some a)
  | [], cs, off, j, a, _, h => .inr ⟨by simp; omega, h⟩
  | d :: ds, cs, off, j, a, hl, h => by
    rw [overlay] at h
    rcases overlay_get ds _ (off + 1) j a (by rw [length_put']; simp at hl; omega) h with ⟨h1, h2, h3⟩ | ⟨h1, h2⟩
    · refine .inl ⟨by omega, by simp; omega, ?_⟩
      rw [show j - off = (j - (off + 1)) + 1 by omega]
      simpa using h3
    · rw [← nth_eq, nth_put'] at h2
      by_cases e : off = j
      · subst e
        rw [if_pos ⟨rfl, by simp at hl; omega⟩] at h2
        exact .inl ⟨Nat.le_refl _, by simp, by simpa using h2⟩
      · rw [if_neg (fun x => e x.1), nth_eq] at h2
        exact .inr ⟨by simp; omega, h2⟩

omit D C in
theorem splice_get (cur vs : List Value) (off j : Nat) (hl : off + vs.length ≤ cur.length) :
    ((cur.take off ++ vs ++ cur.drop (off + vs.length)).toArray)[j]? = if off ≤ j ∧ j < off + vs.length then vs[j - off]? else cur[j]? := by
  rw [List.getElem?_toArray, List.append_assoc, List.getElem?_append]
  by_cases h1 : j < (cur.take off).length
  · rw [if_pos h1, if_neg (by simp at h1; omega), List.getElem?_take, if_pos (by simp at h1; omega)]
  · rw [if_neg h1, List.getElem?_append]
    have e : (cur.take off).length = off := by simp; omega
    rw [e] at h1 ⊢
    by_cases h2 : j - off < vs.length
    · rw [if_pos h2, if_pos (by omega)]
    · rw [if_neg h2, if_neg (by omega), List.getElem?_drop]
      congr 1
      omega

omit D C in
theorem splice_size (cur vs : List Value) (off : Nat) (hl : off + vs.length ≤ cur.length) : (cur.take off ++ vs ++ cur.drop (off + vs.length)).toArray.size = cur.length := by
  simp; omega

omit C in
omit D in
theorem lenIs_eq {α : Type} : ∀ {n : Nat} {l : List α}, lenIs n l = true → l.length = n
  | 0, [], _ => rfl
  | n + 1, _ :: l, h => by simp [lenIs] at h; simp [lenIs_eq h]
  | 0, _ :: _, h => by simp [lenIs] at h
  | _ + 1, [], h => by simp [lenIs] at h

omit D C in
/-- A value's cells are stored into a block. -/
theorem storeVar_run {T b off : Nat} {v : Value} {cur : Array Value} {e : TypeId} (hsz : sz? P T = some v.cells.size) (hb : w.heap[b]? = some (.cells cur e (0, 0))) (hl : off + v.cells.size ≤ cur.size)
    (h1 : ∀ u ∈ v.cells.toList, u.oneCell' = true) :
    (storeVar T ⟨b, off, none⟩ v).run P w = .ok () (w.setRow b (cur.toList.take off ++ v.cells.toList ++ cur.toList.drop (off + v.cells.toList.length)).toArray) := by
  have h := run_storeCells_at (P := P) b off e v.cells.toList 0 cur w hb (by simpa using hl) h1
  simp only [Nat.add_zero] at h
  simp [storeVar, sz_run hsz, h]


/-- Values of the cells of a value, as a list. -/
theorem cells_list {a : AV} {v : Value} (hv : VRep w ok μ a v) (h1 : allA oneA (cellsOf a) = true) :
    (cellsOf a).length = v.cells.toList.length ∧ (∀ u ∈ v.cells.toList, u.oneCell' = true) ∧ ∀ (j : Nat) (b : AV), (cellsOf a)[j]? = some b → ∃ u, v.cells.toList[j]? = some u ∧ u.oneCell' = true ∧ VRep w ok μ b u := by
  obtain ⟨h2, h3⟩ := cellsOf_rep hv h1
  refine ⟨by simpa using h2, fun u hu => ?_, fun j b hb => by simpa using h3 j b hb⟩
  obtain ⟨j, hj⟩ := List.getElem?_of_mem hu
  have hlt : j < (cellsOf a).length := by
    have := (List.getElem?_eq_some_iff.1 hj).1
    simp at this; omega
  obtain ⟨u', a1, a2, _⟩ := h3 j _ (List.getElem?_eq_getElem hlt)
  rw [Array.getElem?_toList] at hj
  rw [a1] at hj
  simp at hj
  exact hj ▸ a2

/-- A block of cells is written in the middle. -/
theorem HSim.writeCells (hs : HSim B ok μ h w) {l b off : Nat} {cs ds : List AV} {vs : List Value} {cur : Array Value} {e : TypeId} (hl : h l = .cells cs) (hμ : μ l = .at b)
    (hb : w.heap[b]? = some (.cells cur e (0, 0))) (hcell : Cells w ok μ cur 0 cs) (hlen : ds.length = vs.length) (hoff : off + vs.length ≤ cs.length)
    (hd : ∀ (j : Nat) (a : AV), ds[j]? = some a → ∃ u, vs[j]? = some u ∧ u.oneCell' = true ∧ VRep w ok μ a u) :
    let w' := w.setRow b (cur.toList.take off ++ vs ++ cur.toList.drop (off + vs.length)).toArray
    HSim B ok μ (upd h l (.cells (overlay cs off ds))) w' ∧ Step ok μ w ok μ w' := by
  intro w'
  have hlive : live (h l) = true := by rw [hl]; rfl
  have hblk : (μ l).blk? = some b := by rw [hμ]; rfl
  have hkeeps : Keeps ok w w' := (Kept.setRow (w := w) (g := b)).keeps fun g hg => ⟨hs.okb g hg, fun e => (hs.nok l b hlive hblk).1 (e ▸ hg)⟩
  have hstep : Step ok μ w ok μ w' := ⟨hkeeps, fun _ x => x, fun _ _ => rfl⟩
  have hcs : cs.length ≤ cur.size := by
    rcases Nat.eq_zero_or_pos cs.length with h0 | h0
    · omega
    · obtain ⟨u, hu, _⟩ := hcell (cs.length - 1) _ (List.getElem?_eq_getElem (by omega))
      have := (Array.getElem?_eq_some_iff.1 hu).1
      omega
  refine ⟨hs.write hlive hblk Kept.setRow ?_, hstep⟩
  rw [hμ]
  refine .cells b _ _ e (setRow_heap w b cur _ e _ hb) fun j a ha => ?_
  rw [Nat.zero_add, splice_get _ _ _ _ (by simp; omega)]
  rcases overlay_get ds cs off j a (by omega) ha with ⟨h1, h2, h3⟩ | ⟨h1, h2⟩
  · obtain ⟨u, u1, u2, u3⟩ := hd _ _ h3
    exact ⟨u, by rw [if_pos ⟨h1, by omega⟩]; exact u1, u2, u3.step hstep⟩
  · obtain ⟨u, u1, u2, u3⟩ := hcell j a h2
    exact ⟨u, by rw [if_neg (by omega)]; simpa using u1, u2, u3.step hstep⟩

/-! elements given up -/
omit C in
theorem same_eq {t t' : D.Tag} (h : same t t' = true) : t' = t := of_decide_eq_true h

theorem coerce1_sound {q : CK} {a b : AV} {h' : Hp} {g : Lg} (hc : coerce1 q a h = some (b, h', g)) (hs : HSim B ok μ h w) :
    ∃ ok', HSim B ok' μ h' w ∧ Step ok μ w ok' μ w ∧ (∀ l, h l = .dead → h' l = .dead) ∧ g.nw = [] ∧ ∀ u, VRep w ok μ a u → VRep w ok' μ b u := by
  have idem : ∀ {g : Lg}, g.nw = [] → ∃ ok', HSim B ok' μ h w ∧ Step ok μ w ok' μ w ∧ (∀ l, h l = .dead → h l = .dead) ∧ g.nw = [] ∧ ∀ u, VRep w ok μ a u → VRep w ok' μ a u :=
    fun hg => ⟨ok, hs, Step.refl _ _ _, fun _ x => x, hg, fun _ x => x⟩
  unfold coerce1 at hc
  split at hc
  · obtain ⟨rfl, rfl, rfl⟩ : _ = b ∧ h = h' ∧ _ = g := by simpa using hc
    exact ⟨ok, hs, Step.refl _ _ _, fun _ x => x, rfl, fun u hu => by cases hu; exact .immNil _⟩
  · rename_i t t' xs
    cases hsm : same t t' <;> rw [hsm] at hc
    · simp at hc
    · obtain ⟨rfl, rfl, rfl⟩ : _ = b ∧ h = h' ∧ _ = g := by simpa using hc
      exact idem rfl
  · rename_i t l
    split at hc
    · rename_i t' xs hl
      cases hsm : same t t' <;> rw [hsm] at hc
      · simp at hc
      · obtain ⟨rfl, rfl, rfl⟩ : _ = b ∧ _ = h' ∧ _ = g := by simpa using hc
        obtain ⟨ok', k1, k2, k3, _⟩ := hs.freeze hl
        refine ⟨ok', k2, ⟨Keeps.refl _ _, k1, fun _ _ => rfl⟩, fun i hi => ?_, rfl, fun u hu => ?_⟩
        · by_cases e : i = l
          · subst e; rw [hl] at hi; simp at hi
          · rw [upd_ne h _ e]; exact hi
        · cases hu with
          | sl l b o n cap k hμ =>
            rw [hμ] at k3
            cases k3 with
            | fz b o cap t xs h1 h2 u h3 h4 => exact .imm _ _ b o cap h1 h2 u h3 h4
          | slNil l hμ =>
            rw [hμ] at k3
            cases k3
            exact .immNil _
    · rename_i t' xs hl
      cases hsm : same t t' <;> rw [hsm] at hc
      · simp at hc
      · obtain ⟨rfl, rfl, rfl⟩ : _ = b ∧ h = h' ∧ _ = g := by simpa using hc
        refine ⟨ok, hs, Step.refl _ _ _, fun _ x => x, rfl, fun u hu => ?_⟩
        have k3 := hs.rep l
        rw [hl] at k3
        cases hu with
        | sl l b o n cap k hμ =>
          rw [hμ] at k3
          cases k3 with
          | fz b o cap t xs h1 h2 u h3 h4 => exact .imm _ _ b o cap h1 h2 u h3 h4
        | slNil l hμ =>
          rw [hμ] at k3
          cases k3
          exact .immNil _
    · simp at hc
  · rename_i x
    cases hf : flatV x <;> rw [hf] at hc
    · simp at hc
    · obtain ⟨rfl, rfl, rfl⟩ : _ = b ∧ h = h' ∧ _ = g := by simpa using hc
      exact idem rfl
  · obtain ⟨rfl, rfl, rfl⟩ : _ = b ∧ h = h' ∧ _ = g := by simpa using hc
    exact idem rfl
  · rename_i t t' x
    cases hsm : same t t' <;> rw [hsm] at hc
    · simp at hc
    · obtain ⟨rfl, rfl, rfl⟩ : _ = b ∧ h = h' ∧ _ = g := by simpa using hc
      exact idem rfl
  · simp at hc

omit C in
theorem coerce1_free {q : CK} {a b : AV} {h' : Hp} {g : Lg} (hc : coerce1 q a h = some (b, h', g)) : locfree b = true := by
  unfold coerce1 at hc
  split at hc
  · obtain ⟨rfl, _⟩ : _ = b ∧ _ := by simpa using hc
    rfl
  · rename_i t t' xs
    cases hsm : same t t' <;> rw [hsm] at hc
    · simp at hc
    · obtain ⟨rfl, _⟩ : _ = b ∧ _ := by simpa using hc
      rfl
  · rename_i t l
    split at hc
    · rename_i t' xs hl
      cases hsm : same t t' <;> rw [hsm] at hc
      · simp at hc
      · obtain ⟨rfl, _⟩ : _ = b ∧ _ := by simpa using hc
        rfl
    · rename_i t' xs hl
      cases hsm : same t t' <;> rw [hsm] at hc
      · simp at hc
      · obtain ⟨rfl, _⟩ : _ = b ∧ _ := by simpa using hc
        rfl
    · simp at hc
  · rename_i x
    cases hf : flatV x <;> rw [hf] at hc
    · simp at hc
    · obtain ⟨rfl, _⟩ : _ = b ∧ _ := by simpa using hc
      exact hf
  · obtain ⟨rfl, _⟩ : _ = b ∧ _ := by simpa using hc
    rfl
  · rename_i t t' x
    cases hsm : same t t' <;> rw [hsm] at hc
    · simp at hc
    · obtain ⟨rfl, _⟩ : _ = b ∧ _ := by simpa using hc
      rfl
  · simp at hc

theorem coerce_sound : ∀ {qs : List CK} {as bs : List AV} {h h' : Hp} {ok : Nat → Prop} {g : Lg}, coerce qs as h = some (bs, h', g) → HSim B ok μ h w →
    ∃ ok', HSim B ok' μ h' w ∧ Step ok μ w ok' μ w ∧ (∀ l, h l = .dead → h' l = .dead) ∧ g.nw = [] ∧ bs.length = as.length ∧ allA locfree bs = true ∧
      ∀ (j : Nat) (b : AV), bs[j]? = some b → ∃ a, as[j]? = some a ∧ ∀ u, VRep w ok μ a u → VRep w ok' μ b u
  | [], [], bs, h, h', ok, g, hc, hs => by
    obtain ⟨rfl, rfl, rfl⟩ : [] = bs ∧ h = h' ∧ _ = g := by simpa [coerce] using hc
    exact ⟨ok, hs, Step.refl _ _ _, fun _ x => x, rfl, rfl, rfl, fun j b hb => by simp at hb⟩
  | q :: qs, a :: as, bs, h, h', ok, g, hc, hs => by
    simp only [coerce] at hc
    split at hc
    · rename_i b h1 g1 hc1
      split at hc
      · rename_i bs' h2 g2 hc2
        obtain ⟨rfl, rfl, rfl⟩ : _ = bs ∧ _ = h' ∧ _ = g := by simpa using hc
        obtain ⟨ok1, a1, a2, a3, a4, a5⟩ := coerce1_sound hc1 hs
        obtain ⟨ok2, b1, b2, b3, b4, b5, b6, b7⟩ := coerce_sound hc2 a1
        refine ⟨ok2, b1, a2.trans b2, fun l hl => b3 l (a3 l hl), by simp [Lg.join, a4, b4], by simp [b5], by simp [allA, b6, coerce1_free hc1], fun j b' hb => ?_⟩
        cases j with
        | zero => simp at hb; subst hb; exact ⟨a, rfl, fun u hu => (a5 u hu).step b2⟩
        | succ j =>
          obtain ⟨c, c1, c2⟩ := b7 j b' (by simpa using hb)
          exact ⟨c, by simpa using c1, fun u hu => c2 u (hu.step a2)⟩
      · simp at hc
    · simp at hc
  | [], _ :: _, _, _, _, _, _, hc, _ => by simp [coerce] at hc
  | _ :: _, [], _, _, _, _, _, hc, _ => by simp [coerce] at hc

end
end Go.Abs

/-
  Soundness of the abstract machine, fourth part: the operations that write or make memory.
-/
namespace Go.Abs

section
variable [D : Dom] [C : Coding] {P : Program}
variable {B : Base} {w w' : World} {ok ok' : Nat → Prop} {μ μ' : Nat → Pl} {F : FS} {h : Hp}

omit D C in
theorem mulk {i i' k j off n : Nat} (hne : i' ≠ i) (hj : j < k) (hoff : off + n ≤ k) : ¬ (i * k + off ≤ i' * k + j ∧ i' * k + j < i * k + off + n) := by
  rcases Nat.lt_or_gt_of_ne hne with hl | hl
  · have : (i' + 1) * k ≤ i * k := Nat.mul_le_mul_right _ hl
    rw [Nat.add_mul, Nat.one_mul] at this
    omega
  · have : (i + 1) * k ≤ i' * k := Nat.mul_le_mul_right _ hl
    rw [Nat.add_mul, Nat.one_mul] at this
    omega

omit D C in
theorem set_get {α : Type} {xs : List α} {i j : Nat} {x y : α} (h : (setE xs i y)[j]? = some x) : (j = i ∧ x = y) ∨ (j ≠ i ∧ xs[j]? = some x) := by
  unfold setE at h
  rw [List.getElem?_set] at h
  by_cases e : i = j
  · rw [if_pos e] at h
    split at h
    · simp at h; exact .inl ⟨e.symm, h.symm⟩
    · simp at h
  · rw [if_neg e] at h
    exact .inr ⟨fun x => e x.symm, h⟩

theorem storeA_sound {α : Type} [L : Lawful P] {n : Nat} {T : Nat} {a v : AV} {av vv : Value} {K : Hp → Lg → Option α} {r : α} (hst : storeA P h n T a v K = some r)
    (hs : HSim B ok μ h w) (ha : VRep w ok μ a av) (hv : VRep w ok μ v vv)
    (hf : ∀ h' g, K h' g = some r → ∀ l, n ≤ l → l < n + g.nw.length → h l = .dead ∧ μ l = .gone) :
    ∃ h' g ok' μ' w', K h' g = some r ∧ (Instr.storeAt T av vv).run P w = .ok () w' ∧ HSim B ok' μ' h' w' ∧ Step ok μ w ok' μ' w' ∧
      ∀ l, (n + g.nw.length ≤ l ∨ l < n) → h l = .dead ∧ μ l = .gone → h' l = .dead ∧ μ' l = .gone := by
  unfold storeA at hst
  split at hst
  · simp at hst
  · rename_i sz hsz
    cases hc : (lenIs sz (cellsOf v) && allA oneA (cellsOf v) && Nat.ble 1 sz) <;> rw [hc] at hst
    · simp at hst
    · simp only [cond_true] at hst
      rw [Bool.and_eq_true, Bool.and_eq_true] at hc
      have h1sz : 1 ≤ sz := Nat.le_of_ble_eq_true hc.2
      replace hc := hc.1
      have hlen := lenIs_eq hc.1
      obtain ⟨c1, c2, c3⟩ := cells_list hv hc.2
      have hsz' : sz? P T = some vv.cells.size := by rw [hsz, ← hlen, c1]; simp
      cases ha with
      | ptr l off b hμ =>
        simp only at hst
        generalize hu : unnil (slots P 8 T) (cellsOf v) h n = x at hst
        obtain ⟨ds, h1, ns⟩ := x
        simp only at hst
        split at hst
        · rename_i cs hl
          split at hst
          · rename_i _ hp
            obtain ⟨_, p2, _⟩ := piece_some hp
            have hfr := hf _ _ hst
            obtain ⟨μ1, u1, u2, u3, u4, u5⟩ := unnil_sound _ _ _ _ _ hu hs hfr
            have hnd : ∀ i, n ≤ i → i < n + ns.length → i ≠ l := fun i h1 h2 e => by
              have := (hfr i h1 h2).1; rw [e, hl] at this; simp at this
            have hl1 : h1 l = .cells cs ∧ μ1 l = .at b := by
              have := u3 l (by
                rcases Nat.lt_or_ge l n with h' | h'
                · exact .inl h'
                · rcases Nat.lt_or_ge l (n + ns.length) with h'' | h''
                  · exact (hnd l h' h'' rfl).elim
                  · exact .inr h'')
              exact ⟨this.1.trans hl, this.2.trans hμ⟩
            have hr := u1.rep l
            rw [hl1.1, hl1.2] at hr
            cases hr with
            | cells b cs cur e b1 b2 =>
              have hstep1 : Step ok μ w ok μ1 w := ⟨Keeps.refl _ _, fun _ x => x, u2⟩
              have hoff : off + vv.cells.toList.length ≤ cs.length := by
                rw [← c1, hlen]
                rw [if_neg (by omega)] at p2
                exact p2
              have hcsz : cs.length ≤ cur.size := by
                rcases Nat.eq_zero_or_pos cs.length with h0 | h0
                · omega
                · obtain ⟨u, hu, _⟩ := b2 (cs.length - 1) _ (List.getElem?_eq_getElem (by omega))
                  have := (Array.getElem?_eq_some_iff.1 hu).1
                  omega
              have hwr := u1.writeCells (ds := ds) (vs := vv.cells.toList) (off := off) hl1.1 hl1.2 b1 b2 (by rw [u4, c1]) hoff (fun j d hd => by
                obtain ⟨c, k1, k2⟩ := u5 j d hd
                obtain ⟨u, k3, k4, k5⟩ := c3 j c k1
                exact ⟨u, k3, k4, k2 u k5⟩)
              refine ⟨_, _, ok, μ1, _, hst, ?_, hwr.1, hstep1.trans hwr.2, fun i hi hd => ?_⟩
              · have := storeVar_run (P := P) (T := T) (b := b) (off := off) (v := vv) hsz' b1 (by simp at hoff; omega) c2
                simp only [Instr.storeAt, Instr.sureAddr, Sem.run_bind, Sem.run_pure, Result.andThen_ok]
                exact this
              · have h3 := u3 i (by simp only at hi; omega)
                have hne : i ≠ l := fun e => by rw [e, hl] at hd; simp at hd
                exact ⟨by rw [upd_ne h1 _ hne, h3.1]; exact hd.1, by rw [h3.2]; exact hd.2⟩
          · simp at hst
        · simp at hst
      | ept l i off b o n' cap k hμ =>
        simp only at hst
        split at hst
        · rename_i t xs hl
          split at hst
          · rename_i x hx
            split at hst
            · rename_i _ hp
              obtain ⟨_, p2, _⟩ := piece_some hp
              split at hst
              · rename_i cs h1 g1 hco
                split at hst
                · rename_i y hy
                  split at hst
                  · rename_i t1 xs1 hl1
                    have hy' := L.dec_enc t cs y hy
                    obtain ⟨ok1, k1, k2, k3, k4, k5, k6, k7⟩ := coerce_sound hco hs
                    have hr1 := k1.rep l
                    rw [hl1, hμ] at hr1
                    have hr := hs.rep l
                    rw [hl, hμ] at hr
                    have henc : (C.enc t x).length = C.k t := L.enc_len t x
                    rw [if_neg (by omega), henc] at p2
                    cases hr with
                    | arr b o cap t xs cur e b1 b2 b3 b4 =>
                      have hilt : i < xs.length := (List.getElem?_eq_some_iff.1 hx).1
                      have hk : o + i * C.k t + C.k t ≤ cur.size := by
                        have : (i + 1) * C.k t ≤ cap * C.k t := Nat.mul_le_mul_right _ (by omega)
                        rw [Nat.add_mul, Nat.one_mul] at this
                        omega
                      have hlive1 : live (h1 l) = true := by rw [hl1]; rfl
                      have hw : o + i * C.k t + off + vv.cells.toList.length ≤ cur.toList.length := by rw [← c1, hlen]; simp; omega
                      let w1 := w.setRow b (cur.toList.take (o + i * C.k t + off) ++ vv.cells.toList ++ cur.toList.drop (o + i * C.k t + off + vv.cells.toList.length)).toArray
                      have hkeeps : Keeps ok1 w w1 := (Kept.setRow (w := w) (g := b)).keeps fun g hg => ⟨k1.okb g hg, fun e => (k1.nok l b hlive1 (by rw [hμ]; rfl)).1 (e ▸ hg)⟩
                      have hstep1 : Step ok1 μ w ok1 μ w1 := ⟨hkeeps, fun _ x => x, fun _ _ => rfl⟩
                      refine ⟨_, _, ok1, μ, w1, hst, ?_, k1.write (g := b) hlive1 (by rw [hμ]; rfl) Kept.setRow ?_, k2.trans hstep1, fun j hj hd => ⟨?_, hd.2⟩⟩
                      · have := storeVar_run (P := P) (T := T) (b := b) (off := o + i * C.k t + off) (v := vv) hsz' b1 (by simpa using hw) c2
                        simp only [Instr.storeAt, Instr.sureAddr, Sem.run_bind, Sem.run_pure, Result.andThen_ok]
                        exact this
                      · rw [hμ]
                        have hrow : (setE xs i y).length = xs.length := by simp [setE]
                        rw [← hrow]
                        refine .arr b o cap t (setE xs i y) _ e (setRow_heap w b cur _ e _ b1) (by omega) (by rw [splice_size _ _ _ hw]; simpa using b3) fun i' z hz j a ha => ?_
                        rw [splice_get _ _ _ _ hw]
                        rcases set_get hz with ⟨rfl, rfl⟩ | ⟨hne, hz⟩
                        · rw [hy'] at ha
                          obtain ⟨a0, a1, a2⟩ := k7 j a ha
                          rcases overlay_get _ _ _ _ _ (by rw [henc, hlen]; exact p2) a1 with ⟨q1, q2, q3⟩ | ⟨q1, q2⟩
                          · obtain ⟨u, v1, v2, v3⟩ := c3 _ _ q3
                            refine ⟨u, ?_, v2, (a2 u v3).step hstep1⟩
                            rw [if_pos (by rw [← c1]; omega)]
                            rw [show o + i' * C.k t + j - (o + i' * C.k t + off) = j - off by omega]
                            exact v1
                          · obtain ⟨u, v1, v2, v3⟩ := b4 i' x hx j a0 q2
                            refine ⟨u, ?_, v2, (a2 u v3).step hstep1⟩
                            rw [if_neg (by rw [← c1]; omega)]
                            simpa using v1
                        · obtain ⟨u, v1, v2, v3⟩ := b4 i' z hz j a ha
                          refine ⟨u, ?_, v2, (v3.step k2).step hstep1⟩
                          have hj : j < C.k t := by rw [← L.enc_len t z]; exact (List.getElem?_eq_some_iff.1 ha).1
                          have := mulk (n := vv.cells.toList.length) hne hj (by rw [← c1, hlen]; exact p2)
                          rw [if_neg (by omega)]
                          simpa using v1
                      · have hne : j ≠ l := fun e => by rw [e, hl] at hd; simp at hd
                        rw [upd_ne h1 _ hne]
                        exact k3 j hd.1
                  · simp at hst
                · simp at hst
              · simp at hst
            · simp at hst
          · simp at hst
        · simp at hst
      | _ => simp at hst

end
end Go.Abs

/-
  Soundness of the abstract machine, fifth part: new blocks; literals; append.
-/
namespace Go.Abs

section
variable [D : Dom] [C : Coding] {P : Program}
variable {B : Base} {w w' : World} {ok ok' : Nat → Prop} {μ μ' : Nat → Pl} {F : FS} {h : Hp}

/-- A new block of cells, its nil slices as places of their own. -/
theorem HSim.newCells (hs : HSim B ok μ h w) {qs : List (Option D.Tag)} {cs ds : List AV} {h1 : Hp} {n : Nat} {ns : List Nat} {vs : Array Value} {e : TypeId} (hu : unnil qs cs h (n + 1) = (ds, h1, ns))
    (hc : ∀ (j : Nat) (a : AV), cs[j]? = some a → ∃ u, vs[j]? = some u ∧ u.oneCell' = true ∧ VRep w ok μ a u) (hf : ∀ l, n ≤ l → l < n + 1 + ns.length → h l = .dead ∧ μ l = .gone) :
    ∃ μ', HSim B ok μ' (upd h1 n (.cells ds)) (w.alloc (.cells vs e)) ∧ Step ok μ w ok μ' (w.alloc (.cells vs e)) ∧ μ' n = .at w.heap.size ∧
      ∀ l, (n + 1 + ns.length ≤ l ∨ l < n) → h l = .dead ∧ μ l = .gone → upd h1 n (.cells ds) l = .dead ∧ μ' l = .gone := by
  obtain ⟨μ1, u1, u2, u3, u4, u5⟩ := unnil_sound _ _ _ _ _ hu hs (fun l h1 h2 => hf l (by omega) h2)
  have hn := hf n (Nat.le_refl _) (by omega)
  have hn1 := u3 n (.inl (by omega))
  have hkept : Kept (fun _ => False) w (w.alloc (.cells vs e)) := Kept.alloc rfl rfl rfl rfl
  have hkeeps : Keeps ok w (w.alloc (.cells vs e)) := hkept.keeps fun b hb => ⟨hs.okb b hb, id⟩
  have hne : ∀ l, μ l ≠ .gone → l ≠ n := fun l hl e => hl (e ▸ hn.2)
  have hstep : Step ok μ w ok (updP μ1 n (.at w.heap.size)) (w.alloc (.cells vs e)) := ⟨hkeeps, fun _ x => x, fun l hl => by rw [updP_ne μ1 _ (hne l hl)]; exact u2 l hl⟩
  have hstep1 : Step ok μ1 w ok (updP μ1 n (.at w.heap.size)) (w.alloc (.cells vs e)) := ⟨hkeeps, fun _ x => x, fun l hl => updP_ne μ1 _ (fun e => hl (by rw [e, hn1.2]; exact hn.2))⟩
  refine ⟨updP μ1 n (.at w.heap.size), u1.alloc (hn1.1.trans hn.1) (hn1.2.trans hn.2) hkept (fun g hg => by simp [Pl.blk?] at hg; omega) ?_, hstep, updP_same _ _ _, fun l hl hd => ?_⟩
  · refine .cells _ _ vs e (heap_alloc_new w _) fun j a ha => ?_
    obtain ⟨c, c1, c2⟩ := u5 j a ha
    obtain ⟨u, v1, v2, v3⟩ := hc j c c1
    exact ⟨u, by rw [Nat.zero_add]; exact v1, v2, (c2 u v3).step hstep1⟩
  · have := u3 l (by omega)
    have hne : l ≠ n := by omega
    exact ⟨by rw [upd_ne h1 _ hne, this.1]; exact hd.1, by rw [updP_ne μ1 _ hne, this.2]; exact hd.2⟩

omit D C in
theorem newVar_run (T : TypeId) (v : Value) (w : World) : (newVar T v).run P w = .ok ⟨w.heap.size, 0, none⟩ (w.alloc (.cells v.cells T)) := by
  rfl

omit C in
theorem zeroCells_sound {T : Nat} {cs : List AV} (hz : zeroCells P T = some cs) (h1 : allA oneA cs = true) : ∃ z, (zeroValue T).run P w = .ok z w ∧ cs = z.cells.toList.map .v ∧ ∀ u ∈ z.cells.toList, u.oneCell' = true := by
  unfold zeroCells at hz
  split at hz
  · rename_i i hi
    split at hz
    · rename_i z hz'
      simp at hz
      refine ⟨z, by simp [zeroValue, typeInfo, hi, hz'], hz.symm, fun u hu => ?_⟩
      obtain ⟨j, hj⟩ := List.getElem?_of_mem hu
      have : cs[j]? = some (.v u) := by rw [← hz, List.getElem?_map, hj]; rfl
      exact oneV_one u (allA_get h1 this)
    · simp at hz
  · simp at hz

/-! literals of structs -/
omit D C in
theorem fold_get (off : Nat) : ∀ (vs : List Value) (i : Nat) (cs : Array Value), off + i + vs.length ≤ cs.size →
    ((vs.zipIdx i).foldl (fun cs (p : Value × Nat) => cs.setIfInBounds (off + p.2) p.1) cs).size = cs.size ∧
    ∀ j, ((vs.zipIdx i).foldl (fun cs (p : Value × Nat) => cs.setIfInBounds (off + p.2) p.1) cs)[j]? = if off + i ≤ j ∧ j < off + i + vs.length then vs[j - (off + i)]? else cs[j]?
  | [], i, cs, _ => ⟨rfl, fun j => by rw [if_neg (by simp only [List.length_nil]; omega)]; rfl⟩
  | v :: vs, i, cs, hl => by
    obtain ⟨h1, h2⟩ := fold_get off vs (i + 1) (cs.setIfInBounds (off + i) v) (by simp at hl ⊢; omega)
    refine ⟨by rw [List.zipIdx_cons, List.foldl_cons, h1]; simp, fun j => ?_⟩
    rw [List.zipIdx_cons, List.foldl_cons, h2 j]
    by_cases e : j = off + i
    · subst e
      rw [if_neg (by omega), if_pos (by simp)]
      have : off + i < cs.size := by simp at hl; omega
      simp [Array.getElem?_setIfInBounds, this]
    · by_cases e2 : off + (i + 1) ≤ j ∧ j < off + (i + 1) + vs.length
      · rw [if_pos e2, if_pos (by simp; omega), show j - (off + i) = (j - (off + (i + 1))) + 1 by omega]
        simp
      · rw [if_neg e2, if_neg (by simp; omega), Array.getElem?_setIfInBounds, if_neg (by omega)]

/-- One part of a literal, as the model lays it and as the abstract machine does. -/
theorem lay_part {cs : List AV} {cells : Array Value} {a : AV} {v : Value} {off n : Nat} (hc : cs.length = cells.size) (hr : ∀ (j : Nat) (a : AV), cs[j]? = some a → ∃ u, cells[j]? = some u ∧ u.oneCell' = true ∧ VRep w ok μ a u)
    (hv : VRep w ok μ a v) (h1 : allA oneA (cellsOf a) = true) (hn : (cellsOf a).length = n) (hoff : off + n ≤ cs.length) :
    v.cells.size = n ∧ (overlay cs off (cellsOf a)).length = (v.cells.zipIdx.foldl (fun cs (p : Value × Nat) => cs.setIfInBounds (off + p.2) p.1) cells).size ∧
      ∀ (j : Nat) (b : AV), (overlay cs off (cellsOf a))[j]? = some b → ∃ u, (v.cells.zipIdx.foldl (fun cs (p : Value × Nat) => cs.setIfInBounds (off + p.2) p.1) cells)[j]? = some u ∧ u.oneCell' = true ∧ VRep w ok μ b u := by
  obtain ⟨c1, _, c3⟩ := cells_list hv h1
  have hsz : v.cells.size = n := by rw [← hn, c1]; simp
  have e : v.cells.zipIdx.foldl (fun cs (p : Value × Nat) => cs.setIfInBounds (off + p.2) p.1) cells = (v.cells.toList.zipIdx 0).foldl (fun cs (p : Value × Nat) => cs.setIfInBounds (off + p.2) p.1) cells := by
    rw [← Array.foldl_toList, Array.toList_zipIdx]
  obtain ⟨f1, f2⟩ := fold_get off v.cells.toList 0 cells (by simp; omega)
  rw [e]
  refine ⟨hsz, by rw [overlay_len, f1, hc], fun j b hb => ?_⟩
  rw [f2 j]
  rcases overlay_get _ _ _ _ _ (by omega) hb with ⟨h1, h2, h3⟩ | ⟨h1, h2⟩
  · obtain ⟨u, u1, u2, u3⟩ := c3 _ _ h3
    exact ⟨u, by rw [if_pos (by rw [← c1]; omega)]; exact u1, u2, u3⟩
  · obtain ⟨u, u1, u2, u3⟩ := hr j b h2
    exact ⟨u, by rw [if_neg (by rw [← c1]; omega)]; exact u1, u2, u3⟩

theorem fillA_sound {st : St} {tmps : Array Value} (ht : TRep w ok μ st.tm tmps) (ds : List Deferred) {T : Nat} {fields : Array Field} (hu : P.underlying T = some (.struct fields)) (place : Nat → Option (Nat × Nat))
    (hp : ∀ i f, fields[i]? = some f → ∀ n, sz? P f.type = some n → place i = some (f.offset, n)) :
    ∀ (ps : List (Nat × Operand)) (cs out : List AV) (cells : Array Value), fillA P T st ps cs = some out → cs.length = cells.size →
      (∀ (j : Nat) (a : AV), cs[j]? = some a → ∃ u, cells[j]? = some u ∧ u.oneCell' = true ∧ VRep w ok μ a u) →
      ∃ res, Instr.fill place cells (ps.map fun (i, x) => (i, (Act.mk tmps ds).eval x)) = some res ∧ out.length = res.size ∧
        ∀ (j : Nat) (a : AV), out[j]? = some a → ∃ u, res[j]? = some u ∧ u.oneCell' = true ∧ VRep w ok μ a u
  | [], cs, out, cells, hfl, hc, hr => by
    simp [fillA] at hfl; subst hfl
    exact ⟨cells, rfl, hc, hr⟩
  | (i, x) :: ps, cs, out, cells, hfl, hc, hr => by
    simp only [fillA] at hfl
    split at hfl
    · rename_i off ft hft
      split at hfl
      · rename_i n hn
        split at hfl
        · rename_i a ha
          cases hb : (lenIs n (cellsOf a) && allA oneA (cellsOf a) && Nat.ble 1 n) <;> rw [hb] at hfl
          · simp at hfl
          · simp only [cond_true] at hfl
            rw [Bool.and_eq_true, Bool.and_eq_true] at hb
            have h1n : 1 ≤ n := Nat.le_of_ble_eq_true hb.2
            replace hb := hb.1
            split at hfl
            · rename_i _ hpc
              obtain ⟨p1, p2, _⟩ := piece_some hpc
              have hlen := lenIs_eq hb.1
              have hoff : off + n ≤ cs.length := by rw [if_neg (by omega)] at p2; exact p2
              obtain ⟨f, hf1, hf2⟩ : ∃ f, fields[i]? = some f ∧ (f.offset, f.type) = (off, ft) := by
                unfold fieldT at hft
                rw [hu] at hft
                simp only at hft
                split at hft
                · rename_i f hf; simp at hft; exact ⟨f, hf, by simp [hft]⟩
                · simp at hft
              simp only [Prod.mk.injEq] at hf2
              have hplace := hp i f hf1 n (by rw [hf2.2]; exact hn)
              rw [hf2.1] at hplace
              · obtain ⟨l1, l2, l3⟩ := lay_part hc hr (evalA_rep ht ha ds) hb.2 hlen hoff
                obtain ⟨res, r1, r2, r3⟩ := fillA_sound ht ds hu place hp ps _ out _ hfl l2 l3
                refine ⟨res, ?_, r2, r3⟩
                simp only [List.map_cons, Instr.fill, hplace, l1]
                rw [if_neg (by simp; omega)]
                exact r1
            · simp at hfl
        · simp at hfl
      · simp at hfl
    · simp at hfl

end
end Go.Abs

/-
  Soundness of the abstract machine, sixth part: literals of slices; append.
-/
namespace Go.Abs

section
variable [D : Dom] [C : Coding] {P : Program}
variable {B : Base} {w w' : World} {ok ok' : Nat → Prop} {μ μ' : Nat → Pl} {F : FS} {h : Hp}

omit C in
theorem coerce1_one {q : CK} {a : AV} {x : AV × Hp × Lg} (hc : coerce1 q a h = some x) : oneA a = true := by
  unfold coerce1 at hc
  split at hc <;> first | rfl | skip
  · rename_i y
    cases hf : flatV y <;> rw [hf] at hc
    · simp at hc
    · exact flat_one _ hf
  · simp at hc

omit C in
theorem coerce_one : ∀ {qs : List CK} {as bs : List AV} {h h' : Hp} {g : Lg}, coerce qs as h = some (bs, h', g) → allA oneA as = true
  | [], [], _, _, _, _, _ => rfl
  | q :: qs, a :: as, bs, h, h', g, hc => by
    simp only [coerce] at hc
    split at hc
    · rename_i b h1 g1 hc1
      split at hc
      · rename_i bs' h2 g2 hc2
        simp [allA, coerce1_one hc1, coerce_one hc2]
      · simp at hc
    · simp at hc
  | [], _ :: _, _, _, _, _, hc => by simp [coerce] at hc
  | _ :: _, [], _, _, _, _, hc => by simp [coerce] at hc

/-- A value as an element. -/
theorem elOf_sound [L : Lawful P] {t : D.Tag} {a : AV} {v : Value} {x : D.El t} {h' : Hp} {g : Lg} (he : elOf t a h = some (x, h', g)) (hs : HSim B ok μ h w) (hv : VRep w ok μ a v) :
    ∃ ok', HSim B ok' μ h' w ∧ Step ok μ w ok' μ w ∧ (∀ l, h l = .dead → h' l = .dead) ∧ g.nw = [] ∧ v.cells.size = C.k t ∧ allA oneA (cellsOf a) = true ∧ (∀ u ∈ v.cells.toList, u.oneCell' = true) ∧
      ∀ (j : Nat) (b : AV), (C.enc t x)[j]? = some b → ∃ u, v.cells.toList[j]? = some u ∧ u.oneCell' = true ∧ VRep w ok' μ b u := by
  unfold elOf at he
  split at he
  · rename_i cs h1 g1 hco
    split at he
    · rename_i y hy
      obtain ⟨rfl, rfl, rfl⟩ : y = x ∧ h1 = h' ∧ g1 = g := by simpa using he
      obtain ⟨ok1, k1, k2, k3, k4, k5, k6, k7⟩ := coerce_sound hco hs
      have h1 := coerce_one hco
      obtain ⟨c1, c2, c3⟩ := cells_list hv h1
      have hy' := L.dec_enc t cs y hy
      refine ⟨ok1, k1, k2, k3, k4, ?_, h1, c2, fun j b hb => ?_⟩
      · have := L.enc_len t y
        rw [hy', k5, c1] at this
        simpa using this
      · rw [hy'] at hb
        obtain ⟨a0, a1, a2⟩ := k7 j b hb
        obtain ⟨u, u1, u2, u3⟩ := c3 j a0 a1
        exact ⟨u, u1, u2, a2 u u3⟩
    · simp at he
  · simp at he

theorem partsA_sound [L : Lawful P] {st : St} {tmps : Array Value} (ds : List Deferred) {t : D.Tag} : ∀ (ps : List (Nat × Operand)) (i : Nat) (h h' : Hp) (ok : Nat → Prop) (cells : Array Value) (xs : List (D.El t)) (g : Lg),
    partsA t st i ps h = some (xs, h', g) → HSim B ok μ h w → TRep w ok μ st.tm tmps → (i + ps.length) * C.k t ≤ cells.size →
    ∃ ok' res, Instr.fill (fun i => some (i * C.k t, C.k t)) cells (ps.map fun (i, x) => (i, (Act.mk tmps ds).eval x)) = some res ∧ res.size = cells.size ∧ HSim B ok' μ h' w ∧ Step ok μ w ok' μ w ∧ (∀ l, h l = .dead → h' l = .dead) ∧
      g.nw = [] ∧ xs.length = ps.length ∧ (∀ j, j < i * C.k t → res[j]? = cells[j]?) ∧
      ∀ (m : Nat) (x : D.El t), xs[m]? = some x → ∀ (j : Nat) (b : AV), (C.enc t x)[j]? = some b → ∃ u, res[(i + m) * C.k t + j]? = some u ∧ u.oneCell' = true ∧ VRep w ok' μ b u
  | [], i, h, h', ok, cells, xs, g, hp, hs, _, _ => by
    obtain ⟨rfl, rfl, rfl⟩ : [] = xs ∧ h = h' ∧ _ = g := by simpa [partsA] using hp
    exact ⟨ok, cells, rfl, rfl, hs, Step.refl _ _ _, fun _ x => x, rfl, rfl, fun _ _ => rfl, fun m x hx => by simp at hx⟩
  | (i', x) :: ps, i, h, h', ok, cells, xs, g, hp, hs, ht, hsz => by
    simp only [partsA] at hp
    cases hi : Nat.beq i i' <;> rw [hi] at hp
    · simp at hp
    · have hi := Nat.eq_of_beq_eq_true hi
      subst hi
      simp only [cond_true] at hp
      split at hp
      · rename_i a ha
        split at hp
        · rename_i y h1 g1 he
          split at hp
          · rename_i ys h2 g2 hr
            obtain ⟨rfl, rfl, rfl⟩ : _ = xs ∧ h2 = h' ∧ _ = g := by simpa using hp
            obtain ⟨ok1, a1, a2, a3, a4, a5, a6, a7, a8⟩ := elOf_sound (P := P) he hs (evalA_rep ht ha ds)
            have hk : i * C.k t + C.k t ≤ cells.size := by
              have : (i + 1) * C.k t ≤ (i + ((i, x) :: ps).length) * C.k t := Nat.mul_le_mul_right _ (by simp)
              rw [Nat.add_mul, Nat.one_mul] at this
              omega
            obtain ⟨f1, f2⟩ := fold_get (i * C.k t) ((Act.mk tmps ds).eval x).cells.toList 0 cells (by simp; omega)
            have e : ((Act.mk tmps ds).eval x).cells.zipIdx.foldl (fun cs (p : Value × Nat) => cs.setIfInBounds (i * C.k t + p.2) p.1) cells = (((Act.mk tmps ds).eval x).cells.toList.zipIdx 0).foldl (fun cs (p : Value × Nat) => cs.setIfInBounds (i * C.k t + p.2) p.1) cells := by
              rw [← Array.foldl_toList, Array.toList_zipIdx]
            rw [← e] at f1 f2
            obtain ⟨ok2, res, b1, b2, b3, b4, b5, b6, b7, b8, b9⟩ := partsA_sound ds ps (i + 1) h1 h2 ok1 _ ys g2 hr a1 (ht.mono a2.keeps a2.ok a2.pl) (by rw [f1]; simp at hsz ⊢; rw [show i + 1 + ps.length = i + (ps.length + 1) by omega]; exact hsz)
            refine ⟨ok2, res, ?_, b2.trans f1, b3, a2.trans b4, fun l hl => b5 l (a3 l hl), by simp [Lg.join, a4, b6], by simp [b7], fun j hj => ?_, fun m z hz j b hb => ?_⟩
            · simp only [List.map_cons, Instr.fill]
              rw [if_neg (by simp [a5]; omega)]
              exact b1
            · rw [b8 j (by rw [Nat.add_mul, Nat.one_mul]; omega), f2 j, if_neg (by omega)]
            · cases m with
              | zero =>
                simp at hz; subst hz
                obtain ⟨u, u1, u2, u3⟩ := a8 j b hb
                have hj : j < C.k t := by rw [← L.enc_len t y]; exact (List.getElem?_eq_some_iff.1 hb).1
                refine ⟨u, ?_, u2, u3.step b4⟩
                rw [Nat.add_zero, b8 _ (by rw [Nat.add_mul, Nat.one_mul]; omega), f2, if_pos (by simp [a5]; omega)]
                rw [show i * C.k t + j - (i * C.k t + 0) = j by omega]
                exact u1
              | succ m =>
                obtain ⟨u, u1, u2, u3⟩ := b9 m z (by simpa using hz) j b hb
                exact ⟨u, by rw [show i + (m + 1) = i + 1 + m by omega]; exact u1, u2, u3⟩
          · simp at hp
        · simp at hp
      · simp at hp

theorem fpartsA_sound {st : St} {tmps : Array Value} (ht : TRep w ok μ st.tm tmps) (ds : List Deferred) {k : Nat} :
    ∀ (ps : List (Nat × Operand)) (cs out : List AV) (cells : Array Value), fpartsA k st ps cs = some out → cs.length = cells.size →
      (∀ (j : Nat) (a : AV), cs[j]? = some a → ∃ u, cells[j]? = some u ∧ u.oneCell' = true ∧ VRep w ok μ a u) →
      ∃ res, Instr.fill (fun i => some (i * k, k)) cells (ps.map fun (i, x) => (i, (Act.mk tmps ds).eval x)) = some res ∧ out.length = res.size ∧
        ∀ (j : Nat) (a : AV), out[j]? = some a → ∃ u, res[j]? = some u ∧ u.oneCell' = true ∧ VRep w ok μ a u
  | [], cs, out, cells, hfl, hc, hr => by
    simp [fpartsA] at hfl; subst hfl
    exact ⟨cells, rfl, hc, hr⟩
  | (i, x) :: ps, cs, out, cells, hfl, hc, hr => by
    simp only [fpartsA] at hfl
    split at hfl
    · rename_i a ha
      cases hb : (lenIs k (cellsOf a) && allA oneA (cellsOf a) && Nat.ble 1 k) <;> rw [hb] at hfl
      · simp at hfl
      · simp only [cond_true] at hfl
        rw [Bool.and_eq_true, Bool.and_eq_true] at hb
        have h1n : 1 ≤ k := Nat.le_of_ble_eq_true hb.2
        replace hb := hb.1
        split at hfl
        · rename_i _ hpc
          obtain ⟨p1, p2, _⟩ := piece_some hpc
          have hlen := lenIs_eq hb.1
          have hoff : i * k + k ≤ cs.length := by rw [if_neg (by omega)] at p2; exact p2
          obtain ⟨l1, l2, l3⟩ := lay_part hc hr (evalA_rep ht ha ds) hb.2 hlen hoff
          obtain ⟨res, r1, r2, r3⟩ := fpartsA_sound ht ds ps _ out _ hfl l2 l3
          refine ⟨res, ?_, r2, r3⟩
          simp only [List.map_cons, Instr.fill, l1]
          rw [if_neg (by simp; omega)]
          exact r1
        · simp at hfl
    · simp at hfl

omit D C in
theorem flatten_get {α : Type} (z : List α) : ∀ (n j : Nat) (a : α), ((List.replicate n z).flatten)[j]? = some a → z[j % z.length]? = some a ∧ j < n * z.length
  | 0, j, a, h => by simp at h
  | n + 1, j, a, h => by
    rw [List.replicate_succ, List.flatten_cons, List.getElem?_append] at h
    by_cases hj : j < z.length
    · rw [if_pos hj] at h
      rw [Nat.mod_eq_of_lt hj]
      exact ⟨h, by rw [Nat.add_mul]; omega⟩
    · rw [if_neg hj] at h
      obtain ⟨h1, h2⟩ := flatten_get z n (j - z.length) a h
      refine ⟨?_, by rw [Nat.add_mul]; omega⟩
      rwa [Nat.mod_eq_sub_mod (by omega)]

end
end Go.Abs

/-
  Soundness of the abstract machine, seventh part: append.
-/
namespace Go.Abs

section
variable [D : Dom] [C : Coding] {P : Program}
variable {B : Base} {w w' : World} {ok ok' : Nat → Prop} {μ μ' : Nat → Pl} {F : FS} {h : Hp}

/-- A block goes on under another place. -/
theorem HSim.move (hs : HSim B ok μ h w) {l n g : Nat} (hl : live (h l) = true) (hg : (μ l).blk? = some g) (hd : h n = .dead) (hn : μ n = .gone) {p : Pl} {b : Blk} (hp : p.blk? = some g)
    (hk : Kept (fun b => b = g) w w') (hr : BRep w' ok (updP μ n p) p b) : HSim B ok (updP μ n p) (upd (upd h l .dead) n b) w' := by
  have hln : l ≠ n := fun e => by rw [e, hd] at hl; simp [live] at hl
  have hμ : ∀ i, μ i ≠ .gone → updP μ n p i = μ i := fun i hi => updP_ne μ p (fun e => hi (e ▸ hn))
  have hkeeps : Keeps ok w w' := hk.keeps fun b hb => ⟨hs.okb b hb, fun e => (hs.nok l g hl hg).1 (e ▸ hb)⟩
  have hlive : ∀ i, i ≠ n → live (upd (upd h l .dead) n b i) = true → live (h i) = true ∧ i ≠ l := fun i hi hx => by
    rw [upd_ne _ _ hi] at hx
    by_cases e : i = l
    · subst e; rw [upd_same] at hx; simp [live] at hx
    · rw [upd_ne h _ e] at hx; exact ⟨hx, e⟩
  refine ⟨hs.goes.kept hk (fun b e => e ▸ (hs.nok l g hl hg).2), fun i => ?_, fun i j g' hij hi hj hgi hgj => ?_, fun i g' hi hgi => ?_, fun b hb => Nat.lt_of_lt_of_le (hs.okb b hb) hk.size, hs.okm, hs.oko⟩
  · by_cases e : i = n
    · subst e; rw [updP_same, upd_same]; exact hr
    · rw [updP_ne μ p e, upd_ne _ b e]
      by_cases e' : i = l
      · subst e'; rw [upd_same]; exact .dead _
      · rw [upd_ne h _ e']
        exact (hs.rep i).mono hkeeps (fun _ x => x) hμ fun hl' g' hg' => hk.block g' (hs.lt hl' hg') fun e2 => hs.inj i l g' e' hl' hl hg' (e2 ▸ hg)
  · by_cases ei : i = n
    · by_cases ej : j = n
      · exact hij (ei.trans ej.symm)
      · rw [ei, updP_same, hp] at hgi; rw [updP_ne μ p ej] at hgj
        simp at hgi; subst hgi
        obtain ⟨h1, h2⟩ := hlive j ej hj
        exact hs.inj j l g h2 h1 hl hgj hg
    · by_cases ej : j = n
      · rw [ej, updP_same, hp] at hgj; rw [updP_ne μ p ei] at hgi
        simp at hgj; subst hgj
        obtain ⟨h1, h2⟩ := hlive i ei hi
        exact hs.inj i l g h2 h1 hl hgi hg
      · rw [updP_ne μ p ei] at hgi; rw [updP_ne μ p ej] at hgj
        exact hs.inj i j g' hij (hlive i ei hi).1 (hlive j ej hj).1 hgi hgj
  · by_cases e : i = n
    · rw [e, updP_same, hp] at hgi
      simp at hgi; subst hgi
      exact hs.nok l g hl hg
    · rw [updP_ne μ p e] at hgi
      exact hs.nok i g' (hlive i e hi).1 hgi

/-- The cells of a row of elements. -/
def RowCells (w : World) (ok : Nat → Prop) (μ : Nat → Pl) (t : D.Tag) (xs : List (D.El t)) (get : Nat → Option Value) : Prop :=
  ∀ (i : Nat) (x : D.El t), xs[i]? = some x → ∀ (j : Nat) (a : AV), (C.enc t x)[j]? = some a → ∃ u, get (i * C.k t + j) = some u ∧ u.oneCell' = true ∧ VRep w ok μ a u

theorem RowCells.all [L : Lawful P] {t : D.Tag} {xs : List (D.El t)} {get : Nat → Option Value} (hr : RowCells w ok μ t xs get) : ∀ p, p < xs.length * C.k t → ∃ u, get p = some u ∧ u.oneCell' = true := by
  intro p hp
  have hk := L.kpos t
  have hi : p / C.k t < xs.length := Nat.div_lt_of_lt_mul (by rw [Nat.mul_comm]; exact hp)
  have hj : p % C.k t < (C.enc t xs[p / C.k t]).length := by rw [L.enc_len]; exact Nat.mod_lt _ hk
  obtain ⟨u, u1, u2, _⟩ := hr _ _ (List.getElem?_eq_getElem hi) _ _ (List.getElem?_eq_getElem hj)
  rw [Nat.mul_comm, Nat.div_add_mod] at u1
  exact ⟨u, u1, u2⟩

/-- The cells from a place on, as a list. -/
def cellsFrom (w : World) (b o m : Nat) : List Value := (List.range m).map fun p => (w.cell? ⟨b, o + p, none⟩).getD undef

omit D C in
theorem cellsFrom_get {b o m p : Nat} (h : p < m) : (cellsFrom w b o m)[p]? = some ((w.cell? ⟨b, o + p, none⟩).getD undef) := by
  simp [cellsFrom, h]

omit C in
theorem castE_eq {t t' : D.Tag} {xs : List (D.El t')} {ys : List (D.El t)} (h : castE t t' xs = some ys) : ∃ e : t' = t, ys = e ▸ xs := by
  unfold castE at h
  split at h
  · rename_i e; simp at h; exact ⟨e, h.symm⟩
  · simp at h

/-- What is appended. -/
theorem newsA_sound [L : Lawful P] {t : D.Tag} {x : AV} {v : Value} {ys : List (D.El t)} {g : Lg} {T' : Nat} (hn : newsA t h x = some (ys, g)) (hs : HSim B ok μ h w) (hv : VRep w ok μ x v) (hT : isSlice P T' = true) :
    ∃ news : List Value, Src P (C.k t) T' v ys.length news w ∧ RowCells w ok μ t ys (fun p => news[p]?) := by
  obtain ⟨e', hk⟩ : ∃ e', P.underlying T' = some (.slice e') := by
    unfold isSlice at hT
    split at hT
    · rename_i e he; exact ⟨e, he⟩
    · simp at hT
  have row : ∀ {b o cap : Nat} {t' : D.Tag} {xs : List (D.El t')} (e : t' = t), RowCells w ok μ t' xs (fun p => w.cell? ⟨b, o + p, none⟩) →
      ∃ news : List Value, Src P (C.k t) T' (.slice (some ⟨b, o, none⟩) xs.length cap) (e ▸ xs : List (D.El t)).length news w ∧ RowCells w ok μ t (e ▸ xs) (fun p => news[p]?) := by
    intro b o cap t' xs e hr
    subst e
    have hall := hr.all (P := P)
    have hget : ∀ p u, (cellsFrom w b o (xs.length * C.k t'))[p]? = some u → w.cell? ⟨b, o + p, none⟩ = some u ∧ u.oneCell' = true := by
      intro p u hp
      have hlt : p < xs.length * C.k t' := by have := (List.getElem?_eq_some_iff.1 hp).1; simpa [cellsFrom] using this
      obtain ⟨u', u1, u2⟩ := hall p hlt
      rw [cellsFrom_get hlt, u1] at hp
      simp at hp; subst hp
      exact ⟨u1, u2⟩
    refine ⟨cellsFrom w b o (xs.length * C.k t'), Src.ofSlice w hk ⟨b, o, none⟩ _ cap _ (by simp [cellsFrom]) (fun j u hj => by rw [add_none]; exact (hget j u hj).1) (fun u hu => ?_), ?_⟩
    · obtain ⟨j, hj⟩ := List.getElem?_of_mem hu
      exact (hget j u hj).2
    · intro i x hx j a ha
      obtain ⟨u, u1, u2, u3⟩ := hr i x hx j a ha
      have hlt : i * C.k t' + j < xs.length * C.k t' := by
        have h1 : i < xs.length := (List.getElem?_eq_some_iff.1 hx).1
        have h2 : j < C.k t' := by rw [← L.enc_len t' x]; exact (List.getElem?_eq_some_iff.1 ha).1
        have : (i + 1) * C.k t' ≤ xs.length * C.k t' := Nat.mul_le_mul_right _ h1
        rw [Nat.add_mul, Nat.one_mul] at this
        omega
      dsimp only at u1 ⊢
      exact ⟨u, by rw [cellsFrom_get hlt, u1]; rfl, u2, u3⟩
  have nil : ∀ (xs : List (D.El t)), xs = [] → ∃ news : List Value, Src P (C.k t) T' (.slice none 0 0) xs.length news w ∧ RowCells w ok μ t xs (fun p => news[p]?) := by
    rintro xs rfl
    exact ⟨[], Src.ofNil w hk 0, fun i x hx => by simp at hx⟩
  have immrow : ∀ {b o : Nat} {t' : D.Tag} {xs : List (D.El t')} {u : Nat → Nat → Value},
      (∀ (i : Nat) (x : D.El t'), xs[i]? = some x → ∀ (j : Nat) (a : AV), (C.enc t' x)[j]? = some a → w.cell? ⟨b, o + i * C.k t' + j, none⟩ = some (u i j)) →
      (∀ (i : Nat) (x : D.El t'), xs[i]? = some x → ∀ (j : Nat) (a : AV), (C.enc t' x)[j]? = some a → VRep w ok μ a (u i j)) → RowCells w ok μ t' xs (fun p => w.cell? ⟨b, o + p, none⟩) :=
    fun {b o t' xs u} h3 h4 i x hx j a ha => ⟨u i j, by dsimp only; rw [← Nat.add_assoc]; exact h3 i x hx j a ha, free_cells (allA_get (L.enc_free t' x) ha) (h4 i x hx j a ha), h4 i x hx j a ha⟩
  unfold newsA at hn
  cases hv with
  | v =>
    split at hn
    · rename_i hx
      obtain ⟨rfl, _⟩ : [] = ys ∧ _ := by simpa using hn
      cases hx
      exact nil [] rfl
    · rename_i hx; cases hx
    · rename_i hx; cases hx
    · simp at hn
  | immNil t' =>
    simp only at hn
    split at hn
    · rename_i ys' hc
      obtain ⟨rfl, _⟩ : ys' = ys ∧ _ := by simpa using hn
      obtain ⟨e, rfl⟩ := castE_eq hc
      subst e
      exact nil _ rfl
    · simp at hn
  | imm t' xs b o cap h1 h2 u h3 h4 =>
    simp only at hn
    split at hn
    · rename_i ys' hc
      obtain ⟨rfl, _⟩ : ys' = ys ∧ _ := by simpa using hn
      obtain ⟨e, rfl⟩ := castE_eq hc
      exact row e (immrow h3 h4)
    · simp at hn
  | sl l b o n cap k hμ =>
    simp only at hn
    have hr := hs.rep l
    rw [hμ] at hr
    split at hn
    · rename_i t' xs hl
      rw [hl] at hr
      split at hn
      · rename_i ys' hc
        obtain ⟨rfl, _⟩ : ys' = ys ∧ _ := by simpa using hn
        obtain ⟨e, rfl⟩ := castE_eq hc
        cases hr with
        | arr b o cap t' xs cur e' b1 b2 b3 b4 =>
          refine row e fun i x hx j a ha => ?_
          obtain ⟨u, u1, u2, u3⟩ := b4 i x hx j a ha
          exact ⟨u, by dsimp only; rw [cells_cell b1, ← Nat.add_assoc]; exact u1, u2, u3⟩
      · simp at hn
    · rename_i t' xs hl
      rw [hl] at hr
      split at hn
      · rename_i ys' hc
        obtain ⟨rfl, _⟩ : ys' = ys ∧ _ := by simpa using hn
        obtain ⟨e, rfl⟩ := castE_eq hc
        cases hr with
        | fz b o cap t' xs h1 h2 u h3 h4 => exact row e (immrow h3 h4)
      · simp at hn
    · simp at hn
  | slNil l hμ =>
    simp only at hn
    have hr := hs.rep l
    rw [hμ] at hr
    split at hn
    · rename_i t' xs hl
      rw [hl] at hr
      split at hn
      · rename_i ys' hc
        obtain ⟨rfl, _⟩ : ys' = ys ∧ _ := by simpa using hn
        obtain ⟨e, rfl⟩ := castE_eq hc
        cases hr
        subst e
        exact nil _ rfl
      · simp at hn
    · rename_i t' xs hl
      rw [hl] at hr
      split at hn
      · rename_i ys' hc
        obtain ⟨rfl, _⟩ : ys' = ys ∧ _ := by simpa using hn
        obtain ⟨e, rfl⟩ := castE_eq hc
        cases hr
        subst e
        exact nil _ rfl
      · simp at hn
    · simp at hn
  | _ => simp at hn

omit D C in
theorem append_room {T T' ty e : TypeId} {i : TypeInfo} (ht : P.underlying T = some (.slice e)) (hi : P.info? e = some i) {b o n cap : Nat} {x : Value} {m : Nat} {news : List Value} {cur : Array Value} {e' : TypeId}
    (hs : Src P i.size T' x m news w) (hb : w.heap[b]? = some (.cells cur e' (0, 0))) (hroom : n + m ≤ cap) (hfit : o + n * i.size + news.length ≤ cur.size) :
    (Builtin.append_ #[T, T'] ty #[.slice (some ⟨b, o, none⟩) n cap, x]).run P w =
      .ok (.slice (some ⟨b, o, none⟩) (n + m) cap) (w.setRow b (cur.toList.take (o + n * i.size) ++ news ++ cur.toList.drop (o + n * i.size + news.length)).toArray) := by
  have hst := run_storeCells_at (P := P) b (o + n * i.size) e' news 0 cur w hb (by simpa using hfit) hs.one
  simp only [Nat.add_zero] at hst
  rcases hs.kind with ⟨e', hk⟩ | hk <;> simp [Builtin.append_, run_underlying ht, run_underlying hk, sizeOf, typeInfo, hi, hs.len, hroom, hs.cells, add_none, hst]

omit D C in
theorem append_none {T T' ty e : TypeId} {i : TypeInfo} (ht : P.underlying T = some (.slice e)) (hi : P.info? e = some i) {x : Value} {news : List Value} (hs : Src P i.size T' x 0 news w) :
    (Builtin.append_ #[T, T'] ty #[.slice none 0 0, x]).run P w = .ok (.slice none 0 0) w := by
  have := hs.cells
  rcases hs.kind with ⟨e', hk⟩ | hk <;> simp [Builtin.append_, run_underlying ht, run_underlying hk, sizeOf, typeInfo, hi, hs.len, this]

end
end Go.Abs

/-
  Soundness of the abstract machine, eighth part: append, both arms.
-/
namespace Go.Abs

section
variable [D : Dom] [C : Coding] {P : Program}
variable {B : Base} {w w' : World} {ok ok' : Nat → Prop} {μ μ' : Nat → Pl} {F : FS} {h : Hp}

omit C in
theorem kill_dead (h : Hp) (l i : Nat) (hi : h i = .dead) : upd h l .dead i = .dead := by
  by_cases e : i = l
  · subst e; rw [upd_same]
  · rw [upd_ne h _ e]; exact hi

theorem RowCells.step (s : Step ok μ w ok' μ' w') {t : D.Tag} {xs : List (D.El t)} {get : Nat → Option Value} (hr : RowCells w ok μ t xs get) : RowCells w' ok' μ' t xs get :=
  fun i x hx j a ha => let ⟨u, u1, u2, u3⟩ := hr i x hx j a ha; ⟨u, u1, u2, u3.step s⟩

theorem RowCells.append [L : Lawful P] {t : D.Tag} {xs ys : List (D.El t)} {g1 g2 g : Nat → Option Value} (h1 : RowCells w ok μ t xs g1) (h2 : RowCells w ok μ t ys g2)
    (e1 : ∀ p, p < xs.length * C.k t → g p = g1 p) (e2 : ∀ p, p < ys.length * C.k t → g (xs.length * C.k t + p) = g2 p) : RowCells w ok μ t (xs ++ ys) g := by
  intro i x hx j a ha
  have hj : j < C.k t := by rw [← L.enc_len t x]; exact (List.getElem?_eq_some_iff.1 ha).1
  have bound : ∀ {m : Nat} {l : List (D.El t)}, m < l.length → m * C.k t + j < l.length * C.k t := by
    intro m l hm
    have : (m + 1) * C.k t ≤ l.length * C.k t := Nat.mul_le_mul_right _ hm
    rw [Nat.add_mul, Nat.one_mul] at this
    omega
  rw [List.getElem?_append] at hx
  by_cases hi : i < xs.length
  · rw [if_pos hi] at hx
    obtain ⟨u, u1, u2, u3⟩ := h1 i x hx j a ha
    exact ⟨u, by rw [e1 _ (bound hi)]; exact u1, u2, u3⟩
  · rw [if_neg hi] at hx
    have hi2 : i - xs.length < ys.length := (List.getElem?_eq_some_iff.1 hx).1
    obtain ⟨u, u1, u2, u3⟩ := h2 _ x hx j a ha
    refine ⟨u, ?_, u2, u3⟩
    have e : i * C.k t + j = xs.length * C.k t + ((i - xs.length) * C.k t + j) := by
      rw [← Nat.add_assoc, ← Nat.add_mul, show xs.length + (i - xs.length) = i by omega]
    rw [e, e2 _ (bound hi2)]
    exact u1

/-- A row of elements in a block, from the cells of the row. -/
theorem RowCells.brep {t : D.Tag} {xs : List (D.El t)} {b o cap : Nat} {cur : Array Value} {e : TypeId} (hr : RowCells w ok μ t xs (fun p => cur[o + p]?)) (hb : w.heap[b]? = some (.cells cur e (0, 0)))
    (hcap : xs.length ≤ cap) (hsz : o + cap * C.k t ≤ cur.size) : BRep w ok μ (.row b o xs.length cap (C.k t)) (.arr t xs) :=
  .arr b o cap t xs cur e hb hcap hsz fun i x hx j a ha => by
    obtain ⟨u, u1, u2, u3⟩ := hr i x hx j a ha
    exact ⟨u, by rw [Nat.add_assoc]; exact u1, u2, u3⟩

theorem grow_sound [L : Lawful P] {T T' ty e n sCap : Nat} {i : TypeInfo} {z : Value} {t : D.Tag} (ht : P.underlying T = some (.slice e)) (hi : P.info? e = some i) (hz : i.zero = some z) (hzs : z.cells.size = i.size) (hik : i.size = C.k t)
    {base : Option Addr} {olds news : List Value} {x : Value} {xs ys : List (D.El t)} (hs : HSim B ok μ h w) (hd : h n = .dead) (hn : μ n = .gone)
    (hold : (Builtin.firstCells i.size xs.length (.slice base xs.length sCap)).run P w.drew = .ok olds.toArray w.drew) (hol : olds.length = xs.length * C.k t) (ho1 : RowCells w ok μ t xs (fun p => olds[p]?))
    (hsrc : Src P i.size T' x ys.length news w) (hn1 : RowCells w ok μ t ys (fun p => news[p]?)) (hg : sCap < xs.length + ys.length) (hfit : (xs.length + ys.length) * i.bytes ≤ 140737488355328) (hby : 1 ≤ i.bytes) :
    ∃ μ' v' w', (Builtin.append_ #[T, T'] ty #[.slice base xs.length sCap, x]).run P w = .ok v' w' ∧ HSim B ok μ' (upd h n (.arr t (xs ++ ys))) w' ∧ Step ok μ w ok μ' w' ∧ VRep w' ok μ' (.sl n) v' ∧ ∀ l, l ≠ n → μ' l = μ l := by
  have h63 : xs.length + ys.length ≤ 140737488355328 := Nat.le_trans (Nat.le_mul_of_pos_right _ hby) hfit
  have hr := run_append_grow_src (P := P) w T T' ty e i z ht hi hz base xs.length sCap olds hold x ys.length news hsrc hg (by omega) (growslice_fits hg hfit)
  have hge := grownCap_ge w (xs.length + ys.length) sCap e
  generalize hcap : grownCap w (xs.length + ys.length) sCap e = cap at hr hge
  generalize hcur : (olds ++ news).toArray ++ Builtin.zeroCells z.cells (cap - (xs.length + ys.length)) = cur at hr
  have hnl : news.length = ys.length * C.k t := by rw [hsrc.newsLen, hik]
  have hkept : Kept (fun _ => False) w (w.drew.alloc (.cells cur e)) := Kept.alloc rfl rfl rfl rfl
  have hkeeps : Keeps ok w (w.drew.alloc (.cells cur e)) := hkept.keeps fun b hb => ⟨hs.okb b hb, id⟩
  have hstep : Step ok μ w ok (updP μ n (.row w.heap.size 0 (xs.length + ys.length) cap (C.k t))) (w.drew.alloc (.cells cur e)) :=
    ⟨hkeeps, fun _ x => x, fun l hl => updP_ne μ _ (fun e => hl (e ▸ hn))⟩
  have hcell : ∀ p, p < (olds ++ news).length → cur[p]? = (olds ++ news)[p]? := fun p hp => by
    rw [← hcur, Array.getElem?_append, if_pos (by simpa using hp)]
    simp
  have hrow : RowCells w ok μ t (xs ++ ys) (fun p => cur[0 + p]?) := by
    refine RowCells.append (P := P) ho1 hn1 (fun p hp => ?_) fun p hp => ?_
    · rw [Nat.zero_add, hcell p (by simp; omega), List.getElem?_append, if_pos (by omega)]
    · rw [Nat.zero_add, hcell _ (by simp; omega), List.getElem?_append, if_neg (by omega), hol, Nat.add_sub_cancel_left]
  have hlen : (xs ++ ys).length = xs.length + ys.length := by simp
  refine ⟨_, _, _, hr, hs.alloc hd hn hkept (fun g hg => by simp [Pl.blk?] at hg; omega) ?_, hstep, ?_, fun l hl => updP_ne μ _ hl⟩
  · rw [← hlen]
    refine RowCells.brep (hrow.step (by rw [hlen]; exact hstep)) (heap_alloc_new w.drew _) (by omega) ?_
    rw [← hcur]
    simp only [Array.size_append, List.size_toArray, List.length_append, size_zeroCells, hzs, hik, hol, hnl]
    rw [← Nat.add_mul, ← Nat.add_mul]
    rw [show xs.length + ys.length + (cap - (xs.length + ys.length)) = cap by omega]
    omega
  · exact .sl n _ _ _ _ _ (updP_same _ _ _)

theorem appendA_sound {α : Type} [L : Lawful P] {T T' ty n : Nat} {s x : AV} {sv xv : Value} {K : AV → Hp → Lg → Option α} {r : α} (ha : appendA P T s x h n K = some r) (hT : isSlice P T' = true)
    (hs : HSim B ok μ h w) (hsv : VRep w ok μ s sv) (hxv : VRep w ok μ x xv) (hd : h n = .dead) (hn : μ n = .gone) :
    ∃ h' g μ' v' w', K (.sl n) h' g = some r ∧ (Builtin.append_ #[T, T'] ty #[sv, xv]).run P w = .ok v' w' ∧ HSim B ok μ' h' w' ∧ Step ok μ w ok μ' w' ∧ VRep w' ok μ' (.sl n) v' ∧
      ∀ l, l ≠ n → h l = .dead ∧ μ l = .gone → h' l = .dead ∧ μ' l = .gone := by
  unfold appendA at ha
  split at ha
  · simp at ha
  · rename_i t ht
    obtain ⟨e, he, het⟩ : ∃ e, P.underlying T = some (.slice e) ∧ C.tagOf e = some t := by
      unfold sliceTag at ht
      split at ht
      · rename_i e he; exact ⟨e, he, ht⟩
      · simp at ht
    obtain ⟨i, z, hi, hz, hzs, hik⟩ := L.tag e t het
    split at ha
    · simp at ha
    · rename_i ys g hny
      obtain ⟨news, n1, n2⟩ := newsA_sound (P := P) hny hs hxv hT
      rw [← hik] at n1
      have fits : ∀ {m : Nat}, fitsA P T m = true → m * i.bytes ≤ 140737488355328 ∧ 1 ≤ i.bytes := by
        intro m hm
        unfold fitsA at hm
        rw [he] at hm
        simp only [hi, Bool.and_eq_true, decide_eq_true_eq] at hm
        exact ⟨hm.2, Nat.le_of_ble_eq_true hm.1⟩
      -- a nil slice, in whatever spelling
      have nilcase : ∀ {h0 : Hp} {g : Lg}, HSim B ok μ h0 w → h0 n = .dead → (∀ l, h l = .dead → h0 l = .dead) → fitsA P T ys.length = true → K (.sl n) (upd h0 n (.arr t ys)) g = some r →
          ∃ h' g μ' v' w', K (.sl n) h' g = some r ∧ (Builtin.append_ #[T, T'] ty #[.slice none 0 0, xv]).run P w = .ok v' w' ∧ HSim B ok μ' h' w' ∧ Step ok μ w ok μ' w' ∧ VRep w' ok μ' (.sl n) v' ∧
            ∀ l, l ≠ n → h l = .dead ∧ μ l = .gone → h' l = .dead ∧ μ' l = .gone := by
        intro h0 g hs0 hd0 hdd hfit hk
        obtain ⟨f1, f2⟩ := fits hfit
        cases ys with
        | nil =>
          refine ⟨_, _, updP μ n .nil, _, w, hk, append_none he hi n1, hs0.alloc hd0 hn (Kept.refl w) (fun g hg => by simp [Pl.blk?] at hg) (.arrNil t), ⟨Keeps.refl _ _, fun _ x => x, fun l hl => updP_ne μ _ (fun e => hl (e ▸ hn))⟩, .slNil n (updP_same _ _ _), fun l hl hx => ⟨by rw [upd_ne _ _ hl]; exact hdd l hx.1, by rw [updP_ne μ _ hl]; exact hx.2⟩⟩
        | cons y ys =>
          obtain ⟨μ', v', w', g1, g2, g3, g4, g5⟩ := grow_sound (ty := ty) (base := none) (sCap := 0) (xs := []) (olds := []) he hi hz hzs hik hs0 hd0 hn (by simpa using run_firstCells_none (P := P) w.drew i.size 0 0 0) (by simp) (fun i x hx => by simp at hx) n1 n2 (by simp) (by simpa using f1) f2
          exact ⟨_, _, μ', v', w', hk, g1, g2, g3, g4, fun l hl hx => ⟨by rw [upd_ne _ _ hl]; exact hdd l hx.1, by rw [g5 l hl]; exact hx.2⟩⟩
      cases hsv with
      | v =>
        split at ha
        · rename_i hx
          cases hx
          cases hfit : fitsA P T ys.length <;> rw [hfit] at ha
          · simp at ha
          · exact nilcase hs hd (fun _ x => x) hfit ha
        · rename_i hx; cases hx
        · simp at ha
      | slNil l hμ =>
        simp only at ha
        have hr := hs.rep l
        rw [hμ] at hr
        split at ha
        · rename_i t' xs hl
          rw [hl] at hr
          split at ha
          · rename_i xs' hc
            obtain ⟨e', rfl⟩ := castE_eq hc
            subst e'
            cases hr
            simp only [List.length_nil, Nat.zero_add, List.nil_append] at ha
            cases hfit : fitsA P T ys.length <;> rw [hfit] at ha
            · simp at ha
            · exact nilcase (hs.kill l) (kill_dead h l n hd) (fun i hi => kill_dead h l i hi) hfit ha
          · simp at ha
        · simp at ha
      | sl l b o m cap k hμ =>
        simp only at ha
        have hr := hs.rep l
        rw [hμ] at hr
        split at ha
        · rename_i t' xs hl
          rw [hl] at hr
          split at ha
          · rename_i xs' hc
            obtain ⟨e', rfl⟩ := castE_eq hc
            subst e'
            simp only at ha
            cases hfit : fitsA P T (xs.length + ys.length) <;> rw [hfit] at ha
            · simp at ha
            · simp only [cond_true] at ha
              obtain ⟨f1, f2⟩ := fits hfit
              have hln : l ≠ n := fun e => by rw [e, hd] at hl; simp at hl
              cases hr with
              | arr b o cap t' xs cur e' b1 b2 b3 b4 =>
                have hx1 : RowCells w ok μ t' xs (fun p => cur[o + p]?) := fun i x hx j a ha => by
                  obtain ⟨u, u1, u2, u3⟩ := b4 i x hx j a ha
                  exact ⟨u, by dsimp only; rw [← Nat.add_assoc]; exact u1, u2, u3⟩
                have hnl : news.length = ys.length * C.k t' := by rw [n1.newsLen, hik]
                have hdd : ∀ i, h i = .dead → upd h l .dead i = .dead := kill_dead h l
                by_cases hroom : xs.length + ys.length ≤ cap
                · have hcap : o + (xs.length + ys.length) * C.k t' ≤ cur.size := Nat.le_trans (Nat.add_le_add_left (Nat.mul_le_mul_right _ hroom) _) b3
                  rw [Nat.add_mul] at hcap
                  have hw : o + xs.length * C.k t' + news.length ≤ cur.toList.length := by simp; omega
                  have hrun := append_room (P := P) (w := w) (ty := ty) he hi n1 b1 hroom (by rw [hik]; simpa using hw)
                  rw [hik] at hrun
                  have hsplit := fun j => splice_get cur.toList news (o + xs.length * C.k t') j hw
                  have hsz := splice_size cur.toList news (o + xs.length * C.k t') hw
                  generalize hcur : (cur.toList.take (o + xs.length * C.k t') ++ news ++ cur.toList.drop (o + xs.length * C.k t' + news.length)).toArray = cur' at hrun hsplit hsz
                  have hlive : live (h l) = true := by rw [hl]; rfl
                  have hblk : (μ l).blk? = some b := by rw [hμ]; rfl
                  have hkeeps : Keeps ok w (w.setRow b cur') := (Kept.setRow (w := w) (g := b)).keeps fun g hg => ⟨hs.okb g hg, fun e => (hs.nok l b hlive hblk).1 (e ▸ hg)⟩
                  have hstep : Step ok μ w ok (updP μ n (.row b o (xs ++ ys).length cap (C.k t'))) (w.setRow b cur') := ⟨hkeeps, fun _ x => x, fun l hl => updP_ne μ _ (fun e => hl (e ▸ hn))⟩
                  have hrow : RowCells w ok μ t' (xs ++ ys) (fun p => cur'[o + p]?) := by
                    refine RowCells.append (P := P) hx1 n2 (fun p hp => ?_) fun p hp => ?_
                    · rw [hsplit, if_neg (by omega)]; simp
                    · rw [hsplit, if_pos (by omega)]
                      congr 1
                      omega
                  have hlen : (xs ++ ys).length = xs.length + ys.length := by simp
                  refine ⟨_, _, _, _, _, ha, hrun, hs.move hlive hblk hd hn (p := .row b o (xs ++ ys).length cap (C.k t')) rfl Kept.setRow ?_, hstep, ?_, fun i hi hx => ⟨by rw [upd_ne _ _ hi]; exact hdd i hx.1, by rw [updP_ne μ _ hi]; exact hx.2⟩⟩
                  · exact RowCells.brep (hrow.step hstep) (setRow_heap w b cur cur' e' _ b1) (by omega) (by rw [hsz]; simpa using b3)
                  · have := VRep.sl (w := w.setRow b cur') (ok := ok) (μ := updP μ n (.row b o (xs ++ ys).length cap (C.k t'))) n b o (xs ++ ys).length cap (C.k t') (updP_same _ _ _)
                    rwa [hlen] at this ⊢
                · have hall := hx1.all (P := P)
                  have holds : ∀ p u, (cellsFrom w b o (xs.length * C.k t'))[p]? = some u → w.cell? ⟨b, o + p, none⟩ = some u := by
                    intro p u hp
                    have hlt : p < xs.length * C.k t' := by have := (List.getElem?_eq_some_iff.1 hp).1; simpa [cellsFrom] using this
                    obtain ⟨u', u1, _⟩ := hall p hlt
                    rw [cellsFrom_get hlt, cells_cell b1, u1] at hp
                    simp at hp; subst hp
                    rw [cells_cell b1]; exact u1
                  have hlo : (cellsFrom w b o (xs.length * C.k t')).length = xs.length * C.k t' := by simp [cellsFrom]
                  have hold := run_firstCells_some (P := P) w.drew i.size xs.length ⟨b, o, none⟩ xs.length cap (cellsFrom w b o (xs.length * C.k t')) (by rw [hlo, hik]) (fun j u hj => by rw [add_none]; exact holds j u hj)
                  obtain ⟨μ', v', w', g1, g2, g3, g4, g5⟩ := grow_sound (ty := ty) (n := n) he hi hz hzs hik (hs.kill l) (hdd n hd) hn hold hlo (fun i x hx j a ha => by
                    obtain ⟨u, u1, u2, u3⟩ := hx1 i x hx j a ha
                    have hlt : i * C.k t' + j < xs.length * C.k t' := by
                      have h1 : i < xs.length := (List.getElem?_eq_some_iff.1 hx).1
                      have h2 : j < C.k t' := by rw [← L.enc_len t' x]; exact (List.getElem?_eq_some_iff.1 ha).1
                      have : (i + 1) * C.k t' ≤ xs.length * C.k t' := Nat.mul_le_mul_right _ h1
                      rw [Nat.add_mul, Nat.one_mul] at this
                      omega
                    exact ⟨u, by dsimp only at u1 ⊢; rw [cellsFrom_get hlt, cells_cell b1, u1]; rfl, u2, u3⟩) n1 n2 (by omega) f1 f2
                  exact ⟨_, _, μ', v', w', ha, g1, g2, g3, g4, fun i hi hx => ⟨by rw [upd_ne _ _ hi]; exact hdd i hx.1, by rw [g5 i hi]; exact hx.2⟩⟩
          · simp at ha
        · simp at ha
      | _ => simp at ha

end
end Go.Abs

/-
  Soundness of the abstract machine, ninth part: each operation.
-/
namespace Go.Abs

section
variable [D : Dom] [C : Coding] {P : Program}
variable {B : Base} {w w' : World} {ok ok' : Nat → Prop} {μ μ' : Nat → Pl} {F : FS} {h : Hp} {cfs : List (Array Value)} {st : St} {tmps : Array Value}

/-- What is asked of the calls. -/
def CallOK (P : Program) (F : FS) {α : Type} (call : Nat → List AV → St → (AV → St → Lg → Option α) → Option α) (r : α) : Prop :=
  ∀ (B : Base) (cfs : List (Array Value)) (ok : Nat → Prop) (μ : Nat → Pl) (st : St) (tmps : Array Value) (w : World) (g : Nat) (as : List AV) (vs : List Value) (K : AV → St → Lg → Option α),
    call g as st K = some r → Sim B F cfs ok μ st tmps w → vs.length = as.length → (∀ (i : Nat) (a : AV) (v : Value), as[i]? = some a → vs[i]? = some v → VRep w ok μ a v) →
    (∀ av st' lg, K av st' lg = some r → ∀ l, st.nx ≤ l → l < st'.nx → F l) →
    (∀ args w, (callFunc g args).run P w = .ok (.enter g args) w) ∧ Calls P g vs.toArray w fun e w' => ∃ v av st' lg ok' μ', e = .returned v ∧ K av st' lg = some r ∧ VRep w' ok' μ' av v ∧ Sim B F cfs ok' μ' st' tmps w'

omit D C in
theorem wp_value {o : Oper} {a : Act} {v : Value} {next : Act → World → Prop} {Q : Exit → Act → World → Prop} (hr : (execOp a.eval o).run P w = .ok (.value v) w') (hn : next (a.put o.dst v) w') : o.wp P a w next Q := by
  unfold Oper.wp; rw [hr]; exact hn

omit D C in
theorem wp_skipped {o : Oper} {a : Act} {next : Act → World → Prop} {Q : Exit → Act → World → Prop} (hr : (execOp a.eval o).run P w = .ok .skip w') (hn : next (a.put o.dst undef) w') : o.wp P a w next Q := by
  unfold Oper.wp; rw [hr]; exact hn

theorem Sim.heapTo (hs : Sim B F cfs ok μ st tmps w) {h' : Hp} {n' : Nat} (hh : HSim B ok' μ' h' w') (hst : Step ok μ w ok' μ' w') (hf : Fresh F n' μ' h') :
    Sim B F cfs ok' μ' { st with hp := h', nx := n' } tmps w' :=
  ⟨hh, hs.tm.mono hst.keeps hst.ok hst.pl, hs.fs.mono hst.keeps hst.ok hst.pl, hf⟩

/-! comparisons -/
omit D C in
theorem kindA_und {T : TypeId} {x : Value} (h : kindA P T x = true) : (∃ k k' n, P.underlying T = some (.int k) ∧ x = .int k' n) ∨ (∃ b, P.underlying T = some .bool ∧ x = .bool b) ∨ ∃ s, P.underlying T = some .string ∧ x = .string s := by
  unfold kindA at h
  cases hu : P.underlying T with
  | none => rw [hu] at h; cases x <;> simp at h
  | some d =>
    rw [hu] at h
    cases d <;> cases x <;> simp at h
    · exact .inr (.inl ⟨_, rfl, rfl⟩)
    · exact .inl ⟨_, _, _, rfl, rfl⟩
    · exact .inr (.inr ⟨_, rfl, rfl⟩)

omit D C in
theorem equalIn_flat {T : TypeId} {a b : Value} {c : Bool} (h : eqFlat a b = some c) (ha : kindA P T a = true) (d : Nat) (w : World) : (Op.equalIn (d + 1) T a b).run P w = .ok c w := by
  unfold eqFlat at h
  split at h
  · rename_i k x k' y
    cases hk : decide (k = k') <;> rw [hk] at h
    · simp at h
    · have hk : k = k' := of_decide_eq_true hk
      subst hk
      simp at h; subst h
      rcases kindA_und ha with ⟨_, _, _, hu, e⟩ | ⟨_, _, e⟩ | ⟨_, _, e⟩ <;> cases e
      exact run_equalIn_int w d T k _ x y hu
  · rename_i x y
    simp at h; subst h
    rcases kindA_und ha with ⟨_, _, _, _, e⟩ | ⟨_, hu, e⟩ | ⟨_, _, e⟩ <;> cases e
    exact run_equalIn_bool w d T x y hu
  · rename_i x y
    simp at h; subst h
    rcases kindA_und ha with ⟨_, _, _, _, e⟩ | ⟨_, _, e⟩ | ⟨_, hu, e⟩ <;> cases e
    exact run_equalIn_string w d T x y hu
  · simp at h

omit D C in
theorem kindA_flat {T : TypeId} {x : Value} (h : kindA P T x = true) (w : World) : (isAgg T).run P w = .ok false w := by
  rcases kindA_und h with ⟨_, _, _, hu, _⟩ | ⟨_, hu, _⟩ | ⟨_, hu, _⟩ <;> simp [isAgg, run_underlying hu]

theorem eqFs_sound {d : Nat} {xs ys : Array Value} : ∀ {fs : List Field} {as bs : List AV} {c : Bool}, eqFs P fs as bs = some c → (∀ f ∈ fs, f.name ≠ "_") →
    (∀ (i : Nat) (a : AV), as[i]? = some a → ∃ u, xs[i]? = some u ∧ VRep w ok μ a u) → (∀ (i : Nat) (a : AV), bs[i]? = some a → ∃ u, ys[i]? = some u ∧ VRep w ok μ a u) →
    (Op.eqFields (d + 1) xs ys fs).run P w = .ok c w
  | [], as, bs, c, h, _, _, _ => by simp [eqFs] at h; subst h; rfl
  | f :: fs, as, bs, c, h, hn, ha, hb => by
    simp only [eqFs] at h
    split at h
    · rename_i x y hx hy
      cases hk : (kindA P f.type x && kindA P f.type y) <;> rw [hk] at h
      · simp at h
      · rw [Bool.and_eq_true] at hk
        simp only [cond_true] at h
        split at h
        · rename_i c1 hc1
          split at h
          · rename_i c2 hc2
            simp at h; subst h
            rw [nth_eq] at hx hy
            obtain ⟨u, u1, u2⟩ := ha _ _ hx
            obtain ⟨v, v1, v2⟩ := hb _ _ hy
            cases u2; cases v2
            have hr := eqFs_sound (d := d) hc2 (fun g hg => hn g (by simp [hg])) ha hb
            have he := equalIn_flat hc1 hk.1 d w
            simp only [Op.eqFields, if_pos (hn f (by simp)), Sem.run_bind, part, kindA_flat hk.1, Result.andThen_ok, Bool.false_eq_true, if_false, u1, v1, Sem.run_pure, he]
            cases c1
            · simp
            · simpa using hr
          · simp at h
        · simp at h
    · simp at h

theorem aggCells_rep {a : AV} {v : Value} {cs : List AV} (h : aggCells a = some cs) (hv : VRep w ok μ a v) : ∃ xs, v = .agg xs ∧ ∀ (i : Nat) (b : AV), cs[i]? = some b → ∃ u, xs[i]? = some u ∧ VRep w ok μ b u := by
  cases hv with
  | v =>
    cases v <;> simp [aggCells] at h
    subst h
    refine ⟨_, rfl, fun i b hb => ?_⟩
    simp [List.getElem?_map] at hb
    obtain ⟨u, hu, rfl⟩ := hb
    exact ⟨u, hu, .v u⟩
  | agg cs' vs hl _ hr =>
    simp [aggCells] at h; subst h
    refine ⟨_, rfl, fun i b hb => ?_⟩
    have hlt : i < vs.length := by rw [hl]; exact (List.getElem?_eq_some_iff.1 hb).1
    exact ⟨vs[i], by simp [hlt], hr i b vs[i] hb (by simp [hlt])⟩
  | _ => simp [aggCells] at h

theorem ptrA_rep {a : AV} {v : Value} {c : Bool} (h : ptrA a = some c) (hv : VRep w ok μ a v) : ∃ p, v = .pointer p ∧ p.isNone = c := by
  cases hv with
  | v => 
    cases v <;> simp [ptrA] at h
    rename_i p
    cases p <;> simp_all [ptrA]
  | ptr => simp [ptrA] at h; subst h; exact ⟨_, rfl, rfl⟩
  | ept => simp [ptrA] at h; subst h; exact ⟨_, rfl, rfl⟩
  | imp => simp [ptrA] at h; subst h; exact ⟨_, rfl, rfl⟩
  | _ => simp [ptrA] at h

end
end Go.Abs

/-
  Soundness of the abstract machine, tenth part: comparisons, arithmetic, places.
-/
namespace Go.Abs

section
variable [D : Dom] [C : Coding] {P : Program}
variable {B : Base} {w w' : World} {ok ok' : Nat → Prop} {μ μ' : Nat → Pl} {F : FS} {h : Hp} {cfs : List (Array Value)} {st : St} {tmps : Array Value}

omit D C in
theorem ptr_equal {T e : TypeId} (hu : P.underlying T = some (.pointer e)) (p q : Option Addr) (hn : (p.isNone || q.isNone) = true) (d : Nat) (w : World) :
    (Op.equalIn (d + 1) T (.pointer p) (.pointer q)).run P w = .ok (p.isNone && q.isNone) w := by
  cases p <;> cases q <;> simp_all [Op.equalIn, run_underlying hu]

omit D C in
theorem eqFlat_cases {x y : Value} {c : Bool} (h : eqFlat x y = some c) : (∃ k a b, x = .int k a ∧ y = .int k b ∧ c = (a == b)) ∨ (∃ a b, x = .bool a ∧ y = .bool b ∧ c = (a == b)) ∨ ∃ a b, x = .string a ∧ y = .string b ∧ c = (a.toList == b.toList) := by
  unfold eqFlat at h
  split at h
  · rename_i k a k' b
    cases hk : decide (k = k') <;> rw [hk] at h
    · simp at h
    · have hk := of_decide_eq_true hk; subst hk
      simp at h; subst h
      exact .inl ⟨k, a, b, rfl, rfl, rfl⟩
  · rename_i a b
    simp at h; subst h
    exact .inr (.inl ⟨a, b, rfl, rfl, rfl⟩)
  · rename_i a b
    simp at h; subst h
    exact .inr (.inr ⟨a, b, rfl, rfl, rfl⟩)
  · simp at h

/-- '==' as the model has it, and its guard. -/
theorem eqA_sound [L : Lawful P] {T : TypeId} {a b : AV} {x y : Value} {c : Bool} (h : eqA P T a b = some c) (ha : VRep w ok μ a x) (hb : VRep w ok μ b y) :
    (∀ op, (op = .eql ∨ op = .neq) → ∀ (ox oy : Operand), (eqGuard op T ox oy x y).run P w = .ok () w) ∧ (binOp .eql T x y).run P w = .ok (.bool c) w ∧ (binOp .neq T x y).run P w = .ok (.bool (!c)) w := by
  unfold eqA at h
  split at h
  · rename_i as bs ha' hb'
    obtain ⟨xs, rfl, hx⟩ := aggCells_rep ha' ha
    obtain ⟨ys, rfl, hy⟩ := aggCells_rep hb' hb
    split at h
    · rename_i fs hu
      cases he : C.eqT T <;> rw [he] at h
      · simp at h
      · obtain ⟨e1, e2, e3⟩ := L.eqT T fs he hu
        have hf : P.fieldsOf T = fs := by simp [Program.fieldsOf, hu]
        have hr := run_equalIn_struct (P := P) w 9999 T xs ys (by rw [hf]; exact hu) e1
        rw [hf, eqFs_sound (d := 9998) (P := P) h e3 hx hy] at hr
        refine ⟨fun op _ ox oy => run_eqGuard_agg w op T ox oy xs ys e2, ?_, ?_⟩
        · rw [run_eql_struct, hr]; rfl
        · rw [run_neq_struct, hr]; rfl
    · simp at h
  · split at h
    · rename_i c1 c2 h1 h2
      obtain ⟨p, rfl, rfl⟩ := ptrA_rep h1 ha
      obtain ⟨q, rfl, rfl⟩ := ptrA_rep h2 hb
      cases hk : (isPtr P T && (p.isNone || q.isNone)) <;> rw [hk] at h
      · simp at h
      · simp at h; subst h
        rw [Bool.and_eq_true] at hk
        obtain ⟨e, hu⟩ : ∃ e, P.underlying T = some (.pointer e) := by
          have := hk.1
          unfold isPtr at this
          split at this
          · rename_i e he; exact ⟨e, he⟩
          · simp at this
        have := ptr_equal hu p q hk.2 9999 w
        refine ⟨fun op ho ox oy => by rcases ho with rfl | rfl <;> simp [eqGuard], ?_, ?_⟩
        · show (do pure (Value.bool (← Op.equalIn 10000 T (.pointer p) (.pointer q))) : Sem Value).run P w = _
          rw [Sem.run_bind, this]; rfl
        · show (do pure (Value.bool (!(← Op.equalIn 10000 T (.pointer p) (.pointer q)))) : Sem Value).run P w = _
          rw [Sem.run_bind, this]; rfl
    · split at h
      · rename_i x' y' _ _
        cases ha; cases hb
        cases hk : (kindA P T x && kindA P T y) <;> rw [hk] at h
        · simp at h
        · rw [Bool.and_eq_true] at hk
          simp only [cond_true] at h
          have he := equalIn_flat h hk.1 9999 w
          rcases eqFlat_cases h with ⟨k, a, b, rfl, rfl, rfl⟩ | ⟨a, b, rfl, rfl, rfl⟩ | ⟨a, b, rfl, rfl, rfl⟩
          · exact ⟨fun op ho ox oy => by rcases ho with rfl | rfl <;> simp [eqGuard], by simp [binOp, Op.intCmp], by simp [binOp, Op.intCmp, bne]⟩
          · refine ⟨fun op ho ox oy => by rcases ho with rfl | rfl <;> simp [eqGuard], ?_, ?_⟩
            · show (do pure (Value.bool (← Op.equalIn 10000 T (.bool a) (.bool b))) : Sem Value).run P w = _
              rw [Sem.run_bind, he]; rfl
            · show (do pure (Value.bool (!(← Op.equalIn 10000 T (.bool a) (.bool b)))) : Sem Value).run P w = _
              rw [Sem.run_bind, he]; rfl
          · exact ⟨fun op ho ox oy => by rcases ho with rfl | rfl <;> simp [eqGuard], by simp [binOp, Op.stringOp], by simp [binOp, Op.stringOp]⟩
      · simp at h
    · simp at h
  · simp at h

theorem binA_sound [L : Lawful P] {T : TypeId} {op : BinOp} {a b r : AV} {x y : Value} (h : binA P T op a b = some r) (ha : VRep w ok μ a x) (hb : VRep w ok μ b y) (ox oy : Operand) :
    ∃ v, (do eqGuard op T ox oy x y; binOp op T x y : Sem Value).run P w = .ok v w ∧ VRep w ok μ r v := by
  unfold binA at h
  split at h
  · split at h
    · rename_i c hc
      simp at h; subst h
      obtain ⟨h1, h2, _⟩ := eqA_sound (P := P) hc ha hb
      exact ⟨_, by rw [Sem.run_bind, h1 _ (.inl rfl)]; exact h2, .v _⟩
    · simp at h
  · split at h
    · rename_i c hc
      simp at h; subst h
      obtain ⟨h1, _, h2⟩ := eqA_sound (P := P) hc ha hb
      exact ⟨_, by rw [Sem.run_bind, h1 _ (.inr rfl)]; exact h2, .v _⟩
    · simp at h
  · rename_i hne1 hne2
    split at h
    · rename_i k x' k' y'
      cases ha; cases hb
      cases hk : decide (k = k') <;> rw [hk] at h
      · simp at h
      · have hk := of_decide_eq_true hk
        subst hk
        simp only [cond_true] at h
        split at h
        · rename_i v hv
          simp at h; subst h
          refine ⟨v, ?_, .v v⟩
          unfold binIntA at hv
          split at hv <;> first | (simp at hv; subst hv; simp [eqGuard, binOp, Op.intArith, Op.intCmp]; done) | simp at hv
        · simp at h
    · simp at h

theorem unA_sound {op : UnOp} {a r : AV} {x : Value} (h : unA op a = some r) (ha : VRep w ok μ a x) : ∃ v, (Op.unary op x).run P w = .ok v w ∧ VRep w ok μ r v := by
  unfold unA at h
  split at h
  · cases ha
    simp at h; subst h
    exact ⟨_, by simp [Op.unary], .v _⟩
  · cases ha
    simp at h; subst h
    exact ⟨_, by simp [Op.unary, Op.intArith], .v _⟩
  · simp at h

/-- The address of an element. -/
theorem indexA_sound {α : Type} [L : Lawful P] {T : Nat} {a : AV} {v : Value} {k : IntKind} {i : Int} {K : AV → Lg → Option α} {r : α} (hi : indexA P T a i h K = some r)
    (hs : HSim B ok μ h w) (hv : VRep w ok μ a v) : ∃ av g u, K av g = some r ∧ (Instr.indexAt T v (.int k i)).run P w = .ok u w ∧ VRep w ok μ av u := by
  have slice : ∀ {e m : Nat} {b o n cap : Nat}, P.underlying T = some (.slice e) → sz? P e = some m → 0 ≤ i → i < n →
      (Instr.indexAt T (.slice (some ⟨b, o, none⟩) n cap) (.int k i)).run P w = .ok (.pointer (some ⟨b, o + i.toNat * m, none⟩)) w := by
    intro e m b o n cap hu hm h0 h1
    simp [Instr.indexAt, asIntOf, run_underlying hu, h0, h1, sz_run hm, add_none]
  have stays : ∀ {e m : Nat} {b o cap : Nat} {t : D.Tag} {xs : List (D.El t)} {x : D.El t} {g : Lg} {u : Nat → Nat → Value}, P.underlying T = some (.slice e) → sz? P e = some m → (Nat.beq (C.k t) m && decide (0 ≤ i)) = true → elt xs i.toNat = some x →
      ok b → (∀ (i : Nat) (x : D.El t), xs[i]? = some x → ∀ (j : Nat) (a : AV), (C.enc t x)[j]? = some a → w.cell? ⟨b, o + i * C.k t + j, none⟩ = some (u i j)) →
      (∀ (i : Nat) (x : D.El t), xs[i]? = some x → ∀ (j : Nat) (a : AV), (C.enc t x)[j]? = some a → VRep w ok μ a (u i j)) → K (.imp t x 0) g = some r →
      ∃ av g v, K av g = some r ∧ (Instr.indexAt T (.slice (some ⟨b, o, none⟩) xs.length cap) (.int k i)).run P w = .ok v w ∧ VRep w ok μ av v := by
    intro e m b o cap t xs x g u hu hm hc hx hok hcell hrep hK
    rw [Bool.and_eq_true] at hc
    have h0 : 0 ≤ i := of_decide_eq_true hc.2
    have hkm : C.k t = m := Nat.eq_of_beq_eq_true hc.1
    have hlt : i.toNat < xs.length := (List.getElem?_eq_some_iff.1 hx).1
    exact ⟨_, _, _, hK, slice hu hm h0 (by omega), by rw [← hkm]; exact .imp t x 0 b (o + i.toNat * C.k t) hok (u i.toNat) (fun j a ha => hcell _ x hx j a ha) fun j a ha => hrep _ x hx j a ha⟩
  have sli : ∀ {m : Nat}, elemSz P T = some m → ∃ e, P.underlying T = some (.slice e) ∧ sz? P e = some m := by
    intro m hm
    unfold elemSz at hm
    split at hm
    · rename_i e he; exact ⟨e, he, hm⟩
    · simp at hm
  unfold indexA at hi
  cases hv with
  | ptr l off b hμ =>
    simp only at hi
    split at hi
    · rename_i n e hu
      split at hi
      · rename_i m hm
        cases hc : decide (0 ≤ i ∧ i < n) <;> rw [hc] at hi
        · simp at hi
        · have hc := of_decide_eq_true hc
          refine ⟨_, _, _, hi, ?_, .ptr l _ b hμ⟩
          simp [Instr.indexAt, asIntOf, run_underlying hu, Instr.sureAddr, hc, sz_run hm, add_none]
      · simp at hi
    · simp at hi
  | fsl l n k' b hμ =>
    simp only at hi
    split at hi
    · simp at hi
    · rename_i m hm
      obtain ⟨e, hu, he⟩ := sli hm
      cases hc : (Nat.beq k' m && decide (0 ≤ i ∧ i < n)) <;> rw [hc] at hi
      · simp at hi
      · rw [Bool.and_eq_true] at hc
        have h0 := of_decide_eq_true hc.2
        have hk : k' = m := Nat.eq_of_beq_eq_true hc.1
        exact ⟨_, _, _, hi, slice hu he h0.1 h0.2, by rw [← hk]; have := VRep.ptr (w := w) (ok := ok) (μ := μ) l (0 + i.toNat * k') b hμ; simpa using this⟩
  | immNil t =>
    simp only at hi
    split at hi
    · simp at hi
    · cases hc : (Nat.beq (C.k t) _ && decide (0 ≤ i)) <;> rw [hc] at hi <;> simp [elt] at hi
  | imm t xs b o cap h1 h2 u h3 h4 =>
    simp only at hi
    split at hi
    · simp at hi
    · rename_i m hm
      obtain ⟨e, hu, he⟩ := sli hm
      cases hc : (Nat.beq (C.k t) m && decide (0 ≤ i)) <;> rw [hc] at hi
      · simp at hi
      · simp only [cond_true] at hi
        split at hi
        · rename_i x hx
          exact stays hu he hc hx h1 h3 h4 hi
        · simp at hi
  | sl l b o n cap k' hμ =>
    simp only at hi
    split at hi
    · simp at hi
    · rename_i m hm
      obtain ⟨e, hu, he⟩ := sli hm
      have hr := hs.rep l
      rw [hμ] at hr
      split at hi
      · rename_i t xs hl
        rw [hl] at hr
        cases hc : (Nat.beq (C.k t) m && decide (0 ≤ i)) <;> rw [hc] at hi
        · simp at hi
        · simp only [cond_true] at hi
          split at hi
          · rename_i x hx
            cases hr with
            | arr b o cap t xs cur e' b1 b2 b3 b4 =>
              rw [Bool.and_eq_true] at hc
              have h0 : 0 ≤ i := of_decide_eq_true hc.2
              have hkm : C.k t = m := Nat.eq_of_beq_eq_true hc.1
              have hlt : i.toNat < xs.length := (List.getElem?_eq_some_iff.1 hx).1
              exact ⟨_, _, _, hi, slice hu he h0 (by omega), by rw [← hkm]; exact .ept l i.toNat 0 b o _ cap _ hμ⟩
          · simp at hi
      · rename_i t xs hl
        rw [hl] at hr
        cases hc : (Nat.beq (C.k t) m && decide (0 ≤ i)) <;> rw [hc] at hi
        · simp at hi
        · simp only [cond_true] at hi
          split at hi
          · rename_i x hx
            cases hr with
            | fz b o cap t xs h1 h2 u h3 h4 => exact stays hu he hc hx h1 h3 h4 hi
          · simp at hi
      · simp at hi
  | slNil l hμ =>
    simp only at hi
    split at hi
    · simp at hi
    · have hr := hs.rep l
      rw [hμ] at hr
      split at hi
      · rename_i t xs hl
        rw [hl] at hr
        cases hr
        cases hc : (Nat.beq (C.k t) _ && decide (0 ≤ i)) <;> rw [hc] at hi <;> simp [elt] at hi
      · rename_i t xs hl
        rw [hl] at hr
        cases hr
        cases hc : (Nat.beq (C.k t) _ && decide (0 ≤ i)) <;> rw [hc] at hi <;> simp [elt] at hi
      · simp at hi
  | _ =>
    simp only at hi
    split at hi <;> simp at hi

theorem lenA_sound {T ty : Nat} {a : AV} {v : Value} {n : Nat} {g : Lg} (hl : lenA P T h a = some (n, g)) (hs : HSim B ok μ h w) (hv : VRep w ok μ a v) :
    (Builtin.len_ #[T] ty #[v]).run P w = .ok (.int .i64 n) w := by
  have sl : isSlice P T = true → ∀ {b : Option Addr} {m c : Nat}, v = .slice b m c → m = n → (Builtin.len_ #[T] ty #[v]).run P w = .ok (.int .i64 n) w := by
    intro hT b m c hv hm
    obtain ⟨e, he⟩ : ∃ e, P.underlying T = some (.slice e) := by
      unfold isSlice at hT
      split at hT
      · rename_i e he; exact ⟨e, he⟩
      · simp at hT
    subst hv; subst hm
    simp [Builtin.len_, run_underlying he, goInt]
  unfold lenA at hl
  split at hl
  · rename_i s
    cases hT : isStr P T <;> rw [hT] at hl
    · simp at hl
    · simp at hl
      cases hv
      have hu : P.underlying T = some .string := by
        unfold isStr at hT
        split at hT
        · rename_i he; exact he
        · simp at hT
      simp [Builtin.len_, run_underlying hu, goInt, hl.1]
  · cases hT : isSlice P T <;> rw [hT] at hl
    · simp at hl
    · simp only [cond_true] at hl
      split at hl
      · cases hv; simp at hl; exact sl hT rfl hl.1
      · rename_i t xs
        simp at hl
        cases hv with
        | immNil => exact sl hT rfl (by simpa using hl.1)
        | imm => exact sl hT rfl hl.1
      · simp at hl; cases hv; exact sl hT rfl hl.1
      · rename_i l _
        have hr := hs.rep l
        split at hl
        · rename_i t xs hx
          simp at hl
          rw [hx] at hr
          cases hv with
          | sl l b o m cap k hμ => rw [hμ] at hr; cases hr; exact sl hT rfl hl.1
          | slNil l hμ => rw [hμ] at hr; cases hr; exact sl hT rfl (by simpa using hl.1)
        · rename_i t xs hx
          simp at hl
          rw [hx] at hr
          cases hv with
          | sl l b o m cap k hμ => rw [hμ] at hr; cases hr; exact sl hT rfl hl.1
          | slNil l hμ => rw [hμ] at hr; cases hr; exact sl hT rfl (by simpa using hl.1)
        · simp at hl
      · simp at hl

end
end Go.Abs

/-
  Soundness of the abstract machine: pieces of rows.
-/
namespace Go.Abs

section
variable [D : Dom] [C : Coding] {P : Program}
variable {B : Base} {w w' : World} {ok ok' : Nat → Prop} {μ μ' : Nat → Pl} {F : FS} {h : Hp}

/-- A block that no place has gets a place. -/
theorem HSim.place (hs : HSim B ok μ h w) {l : Nat} {p : Pl} (hg : μ l = .gone ∨ μ l = p) {b : Blk}
    (hf : ∀ g, p.blk? = some g → (∀ i, live (h i) = true → (μ i).blk? ≠ some g) ∧ ¬ ok g ∧ (B.w0.heap.size ≤ g ∨ B.M g))
    (hr : BRep w ok (updP μ l p) p b) : HSim B ok (updP μ l p) (upd h l b) w := by
  have hμ : ∀ i, μ i ≠ .gone → updP μ l p i = μ i := fun i hi => by
    by_cases e : i = l
    · subst e; rw [updP_same]; rcases hg with hg | hg
      · exact absurd hg hi
      · exact hg.symm
    · exact updP_ne μ p e
  refine ⟨hs.goes, fun i => ?_, fun i j g hij hi hj hgi hgj => ?_, fun i g hi hgi => ?_, hs.okb, hs.okm, hs.oko⟩
  · by_cases e : i = l
    · subst e; rw [updP_same, upd_same]; exact hr
    · rw [updP_ne μ p e, upd_ne h b e]
      exact (hs.rep i).mono (Keeps.refl _ _) (fun _ x => x) hμ fun _ _ _ => rfl
  · by_cases ei : i = l
    · by_cases ej : j = l
      · exact hij (ei.trans ej.symm)
      · rw [ei, updP_same] at hgi; rw [updP_ne μ p ej] at hgj; rw [upd_ne h b ej] at hj
        exact (hf g hgi).1 j hj hgj
    · by_cases ej : j = l
      · rw [ej, updP_same] at hgj; rw [updP_ne μ p ei] at hgi; rw [upd_ne h b ei] at hi
        exact (hf g hgj).1 i hi hgi
      · rw [updP_ne μ p ei] at hgi; rw [updP_ne μ p ej] at hgj; rw [upd_ne h b ei] at hi; rw [upd_ne h b ej] at hj
        exact hs.inj i j g hij hi hj hgi hgj
  · by_cases e : i = l
    · rw [e, updP_same] at hgi
      exact (hf g hgi).2
    · rw [updP_ne μ p e] at hgi; rw [upd_ne h b e] at hi
      exact hs.nok i g hi hgi

/-- An operand that may be left out. -/
def OptRep (w : World) (ok : Nat → Prop) (μ : Nat → Pl) : Option AV → Option Value → Prop
  | none, none => True
  | some a, some v => VRep w ok μ a v
  | _, _ => False

omit D C in
theorem slice_run {T k n cap : Nat} {a : Option Addr} (hu : P.underlying T = some (.slice (P.elem T))) (hk : (sizeOf (P.elem T)).run P w = .ok k w) (lo hi : Option Value) (x y : Int)
    (hlo : lo = none ∧ x = 0 ∨ ∃ q, lo = some (.int q x)) (hhi : hi = none ∧ y = n ∨ ∃ q, hi = some (.int q y)) (h0 : 0 ≤ x) (h1 : x ≤ y) (h2 : y ≤ n) (hn : n ≤ cap) :
    (Instr.sliceAt T (.slice a n cap) lo hi none).run P w = .ok (sliced a x.toNat y.toNat cap k) w := by
  rw [run_sliceAt_slice w T _ _ _ _ hu]
  rcases hlo with ⟨rfl, rfl⟩ | ⟨q, rfl⟩ <;> rcases hhi with ⟨rfl, rfl⟩ | ⟨q', rfl⟩
  · rw [run_slice_all w T a n cap hu, hk]; simp [Result.andThen]
  · rw [run_slice_h w T a n cap hu q' y (by omega) (by omega), hk]; simp [Result.andThen]
  · rw [run_slice_l w T a n cap hu q x h0 h1, hk]; simp [Result.andThen]
  · rw [run_slice_lh w T a n cap hu q q' x y h0 h1 (by omega), hk]; simp [Result.andThen]

omit C in
theorem bndA_rep [C : Coding] {d x : Int} {a : Option AV} {v : Option Value} (hr : OptRep w ok μ a v) (hb : bndA d a = some x) : v = none ∧ x = d ∨ ∃ q, v = some (.int q x) := by
  unfold bndA at hb
  split at hb
  · cases v with
    | none => exact .inl ⟨rfl, by simpa using hb.symm⟩
    | some _ => exact hr.elim
  · cases v with
    | none => exact hr.elim
    | some v =>
      cases hr
      simp only [Option.some.injEq] at hb
      subst hb
      exact .inr ⟨_, rfl⟩
  · simp at hb

theorem sliceA_sound {α : Type} [L : Lawful P] {T n : Nat} {x : AV} {lo hi : Option AV} {xv : Value} {lov hiv : Option Value} {K : AV → Hp → Lg → Option α} {r : α} (ha : sliceA P T x lo hi h n K = some r)
    (hs : HSim B ok μ h w) (hxv : VRep w ok μ x xv) (hlo : OptRep w ok μ lo lov) (hhi : OptRep w ok μ hi hiv) (hd : h n = .dead) (hn : μ n = .gone) :
    ∃ h' g μ' v', K (.sl n) h' g = some r ∧ (Instr.sliceAt T xv lov hiv none).run P w = .ok v' w ∧ HSim B ok μ' h' w ∧ Step ok μ w ok μ' w ∧ VRep w ok μ' (.sl n) v' ∧
      ∀ l, l ≠ n → h l = .dead ∧ μ l = .gone → h' l = .dead ∧ μ' l = .gone := by
  unfold sliceA at ha
  split at ha
  · rename_i l
    split at ha
    · rename_i t xs hl
      split at ha
      · rename_i a b m hba hbb hm
        cases hc : (Nat.beq (C.k t) m && (decide (0 ≤ a) && (decide (a ≤ b) && decide (b ≤ (xs.length : Int))))) <;> rw [hc] at ha
        · simp at ha
        · simp only [cond_true] at ha
          simp only [Bool.and_eq_true, decide_eq_true_eq] at hc
          obtain ⟨hk, h0, h1, h2⟩ := hc
          have hk := Nat.eq_of_beq_eq_true hk
          obtain ⟨e, hue, hse⟩ : ∃ e, P.underlying T = some (.slice e) ∧ sz? P e = some m := by
            unfold elemSz at hm
            split at hm
            · rename_i e he; exact ⟨e, he, hm⟩
            · simp at hm
          have hel : P.elem T = e := by simp [Program.elem, hue]
          have hu : P.underlying T = some (.slice (P.elem T)) := by rw [hel]; exact hue
          have hsz : (sizeOf (P.elem T)).run P w = .ok m w := by rw [hel]; exact sz_run hse w
          have hstep : ∀ p, Step ok μ w ok (updP μ n p) w := fun p => ⟨Keeps.refl _ _, fun _ x => x, fun l hl => updP_ne μ p fun e => hl (e ▸ hn)⟩
          have hnl : n ≠ l := fun e => by subst e; rw [hd] at hl; simp at hl
          have hout : ∀ p bk, ∀ i, i ≠ n → h i = .dead ∧ μ i = .gone → upd (upd h l .dead) n bk i = .dead ∧ updP μ n p i = .gone := fun p bk i hi hx => by
            refine ⟨?_, by rw [updP_ne μ p hi]; exact hx.2⟩
            rw [upd_ne _ _ hi]
            by_cases e : i = l
            · subst e; rw [upd_same]
            · rw [upd_ne _ _ e]; exact hx.1
          have hkd : upd h l .dead n = .dead := by rw [upd_ne _ _ hnl]; exact hd
          have hr := hs.rep l
          rw [hl] at hr
          cases hxv with
          | slNil _ hμ =>
            rw [hμ] at hr
            cases hr with
            | arrNil =>
              have e0 : a = 0 ∧ b = 0 := by simp at h2; omega
              obtain ⟨rfl, rfl⟩ := e0
              have hrun := slice_run (a := none) (n := 0) (cap := 0) hu hsz lov hiv 0 0 (bndA_rep hlo hba) (bndA_rep hhi hbb) (by omega) (by omega) (by omega) (by omega)
              refine ⟨_, _, updP μ n .nil, _, ha, hrun, ?_, hstep _, ?_, hout _ _⟩
              · exact (hs.kill l).alloc hkd hn (Kept.refl w) (fun g hg => by simp [Pl.blk?] at hg) (by simpa using .arrNil t)
              · simp only [sliced]
                exact .slNil n (updP_same _ _ _)
          | sl _ bk o n' cap k hμ =>
            rw [hμ] at hr
            cases hr with
            | arr _ _ _ _ _ cur e hb hcap hsz' hcell =>
              have hrun := slice_run (a := some ⟨bk, o, none⟩) (n := xs.length) (cap := cap) hu hsz lov hiv a b (bndA_rep hlo hba) (bndA_rep hhi hbb) h0 h1 h2 hcap
              have hlen : ((xs.take b.toNat).drop a.toNat).length = b.toNat - a.toNat := by simp; omega
              have hal : a.toNat ≤ cap := by omega
              have hmul : (cap - a.toNat) * C.k t + a.toNat * C.k t = cap * C.k t := by rw [← Nat.add_mul]; congr 1; omega
              let o' := if cap = a.toNat then o else o + a.toNat * C.k t
              refine ⟨_, _, updP μ n (.row bk o' ((xs.take b.toNat).drop a.toNat).length (cap - a.toNat) (C.k t)), _, ha, hrun, ?_, hstep _, ?_, hout _ _⟩
              · have hll : live (h l) = true := by rw [hl]; rfl
                have hbl : (μ l).blk? = some bk := by rw [hμ]; rfl
                refine (hs.kill l).place (l := n) (.inl hn) (fun g hg => ?_) ?_
                · simp only [Pl.blk?, Option.some.injEq] at hg
                  subst hg
                  refine ⟨fun i hi hbi => ?_, (hs.nok l _ hll hbl).1, (hs.nok l _ hll hbl).2⟩
                  by_cases e' : i = l
                  · subst e'; rw [upd_same] at hi; simp [live] at hi
                  · rw [upd_ne _ _ e'] at hi
                    exact hs.inj i l _ e' hi hll hbi hbl
                · refine .arr bk o' (cap - a.toNat) t _ cur e hb (by rw [hlen]; omega) ?_ fun i x hx => ?_
                  · show (if cap = a.toNat then o else o + a.toNat * C.k t) + _ ≤ _
                    split <;> omega
                  · have hi : i < b.toNat - a.toNat := by rw [← hlen]; exact (List.getElem?_eq_some_iff.1 hx).1
                    have hne : cap ≠ a.toNat := by omega
                    have ho' : o' = o + a.toNat * C.k t := by simp only [o', if_neg hne]
                    rw [List.getElem?_drop, List.getElem?_take_of_lt (by omega)] at hx
                    have := hcell (a.toNat + i) x hx
                    rw [ho']
                    have e2 : o + a.toNat * C.k t + i * C.k t = o + (a.toNat + i) * C.k t := by rw [Nat.add_mul]; omega
                    rw [e2]
                    exact this.mono (Keeps.refl _ _) (fun _ x => x) fun i hi => updP_ne μ _ fun e => hi (e ▸ hn)
              · have hv : sliced (some ⟨bk, o, none⟩) a.toNat b.toNat cap m = .slice (some ⟨bk, o', none⟩) ((xs.take b.toNat).drop a.toNat).length (cap - a.toNat) := by
                  rw [hlen]
                  simp only [sliced, o', ← hk]
                  split <;> simp [Addr.add]
                rw [hv]
                exact .sl n bk o' _ _ (C.k t) (updP_same _ _ _)
      · simp at ha
    · simp at ha
  · simp at ha

end
end Go.Abs

/-
  Soundness of the abstract machine, eleventh part: any operation.
-/
namespace Go.Abs

section
variable [D : Dom] [C : Coding] {P : Program}
variable {B : Base} {w w' : World} {ok ok' : Nat → Prop} {μ μ' : Nat → Pl} {F : FS} {h : Hp} {cfs : List (Array Value)} {st : St} {tmps : Array Value}

omit D C in
theorem fieldAt_run {T f d ft n : Nat} {a : Addr} (hf : fieldT P T f = some (d, ft)) (hn : sz? P ft = some (n + 1)) (w : World) : (Instr.fieldAt T (.pointer (some a)) f).run P w = .ok (.pointer (some (a.add d))) w := by
  unfold fieldT at hf
  split at hf
  · rename_i fs hu
    split at hf
    · rename_i fd hfd
      simp at hf
      obtain ⟨rfl, rfl⟩ := hf
      simp [Instr.fieldAt, run_underlying hu, hfd, Instr.sureAddr, fieldPlace, sz_run hn]
    · simp at hf
  · simp at hf

theorem VRep.ptr_some {a : AV} {u : Value} (h : VRep w ok μ a u) (hp : ptrA a = some false) : ∃ b o, u = .pointer (some ⟨b, o, none⟩) := by
  cases h with
  | v =>
    exfalso
    cases u <;> simp [ptrA] at hp
    rename_i p
    cases p <;> simp at hp
  | ptr l off b h => exact ⟨_, _, rfl⟩
  | ept => exact ⟨_, _, rfl⟩
  | imp => exact ⟨_, _, rfl⟩
  | _ => simp [ptrA] at hp

theorem VRep.eqv {x u : Value} (h : VRep w ok μ (.v x) u) : u = x := by cases h; rfl

theorem appendA_k {α : Type} {T n : Nat} {s x : AV} {K : AV → Hp → Lg → Option α} {r : α} (ha : appendA P T s x h n K = some r) : ∃ a h' g, K a h' g = some r := by
  unfold appendA at ha
  simp only [Bool.cond_eq_ite] at ha
  repeat' split at ha
  all_goals first | (simp at ha; done) | exact ⟨_, _, _, ha⟩

omit C in
theorem evalsA1 {xs : List Operand} {a : AV} (h : evalsA st xs = some [a]) : ∃ x, xs = [x] ∧ evalA st x = some a := by
  cases xs with
  | nil => simp [evalsA] at h
  | cons x xs =>
    simp only [evalsA] at h
    split at h
    · rename_i a' ha
      split at h
      · rename_i as has
        simp at h
        obtain ⟨rfl, rfl⟩ := h
        cases xs with
        | nil => exact ⟨x, rfl, ha⟩
        | cons y ys =>
          simp only [evalsA] at has
          split at has
          · split at has <;> simp at has
          · simp at has
      · simp at h
    · simp at h

omit C in
theorem evalsA2 {xs : List Operand} {a b : AV} (h : evalsA st xs = some [a, b]) : ∃ x y, xs = [x, y] ∧ evalA st x = some a ∧ evalA st y = some b := by
  cases xs with
  | nil => simp [evalsA] at h
  | cons x xs =>
    simp only [evalsA] at h
    split at h
    · rename_i a' ha
      split at h
      · rename_i as has
        simp at h
        obtain ⟨rfl, rfl⟩ := h
        obtain ⟨y, rfl, hy⟩ := evalsA1 has
        exact ⟨x, y, rfl, ha, hy⟩
      · simp at h
    · simp at h

omit C in
theorem max2A_some {as : List AV} {r : AV} (h : max2A as = some r) : ∃ a b, as = [.v (.int .i64 a), .v (.int .i64 b)] ∧ r = .v (.int .i64 (max a b)) := by
  unfold max2A at h
  split at h
  · simp at h; exact ⟨_, _, rfl, h.symm⟩
  · simp at h

omit C in
theorem min2A_some {as : List AV} {r : AV} (h : min2A as = some r) : ∃ a b, as = [.v (.int .i64 a), .v (.int .i64 b)] ∧ r = .v (.int .i64 (min a b)) := by
  unfold min2A at h
  split at h
  · simp at h; exact ⟨_, _, rfl, h.symm⟩
  · simp at h

theorem valA_sound {α : Type} [L : Lawful P] {call : Nat → List AV → St → (AV → St → Lg → Option α) → Option α} {r : α} (hcall : CallOK P F call r) {o : Oper} {K : AV → St → Lg → Option α}
    (h : valA P call o st K = some r) (hs : Sim B F cfs ok μ st tmps w) (hF : ∀ av st' lg, K av st' lg = some r → ∀ l, st.nx ≤ l → l < st'.nx → F l) (ds : List Deferred)
    {next : Act → World → Prop} {Q : Exit → Act → World → Prop}
    (hK : ∀ av st' lg ok' μ' v w', K av st' lg = some r → VRep w' ok' μ' av v → Sim B F cfs ok' μ' st' tmps w' → next ((Act.mk tmps ds).put o.dst v) w') :
    o.wp P ⟨tmps, ds⟩ w next Q := by
  have ev : ∀ {x : Operand} {av : AV}, evalA st x = some av → VRep w ok μ av ((Act.mk tmps ds).eval x) := fun hx => evalA_rep hs.tm hx ds
  -- an operation that leaves the world alone
  have plain : ∀ {av : AV} {lg : Lg} {v : Value}, K av st lg = some r → (execOp (Act.mk tmps ds).eval o).run P w = .ok (.value v) w → VRep w ok μ av v → o.wp P ⟨tmps, ds⟩ w next Q :=
    fun hk hr hv => wp_value hr (hK _ _ _ _ _ _ _ hk hv hs)
  unfold valA at h
  dsimp only at h
  split at h
  case h_1 | h_2 =>
    rename_i x hop
    have hrun : (execOp (Act.mk tmps ds).eval o).run P w = .ok (.value ((Act.mk tmps ds).eval x)) w := by simp [execOp, hop]
    split at h
    · split at h
      · rename_i t ht
        have hF' := hF _ _ _ h
        have hn := hs.fresh.2 st.nx (.inl (Nat.le_refl _)) (hF' st.nx (Nat.le_refl _) (by simp))
        have hh := hs.heap.alloc (p := .nil) (b := .arr t []) hn.1 hn.2 (Kept.refl w) (fun g hg => by simp [Pl.blk?] at hg) (.arrNil t)
        have hst : Step ok μ w ok (updP μ st.nx .nil) w := ⟨Keeps.refl _ _, fun _ x => x, fun l hl => updP_ne μ _ (fun e => hl (e ▸ hn.2))⟩
        refine wp_value hrun (hK _ _ _ _ _ _ _ h (.slNil st.nx (updP_same _ _ _)) (hs.heapTo hh hst ⟨Nat.le_trans hs.fresh.1 (Nat.le_succ _), fun l hl hFl => ?_⟩))
        have hne : l ≠ st.nx := by have := hs.fresh.1; omega
        have := hs.fresh.2 l (by omega) hFl
        exact ⟨by rw [upd_ne _ _ hne]; exact this.1, by rw [updP_ne μ _ hne]; exact this.2⟩
      · exact plain h hrun (.v _)
    · split at h
      · rename_i hx; exact plain h hrun (ev hx)
      · simp at h
  case h_3 =>
    rename_i c a b hop
    split at h
    · rename_i c' a' b' hc ha hb
      refine plain h ?_ (.v _)
      simp only [execOp, hop, (ev hc).eqv, (ev ha).eqv, (ev hb).eqv]
      cases c' <;> simp [asBool]
    · rename_i c' a' b' _ hc ha hb
      cases c' with
      | true => exact plain h (by simp only [execOp, hop, (ev hc).eqv]; simp [asBool]) (ev ha)
      | false => exact plain h (by simp only [execOp, hop, (ev hc).eqv]; simp [asBool]) (ev hb)
    · simp at h
  case h_4 =>
    rename_i T hop
    split at h
    · rename_i cs hcs
      cases h1 : allA oneA cs <;> rw [h1] at h
      · simp at h
      · obtain ⟨z, z1, rfl, z3⟩ := zeroCells_sound (w := w) hcs h1
        simp only [cond_true] at h
        generalize hu : unnil (slots P 8 T) (z.cells.toList.map .v) st.hp (st.nx + 1) = x at h
        obtain ⟨dd, h1', ns⟩ := x
        simp only at h
        have hF' := hF _ _ _ h
        obtain ⟨μ', n1, n2, n3, n4⟩ := hs.heap.newCells (vs := z.cells) (e := T) hu (fun j a ha => by
          simp [List.getElem?_map] at ha
          obtain ⟨u, hu, rfl⟩ := ha
          exact ⟨u, hu, z3 u (by rw [Array.mem_toList_iff]; exact Array.mem_of_getElem? hu), .v u⟩) (fun l l1 l2 => hs.fresh.2 l (.inl l1) (hF' l l1 (by simp; omega)))
        refine wp_value ?_ (hK _ _ _ _ _ _ _ h (.ptr st.nx 0 _ n3) (hs.heapTo n1 n2 ⟨Nat.le_trans hs.fresh.1 (by omega), fun l hl hFl => n4 l (by have := hs.fresh.1; omega) (hs.fresh.2 l (by omega) hFl)⟩))
        simp [execOp, hop, Instr.alloc, z1, newVar_run]
    · simp at h
  case h_5 =>
    rename_i T x hop
    split at h
    · rename_i a ha
      cases h1 : allA oneA (cellsOf a) <;> rw [h1] at h
      · simp at h
      · obtain ⟨c1, c2⟩ := cellsOf_rep (ev ha) h1
        simp only [cond_true] at h
        generalize hu : unnil (slots P 8 T) (cellsOf a) st.hp (st.nx + 1) = x at h
        obtain ⟨dd, h1', ns⟩ := x
        simp only at h
        have hF' := hF _ _ _ h
        obtain ⟨μ', n1, n2, n3, n4⟩ := hs.heap.newCells (vs := ((Act.mk tmps ds).eval x).cells) (e := T) hu c2 (fun l l1 l2 => hs.fresh.2 l (.inl l1) (hF' l l1 (by simp; omega)))
        refine wp_value ?_ (hK _ _ _ _ _ _ _ h (.ptr st.nx 0 _ n3) (hs.heapTo n1 n2 ⟨Nat.le_trans hs.fresh.1 (by omega), fun l hl hFl => n4 l (by have := hs.fresh.1; omega) (hs.fresh.2 l (by omega) hFl)⟩))
        simp [execOp, hop, Instr.box, newVar_run]
    · simp at h
  case h_6 =>
    rename_i T ps hop
    split at h
    · rename_i cs hcs
      cases h1 : (structT P T && allA oneA cs) <;> rw [h1] at h
      · simp at h
      · rw [Bool.and_eq_true] at h1
        obtain ⟨z, z1, rfl, z3⟩ := zeroCells_sound (w := w) hcs h1.2
        simp only [cond_true] at h
        split at h
        · rename_i out hout
          obtain ⟨fs, hu, hall⟩ : ∃ fs, P.underlying T = some (.struct fs) ∧ ∀ f ∈ fs, ∃ n, sz? P f.type = some n := by
            have := h1.1
            unfold structT at this
            split at this
            · rename_i fs hfs
              refine ⟨fs, hfs, fun f hf => ?_⟩
              rw [List.all_eq_true] at this
              exact Option.isSome_iff_exists.1 (this f (by simpa using hf))
            · simp at this
          have hmap : (fs.mapM fun f => do pure (f.offset, ← sizeOf f.type) : Sem (Array (Nat × Nat))).run P w = .ok (fs.map fun f => (f.offset, (sz? P f.type).getD 0)) w := by
            rw [Array.mapM_eq_mapM_toList]
            have key : ∀ (l : List Field), (∀ f ∈ l, ∃ n, sz? P f.type = some n) → (l.mapM fun f => do pure (f.offset, ← sizeOf f.type) : Sem (List (Nat × Nat))).run P w = .ok (l.map fun f => (f.offset, (sz? P f.type).getD 0)) w := by
              intro l
              induction l with
              | nil => intro _; rfl
              | cons f l ih =>
                intro hl
                obtain ⟨n, hn⟩ := hl f (by simp)
                simp only [List.mapM_cons, Sem.run_bind, sz_run hn, hn, Result.andThen_ok, Sem.run_pure, ih (fun g hg => hl g (by simp [hg])), List.map_cons, Option.getD_some]
            simp only [map_eq_pure_bind, Sem.run_bind, key fs.toList (fun f hf => hall f (by simpa using hf)), Result.andThen_ok, Sem.run_pure]
            congr 1
            apply Array.ext'
            simp
          obtain ⟨res, r1, r2, r3⟩ := fillA_sound hs.tm ds hu ((fs.map fun f => (f.offset, (sz? P f.type).getD 0))[·]?) (fun i f hf n hn => by simp [hf, hn]) ps.toList _ out z.cells hout (by simp) (fun j a ha => by
            simp [List.getElem?_map] at ha
            obtain ⟨u, hu, rfl⟩ := ha
            exact ⟨u, hu, z3 u (by rw [Array.mem_toList_iff]; exact Array.mem_of_getElem? hu), .v u⟩)
          refine plain (v := .agg res) h ?_ ?_
          · have e : (ps.map fun (i, x) => (i, (Act.mk tmps ds).eval x)).toList = ps.toList.map fun (i, x) => (i, (Act.mk tmps ds).eval x) := by simp
            simp only [execOp, hop, Instr.build, Sem.run_bind, z1, Result.andThen_ok, run_underlying hu, hmap, e, r1, Sem.run_pure]
          · have := VRep.agg (w := w) (ok := ok) (μ := μ) out res.toList (by simp [r2]) (fun v hv => by
              obtain ⟨j, hj⟩ := List.getElem?_of_mem hv
              have hlt : j < out.length := by rw [r2]; have := (List.getElem?_eq_some_iff.1 hj).1; simpa using this
              obtain ⟨u, u1, u2, _⟩ := r3 j _ (List.getElem?_eq_getElem hlt)
              rw [Array.getElem?_toList, u1] at hj
              simp at hj; exact hj ▸ u2) (fun i a v ha hv => by
              obtain ⟨u, u1, _, u3⟩ := r3 i a ha
              rw [Array.getElem?_toList, u1] at hv
              simp at hv; exact hv ▸ u3)
            simpa using this
        · simp at h
    · simp at h
  case h_7 =>
    rename_i T n ps hop
    split at h
    · rename_i e hu
      split at h
      · simp at h
      · rename_i sz hsz
        cases hbig : Nat.ble (n * sz) (2 ^ 24) <;> rw [hbig] at h
        · simp at h
        · have hbig := Nat.le_of_ble_eq_true hbig
          simp only [cond_true] at h
          have hmap : (ps.map fun (i, x) => (i, (Act.mk tmps ds).eval x)).toList = ps.toList.map fun (i, x) => (i, (Act.mk tmps ds).eval x) := by simp
          split at h
          · rename_i t ht
            cases hc : (Nat.beq ps.size n && Nat.beq (C.k t) sz) <;> rw [hc] at h
            · simp at h
            · rw [Bool.and_eq_true] at hc
              have hn : ps.size = n := Nat.eq_of_beq_eq_true hc.1
              have hk : C.k t = sz := Nat.eq_of_beq_eq_true hc.2
              simp only [cond_true] at h
              split at h
              · rename_i xs h1 g1 hp
                obtain ⟨i, z, hi, hz, hzs, hik⟩ := L.tag e t ht
                have hF' := hF _ _ _ h
                have hfr := hs.fresh.2 st.nx (.inl (Nat.le_refl _)) (hF' st.nx (Nat.le_refl _) (by simp))
                let cells0 : Array Value := (Array.range (n * sz)).map (fun p => (if n * sz = 0 then #[] else z.cells)[p % (if n * sz = 0 then #[] else z.cells).size]!)
                have hc0 : cells0.size = n * sz := by simp [cells0]
                obtain ⟨ok1, res, p1, p2, p3, p4, p5, p6, p7, p8, p9⟩ := partsA_sound (P := P) ds ps.toList 0 st.hp h1 ok cells0 xs g1 hp hs.heap hs.tm (by rw [hc0, hk, ← hn]; simp)
                have hxs : xs.length = n := by rw [p7]; simpa using hn
                have hh := p3.alloc (l := st.nx) (p := .row w.heap.size 0 xs.length n (C.k t)) (b := .arr t xs) (w' := w.alloc (.cells res e)) (p5 _ hfr.1) hfr.2 (Kept.alloc rfl rfl rfl rfl) (fun g hg => by simp [Pl.blk?] at hg; omega) (by
                  refine .arr w.heap.size 0 n t xs res e (heap_alloc_new w _) (by omega) (by rw [p2, hc0, hk]; omega) fun i x hx j a ha => ?_
                  obtain ⟨u, u1, u2, u3⟩ := p9 i x hx j a ha
                  refine ⟨u, by rw [Nat.zero_add]; rw [Nat.zero_add] at u1; exact u1, u2, ?_⟩
                  exact u3.mono ((Kept.alloc rfl rfl rfl rfl : Kept (fun _ => False) w (w.alloc (.cells res e))).keeps fun b hb => ⟨p3.okb b hb, id⟩) (fun _ x => x) fun l hl => updP_ne μ _ fun e => hl (e ▸ hfr.2))
                have hst : Step ok μ w ok1 (updP μ st.nx (.row w.heap.size 0 xs.length n (C.k t))) (w.alloc (.cells res e)) :=
                  p4.trans ⟨(Kept.alloc rfl rfl rfl rfl : Kept (fun _ => False) w (w.alloc (.cells res e))).keeps fun b hb => ⟨p3.okb b hb, id⟩, fun _ x => x, fun l hl => updP_ne μ _ fun e => hl (e ▸ hfr.2)⟩
                refine wp_value (v := .slice (some ⟨w.heap.size, 0, none⟩) n n) (w' := w.alloc (.cells res e)) ?_ (hK _ _ _ _ _ _ _ h (by have := VRep.sl (w := w.alloc (.cells res e)) (ok := ok1) (μ := updP μ st.nx (.row w.heap.size 0 xs.length n (C.k t))) st.nx w.heap.size 0 xs.length n (C.k t) (updP_same _ _ _); rwa [hxs] at this ⊢) (hs.heapTo hh hst ⟨Nat.le_trans hs.fresh.1 (Nat.le_succ _), fun l hl hFl => ?_⟩))
                · have hzv : (zeroValue e).run P w = .ok z w := by simp [zeroValue, typeInfo, hi, hz]
                  have hnb : ¬ (n * sz > 2 ^ 24) := by omega
                  have hplace : (fun i => some (i * sz, sz)) = (fun i => some (i * C.k t, C.k t)) := by rw [hk]
                  simp only [execOp, hop, Instr.buildSlice, Sem.run_bind, run_underlying hu, Result.andThen_ok, sz_run hsz, if_neg hnb, Sem.run_pure, hmap, hplace]
                  simp only [cells0] at p1
                  by_cases h0 : n * sz = 0
                  · simp only [if_pos h0] at p1
                    simp only [if_pos h0, Sem.run_bind, Sem.run_pure, Result.andThen_ok, p1]
                    rfl
                  · simp only [if_neg h0] at p1
                    simp only [if_neg h0, Sem.run_bind, Sem.run_pure, Result.andThen_ok, hzv, p1]
                    rfl
                · have hne : l ≠ st.nx := by have := hs.fresh.1; omega
                  have := hs.fresh.2 l (by omega) hFl
                  exact ⟨by rw [upd_ne _ _ hne]; exact p5 l this.1, by rw [updP_ne μ _ hne]; exact this.2⟩
              · simp at h
          · split at h
            · rename_i z hz
              cases hc : (lenIs sz z && allA oneA z) <;> rw [hc] at h
              · simp at h
              · rw [Bool.and_eq_true] at hc
                simp only [cond_true] at h
                split at h
                · rename_i cs hcs
                  obtain ⟨zv, z1, rfl, z3⟩ := zeroCells_sound (w := w) hz hc.2
                  have hlen : zv.cells.size = sz := by simpa using lenIs_eq hc.1
                  have hF' := hF _ _ _ h
                  have hfr := hs.fresh.2 st.nx (.inl (Nat.le_refl _)) (hF' st.nx (Nat.le_refl _) (by simp))
                  obtain ⟨res, r1, r2, r3⟩ := fpartsA_sound hs.tm ds ps.toList _ cs ((Array.range (n * sz)).map (fun p => (if n * sz = 0 then #[] else zv.cells)[p % (if n * sz = 0 then #[] else zv.cells).size]!)) hcs (by simp [List.length_flatten, hlen]) (fun j a ha => by
                    obtain ⟨f1, f2⟩ := flatten_get _ _ _ _ ha
                    simp only [List.length_map, Array.length_toList, hlen] at f1 f2
                    simp [List.getElem?_map] at f1
                    obtain ⟨u, hu', rfl⟩ := f1
                    refine ⟨u, ?_, z3 u (by rw [Array.mem_toList_iff]; exact Array.mem_of_getElem? hu'), .v u⟩
                    have h0 : n * sz ≠ 0 := by omega
                    rw [if_neg h0, hlen]
                    rw [Array.getElem?_map, Array.getElem?_range, if_pos f2]
                    simp only [Option.map_some, Option.some.injEq]
                    rw [getElem!_def, hu'])
                  have hh := hs.heap.alloc (l := st.nx) (p := .at w.heap.size) (b := .cells cs) (w' := w.alloc (.cells res e)) hfr.1 hfr.2 (Kept.alloc rfl rfl rfl rfl) (fun g hg => by simp [Pl.blk?] at hg; omega) (by
                    refine .cells _ _ res e (heap_alloc_new w _) fun j a ha => ?_
                    obtain ⟨u, u1, u2, u3⟩ := r3 j a ha
                    refine ⟨u, by rw [Nat.zero_add]; exact u1, u2, ?_⟩
                    exact u3.mono ((Kept.alloc rfl rfl rfl rfl : Kept (fun _ => False) w (w.alloc (.cells res e))).keeps fun b hb => ⟨hs.heap.okb b hb, id⟩) (fun _ x => x) fun l hl => updP_ne μ _ fun e => hl (e ▸ hfr.2))
                  have hst : Step ok μ w ok (updP μ st.nx (.at w.heap.size)) (w.alloc (.cells res e)) :=
                    ⟨(Kept.alloc rfl rfl rfl rfl : Kept (fun _ => False) w (w.alloc (.cells res e))).keeps fun b hb => ⟨hs.heap.okb b hb, id⟩, fun _ x => x, fun l hl => updP_ne μ _ fun e => hl (e ▸ hfr.2)⟩
                  refine wp_value (v := .slice (some ⟨w.heap.size, 0, none⟩) n n) (w' := w.alloc (.cells res e)) ?_ (hK _ _ _ _ _ _ _ h (.fsl st.nx n sz w.heap.size (updP_same _ _ _)) (hs.heapTo hh hst ⟨Nat.le_trans hs.fresh.1 (Nat.le_succ _), fun l hl hFl => ?_⟩))
                  · have hnb : ¬ (n * sz > 2 ^ 24) := by omega
                    simp only [execOp, hop, Instr.buildSlice, Sem.run_bind, run_underlying hu, Result.andThen_ok, sz_run hsz, if_neg hnb, Sem.run_pure, hmap]
                    by_cases h0 : n * sz = 0
                    · simp only [if_pos h0] at r1
                      simp only [if_pos h0, Sem.run_bind, Sem.run_pure, Result.andThen_ok, r1]
                      rfl
                    · simp only [if_neg h0] at r1
                      simp only [if_neg h0, Sem.run_bind, Sem.run_pure, Result.andThen_ok, z1, r1]
                      rfl
                  · have hne : l ≠ st.nx := by have := hs.fresh.1; omega
                    have := hs.fresh.2 l (by omega) hFl
                    exact ⟨by rw [upd_ne _ _ hne]; exact this.1, by rw [updP_ne μ _ hne]; exact this.2⟩
                · simp at h
            · simp at h
    · simp at h
  case h_8 =>
    rename_i T a hop
    split at h
    · rename_i av ha
      obtain ⟨bv, g, u, k1, k2, k3⟩ := loadA_sound (P := P) h hs.heap (ev ha)
      exact plain k1 (by simp [execOp, hop, k2]) k3
    · simp at h
  case h_9 =>
    rename_i T a v hop
    split at h
    · rename_i av bv ha hb
      obtain ⟨h', g, ok', μ', w', s1, s2, s3, s4, s5⟩ := storeA_sound (P := P) h hs.heap (ev ha) (ev hb) (fun h' g hk l l1 l2 => hs.fresh.2 l (.inl l1) (hF _ _ _ hk l l1 l2))
      exact wp_skipped (by simp [execOp, hop, s2]) (hK _ _ _ _ _ _ _ s1 (.v _) (hs.heapTo s3 s4 ⟨Nat.le_trans hs.fresh.1 (Nat.le_add_right _ _), fun l hl hFl => s5 l (by have := hs.fresh.1; omega) (hs.fresh.2 l (by omega) hFl)⟩))
    · simp at h
  case h_10 =>
    rename_i x hop
    have go : ∀ {a : AV} {lg : Lg}, evalA st x = some a → ptrA a = some false → K a st lg = some r → o.wp P ⟨tmps, ds⟩ w next Q := by
      intro a lg hx hp hk
      obtain ⟨b, off, hy⟩ := (ev hx).ptr_some hp
      exact plain hk (by simp [execOp, hop, hy]) (hy ▸ ev hx)
    split at h
    · rename_i hx; exact go hx rfl h
    · rename_i hx; exact go hx rfl h
    · rename_i hx; exact go hx rfl h
    · simp at h
  case h_11 =>
    rename_i op T x y yt hop
    split at h
    · rename_i a b ha hb
      split at h
      · split at h
        · rename_i k x' k' y'
          cases hk : decide (k = k') <;> rw [hk] at h
          · simp at h
          · have hk := of_decide_eq_true hk; subst hk
            cases h0 : decide (y' = 0) <;> rw [h0] at h
            · simp only [cond_true, cond_false] at h
              have h0 := of_decide_eq_false h0
              exact plain h (by simp [execOp, hop, (ev ha).eqv, (ev hb).eqv, eqGuard, binOp, Op.intDiv, h0]) (.v _)
            · simp at h
        · simp at h
      · split at h
        · rename_i k x' k' y'
          cases hk : decide (k = k') <;> rw [hk] at h
          · simp at h
          · have hk := of_decide_eq_true hk; subst hk
            cases h0 : decide (y' = 0) <;> rw [h0] at h
            · simp only [cond_true, cond_false] at h
              have h0 := of_decide_eq_false h0
              exact plain h (by simp [execOp, hop, (ev ha).eqv, (ev hb).eqv, eqGuard, binOp, Op.intDiv, h0]) (.v _)
            · simp at h
        · simp at h
      · split at h
        · rename_i c hc
          obtain ⟨v, v1, v2⟩ := binA_sound (P := P) hc (ev ha) (ev hb) x y
          exact plain h (by simp only [execOp, hop]; rw [Sem.run_bind, v1]; rfl) v2
        · simp at h
    · simp at h
  case h_12 =>
    rename_i op T x hop
    split at h
    · rename_i a ha
      split at h
      · rename_i c hc
        obtain ⟨v, v1, v2⟩ := unA_sound (P := P) hc (ev ha)
        exact plain h (by simp only [execOp, hop]; rw [Sem.run_bind, v1]; rfl) v2
      · simp at h
    · simp at h
  case h_13 =>
    rename_i f first caps hop
    cases hf : Nat.beq first.size 0 <;> rw [hf] at h
    · simp at h
    · have hf : first = #[] := Array.eq_empty_of_size_eq_zero (Nat.eq_of_beq_eq_true hf)
      subst hf
      simp only [cond_true] at h
      split at h
      · rename_i cs hcs
        obtain ⟨e1, e2⟩ := evalsA_rep hs.tm ds hcs
        refine plain (v := .func (.func f) #[] (caps.toList.map (Act.mk tmps ds).eval).toArray) h ?_ (.fn f cs _ (by simp [e1]) e2)
        simp [execOp, hop, Instr.makeFunc]
        apply Array.ext'
        simp
      · simp at h
  case h_14 =>
    rename_i T x f hop
    split at h
    · rename_i a d ft ha hf
      split at h
      · rename_i n hn
        split at h
        · rename_i l off
          have hv := ev ha
          generalize hy : (Act.mk tmps ds).eval x = y at hv
          cases hv with
          | ptr _ _ b hμ => exact plain h (by simp [execOp, hop, hy, fieldAt_run hf hn, add_none]) (.ptr l (off + d) b hμ)
        · rename_i l i off
          have hv := ev ha
          generalize hy : (Act.mk tmps ds).eval x = y at hv
          cases hv with
          | ept _ _ _ b o n cap k hμ => exact plain h (by simp [execOp, hop, hy, fieldAt_run hf hn, add_none]; rfl) (by rw [Nat.add_assoc]; exact .ept l i (off + d) b o n cap k hμ)
        · rename_i t x off
          have hv := ev ha
          generalize hy : (Act.mk tmps ds).eval _ = y at hv
          cases hv with
          | imp _ _ _ b o h1 u h2 h3 => exact plain h (by simp [execOp, hop, hy, fieldAt_run hf hn, add_none]; rfl) (by rw [Nat.add_assoc]; exact .imp t x (off + d) b o h1 u h2 h3)
        · simp at h
      · simp at h
    · simp at h
  case h_15 =>
    rename_i T x i hop
    split at h
    · rename_i a k i' ha hi
      obtain ⟨av, g, u, k1, k2, k3⟩ := indexA_sound (P := P) (k := k) h hs.heap (ev ha)
      exact plain k1 (by simp only [execOp, hop, (ev hi).eqv]; rw [Sem.run_bind, k2]; rfl) k3
    · simp at h
  case h_16 =>
    rename_i x i hop
    split at h
    · rename_i vs hx
      split at h
      · rename_i a ha
        have hv := ev hx
        generalize hy : (Act.mk tmps ds).eval x = y at hv
        rw [nth_eq] at ha
        cases hv with
        | tup cs us hl hr =>
          have hlt : i < us.length := by rw [hl]; exact (List.getElem?_eq_some_iff.1 ha).1
          have hu : us[i]? = some us[i] := List.getElem?_eq_getElem hlt
          exact plain h (by simp [execOp, hop, hy, Instr.extract, hlt]) (hr i a _ ha hu)
      · simp at h
    · simp at h
  case h_17 =>
    rename_i c hop
    have args1 : ∀ {x : Operand}, c.args.toList = [x] → c.args = #[x] := fun {x} h => Array.ext' (by simpa using h)
    have args2 : ∀ {x y : Operand}, c.args.toList = [x, y] → c.args = #[x, y] := fun {x y} h => Array.ext' (by simpa using h)
    have tys1 : ∀ {x : TypeId}, c.argTypes.toList = [x] → c.argTypes = #[x] := fun {x} h => Array.ext' (by simpa using h)
    have tys2 : ∀ {x y : TypeId}, c.argTypes.toList = [x, y] → c.argTypes = #[x, y] := fun {x y} h => Array.ext' (by simpa using h)
    split at h
    · rename_i hc
      split at h
      · rename_i a T ha hT
        split at h
        · rename_i n g hn
          obtain ⟨x, hx, hxa⟩ := evalsA1 ha
          have := lenA_sound (P := P) (ty := o.type) hn hs.heap (ev hxa)
          refine plain h ?_ (.v _)
          simp [execOp, hop, resolve, hc, invoke, builtin, args1 hx, tys1 hT, this]
        · simp at h
      · simp at h
    · rename_i hc
      split at h
      · rename_i s x T T' ha hT
        cases hi : isSlice P T' <;> rw [hi] at h
        · simp at h
        · simp only [cond_true] at h
          obtain ⟨xs, xx, hx, hsa, hxa⟩ := evalsA2 ha
          have hnx : ∃ a' h' g, K a' { st with hp := h', nx := st.nx + 1 } g = some r := by
            obtain ⟨a', h', g', hk⟩ := appendA_k h
            exact ⟨a', h', g', hk⟩
          obtain ⟨a', h', g', hk⟩ := hnx
          have hfr := hs.fresh.2 st.nx (.inl (Nat.le_refl _)) (hF _ _ _ hk st.nx (Nat.le_refl _) (by simp))
          obtain ⟨h', g, μ', v', w', k1, k2, k3, k4, k5, k6⟩ := appendA_sound (P := P) (ty := o.type) h hi hs.heap (ev hsa) (ev hxa) hfr.1 hfr.2
          refine wp_value ?_ (hK _ _ _ _ _ _ _ k1 k5 (hs.heapTo k3 k4 ⟨Nat.le_trans hs.fresh.1 (Nat.le_succ _), fun l hl hFl => k6 l (by have := hs.fresh.1; omega) (hs.fresh.2 l (by omega) hFl)⟩))
          simp [execOp, hop, resolve, hc, invoke, builtin, args2 hx, tys2 hT, k2]
      · simp at h
    · rename_i hc
      split at h
      · rename_i as ha
        split at h
        · rename_i b hb
          obtain ⟨m, n, rfl, rfl⟩ := max2A_some hb
          obtain ⟨x, y, hx, h1, h2⟩ := evalsA2 ha
          refine plain h ?_ (.v _)
          simp only [execOp, hop, resolve, hc, invoke, builtin, args2 hx]
          simp [(ev h1).eqv, (ev h2).eqv, Builtin.max_, Builtin.max2]
          split <;> omega
        · simp at h
      · simp at h
    · rename_i hc
      split at h
      · rename_i as ha
        split at h
        · rename_i b hb
          obtain ⟨m, n, rfl, rfl⟩ := min2A_some hb
          obtain ⟨x, y, hx, h1, h2⟩ := evalsA2 ha
          refine plain h ?_ (.v _)
          simp only [execOp, hop, resolve, hc, invoke, builtin, args2 hx]
          simp [(ev h1).eqv, (ev h2).eqv, Builtin.min_, Builtin.min2]
          split <;> omega
        · simp at h
      · simp at h
    · rename_i f hc
      split at h
      · rename_i g caps as hg ha
        obtain ⟨e1, e2⟩ := evalsA_rep hs.tm ds ha
        have hv := ev hg
        generalize hy : (Act.mk tmps ds).eval f = y at hv
        cases hv with
        | fn _ _ vs hl hr =>
          obtain ⟨c1, c2⟩ := hcall B cfs ok μ st tmps w g (as ++ caps) (c.args.toList.map (Act.mk tmps ds).eval ++ vs) K h hs (by simp [e1, hl]) (fun i a v hia hiv => by
            rw [List.getElem?_append] at hia hiv
            by_cases hlt : i < as.length
            · rw [if_pos hlt] at hia
              rw [if_pos (by simp [← e1]; exact hlt)] at hiv
              exact e2 i a v hia hiv
            · rw [if_neg hlt] at hia
              rw [if_neg (by simp [← e1]; omega)] at hiv
              refine hr _ a v hia ?_
              simpa [← e1] using hiv) hF
          have hrun : (execOp (Act.mk tmps ds).eval o).run P w = .ok (.enter g (c.args.toList.map (Act.mk tmps ds).eval ++ vs).toArray) w := by
            simp only [execOp, hop, resolve, hc, hy, Deferred.ofValue, Sem.run_bind, Sem.run_pure, Result.andThen_ok, invoke]
            rw [c1]
            congr 2
            apply Array.ext'
            simp
          unfold Oper.wp
          rw [hrun, Oper.upon_enter]
          refine c2.mono ?_
          rintro e w' ⟨v, av, st', lg, ok', μ', rfl, k1, k2, k3⟩
          exact hK _ _ _ _ _ _ _ k1 k2 k3
      · simp at h
    · simp at h
  case h_18 =>
    rename_i T x lo hi hop
    split at h
    · rename_i a lo' hi' ha hlo hhi
      have hx : ∃ a' h' g, K a' { st with hp := h', nx := st.nx + 1 } g = some r := by
        unfold sliceA at h
        split at h
        · split at h
          · split at h
            · simp only [Bool.cond_eq_ite] at h
              split at h
              · exact ⟨_, _, _, h⟩
              · simp at h
            · simp at h
          · simp at h
        · simp at h
      obtain ⟨a', h', g', hk⟩ := hx
      have hfr := hs.fresh.2 st.nx (.inl (Nat.le_refl _)) (hF _ _ _ hk st.nx (Nat.le_refl _) (by simp))
      have opt : ∀ {q : Option Operand} {q' : Option AV}, optA st q = some q' → OptRep w ok μ q' (q.map (Act.mk tmps ds).eval) := fun {q q'} hq => by
        cases q with
        | none => simp only [optA, Option.some.injEq] at hq; subst hq; trivial
        | some y =>
          simp only [optA] at hq
          split at hq
          · rename_i b hb
            simp only [Option.some.injEq] at hq
            subst hq
            exact ev hb
          · simp at hq
      obtain ⟨h', g, μ', v', k1, k2, k3, k4, k5, k6⟩ := sliceA_sound (P := P) h hs.heap (ev ha) (opt hlo) (opt hhi) hfr.1 hfr.2
      refine wp_value ?_ (hK _ _ _ _ _ _ _ k1 k5 (hs.heapTo k3 k4 ⟨Nat.le_trans hs.fresh.1 (Nat.le_succ _), fun l hl hFl => k6 l (by have := hs.fresh.1; omega) (hs.fresh.2 l (by omega) hFl)⟩))
      simp only [execOp, hop, Option.map_none, Sem.run_bind, Sem.run_pure, Result.andThen_ok, k2]
    · simp at h
  case h_19 => simp at h

end
end Go.Abs

/-
  Soundness of the abstract machine: a row is cleared from some place on.
-/
namespace Go.Abs

section
variable [D : Dom] [C : Coding] {P : Program}
variable {B : Base} {w w' : World} {ok ok' : Nat → Prop} {μ μ' : Nat → Pl} {F : FS} {h : Hp} {cfs : List (Array Value)} {st : St} {tmps : Array Value}

omit D C in
theorem zeroCells_list (z : Array Value) (n : Nat) (j : Nat) : (Builtin.zeroCells z n).toList.length = n * z.size ∧ ((Builtin.zeroCells z n).toList[j]? = if j < n * z.size then some (z[j % z.size]!) else none) := by
  unfold Builtin.zeroCells
  refine ⟨by simp, ?_⟩
  rw [Array.getElem?_toList, Array.getElem?_map, Array.getElem?_range]
  split <;> simp

/-- The heap behind a clearing. -/
theorem clear_heap [L : Lawful P] {l : Nat} {t : D.Tag} {xs : List (D.El t)} {e T a : Nat} {y : D.El t} {zs : List AV} {sv : Value} (hs : HSim B ok μ h w) (hl : h l = .arr t xs) (hu : P.underlying T = some (.slice e)) (htag : C.tagOf e = some t)
    (hz : zeroCells P e = some zs) (h1 : allA oneA zs = true) (hy : C.dec t zs = some y) (ha : a ≤ xs.length) (hv : VRep w ok μ (.sl l) sv) {q : IntKind} :
    ∃ v w', (Instr.sliceAt T sv (some (.int q (a : Int))) none none).run P w = .ok v w ∧ (Builtin.clear_ #[T] 0 #[v]).run P w = .ok (.tuple #[]) w' ∧ HSim B ok μ (upd h l (.arr t (xs.take a ++ List.replicate (xs.length - a) y))) w' ∧ Step ok μ w ok μ w' := by
  obtain ⟨i, z, hi, hzz, hzs, hik⟩ := L.tag e t htag
  have hel : P.elem T = e := by simp [Program.elem, hu]
  have hu' : P.underlying T = some (.slice (P.elem T)) := by rw [hel]; exact hu
  have hsz : (sizeOf (P.elem T)).run P w = .ok (C.k t) w := by rw [hel]; simp [sizeOf, typeInfo, hi, hik]
  obtain ⟨z', z1, z2, z3⟩ := zeroCells_sound (w := w) hz h1
  have hzv : z' = z := by
    have : (zeroValue e).run P w = .ok z w := by simp [zeroValue, typeInfo, hi, hzz]
    rw [this] at z1; cases z1; rfl
  subst hzv
  have hy' := L.dec_enc t zs y hy
  have hkp := L.kpos t
  have self : xs.length - a = 0 → upd h l (.arr t (xs.take a ++ List.replicate (xs.length - a) y)) = h := fun h0 => by
    have e0 : xs.take a ++ List.replicate (xs.length - a) y = xs := by rw [h0, List.replicate_zero, List.append_nil, List.take_of_length_le (by omega)]
    rw [e0]
    funext j
    by_cases hj : j = l
    · subst hj; rw [upd_same, hl]
    · rw [upd_ne _ _ hj]
  have hr := hs.rep l
  rw [hl] at hr
  cases hv with
  | slNil _ hμ =>
    rw [hμ] at hr
    cases hr with
    | arrNil =>
      have ha0 : a = 0 := by simpa using ha
      subst ha0
      have hrun := slice_run (a := none) (n := 0) (cap := 0) hu' hsz (some (.int q (0 : Nat))) none 0 0 (.inr ⟨q, rfl⟩) (.inl ⟨rfl, rfl⟩) (by omega) (by omega) (by omega) (by omega)
      refine ⟨_, w, hrun, ?_, by rw [self (by simp)]; exact hs, Step.refl _ _ _⟩
      simp [Builtin.clear_, run_underlying hu, sliced]
  | sl _ bk o n' cap k hμ =>
    rw [hμ] at hr
    cases hr with
    | arr _ _ _ _ _ cur ee hb hcap hsz' hcell =>
      have hrun := slice_run (a := some ⟨bk, o, none⟩) (n := xs.length) (cap := cap) hu' hsz (some (.int q (a : Int))) none (a : Int) (xs.length : Int) (.inr ⟨q, rfl⟩) (.inl ⟨rfl, rfl⟩) (by omega) (by omega) (by omega) hcap
      simp only [Int.toNat_natCast] at hrun
      by_cases h0 : xs.length - a = 0
      · refine ⟨_, w, hrun, ?_, by rw [self h0]; exact hs, Step.refl _ _ _⟩
        by_cases hca : cap = a <;> simp [Builtin.clear_, run_underlying hu, sliced, h0, hca]
      · have hne : cap ≠ a := by omega
        have hll : live (h l) = true := by rw [hl]; rfl
        have hbl : (μ l).blk? = some bk := by rw [hμ]; rfl
        obtain ⟨n, hn⟩ : ∃ n, xs.length - a = n + 1 := ⟨xs.length - a - 1, by omega⟩
        let vs := (Builtin.zeroCells z'.cells (xs.length - a)).toList
        have hvl : vs.length = (xs.length - a) * C.k t := by rw [(zeroCells_list z'.cells (xs.length - a) 0).1, hzs, hik]
        have hmul : a * C.k t + (xs.length - a) * C.k t = xs.length * C.k t := by rw [← Nat.add_mul]; congr 1; omega
        have hmul2 : xs.length * C.k t ≤ cap * C.k t := Nat.mul_le_mul_right _ hcap
        have hfit : o + a * C.k t + vs.length ≤ cur.toList.length := by rw [hvl]; simp; omega
        have h1c : ∀ v ∈ vs, v.oneCell' = true := fun v hv => by
          obtain ⟨j, hj⟩ := List.getElem?_of_mem hv
          rw [(zeroCells_list z'.cells (xs.length - a) j).2] at hj
          split at hj
          · rename_i hjl
            simp only [Option.some.injEq] at hj
            have hlt : j % z'.cells.size < z'.cells.size := Nat.mod_lt _ (by rw [hzs, hik]; exact hkp)
            rw [← hj, getElem!_pos z'.cells _ hlt]
            exact z3 _ (by simp)
          · simp at hj
        have hst := run_storeCells_at (P := P) bk (o + a * C.k t) ee vs 0 cur w hb (by simpa using hfit) h1c
        simp only [Nat.add_zero] at hst
        let cur' := (cur.toList.take (o + a * C.k t) ++ vs ++ cur.toList.drop (o + a * C.k t + vs.length)).toArray
        have hkeeps : Keeps ok w (w.setRow bk cur') := (Kept.setRow (w := w) (g := bk)).keeps fun g hg => ⟨hs.okb g hg, fun e' => (hs.nok l bk hll hbl).1 (e' ▸ hg)⟩
        have hstep : Step ok μ w ok μ (w.setRow bk cur') := ⟨hkeeps, fun _ x => x, fun _ _ => rfl⟩
        refine ⟨_, w.setRow bk cur', hrun, ?_, hs.write hll hbl Kept.setRow ?_, hstep⟩
        · have hadd : (⟨bk, o, none⟩ : Addr).add (a * C.k t) = ⟨bk, o + a * C.k t, none⟩ := by unfold Addr.add; split <;> simp_all
          have hst' : (storeCells ⟨bk, o + a * C.k t, none⟩ (Builtin.zeroCells z'.cells (n + 1)).toList).run P w = .ok () (w.setRow bk cur') := by rw [← hn]; exact hst
          simp [Builtin.clear_, sliced, hne, hadd, hn, run_underlying hu, z1, hst']
        · rw [hμ]
          have hlen : (xs.take a ++ List.replicate (xs.length - a) y).length = xs.length := by simp; omega
          have hbr : BRep (w.setRow bk cur') ok μ (.row bk o (xs.take a ++ List.replicate (xs.length - a) y).length cap (C.k t)) (.arr t (xs.take a ++ List.replicate (xs.length - a) y)) := by
            refine .arr bk o cap t _ cur' ee (setRow_heap w bk cur cur' ee _ hb) (by rw [hlen]; exact hcap) ?_ fun m x hx j av hav => ?_
            · have := splice_size cur.toList vs (o + a * C.k t) hfit
              show o + cap * C.k t ≤ cur'.size
              rw [this]; simpa using hsz'
            · have hj : j < C.k t := by rw [← L.enc_len t x]; exact (List.getElem?_eq_some_iff.1 hav).1
              have hget : cur'[o + m * C.k t + j]? = if o + a * C.k t ≤ o + m * C.k t + j ∧ o + m * C.k t + j < o + a * C.k t + vs.length then vs[o + m * C.k t + j - (o + a * C.k t)]? else cur.toList[o + m * C.k t + j]? := splice_get cur.toList vs _ _ hfit
              by_cases hm : m < a
              · have hx' : xs[m]? = some x := by
                  rw [List.getElem?_append_left (by simp; omega), List.getElem?_take_of_lt hm] at hx
                  exact hx
                have hmm : (m + 1) * C.k t ≤ a * C.k t := Nat.mul_le_mul_right _ hm
                rw [Nat.add_mul, Nat.one_mul] at hmm
                obtain ⟨u, u1, u2, u3⟩ := hcell m x hx' j av hav
                refine ⟨u, ?_, u2, u3.step hstep⟩
                rw [hget, if_neg (by omega), Array.getElem?_toList]
                exact u1
              · have hlt := (List.getElem?_eq_some_iff.1 hx).1
                rw [hlen] at hlt
                have hxy : x = y := by
                  rw [List.getElem?_append_right (by simp; omega)] at hx
                  simp only [List.length_take] at hx
                  rw [List.getElem?_replicate] at hx
                  split at hx
                  · exact (Option.some.inj hx).symm
                  · simp at hx
                subst hxy
                have hmm : a * C.k t ≤ m * C.k t := Nat.mul_le_mul_right _ (by omega)
                have hmm2 : (m + 1) * C.k t ≤ xs.length * C.k t := Nat.mul_le_mul_right _ hlt
                rw [Nat.add_mul, Nat.one_mul] at hmm2
                have hidx : o + m * C.k t + j - (o + a * C.k t) = (m - a) * C.k t + j := by rw [Nat.sub_mul]; omega
                have hzc : z'.cells.size = C.k t := by rw [hzs, hik]
                have hmod : ((m - a) * C.k t + j) % C.k t = j := by rw [Nat.add_comm, Nat.add_mul_mod_self_right, Nat.mod_eq_of_lt hj]
                rw [hy', z2, List.getElem?_map] at hav
                obtain ⟨u, hu1, rfl⟩ := Option.map_eq_some_iff.1 hav
                rw [Array.getElem?_toList] at hu1
                refine ⟨u, ?_, z3 u (by rw [Array.mem_toList_iff]; exact Array.mem_of_getElem? hu1), .v u⟩
                rw [hget, if_pos (by rw [hvl]; omega), hidx, (zeroCells_list z'.cells (xs.length - a) _).2, hzc, hmod, if_pos (by rw [Nat.sub_mul]; rw [Nat.sub_mul]; omega)]
                rw [getElem!_def, hu1]
          rw [hlen] at hbr
          exact hbr

theorem clearA_sound [L : Lawful P] {os : List Oper} {ops : Array Oper} {st' : St} (hc : clearA P os st = some (true, st')) (hs : Sim B F cfs ok μ st tmps w) (ds : List Deferred) {Q : Exit → Act → World → Prop}
    (hK : ∀ t w', Sim B F cfs ok μ st' t w' → Q .normal ⟨t, ds⟩ w') : wpList P ops Q os ⟨tmps, ds⟩ w := by
  have ev : ∀ {x : Operand} {av : AV}, evalA st x = some av → VRep w ok μ av ((Act.mk tmps ds).eval x) := fun hx => evalA_rep hs.tm hx ds
  unfold clearA at hc
  split at hc
  · rename_i o o'
    split at hc
    · rename_i d T s x c hg hg' hd hd' hop hop'
      split at hc
      · rename_i d' T' hcal hargs htys
        cases hb : (Nat.beq d' d && Nat.beq T' T && Nat.blt d st.tm.length) <;> rw [hb] at hc
        · simp at hc
        · simp only [Bool.and_eq_true] at hb
          obtain ⟨⟨hb1, hb2⟩, hb3⟩ := hb
          have hb1 := Nat.eq_of_beq_eq_true hb1
          have hb2 := Nat.eq_of_beq_eq_true hb2
          subst hb1; subst hb2
          simp only [cond_true] at hc
          split at hc
          · rename_i l q i hsl hxi
            split at hc
            · rename_i t xs e hl hu
              split at hc
              · rename_i t' z htag hz
                cases hb4 : (same t t' && allA oneA z) <;> rw [hb4] at hc
                · simp at hc
                · simp only [Bool.and_eq_true, cond_true] at hb4 hc
                  obtain ⟨k1, k2⟩ := hb4
                  have k1 : t' = t := of_decide_eq_true k1
                  subst k1
                  split at hc
                  · rename_i y hy
                    simp only [Option.some.injEq, Prod.mk.injEq, Bool.and_eq_true, decide_eq_true_eq] at hc
                    obtain ⟨⟨k3, k4⟩, hc⟩ := hc
                    subst hc
                    obtain ⟨a, rfl⟩ : ∃ a : Nat, i = (a : Int) := ⟨i.toNat, (Int.toNat_of_nonneg k3).symm⟩
                    have hxv : (Act.mk tmps ds).eval x = .int q (a : Int) := (ev hxi).eqv
                    obtain ⟨v, w', r1, r2, r3, r4⟩ := clear_heap (a := a) hs.heap hl hu htag hz k2 hy (by omega) (ev hsl) (q := q)
                    have hlt : d' < tmps.size := by
                      have := Nat.blt_eq.mp hb3
                      rw [hs.tm.len] at this; exact this
                    refine wpList_step fun K hK1 => ?_
                    rw [if_pos (by simp [Region.wanted, hg])]
                    refine wp_value (v := v) (w' := w) (by simp only [execOp, hop, Option.map_some, Option.map_none, hxv, Sem.run_bind, Sem.run_pure, Result.andThen_ok, r1]) ?_
                    refine hK1 _ _ ?_
                    have hput : (Act.mk tmps ds).put o.dst v = ⟨tmps.setIfInBounds d' v, ds⟩ := by rw [hd]; rfl
                    rw [hput]
                    refine wpList_step fun K2 hK2 => ?_
                    rw [if_pos (by simp [Region.wanted, hg'])]
                    have heval : (Act.mk (tmps.setIfInBounds d' v) ds).eval (.tmp d') = v := by
                      simp [Act.eval, Array.getD_eq_getD_getElem?, Array.getElem?_setIfInBounds, hlt]
                    have ha : c.args = #[.tmp d'] := by
                      apply Array.ext'; simpa using hargs
                    have ht : c.argTypes = #[T'] := by
                      apply Array.ext'; simpa using htys
                    have hclr : (Builtin.clear_ #[T'] o'.type #[v]).run P w = .ok (.tuple #[]) w' := r2
                    refine wp_value (v := .tuple #[]) (w' := w') (by simp [execOp, hop', resolve, hcal, invoke, builtin, ha, ht, heval, hclr]) ?_
                    refine hK2 _ _ ?_
                    have hput2 : (Act.mk (tmps.setIfInBounds d' v) ds).put o'.dst (.tuple #[]) = ⟨tmps.setIfInBounds d' v, ds⟩ := by rw [hd']; rfl
                    rw [hput2]
                    refine wpList_nil (hK _ _ ⟨by simpa using r3, ⟨by rw [length_put', hs.tm.len]; simp, fun u av hu => ?_⟩, hs.fs.mono r4.keeps r4.ok r4.pl, ?_⟩)
                    · unfold get? at hu
                      rw [nth_put'] at hu
                      by_cases hdu : d' = u
                      · subst hdu
                        rw [if_pos ⟨rfl, by rw [hs.tm.len]; exact hlt⟩] at hu
                        simp at hu
                      · rw [if_neg (fun h => hdu h.1)] at hu
                        have := (hs.tm.rep u av hu).step r4
                        rw [Array.getD_eq_getD_getElem?, Array.getElem?_setIfInBounds, if_neg hdu, ← Array.getD_eq_getD_getElem?]
                        exact this
                    · refine ⟨hs.fresh.1, fun m hm hF => ?_⟩
                      have hx := hs.fresh.2 m hm hF
                      have hne : m ≠ l := fun e' => by subst e'; rw [hl] at hx; simp at hx
                      exact ⟨by simp only; rw [upd_ne _ _ hne]; exact hx.1, hx.2⟩
                  · simp at hc
              · simp at hc
            · simp at hc
          · simp at hc
      · simp at hc
    · simp at hc
  · simp at hc

end
end Go.Abs

/-
  Soundness of the abstract machine, twelfth part: regions in the text's order.
-/
namespace Go.Abs

section
variable [D : Dom] [C : Coding] {P : Program}
variable {B : Base} {w w' : World} {ok ok' : Nat → Prop} {μ μ' : Nat → Pl} {F : FS} {h : Hp} {cfs : List (Array Value)} {st : St} {tmps : Array Value}

omit D C in
theorem put_act (tmps : Array Value) (ds : List Deferred) (d : Option Tmp) (v : Value) : ∃ t, (Act.mk tmps ds).put d v = ⟨t, ds⟩ ∧ t.size = tmps.size := by
  cases d with
  | none => exact ⟨tmps, rfl, rfl⟩
  | some d => exact ⟨_, rfl, by simp⟩

theorem TRep.again (ht : TRep w ok μ st.tm tmps) {d : Nat} {x : Value} (hx : get? st.tm d = some (.v x)) : TRep w ok μ (put' st.tm d (some (.v x))) tmps := by
  refine ⟨by rw [length_put', ht.len], fun t a ha => ?_⟩
  unfold get? at ha
  rw [nth_put'] at ha
  by_cases e : d = t ∧ d < st.tm.length
  · rw [if_pos e] at ha
    simp at ha; subst ha
    rw [← e.1]
    exact ht.rep d _ hx
  · rw [if_neg e] at ha
    exact ht.rep t a ha

theorem Sim.again (hs : Sim B F cfs ok μ st tmps w) {d : Nat} {x : Value} (hx : get? st.tm d = some (.v x)) : Sim B F cfs ok μ (st.put (some d) (.v x)) tmps w :=
  ⟨hs.heap, hs.tm.again hx, hs.fs, hs.fresh⟩

theorem yieldA_sound (ht : TRep w ok μ st.tm tmps) {ops : Array Oper} {j d : Nat} {b : Option Bool} (h : yieldA ops.toList st j = some (d, b)) :
    yielded ops tmps j = b ∧ ∀ x, b = some x → get? st.tm d = some (.v (.bool x)) := by
  unfold yieldA at h
  split at h
  · rename_i o ho
    rw [nth_eq, Array.getElem?_toList] at ho
    split at h
    · rename_i d' hd
      have key : ∀ v, VRep w ok μ (.v v) (tmps.getD d' undef) → (∀ x, v = .bool x → tmps[d']? = some v) ∧ (tmps[d']? = some v ∨ tmps[d']? = none) := by
        intro v hv
        have e := hv.eqv
        rw [Array.getD_eq_getD_getElem?] at e
        cases hq : tmps[d']? with
        | none =>
          rw [hq] at e
          refine ⟨fun x hx => ?_, .inr rfl⟩
          subst hx; simp [undef] at e
        | some u => rw [hq] at e; simp at e; subst e; exact ⟨fun _ _ => rfl, .inl rfl⟩
      split at h
      · rename_i x hx
        simp at h
        obtain ⟨rfl, rfl⟩ := h
        have := (key _ (ht.rep d' _ hx)).1 x rfl
        refine ⟨by simp [yielded, ho, hd, this], fun y hy => by simp at hy; exact hy ▸ hx⟩
      · rename_i v hnb hx
        simp at h
        obtain ⟨rfl, rfl⟩ := h
        refine ⟨?_, fun y hy => by simp at hy⟩
        rcases (key v (ht.rep d' _ hx)).2 with e | e
        · simp only [yielded, ho, Option.bind_some, hd, e]
          cases v <;> first | rfl | exact (hnb _ rfl).elim
        · simp only [yielded, ho, Option.bind_some, hd, e]
      · simp at h
    · simp at h
  · simp at h

theorem stepA_sound {α : Type} [L : Lawful P] {call : Nat → List AV → St → (AV → St → Lg → Option α) → Option α} {r : α} (hcall : CallOK P F call r) {ops : Array Oper} {o : Oper} {K : St → Lg → Option α}
    (h : stepA P call ops.toList o st K = some r) (hs : Sim B F cfs ok μ st tmps w) (hF : ∀ st' lg, K st' lg = some r → ∀ l, st.nx ≤ l → l < st'.nx → F l) (ds : List Deferred)
    {next : Act → World → Prop} {Q : Exit → Act → World → Prop}
    (hK : ∀ st' lg ok' μ' t w', K st' lg = some r → Sim B F cfs ok' μ' st' t w' → next ⟨t, ds⟩ w') :
    if Region.wanted o (yielded ops tmps) then o.wp P ⟨tmps, ds⟩ w next Q else next ((Act.mk tmps ds).put o.dst undef) w := by
  -- the operation runs, from a state of the same temporaries
  have run : ∀ {st1 : St}, Sim B F cfs ok μ st1 tmps w → st1.nx = st.nx → valA P call o st1 (fun a st g => K (st.put o.dst a) g) = some r → o.wp P ⟨tmps, ds⟩ w next Q := by
    intro st1 hs1 hn hv
    refine valA_sound hcall hv hs1 (fun av st' lg hk l h1 h2 => hF _ _ hk l (by omega) (by cases o.dst <;> exact h2)) ds fun av st' lg ok' μ' v w' hk hr hs' => ?_
    have := hs'.put o.dst hr ds
    obtain ⟨t, e, _⟩ := put_act tmps ds o.dst v
    rw [e] at this ⊢
    exact hK _ _ _ _ _ _ hk this
  have skip : ∀ {st1 : St} {lg : Lg}, Sim B F cfs ok μ st1 tmps w → K (st1.put o.dst (.v undef)) lg = some r → next ((Act.mk tmps ds).put o.dst undef) w := by
    intro st1 lg hs1 hk
    have := hs1.put o.dst (.v undef) ds
    obtain ⟨t, e, _⟩ := put_act tmps ds o.dst undef
    rw [e] at this ⊢
    exact hK _ _ _ _ _ _ hk this
  unfold stepA at h
  split at h
  · rename_i hg
    rw [if_pos (by simp [Region.wanted, hg])]
    exact run hs rfl h
  · rename_i j want hg
    split at h
    · rename_i d hy
      obtain ⟨y1, _⟩ := yieldA_sound hs.tm hy
      rw [if_neg (by simp [Region.wanted, hg, y1])]
      exact skip hs h
    · rename_i d b hy
      obtain ⟨y1, y2⟩ := yieldA_sound hs.tm hy
      have hx := y2 b rfl
      cases want <;> cases b <;> simp only [cond_true, cond_false] at h
      · rw [if_pos (by simp [Region.wanted, hg, y1])]; exact run (hs.again hx) rfl h
      · rw [if_neg (by simp [Region.wanted, hg, y1])]; exact skip (hs.again hx) h
      · rw [if_neg (by simp [Region.wanted, hg, y1])]; exact skip (hs.again hx) h
      · rw [if_pos (by simp [Region.wanted, hg, y1])]; exact run (hs.again hx) rfl h
    · simp at h

theorem opsA_sound {α : Type} [L : Lawful P] {call : Nat → List AV → St → (AV → St → Lg → Option α) → Option α} {r : α} (hcall : CallOK P All call r) {ops : Array Oper} {K : St → Option α} (ds : List Deferred) {Q : Exit → Act → World → Prop} :
    ∀ (os : List Oper) (st : St) (ok : Nat → Prop) (μ : Nat → Pl) (tmps : Array Value) (w : World), opsA P call ops.toList os st K = some r → Sim B All cfs ok μ st tmps w →
    (∀ st' ok' μ' t w', K st' = some r → Sim B All cfs ok' μ' st' t w' → Q .normal ⟨t, ds⟩ w') → wpList P ops Q os ⟨tmps, ds⟩ w
  | [], st, ok, μ, tmps, w, h, hs, hK => hK _ _ _ _ _ h hs
  | o :: os, st, ok, μ, tmps, w, h, hs, hK => by
    simp only [opsA] at h
    split at h
    · rename_i c st' hc
      cases c
      · simp at h
      · exact clearA_sound hc hs ds fun t w' hs' => hK _ _ _ _ _ h hs'
    · refine wpList_step fun K' hK' => ?_
      refine stepA_sound hcall (next := K') h hs (fun _ _ _ _ _ _ => trivial) ds fun st' lg ok' μ' t w' hk hs' => ?_
      exact hK' _ _ (opsA_sound hcall ds os st' ok' μ' t w' hk hs' hK)

end
end Go.Abs
